import Derived.Test.YtpdemjoehkgohaaProg
import Derived.Test.YtpdemjoehkgohaaSpCopy
import Derived.Test.YtpdemjoehkgohaaFK5
import Derived.Test.YtpdemjoehkgohaaSpSort
import Derived.Test.YtpdemjoehkgohaaShelf
import Derived.Test.YtpdemjoehkgohaaSpMapR
import Derived.Test.YtpdemjoehkgohaaSpKeys
import Derived.Test.YtpdemjoehkgohaaKK5n0
import Derived.Test.YtpdemjoehkgohaaKK5n1
import Derived.Test.YtpdemjoehkgohaaKK5n2
import Derived.Test.YtpdemjoehkgohaaKK5n3
namespace Go.Sp.K5
open Go Go.Sp Go.Proofs
set_option linter.unusedVariables false
attribute [local irreducible] wpList AnyL Code.wp Calls Does
set_option maxRecDepth 100000 in
set_option maxHeartbeats 4000000 in
theorem catalog_state_apply.calls (k : Nat) (A1 : Option Addr) (c2 : Nat) (s3 : Seg) (A8 : Option Addr) (c9 : Nat) (s5 : List (Int × S_Row)) (l7 : List S_Change) {t w : World} {f : FM} {H : List Seg} (HS : St t w f (s3 :: H)) (HO4 : OwnM (mty ty_Row) 100085 f A1 c2 s3 s5) (HR10 : SlR ty_Change f A8 c9 l7) (rr1 : Int) (rr2 : List (Int × S_Row)) (h : catalog_state_apply k s5 l7 = some (rr1, rr2)) :
    Calls Try.prog 31 #[.map (mb A1), .slice A8 l7.length c9] w (fun e w' => ∃ (g : FM) (s373 : Seg), e = .returned (Value.int .i64 rr1) ∧ FM.le f g ∧ St t w' g (s373 :: H) ∧ OwnM (mty ty_Row) 100085 g A1 c2 s373 rr2 ∧ True) := by
 unfold catalog_state_apply at h
 refine enter Try.func31 rfl (tm := #[.map (mb A1), .slice A8 l7.length c9, uV, uV, uV, uV, uV, uV, uV, uV, uV, uV, uV, uV, uV, uV, uV, uV, uV, uV, uV, uV, uV, uV, uV, uV, uV, uV, uV, uV, uV, uV, uV, uV, uV, uV, uV, uV, uV, uV, uV, uV, uV, uV, uV, uV, uV, uV, uV, uV, uV, uV, uV, uV, uV, uV, uV, uV, uV, uV, uV, uV, uV, uV, uV, uV, uV, uV, uV, uV, uV, uV, uV, uV, uV, uV, uV, uV, uV, uV, uV, uV, uV, uV, uV, uV, uV, uV, uV, uV]) (by kernel_rfl) ?_
 intro B hret hnor hnp
 refine wp_seq_k (fun K11 hK12 => ?_)
 refine wp_region_lit ?_
 refine seqL1 (by kernel_rfl) ?_
 refine wpList_nil ?_
 refine hK12 _ _ ?_
 refine wp_seq_k (fun K13 hK14 => ?_)
 refine wp_seq_k (fun K15 hK16 => ?_)
 refine wp_region_lit ?_
 refine seqL3 (by kernel_rfl) ?_
 refine wpList_nil ?_
 refine hK16 _ _ ?_
 have hq_ := ite_some h; clear h; rcases hq_ with ⟨c18, h⟩ | ⟨c18, h⟩
 · have c18 : (l7.length : Int) > 200 := c18
   refine wpRwI 15 (x := (decide ((l7.length : Int) > 200))) (v := true) (by kernel_rfl) (decide_eq_true c18) ?_
   refine condT (by kernel_rfl) ?_
   refine wp_seq_k (fun K19 hK20 => ?_)
   refine wp_region_lit ?_
   refine seqL1 (by kernel_rfl) ?_
   refine wpList_nil ?_
   refine hK20 _ _ ?_
   refine wp_ret ?_
   refine hret _ _ ?_
   refine ends_still (v := Value.int .i64 2) (by kernel_rfl) (by kernel_rfl) ?_
   injection h with h
   injection h with h0_ h
   subst h0_ h
   exact ⟨f, s3, rfl, FM.le.refl _, HS, HO4, trivial⟩
 · have c18 : ¬ ((l7.length : Int) > 200) := c18
   refine wpRwI 15 (x := (decide ((l7.length : Int) > 200))) (v := false) (by kernel_rfl) (decide_eq_false c18) ?_
   refine condF (by kernel_rfl) ?_
   refine wp_skip ?_
   refine hK14 _ _ ?_
   refine wp_seq_k (fun K21 hK22 => ?_)
   refine wp_seq_k (fun K23 hK24 => ?_)
   refine wp_region_lit ?_
   refine seqL3 (by kernel_rfl) ?_
   refine wpList_nil ?_
   refine hK24 _ _ ?_
   refine blockK (fun B25 hx26 hn27 hr28 ho29 hp30 => ?_)
   have hq_ := bind_some h; clear h; obtain ⟨o31, hv168, h⟩ := hq_
   have JR170 : ∀ z_, some (Sum.inl z_) = some o31 → some z_ = some (rr1, rr2) := by
    intro z_ e_; injection e_ with e_; subst e_; exact h
   have J169 : ∀ (f163 : FM) (j167 : Nat → Value) (W165 : World) (a_ : Act), FM.le f f163 → some (Sum.inr ()) = some o31 → St t W165 f163 (s3 :: H) → a_ = ⟨#[.map (mb A1), .slice A8 l7.length c9, uV, uV, (j167 0), (j167 1), (j167 2), (j167 3), (j167 4), (j167 5), (j167 6), uV, uV, .slice A8 l7.length c9, iV (l7.length : Int), fV, .slice A8 l7.length c9, iV (l7.length : Int), (j167 7), (j167 8), (j167 9), (j167 10), (j167 11), (j167 12), (j167 13), (j167 14), (j167 15), (j167 16), (j167 17), (j167 18), (j167 19), (j167 20), (j167 21), (j167 22), (j167 23), (j167 24), (j167 25), (j167 26), (j167 27), (j167 28), (j167 29), (j167 30), (j167 31), (j167 32), (j167 33), (j167 34), (j167 35), (j167 36), (j167 37), (j167 38), (j167 39), (j167 40), (j167 41), (j167 42), (j167 43), (j167 44), (j167 45), (j167 46), (j167 47), (j167 48), (j167 49), (j167 50), (j167 51), (j167 52), (j167 53), (j167 54), (j167 55), uV, uV, uV, uV, uV, uV, uV, uV, uV, uV, uV, uV, uV, uV, uV, uV, uV, uV, uV, uV, uV, uV, uV], []⟩ → K21 a_ W165 := by
    intro f163 j167 W165 a_ L164 hj171 HS166  hfr_; subst hfr_
    injection hj171 with hj171; subst hj171; try dsimp only at h
    simp only [Sum.elim_inr] at h
    refine hK22 _ _ ?_
    refine wp_seq_k (fun K202 hK203 => ?_)
    refine wp_seq_k (fun K204 hK205 => ?_)
    refine wp_region_lit ?_
    refine seqL3 (by kernel_rfl) ?_
    refine wpList_nil ?_
    refine hK205 _ _ ?_
    refine blockK (fun B206 hx207 hn208 hr209 ho210 hp211 => ?_)
    have hq_ := bind_some h; clear h; obtain ⟨o271, hv341, h⟩ := hq_
    have J342 : ∀ (f333 : FM) (s339 : Seg) (s338 : List (Int × S_Row)) (j337 : Nat → Value) (W335 : World) (a_ : Act), FM.le f163 f333 → some (s338) = some o271 → St t W335 f333 (s339 :: H) → OwnM (mty ty_Row) 100085 f333 A1 c2 s339 s338 → a_ = ⟨#[.map (mb A1), .slice A8 l7.length c9, uV, uV, (j167 0), (j167 1), (j167 2), (j167 3), (j167 4), (j167 5), (j167 6), uV, (j337 0), .slice A8 l7.length c9, iV (l7.length : Int), fV, .slice A8 l7.length c9, iV (l7.length : Int), (j167 7), (j167 8), (j167 9), (j167 10), (j167 11), (j167 12), (j167 13), (j167 14), (j167 15), (j167 16), (j167 17), (j167 18), (j167 19), (j167 20), (j167 21), (j167 22), (j167 23), (j167 24), (j167 25), (j167 26), (j167 27), (j167 28), (j167 29), (j167 30), (j167 31), (j167 32), (j167 33), (j167 34), (j167 35), (j167 36), (j167 37), (j167 38), (j167 39), (j167 40), (j167 41), (j167 42), (j167 43), (j167 44), (j167 45), (j167 46), (j167 47), (j167 48), (j167 49), (j167 50), (j167 51), (j167 52), (j167 53), (j167 54), (j167 55), .slice A8 l7.length c9, iV (l7.length : Int), (j337 1), (j337 2), (j337 3), (j337 4), (j337 5), (j337 6), (j337 7), (j337 8), (j337 9), (j337 10), (j337 11), (j337 12), (j337 13), (j337 14), (j337 15), (j337 16), (j337 17), (j337 18), uV, uV, uV], []⟩ → K202 a_ W335 := by
     intro f333 s339 s338 j337 W335 a_ L334 hj343 HS336 HO340 hfr_; subst hfr_
     injection hj343 with hj343; subst hj343; try dsimp only at h
     refine hK203 _ _ ?_
     refine wp_seq_k (fun K348 hK349 => ?_)
     refine wp_seq_k (fun K350 hK351 => ?_)
     refine wp_region_lit ?_
     refine seqL1 (by kernel_rfl) ?_
     refine seqK rfl (does_run (run_maplen HO340 rfl Try.underlying85 (by kernel_rfl : _ = Value.map (mb A1)) HS336) ?_)
     refine seqL1 (by kernel_rfl) ?_
     refine wpList_nil ?_
     refine hK351 _ _ ?_
     have hq_ := ite_some h; clear h; rcases hq_ with ⟨c353, h⟩ | ⟨c353, h⟩
     · have c353 : (s338.length : Int) > 200 := c353
       refine wpRwI 89 (x := (decide ((s338.length : Int) > 200))) (v := true) (by kernel_rfl) (decide_eq_true c353) ?_
       refine condT (by kernel_rfl) ?_
       refine wp_seq_k (fun K354 hK355 => ?_)
       refine wp_region_lit ?_
       refine seqL1 (by kernel_rfl) ?_
       refine wpList_nil ?_
       refine hK355 _ _ ?_
       refine wp_ret ?_
       refine hret _ _ ?_
       refine ends_still (v := Value.int .i64 9) (by kernel_rfl) (by kernel_rfl) ?_
       injection h with h
       injection h with h0_ h
       subst h0_ h
       exact ⟨f333, s339, rfl, (L164.trans L334), HS336, HO340, trivial⟩
     · have c353 : ¬ ((s338.length : Int) > 200) := c353
       refine wpRwI 89 (x := (decide ((s338.length : Int) > 200))) (v := false) (by kernel_rfl) (decide_eq_false c353) ?_
       refine condF (by kernel_rfl) ?_
       refine wp_skip ?_
       refine hK349 _ _ ?_
       refine wp_seq_k (fun K356 hK357 => ?_)
       refine wp_region_lit ?_
       refine seqL1 (by kernel_rfl) ?_
       refine wpList_nil ?_
       refine hK357 _ _ ?_
       refine wp_ret ?_
       refine hret _ _ ?_
       refine ends_still (v := Value.int .i64 0) (by kernel_rfl) (by kernel_rfl) ?_
       injection h with h
       injection h with h0_ h
       subst h0_ h
       exact ⟨f333, s339, rfl, (L164.trans L334), HS336, HO340, trivial⟩
    clear h; have h := hv341; clear hv341
    refine loopK (fun n_ a_ w_ => ∃ (f275 : FM) (s281 : Seg) (s280 : List (Int × S_Row)) (x283 : Int) (j279 : Nat → Value), FM.le f163 f275 ∧ St t w_ f275 (s281 :: H) ∧ OwnM (mty ty_Row) 100085 f275 A1 c2 s281 s280 ∧ catalog_state_apply.l1 k l7 n_ s280 x283 = some o271 ∧ a_ = ⟨#[.map (mb A1), .slice A8 l7.length c9, uV, uV, (j167 0), (j167 1), (j167 2), (j167 3), (j167 4), (j167 5), (j167 6), uV, (j279 0), .slice A8 l7.length c9, iV (l7.length : Int), fV, .slice A8 l7.length c9, iV (l7.length : Int), (j167 7), (j167 8), (j167 9), (j167 10), (j167 11), (j167 12), (j167 13), (j167 14), (j167 15), (j167 16), (j167 17), (j167 18), (j167 19), (j167 20), (j167 21), (j167 22), (j167 23), (j167 24), (j167 25), (j167 26), (j167 27), (j167 28), (j167 29), (j167 30), (j167 31), (j167 32), (j167 33), (j167 34), (j167 35), (j167 36), (j167 37), (j167 38), (j167 39), (j167 40), (j167 41), (j167 42), (j167 43), (j167 44), (j167 45), (j167 46), (j167 47), (j167 48), (j167 49), (j167 50), (j167 51), (j167 52), (j167 53), (j167 54), (j167 55), .slice A8 l7.length c9, iV (l7.length : Int), iV x283, (j279 1), (j279 2), (j279 3), (j279 4), (j279 5), (j279 6), (j279 7), (j279 8), (j279 9), (j279 10), (j279 11), (j279 12), (j279 13), (j279 14), (j279 15), (j279 16), (j279 17), uV, uV, uV], []⟩) k ⟨f163, s3, s5, 0, (fun i_ => [undef, undef, undef, undef, undef, undef, undef, undef, undef, undef, undef, undef, undef, undef, undef, undef, undef, undef].getD i_ undef), (FM.le.refl _), HS166, (HO4.mono L164), h, (by kernel_rfl)⟩ ?_
    clear h
    rintro n274 _ W277 ⟨f275, s281, s280, x283, j279, L276, HS278, HO282, h, rfl⟩ K272 hK273
    obtain _ | n274 := n274
    · exact nomatch h
    simp only [catalog_state_apply.l1] at h
    refine wp_seq_k (fun K284 hK285 => ?_)
    refine wp_region_lit ?_
    refine seqL1 (by kernel_rfl) ?_
    refine wpList_nil ?_
    refine hK285 _ _ ?_
    refine wp_seq_k (fun K286 hK287 => ?_)
    have hq_ := ite_some h; clear h; rcases hq_ with ⟨c289, h⟩ | ⟨c289, h⟩
    · have c289 : x283 < (l7.length : Int) := c289
      refine wpRwI 70 (x := (decide (x283 < (l7.length : Int)))) (v := true) (by kernel_rfl) (decide_eq_true c289) ?_
      refine condT (by kernel_rfl) ?_
      refine wp_skip ?_
      refine hK287 _ _ ?_
      refine wp_seq_k (fun K290 hK291 => ?_)
      refine blockK (fun B292 hx293 hn294 hr295 ho296 hp297 => ?_)
      refine wp_seq_k (fun K299 hK300 => ?_)
      refine wp_region_lit ?_
      have hq_ := guard_some h; clear h; obtain ⟨c301, h⟩ := hq_
      have c301 : 0 ≤ x283 := c301
      obtain ⟨b305, of306, cs302, hA307, hr303, hc304⟩ := (HR10.mono (L164.trans L276)).at (i := x283) c301 c289
      obtain ⟨A308, c308, rfl, HR308⟩ := hr303
      refine seqK rfl (does_run (run_indexE hA307 (sz := 19) rfl Try.underlying28 (by kernel_rfl) (by kernel_rfl : _ = Value.slice A8 l7.length c9) (by kernel_rfl : _ = Value.int .i64 x283) c301 c289 W277) ?_)
      refine seqK rfl (does_run (run_loadN (n := 19) rfl Try.underlying71 rfl (by kernel_rfl) (by kernel_rfl : _ = Value.pointer (some ⟨b305, of306 + (x283 : Int).toNat * 19, none⟩)) (cs := [.int .i64 ((rd l7 x283).Kind), .int .i64 (((rd l7 x283).Row).ID), .int .i64 (((((rd l7 x283).Row).Box).X).Lo), .int .i64 (((((rd l7 x283).Row).Box).X).Hi), .bool (((((rd l7 x283).Row).Box).X).Unknown), .int .i64 (((((rd l7 x283).Row).Box).Y).Lo), .int .i64 (((((rd l7 x283).Row).Box).Y).Hi), .bool (((((rd l7 x283).Row).Box).Y).Unknown), .int .i64 (((((rd l7 x283).Row).Box).Z).Lo), .int .i64 (((((rd l7 x283).Row).Box).Z).Hi), .bool (((((rd l7 x283).Row).Box).Z).Unknown), .int .i64 ((((rd l7 x283).Row).Flux).Lo), .int .i64 ((((rd l7 x283).Row).Flux).Hi), .bool ((((rd l7 x283).Row).Flux).Unknown), .int .i64 ((((rd l7 x283).Row).When).Lo), .int .i64 ((((rd l7 x283).Row).When).Hi), .bool ((((rd l7 x283).Row).When).Unknown), .slice A308 (((rd l7 x283).Row).Frames).length c308, .int .i64 (((rd l7 x283).Row).Marks)]) rfl (fun j_ hj_ => ((hc304 (FM.le.refl _) HS278) j_ hj_))) ?_)
      refine seqK rfl (does_alloc (z := Value.agg #[.int .i64 0, .int .i64 0, .int .i64 0, .int .i64 0, .bool false, .int .i64 0, .int .i64 0, .bool false, .int .i64 0, .int .i64 0, .bool false, .int .i64 0, .int .i64 0, .bool false, .int .i64 0, .int .i64 0, .bool false, .slice none 0 0, .int .i64 0]) (cs := #[.int .i64 0, .int .i64 0, .int .i64 0, .int .i64 0, .bool false, .int .i64 0, .int .i64 0, .bool false, .int .i64 0, .int .i64 0, .bool false, .int .i64 0, .int .i64 0, .bool false, .int .i64 0, .int .i64 0, .bool false, .slice none 0 0, .int .i64 0]) rfl (by kernel_rfl) rfl HS278 ?_)
      intro b309 W310 HS311
      refine seqK rfl (does_store (n := 19) (vs := [.int .i64 ((rd l7 x283).Kind), .int .i64 (((rd l7 x283).Row).ID), .int .i64 (((((rd l7 x283).Row).Box).X).Lo), .int .i64 (((((rd l7 x283).Row).Box).X).Hi), .bool (((((rd l7 x283).Row).Box).X).Unknown), .int .i64 (((((rd l7 x283).Row).Box).Y).Lo), .int .i64 (((((rd l7 x283).Row).Box).Y).Hi), .bool (((((rd l7 x283).Row).Box).Y).Unknown), .int .i64 (((((rd l7 x283).Row).Box).Z).Lo), .int .i64 (((((rd l7 x283).Row).Box).Z).Hi), .bool (((((rd l7 x283).Row).Box).Z).Unknown), .int .i64 ((((rd l7 x283).Row).Flux).Lo), .int .i64 ((((rd l7 x283).Row).Flux).Hi), .bool ((((rd l7 x283).Row).Flux).Unknown), .int .i64 ((((rd l7 x283).Row).When).Lo), .int .i64 ((((rd l7 x283).Row).When).Hi), .bool ((((rd l7 x283).Row).When).Unknown), .slice A308 (((rd l7 x283).Row).Frames).length c308, .int .i64 (((rd l7 x283).Row).Marks)]) (cs' := #[.int .i64 ((rd l7 x283).Kind), .int .i64 (((rd l7 x283).Row).ID), .int .i64 (((((rd l7 x283).Row).Box).X).Lo), .int .i64 (((((rd l7 x283).Row).Box).X).Hi), .bool (((((rd l7 x283).Row).Box).X).Unknown), .int .i64 (((((rd l7 x283).Row).Box).Y).Lo), .int .i64 (((((rd l7 x283).Row).Box).Y).Hi), .bool (((((rd l7 x283).Row).Box).Y).Unknown), .int .i64 (((((rd l7 x283).Row).Box).Z).Lo), .int .i64 (((((rd l7 x283).Row).Box).Z).Hi), .bool (((((rd l7 x283).Row).Box).Z).Unknown), .int .i64 ((((rd l7 x283).Row).Flux).Lo), .int .i64 ((((rd l7 x283).Row).Flux).Hi), .bool ((((rd l7 x283).Row).Flux).Unknown), .int .i64 ((((rd l7 x283).Row).When).Lo), .int .i64 ((((rd l7 x283).Row).When).Hi), .bool ((((rd l7 x283).Row).When).Unknown), .slice A308 (((rd l7 x283).Row).Frames).length c308, .int .i64 (((rd l7 x283).Row).Marks)]) rfl (by kernel_rfl) (by kernel_rfl : _ = Value.pointer (some ⟨b309, 0, none⟩)) (by kernel_rfl : _ = Value.agg #[.int .i64 ((rd l7 x283).Kind), .int .i64 (((rd l7 x283).Row).ID), .int .i64 (((((rd l7 x283).Row).Box).X).Lo), .int .i64 (((((rd l7 x283).Row).Box).X).Hi), .bool (((((rd l7 x283).Row).Box).X).Unknown), .int .i64 (((((rd l7 x283).Row).Box).Y).Lo), .int .i64 (((((rd l7 x283).Row).Box).Y).Hi), .bool (((((rd l7 x283).Row).Box).Y).Unknown), .int .i64 (((((rd l7 x283).Row).Box).Z).Lo), .int .i64 (((((rd l7 x283).Row).Box).Z).Hi), .bool (((((rd l7 x283).Row).Box).Z).Unknown), .int .i64 ((((rd l7 x283).Row).Flux).Lo), .int .i64 ((((rd l7 x283).Row).Flux).Hi), .bool ((((rd l7 x283).Row).Flux).Unknown), .int .i64 ((((rd l7 x283).Row).When).Lo), .int .i64 ((((rd l7 x283).Row).When).Hi), .bool ((((rd l7 x283).Row).When).Unknown), .slice A308 (((rd l7 x283).Row).Frames).length c308, .int .i64 (((rd l7 x283).Row).Marks)]) rfl rfl (by intro u_ hu_; simp only [List.mem_cons, List.not_mem_nil, or_false] at hu_; rcases hu_ with rfl | rfl | rfl | rfl | rfl | rfl | rfl | rfl | rfl | rfl | rfl | rfl | rfl | rfl | rfl | rfl | rfl | rfl | rfl <;> rfl) HS311 (Nat.le_of_ble_eq_true rfl) (by kernel_rfl) ?_)
      intro W313 HS314
      refine wpList_nil ?_
      refine hK300 _ _ ?_
      refine wp_seq_k (fun K315 hK316 => ?_)
      refine wp_seq_k (fun K317 hK318 => ?_)
      refine wp_region_lit ?_
      refine seqL1 (by kernel_rfl) ?_
      refine seqK rfl (does_run (run_load rfl Try.underlying3 rfl (by kernel_rfl : _ = Value.pointer (some ⟨b309, 0, none⟩)) (HS314.cell 0)) ?_)
      refine seqL1 (by kernel_rfl) ?_
      refine wpList_nil ?_
      refine hK318 _ _ ?_
      have hq_ := ite_some h; clear h; rcases hq_ with ⟨c320, h⟩ | ⟨c320, h⟩
      · have c320 : ((rd l7 x283).Kind) = 3 := c320
        refine wpRwI 75 (x := (((rd l7 x283).Kind) == 3)) (v := true) (by kernel_rfl) (beq_iff_eq.mpr c320) ?_
        refine condT (by kernel_rfl) ?_
        refine wp_seq_k (fun K321 hK322 => ?_)
        refine wp_region_lit ?_
        refine seqL3 (by kernel_rfl) ?_
        refine seqK rfl (does_run (run_load rfl Try.underlying3 rfl (by kernel_rfl : _ = Value.pointer (some ⟨b309, 1, none⟩)) (HS314.cell 1)) ?_)
        have HS323 := HS314.u1
        refine seqK rfl (does_deleteR (k := (((rd l7 x283).Row).ID)) rfl Try.underlying85 Try.underlying3 (by kernel_rfl : _ = Value.map (mb A1)) (by kernel_rfl : _ = Value.int .i64 (((rd l7 x283).Row).ID)) HO282 HS323 ?_)
        intro W324 s325 HS326 HO327
        refine wpList_nil ?_
        refine hK322 _ _ ?_
        refine wp_exit ?_
        refine hx293 _ _ ?_
        refine hK291 _ _ ?_
        refine wp_region_lit ?_
        refine seqL2 (by kernel_rfl) ?_
        refine wpList_nil ?_
        refine hK273 n274 _ _ (Nat.lt_succ_self _) ?_
        have HS344 := HS326.u1
        have HS345 := HS344.drop
        exact ⟨f275, s325, (merase s280 (((rd l7 x283).Row).ID)), (w64 (x283 + 1)), (fun i_ => [Value.pointer (some ⟨b309, 0, none⟩), Value.bool true, Value.pointer (some ⟨b305, of306 + (x283 : Int).toNat * 19, none⟩), (ag_Change (rd l7 x283) A308 c308), Value.pointer (some ⟨b309, 0, none⟩), Value.int .i64 ((rd l7 x283).Kind), Value.bool true, Value.map (mb A1), Value.pointer (some ⟨b309, 1, none⟩), Value.pointer (some ⟨b309, 1, none⟩), Value.int .i64 (((rd l7 x283).Row).ID), (j279 11), (j279 12), (j279 13), (j279 14), (j279 15), (j279 16), Value.int .i64 (w64 (x283 + 1))].getD i_ undef), L276, HS345, HO327, h, (by kernel_rfl)⟩
      · have c320 : ¬ (((rd l7 x283).Kind) = 3) := c320
        refine wpRwI 75 (x := (((rd l7 x283).Kind) == 3)) (v := false) (by kernel_rfl) (beq_eq_false_iff_ne.mpr c320) ?_
        refine condF (by kernel_rfl) ?_
        refine wp_skip ?_
        refine hK316 _ _ ?_
        refine wp_region_lit ?_
        refine seqL3 (by kernel_rfl) ?_
        refine seqK rfl (does_run (run_load rfl Try.underlying3 rfl (by kernel_rfl : _ = Value.pointer (some ⟨b309, 1, none⟩)) (HS314.cell 1)) ?_)
        refine seqL1 (by kernel_rfl) ?_
        refine seqK rfl (does_run (run_loadN (n := 18) rfl Try.underlying65 rfl (by kernel_rfl) (by kernel_rfl : _ = Value.pointer (some ⟨b309, 1, none⟩)) (cs := [.int .i64 (((rd l7 x283).Row).ID), .int .i64 (((((rd l7 x283).Row).Box).X).Lo), .int .i64 (((((rd l7 x283).Row).Box).X).Hi), .bool (((((rd l7 x283).Row).Box).X).Unknown), .int .i64 (((((rd l7 x283).Row).Box).Y).Lo), .int .i64 (((((rd l7 x283).Row).Box).Y).Hi), .bool (((((rd l7 x283).Row).Box).Y).Unknown), .int .i64 (((((rd l7 x283).Row).Box).Z).Lo), .int .i64 (((((rd l7 x283).Row).Box).Z).Hi), .bool (((((rd l7 x283).Row).Box).Z).Unknown), .int .i64 ((((rd l7 x283).Row).Flux).Lo), .int .i64 ((((rd l7 x283).Row).Flux).Hi), .bool ((((rd l7 x283).Row).Flux).Unknown), .int .i64 ((((rd l7 x283).Row).When).Lo), .int .i64 ((((rd l7 x283).Row).When).Hi), .bool ((((rd l7 x283).Row).When).Unknown), .slice A308 (((rd l7 x283).Row).Frames).length c308, .int .i64 (((rd l7 x283).Row).Marks)]) rfl (HS314.cells 1 18 _ rfl)) ?_)
        have HS328 := HS314.u1
        refine seqK rfl (does_mapUpdateR (e := ty_Row) (k := (((rd l7 x283).Row).ID)) (v := ((rd l7 x283).Row)) (cs := [.int .i64 (((rd l7 x283).Row).ID), .int .i64 (((((rd l7 x283).Row).Box).X).Lo), .int .i64 (((((rd l7 x283).Row).Box).X).Hi), .bool (((((rd l7 x283).Row).Box).X).Unknown), .int .i64 (((((rd l7 x283).Row).Box).Y).Lo), .int .i64 (((((rd l7 x283).Row).Box).Y).Hi), .bool (((((rd l7 x283).Row).Box).Y).Unknown), .int .i64 (((((rd l7 x283).Row).Box).Z).Lo), .int .i64 (((((rd l7 x283).Row).Box).Z).Hi), .bool (((((rd l7 x283).Row).Box).Z).Unknown), .int .i64 ((((rd l7 x283).Row).Flux).Lo), .int .i64 ((((rd l7 x283).Row).Flux).Hi), .bool ((((rd l7 x283).Row).Flux).Unknown), .int .i64 ((((rd l7 x283).Row).When).Lo), .int .i64 ((((rd l7 x283).Row).When).Hi), .bool ((((rd l7 x283).Row).When).Unknown), .slice A308 (((rd l7 x283).Row).Frames).length c308, .int .i64 (((rd l7 x283).Row).Marks)]) rfl Try.underlying85 Try.underlying3 (by kernel_rfl : _ = Value.map (mb A1)) (by kernel_rfl : _ = Value.int .i64 (((rd l7 x283).Row).ID)) (by kernel_rfl : _ = Value.agg #[.int .i64 (((rd l7 x283).Row).ID), .int .i64 (((((rd l7 x283).Row).Box).X).Lo), .int .i64 (((((rd l7 x283).Row).Box).X).Hi), .bool (((((rd l7 x283).Row).Box).X).Unknown), .int .i64 (((((rd l7 x283).Row).Box).Y).Lo), .int .i64 (((((rd l7 x283).Row).Box).Y).Hi), .bool (((((rd l7 x283).Row).Box).Y).Unknown), .int .i64 (((((rd l7 x283).Row).Box).Z).Lo), .int .i64 (((((rd l7 x283).Row).Box).Z).Hi), .bool (((((rd l7 x283).Row).Box).Z).Unknown), .int .i64 ((((rd l7 x283).Row).Flux).Lo), .int .i64 ((((rd l7 x283).Row).Flux).Hi), .bool ((((rd l7 x283).Row).Flux).Unknown), .int .i64 ((((rd l7 x283).Row).When).Lo), .int .i64 ((((rd l7 x283).Row).When).Hi), .bool ((((rd l7 x283).Row).When).Unknown), .slice A308 (((rd l7 x283).Row).Frames).length c308, .int .i64 (((rd l7 x283).Row).Marks)]) ⟨A308, c308, rfl, HR308⟩ HO282 HS328 ?_)
        intro W329 s330 HS331 HO332
        refine wpList_nil ?_
        refine hn294 _ _ ?_
        refine hK291 _ _ ?_
        refine wp_region_lit ?_
        refine seqL2 (by kernel_rfl) ?_
        refine wpList_nil ?_
        refine hK273 n274 _ _ (Nat.lt_succ_self _) ?_
        have HS346 := HS331.u1
        have HS347 := HS346.drop
        exact ⟨f275, s330, (mput s280 (((rd l7 x283).Row).ID) ((rd l7 x283).Row)), (w64 (x283 + 1)), (fun i_ => [Value.pointer (some ⟨b309, 0, none⟩), Value.bool true, Value.pointer (some ⟨b305, of306 + (x283 : Int).toNat * 19, none⟩), (ag_Change (rd l7 x283) A308 c308), Value.pointer (some ⟨b309, 0, none⟩), Value.int .i64 ((rd l7 x283).Kind), Value.bool false, (j279 7), (j279 8), (j279 9), (j279 10), Value.map (mb A1), Value.pointer (some ⟨b309, 1, none⟩), Value.pointer (some ⟨b309, 1, none⟩), Value.int .i64 (((rd l7 x283).Row).ID), Value.pointer (some ⟨b309, 1, none⟩), (ag_Row ((rd l7 x283).Row) A308 c308), Value.int .i64 (w64 (x283 + 1))].getD i_ undef), L276, HS347, HO332, h, (by kernel_rfl)⟩
    · have c289 : ¬ (x283 < (l7.length : Int)) := c289
      refine wpRwI 70 (x := (decide (x283 < (l7.length : Int)))) (v := false) (by kernel_rfl) (decide_eq_false c289) ?_
      refine condF (by kernel_rfl) ?_
      refine wp_exit ?_
      refine hx207 _ _ ?_
      exact J342 f275 s281 s280 (fun i_ => [(j279 0), Value.int .i64 x283, Value.bool false, (j279 2), (j279 3), (j279 4), (j279 5), (j279 6), (j279 7), (j279 8), (j279 9), (j279 10), (j279 11), (j279 12), (j279 13), (j279 14), (j279 15), (j279 16), (j279 17)].getD i_ undef) W277 _ L276 h HS278 HO282 (by kernel_rfl)
   clear h; have h := hv168; clear hv168
   refine loopK (fun n_ a_ w_ => ∃ (f35 : FM) (x40 : Int) (j39 : Nat → Value), FM.le f f35 ∧ St t w_ f35 (s3 :: H) ∧ catalog_state_apply.l0 k l7 s5 n_ x40 = some o31 ∧ a_ = ⟨#[.map (mb A1), .slice A8 l7.length c9, uV, uV, (j39 0), (j39 1), (j39 2), (j39 3), (j39 4), (j39 5), (j39 6), uV, uV, .slice A8 l7.length c9, iV (l7.length : Int), fV, .slice A8 l7.length c9, iV (l7.length : Int), iV x40, (j39 7), (j39 8), (j39 9), (j39 10), (j39 11), (j39 12), (j39 13), (j39 14), (j39 15), (j39 16), (j39 17), (j39 18), (j39 19), (j39 20), (j39 21), (j39 22), (j39 23), (j39 24), (j39 25), (j39 26), (j39 27), (j39 28), (j39 29), (j39 30), (j39 31), (j39 32), (j39 33), (j39 34), (j39 35), (j39 36), (j39 37), (j39 38), (j39 39), (j39 40), (j39 41), (j39 42), (j39 43), (j39 44), (j39 45), (j39 46), (j39 47), (j39 48), (j39 49), (j39 50), (j39 51), (j39 52), (j39 53), (j39 54), uV, uV, uV, uV, uV, uV, uV, uV, uV, uV, uV, uV, uV, uV, uV, uV, uV, uV, uV, uV, uV, uV, uV], []⟩) k ⟨f, 0, (fun i_ => [Value.int .i64 0, undef, undef, undef, undef, undef, undef, undef, undef, undef, undef, undef, undef, undef, undef, undef, undef, undef, undef, undef, undef, undef, undef, undef, undef, undef, undef, undef, undef, undef, undef, undef, undef, undef, undef, undef, undef, undef, undef, undef, undef, undef, undef, undef, undef, undef, undef, undef, undef, undef, undef, undef, undef, undef, undef].getD i_ undef), (FM.le.refl _), HS, h, (by kernel_rfl)⟩ ?_
   clear h
   rintro n34 _ W37 ⟨f35, x40, j39, L36, HS38, h, rfl⟩ K32 hK33
   obtain _ | n34 := n34
   · exact nomatch h
   simp only [catalog_state_apply.l0] at h
   refine wp_seq_k (fun K41 hK42 => ?_)
   refine wp_region_lit ?_
   refine seqL1 (by kernel_rfl) ?_
   refine wpList_nil ?_
   refine hK42 _ _ ?_
   refine wp_seq_k (fun K43 hK44 => ?_)
   have hq_ := ite_some h; clear h; rcases hq_ with ⟨c46, h⟩ | ⟨c46, h⟩
   · have c46 : x40 < (l7.length : Int) := c46
     refine wpRwI 19 (x := (decide (x40 < (l7.length : Int)))) (v := true) (by kernel_rfl) (decide_eq_true c46) ?_
     refine condT (by kernel_rfl) ?_
     refine wp_skip ?_
     refine hK44 _ _ ?_
     refine wp_seq_k (fun K47 hK48 => ?_)
     refine blockK (fun B49 hx50 hn51 hr52 ho53 hp54 => ?_)
     refine wp_seq_k (fun K56 hK57 => ?_)
     refine wp_region_lit ?_
     have hq_ := guard_some h; clear h; obtain ⟨c58, h⟩ := hq_
     have c58 : 0 ≤ x40 := c58
     obtain ⟨b62, of63, cs59, hA64, hr60, hc61⟩ := (HR10.mono L36).at (i := x40) c58 c46
     obtain ⟨A65, c65, rfl, HR65⟩ := hr60
     refine seqL1 (by kernel_rfl) ?_
     refine seqK rfl (does_run (run_indexE hA64 (sz := 19) rfl Try.underlying28 (by kernel_rfl) (by kernel_rfl : _ = Value.slice A8 l7.length c9) (by kernel_rfl : _ = Value.int .i64 x40) c58 c46 W37) ?_)
     refine seqK rfl (does_run (run_loadN (n := 19) rfl Try.underlying71 rfl (by kernel_rfl) (by kernel_rfl : _ = Value.pointer (some ⟨b62, of63 + (x40 : Int).toNat * 19, none⟩)) (cs := [.int .i64 ((rd l7 x40).Kind), .int .i64 (((rd l7 x40).Row).ID), .int .i64 (((((rd l7 x40).Row).Box).X).Lo), .int .i64 (((((rd l7 x40).Row).Box).X).Hi), .bool (((((rd l7 x40).Row).Box).X).Unknown), .int .i64 (((((rd l7 x40).Row).Box).Y).Lo), .int .i64 (((((rd l7 x40).Row).Box).Y).Hi), .bool (((((rd l7 x40).Row).Box).Y).Unknown), .int .i64 (((((rd l7 x40).Row).Box).Z).Lo), .int .i64 (((((rd l7 x40).Row).Box).Z).Hi), .bool (((((rd l7 x40).Row).Box).Z).Unknown), .int .i64 ((((rd l7 x40).Row).Flux).Lo), .int .i64 ((((rd l7 x40).Row).Flux).Hi), .bool ((((rd l7 x40).Row).Flux).Unknown), .int .i64 ((((rd l7 x40).Row).When).Lo), .int .i64 ((((rd l7 x40).Row).When).Hi), .bool ((((rd l7 x40).Row).When).Unknown), .slice A65 (((rd l7 x40).Row).Frames).length c65, .int .i64 (((rd l7 x40).Row).Marks)]) rfl (fun j_ hj_ => ((hc61 (FM.le.refl _) HS38) j_ hj_))) ?_)
     refine seqK rfl (does_alloc (z := Value.agg #[.int .i64 0, .int .i64 0, .int .i64 0, .int .i64 0, .bool false, .int .i64 0, .int .i64 0, .bool false, .int .i64 0, .int .i64 0, .bool false, .int .i64 0, .int .i64 0, .bool false, .int .i64 0, .int .i64 0, .bool false, .slice none 0 0, .int .i64 0]) (cs := #[.int .i64 0, .int .i64 0, .int .i64 0, .int .i64 0, .bool false, .int .i64 0, .int .i64 0, .bool false, .int .i64 0, .int .i64 0, .bool false, .int .i64 0, .int .i64 0, .bool false, .int .i64 0, .int .i64 0, .bool false, .slice none 0 0, .int .i64 0]) rfl (by kernel_rfl) rfl HS38 ?_)
     intro b66 W67 HS68
     refine seqL1 (by kernel_rfl) ?_
     refine seqK rfl (does_store (n := 19) (vs := [.int .i64 ((rd l7 x40).Kind), .int .i64 (((rd l7 x40).Row).ID), .int .i64 (((((rd l7 x40).Row).Box).X).Lo), .int .i64 (((((rd l7 x40).Row).Box).X).Hi), .bool (((((rd l7 x40).Row).Box).X).Unknown), .int .i64 (((((rd l7 x40).Row).Box).Y).Lo), .int .i64 (((((rd l7 x40).Row).Box).Y).Hi), .bool (((((rd l7 x40).Row).Box).Y).Unknown), .int .i64 (((((rd l7 x40).Row).Box).Z).Lo), .int .i64 (((((rd l7 x40).Row).Box).Z).Hi), .bool (((((rd l7 x40).Row).Box).Z).Unknown), .int .i64 ((((rd l7 x40).Row).Flux).Lo), .int .i64 ((((rd l7 x40).Row).Flux).Hi), .bool ((((rd l7 x40).Row).Flux).Unknown), .int .i64 ((((rd l7 x40).Row).When).Lo), .int .i64 ((((rd l7 x40).Row).When).Hi), .bool ((((rd l7 x40).Row).When).Unknown), .slice A65 (((rd l7 x40).Row).Frames).length c65, .int .i64 (((rd l7 x40).Row).Marks)]) (cs' := #[.int .i64 ((rd l7 x40).Kind), .int .i64 (((rd l7 x40).Row).ID), .int .i64 (((((rd l7 x40).Row).Box).X).Lo), .int .i64 (((((rd l7 x40).Row).Box).X).Hi), .bool (((((rd l7 x40).Row).Box).X).Unknown), .int .i64 (((((rd l7 x40).Row).Box).Y).Lo), .int .i64 (((((rd l7 x40).Row).Box).Y).Hi), .bool (((((rd l7 x40).Row).Box).Y).Unknown), .int .i64 (((((rd l7 x40).Row).Box).Z).Lo), .int .i64 (((((rd l7 x40).Row).Box).Z).Hi), .bool (((((rd l7 x40).Row).Box).Z).Unknown), .int .i64 ((((rd l7 x40).Row).Flux).Lo), .int .i64 ((((rd l7 x40).Row).Flux).Hi), .bool ((((rd l7 x40).Row).Flux).Unknown), .int .i64 ((((rd l7 x40).Row).When).Lo), .int .i64 ((((rd l7 x40).Row).When).Hi), .bool ((((rd l7 x40).Row).When).Unknown), .slice A65 (((rd l7 x40).Row).Frames).length c65, .int .i64 (((rd l7 x40).Row).Marks)]) rfl (by kernel_rfl) (by kernel_rfl : _ = Value.pointer (some ⟨b66, 0, none⟩)) (by kernel_rfl : _ = Value.agg #[.int .i64 ((rd l7 x40).Kind), .int .i64 (((rd l7 x40).Row).ID), .int .i64 (((((rd l7 x40).Row).Box).X).Lo), .int .i64 (((((rd l7 x40).Row).Box).X).Hi), .bool (((((rd l7 x40).Row).Box).X).Unknown), .int .i64 (((((rd l7 x40).Row).Box).Y).Lo), .int .i64 (((((rd l7 x40).Row).Box).Y).Hi), .bool (((((rd l7 x40).Row).Box).Y).Unknown), .int .i64 (((((rd l7 x40).Row).Box).Z).Lo), .int .i64 (((((rd l7 x40).Row).Box).Z).Hi), .bool (((((rd l7 x40).Row).Box).Z).Unknown), .int .i64 ((((rd l7 x40).Row).Flux).Lo), .int .i64 ((((rd l7 x40).Row).Flux).Hi), .bool ((((rd l7 x40).Row).Flux).Unknown), .int .i64 ((((rd l7 x40).Row).When).Lo), .int .i64 ((((rd l7 x40).Row).When).Hi), .bool ((((rd l7 x40).Row).When).Unknown), .slice A65 (((rd l7 x40).Row).Frames).length c65, .int .i64 (((rd l7 x40).Row).Marks)]) rfl rfl (by intro u_ hu_; simp only [List.mem_cons, List.not_mem_nil, or_false] at hu_; rcases hu_ with rfl | rfl | rfl | rfl | rfl | rfl | rfl | rfl | rfl | rfl | rfl | rfl | rfl | rfl | rfl | rfl | rfl | rfl | rfl <;> rfl) HS68 (Nat.le_of_ble_eq_true rfl) (by kernel_rfl) ?_)
     intro W70 HS71
     refine wpList_nil ?_
     refine hK57 _ _ ?_
     refine wp_seq_k (fun K72 hK73 => ?_)
     refine wp_seq_k (fun K74 hK75 => ?_)
     refine wp_region_lit ?_
     refine seqK rfl (does_run (run_loadN (n := 19) rfl Try.underlying71 rfl (by kernel_rfl) (by kernel_rfl : _ = Value.pointer (some ⟨b66, 0, none⟩)) (cs := [.int .i64 ((rd l7 x40).Kind), .int .i64 (((rd l7 x40).Row).ID), .int .i64 (((((rd l7 x40).Row).Box).X).Lo), .int .i64 (((((rd l7 x40).Row).Box).X).Hi), .bool (((((rd l7 x40).Row).Box).X).Unknown), .int .i64 (((((rd l7 x40).Row).Box).Y).Lo), .int .i64 (((((rd l7 x40).Row).Box).Y).Hi), .bool (((((rd l7 x40).Row).Box).Y).Unknown), .int .i64 (((((rd l7 x40).Row).Box).Z).Lo), .int .i64 (((((rd l7 x40).Row).Box).Z).Hi), .bool (((((rd l7 x40).Row).Box).Z).Unknown), .int .i64 ((((rd l7 x40).Row).Flux).Lo), .int .i64 ((((rd l7 x40).Row).Flux).Hi), .bool ((((rd l7 x40).Row).Flux).Unknown), .int .i64 ((((rd l7 x40).Row).When).Lo), .int .i64 ((((rd l7 x40).Row).When).Hi), .bool ((((rd l7 x40).Row).When).Unknown), .slice A65 (((rd l7 x40).Row).Frames).length c65, .int .i64 (((rd l7 x40).Row).Marks)]) rfl (HS71.cells 0 19 _ rfl)) ?_)
     have hq_ := bind_some h; clear h; obtain ⟨vt76, hc77, h⟩ := hq_
     refine seqK rfl (does_call (f := 47) (args := #[.agg #[.int .i64 ((rd l7 x40).Kind), .int .i64 (((rd l7 x40).Row).ID), .int .i64 (((((rd l7 x40).Row).Box).X).Lo), .int .i64 (((((rd l7 x40).Row).Box).X).Hi), .bool (((((rd l7 x40).Row).Box).X).Unknown), .int .i64 (((((rd l7 x40).Row).Box).Y).Lo), .int .i64 (((((rd l7 x40).Row).Box).Y).Hi), .bool (((((rd l7 x40).Row).Box).Y).Unknown), .int .i64 (((((rd l7 x40).Row).Box).Z).Lo), .int .i64 (((((rd l7 x40).Row).Box).Z).Hi), .bool (((((rd l7 x40).Row).Box).Z).Unknown), .int .i64 ((((rd l7 x40).Row).Flux).Lo), .int .i64 ((((rd l7 x40).Row).Flux).Hi), .bool ((((rd l7 x40).Row).Flux).Unknown), .int .i64 ((((rd l7 x40).Row).When).Lo), .int .i64 ((((rd l7 x40).Row).When).Hi), .bool ((((rd l7 x40).Row).When).Unknown), .slice A65 (((rd l7 x40).Row).Frames).length c65, .int .i64 (((rd l7 x40).Row).Marks)]]) (by kernel_rfl) (catalog_shape.calls k A65 c65 (rd l7 x40) HS71 HR65 vt76 hc77) ?_)
     rintro _ W80 ⟨f78, rfl, L79, HS81⟩
     refine ⟨_, rfl, ?_⟩
     refine seqL1 (by kernel_rfl) ?_
     refine wpList_nil ?_
     refine hK75 _ _ ?_
     refine wp_seq_k (fun K82 hK83 => ?_)
     refine wp_region_lit ?_
     refine seqL2 (by kernel_rfl) ?_
     refine wpList_nil ?_
     refine hK83 _ _ ?_
     have hq_ := ite_some h; clear h; rcases hq_ with ⟨c85, h⟩ | ⟨c85, h⟩
     · have c85 : vt76 ≠ 0 := c85
       refine wpRwI 26 (x := (vt76 != 0)) (v := true) (by kernel_rfl) (bne_iff_ne.mpr c85) ?_
       refine condT (by kernel_rfl) ?_
       refine wp_seq_k (fun K86 hK87 => ?_)
       refine wp_region_lit ?_
       refine seqL2 (by kernel_rfl) ?_
       refine wpList_nil ?_
       refine hK87 _ _ ?_
       refine wp_ret ?_
       refine hr52 _ _ ?_
       refine hr28 _ _ ?_
       refine hret _ _ ?_
       refine ends_still (v := Value.int .i64 vt76) (by kernel_rfl) (by kernel_rfl) ?_
       have HS358 := HS81.drop
       replace h := JR170 _ h
       injection h with h
       injection h with h0_ h
       subst h0_ h
       exact ⟨f78, s3, rfl, (L36.trans L79), HS358, (HO4.mono (L36.trans L79)), trivial⟩
     · have c85 : ¬ (vt76 ≠ 0) := c85
       refine wpRwI 26 (x := (vt76 != 0)) (v := false) (by kernel_rfl) (bne_eq_false_iff_eq.mpr (Decidable.of_not_not c85)) ?_
       refine condF (by kernel_rfl) ?_
       refine wp_skip ?_
       refine hK73 _ _ ?_
       refine wp_seq_k (fun K88 hK89 => ?_)
       refine wp_region_lit ?_
       refine seqL2 (by kernel_rfl) ?_
       refine seqK rfl (does_run (run_load rfl Try.underlying3 rfl (by kernel_rfl : _ = Value.pointer (some ⟨b66, 1, none⟩)) (HS81.cell 1)) ?_)
       refine seqL1 (by kernel_rfl) ?_
       refine wpList_nil ?_
       refine hK89 _ _ ?_
       refine wp_seq_k (fun K90 hK91 => ?_)
       refine wp_region_lit ?_
       obtain ⟨cs92, hr93, hl94⟩ := (HO4.mono (L36.trans L79)).look (z := zero_Row) (zc := #[Value.int .i64 0, Value.int .i64 0, Value.int .i64 0, Value.bool false, Value.int .i64 0, Value.int .i64 0, Value.bool false, Value.int .i64 0, Value.int .i64 0, Value.bool false, Value.int .i64 0, Value.int .i64 0, Value.bool false, Value.int .i64 0, Value.int .i64 0, Value.bool false, Value.slice none 0 0, Value.int .i64 0]) (((rd l7 x40).Row).ID) ⟨none, 0, rfl, SlR.nil _ _⟩
       obtain ⟨A95, c95, rfl, HR95⟩ := hr93
       refine seqL2 (by kernel_rfl) ?_
       refine seqK rfl (does_run (hl94 (ok := true) rfl Try.underlying85 Try.underlying3 (by kernel_rfl) (by kernel_rfl : _ = Value.map (mb A1)) (by kernel_rfl : _ = Value.int .i64 (((rd l7 x40).Row).ID)) HS81.u1) ?_)
       refine seqL3 (by kernel_rfl) ?_
       refine seqK rfl (does_alloc (z := Value.agg #[.int .i64 0, .int .i64 0, .int .i64 0, .bool false, .int .i64 0, .int .i64 0, .bool false, .int .i64 0, .int .i64 0, .bool false, .int .i64 0, .int .i64 0, .bool false, .int .i64 0, .int .i64 0, .bool false, .slice none 0 0, .int .i64 0]) (cs := #[.int .i64 0, .int .i64 0, .int .i64 0, .bool false, .int .i64 0, .int .i64 0, .bool false, .int .i64 0, .int .i64 0, .bool false, .int .i64 0, .int .i64 0, .bool false, .int .i64 0, .int .i64 0, .bool false, .slice none 0 0, .int .i64 0]) rfl (by kernel_rfl) rfl HS81 ?_)
       intro b96 W97 HS98
       refine seqK rfl (does_store (n := 18) (vs := [.int .i64 ((mget zero_Row s5 (((rd l7 x40).Row).ID)).ID), .int .i64 ((((mget zero_Row s5 (((rd l7 x40).Row).ID)).Box).X).Lo), .int .i64 ((((mget zero_Row s5 (((rd l7 x40).Row).ID)).Box).X).Hi), .bool ((((mget zero_Row s5 (((rd l7 x40).Row).ID)).Box).X).Unknown), .int .i64 ((((mget zero_Row s5 (((rd l7 x40).Row).ID)).Box).Y).Lo), .int .i64 ((((mget zero_Row s5 (((rd l7 x40).Row).ID)).Box).Y).Hi), .bool ((((mget zero_Row s5 (((rd l7 x40).Row).ID)).Box).Y).Unknown), .int .i64 ((((mget zero_Row s5 (((rd l7 x40).Row).ID)).Box).Z).Lo), .int .i64 ((((mget zero_Row s5 (((rd l7 x40).Row).ID)).Box).Z).Hi), .bool ((((mget zero_Row s5 (((rd l7 x40).Row).ID)).Box).Z).Unknown), .int .i64 (((mget zero_Row s5 (((rd l7 x40).Row).ID)).Flux).Lo), .int .i64 (((mget zero_Row s5 (((rd l7 x40).Row).ID)).Flux).Hi), .bool (((mget zero_Row s5 (((rd l7 x40).Row).ID)).Flux).Unknown), .int .i64 (((mget zero_Row s5 (((rd l7 x40).Row).ID)).When).Lo), .int .i64 (((mget zero_Row s5 (((rd l7 x40).Row).ID)).When).Hi), .bool (((mget zero_Row s5 (((rd l7 x40).Row).ID)).When).Unknown), .slice A95 ((mget zero_Row s5 (((rd l7 x40).Row).ID)).Frames).length c95, .int .i64 ((mget zero_Row s5 (((rd l7 x40).Row).ID)).Marks)]) (cs' := #[.int .i64 ((mget zero_Row s5 (((rd l7 x40).Row).ID)).ID), .int .i64 ((((mget zero_Row s5 (((rd l7 x40).Row).ID)).Box).X).Lo), .int .i64 ((((mget zero_Row s5 (((rd l7 x40).Row).ID)).Box).X).Hi), .bool ((((mget zero_Row s5 (((rd l7 x40).Row).ID)).Box).X).Unknown), .int .i64 ((((mget zero_Row s5 (((rd l7 x40).Row).ID)).Box).Y).Lo), .int .i64 ((((mget zero_Row s5 (((rd l7 x40).Row).ID)).Box).Y).Hi), .bool ((((mget zero_Row s5 (((rd l7 x40).Row).ID)).Box).Y).Unknown), .int .i64 ((((mget zero_Row s5 (((rd l7 x40).Row).ID)).Box).Z).Lo), .int .i64 ((((mget zero_Row s5 (((rd l7 x40).Row).ID)).Box).Z).Hi), .bool ((((mget zero_Row s5 (((rd l7 x40).Row).ID)).Box).Z).Unknown), .int .i64 (((mget zero_Row s5 (((rd l7 x40).Row).ID)).Flux).Lo), .int .i64 (((mget zero_Row s5 (((rd l7 x40).Row).ID)).Flux).Hi), .bool (((mget zero_Row s5 (((rd l7 x40).Row).ID)).Flux).Unknown), .int .i64 (((mget zero_Row s5 (((rd l7 x40).Row).ID)).When).Lo), .int .i64 (((mget zero_Row s5 (((rd l7 x40).Row).ID)).When).Hi), .bool (((mget zero_Row s5 (((rd l7 x40).Row).ID)).When).Unknown), .slice A95 ((mget zero_Row s5 (((rd l7 x40).Row).ID)).Frames).length c95, .int .i64 ((mget zero_Row s5 (((rd l7 x40).Row).ID)).Marks)]) rfl (by kernel_rfl) (by kernel_rfl : _ = Value.pointer (some ⟨b96, 0, none⟩)) (by kernel_rfl : _ = Value.agg #[.int .i64 ((mget zero_Row s5 (((rd l7 x40).Row).ID)).ID), .int .i64 ((((mget zero_Row s5 (((rd l7 x40).Row).ID)).Box).X).Lo), .int .i64 ((((mget zero_Row s5 (((rd l7 x40).Row).ID)).Box).X).Hi), .bool ((((mget zero_Row s5 (((rd l7 x40).Row).ID)).Box).X).Unknown), .int .i64 ((((mget zero_Row s5 (((rd l7 x40).Row).ID)).Box).Y).Lo), .int .i64 ((((mget zero_Row s5 (((rd l7 x40).Row).ID)).Box).Y).Hi), .bool ((((mget zero_Row s5 (((rd l7 x40).Row).ID)).Box).Y).Unknown), .int .i64 ((((mget zero_Row s5 (((rd l7 x40).Row).ID)).Box).Z).Lo), .int .i64 ((((mget zero_Row s5 (((rd l7 x40).Row).ID)).Box).Z).Hi), .bool ((((mget zero_Row s5 (((rd l7 x40).Row).ID)).Box).Z).Unknown), .int .i64 (((mget zero_Row s5 (((rd l7 x40).Row).ID)).Flux).Lo), .int .i64 (((mget zero_Row s5 (((rd l7 x40).Row).ID)).Flux).Hi), .bool (((mget zero_Row s5 (((rd l7 x40).Row).ID)).Flux).Unknown), .int .i64 (((mget zero_Row s5 (((rd l7 x40).Row).ID)).When).Lo), .int .i64 (((mget zero_Row s5 (((rd l7 x40).Row).ID)).When).Hi), .bool (((mget zero_Row s5 (((rd l7 x40).Row).ID)).When).Unknown), .slice A95 ((mget zero_Row s5 (((rd l7 x40).Row).ID)).Frames).length c95, .int .i64 ((mget zero_Row s5 (((rd l7 x40).Row).ID)).Marks)]) rfl rfl (by intro u_ hu_; simp only [List.mem_cons, List.not_mem_nil, or_false] at hu_; rcases hu_ with rfl | rfl | rfl | rfl | rfl | rfl | rfl | rfl | rfl | rfl | rfl | rfl | rfl | rfl | rfl | rfl | rfl | rfl <;> rfl) HS98 (Nat.le_of_ble_eq_true rfl) (by kernel_rfl) ?_)
       intro W100 HS101
       refine seqS1 (a' := ⟨#[.map (mb A1), .slice A8 l7.length c9, uV, uV, (j39 0), iV x40, pV b66 0, iV vt76, iV (((rd l7 x40).Row).ID), pV b96 0, .bool ((mfind s5 (((rd l7 x40).Row).ID)).isSome), uV, uV, .slice A8 l7.length c9, iV (l7.length : Int), fV, .slice A8 l7.length c9, iV (l7.length : Int), iV x40, tV, iV x40, pV b62 (of63 + (x40 : Int).toNat * 19), (ag_Change (rd l7 x40) A65 c65), (ag_Change (rd l7 x40) A65 c65), iV vt76, iV vt76, fV, (j39 15), pV b66 1, pV b66 1, iV (((rd l7 x40).Row).ID), .tuple #[(ag_Row (mget zero_Row s5 (((rd l7 x40).Row).ID)) A95 c95), .bool ((mfind s5 (((rd l7 x40).Row).ID)).isSome)], .map (mb A1), iV (((rd l7 x40).Row).ID), .tuple #[(ag_Row (mget zero_Row s5 (((rd l7 x40).Row).ID)) A95 c95), .bool ((mfind s5 (((rd l7 x40).Row).ID)).isSome)], (ag_Row (mget zero_Row s5 (((rd l7 x40).Row).ID)) A95 c95), .bool ((mfind s5 (((rd l7 x40).Row).ID)).isSome), (j39 25), (j39 26), (j39 27), (j39 28), (j39 29), (j39 30), (j39 31), (j39 32), (j39 33), (j39 34), (j39 35), (j39 36), (j39 37), (j39 38), (j39 39), (j39 40), (j39 41), (j39 42), (j39 43), (j39 44), (j39 45), (j39 46), (j39 47), (j39 48), (j39 49), (j39 50), (j39 51), (j39 52), (j39 53), (j39 54), uV, uV, uV, uV, uV, uV, uV, uV, uV, uV, uV, uV, uV, uV, uV, uV, uV, uV, uV, uV, uV, uV, uV], []⟩) (by kernel_rfl) ?_
       refine wpList_nil ?_
       refine hK91 _ _ ?_
       refine blockK (fun B102 hx103 hn104 hr105 ho106 hp107 => ?_)
       refine wp_seq_k (fun K109 hK110 => ?_)
       refine wp_region_lit ?_
       refine seqL3 (by kernel_rfl) ?_
       have hq_ := ite_some h; clear h; rcases hq_ with ⟨c111, h⟩ | ⟨c111, h⟩
       · have c111 : x40 > 0 := c111
         refine seqRwI 39 (x := (decide (x40 > 0))) (v := true) (by kernel_rfl) (decide_eq_true c111) ?_
         refine seqRwI 40 (x := (decide (x40 > 0))) (v := true) (by kernel_rfl) (decide_eq_true c111) ?_
         have hq_ := guard_some h; clear h; obtain ⟨c112, h⟩ := hq_
         have c112 : 0 ≤ (w64 (x40 - 1)) := c112
         have hq_ := guard_some h; clear h; obtain ⟨c113, h⟩ := hq_
         have c113 : (w64 (x40 - 1)) < (l7.length : Int) := c113
         obtain ⟨b117, of118, cs114, hA119, hr115, hc116⟩ := (HR10.mono (L36.trans L79)).at (i := w64 (x40 - 1)) c112 c113
         obtain ⟨A120, c120, rfl, HR120⟩ := hr115
         refine seqL4 (by kernel_rfl) ?_
         refine seqG (by kernel_rfl) (does_run (run_indexE hA119 (sz := 19) rfl Try.underlying28 (by kernel_rfl) (by kernel_rfl : _ = Value.slice A8 l7.length c9) (by kernel_rfl : _ = Value.int .i64 (w64 (x40 - 1))) c112 c113 W100) ?_)
         refine seqL2 (by kernel_rfl) ?_
         refine seqG (by kernel_rfl) (does_run (run_load rfl Try.underlying3 rfl (by kernel_rfl : _ = Value.pointer (some ⟨b117, of118 + (w64 (x40 - 1) : Int).toNat * 19 + 1, none⟩)) ((hc116 (FM.le.refl _) HS101) 1 (by decide))) ?_)
         refine seqL3 (by kernel_rfl) ?_
         refine wpList_nil ?_
         refine hK110 _ _ ?_
         have hq_ := ite_some h; clear h; rcases hq_ with ⟨c122, h⟩ | ⟨c122, h⟩
         · have c122 : (((rd l7 x40).Row).ID) ≤ (((rd l7 (w64 (x40 - 1))).Row).ID) := c122
           refine wpRwI 37 (x := (decide ((((rd l7 x40).Row).ID) ≤ (((rd l7 (w64 (x40 - 1))).Row).ID)))) (v := true) (by kernel_rfl) (decide_eq_true c122) ?_
           refine wpRwI 49 (x := (decide ((((rd l7 x40).Row).ID) ≤ (((rd l7 (w64 (x40 - 1))).Row).ID)))) (v := true) (by kernel_rfl) (decide_eq_true c122) ?_
           refine wpRwI 50 (x := (decide ((((rd l7 x40).Row).ID) ≤ (((rd l7 (w64 (x40 - 1))).Row).ID)))) (v := true) (by kernel_rfl) (decide_eq_true c122) ?_
           refine condT (by kernel_rfl) ?_
           refine wp_seq_k (fun K123 hK124 => ?_)
           refine wp_region_lit ?_
           refine seqL1 (by kernel_rfl) ?_
           refine wpList_nil ?_
           refine hK124 _ _ ?_
           refine wp_ret ?_
           refine hr105 _ _ ?_
           refine hr52 _ _ ?_
           refine hr28 _ _ ?_
           refine hret _ _ ?_
           refine ends_still (v := Value.int .i64 11) (by kernel_rfl) (by kernel_rfl) ?_
           have HS359 := HS101.drop
           have HS360 := HS359.drop
           replace h := JR170 _ h
           injection h with h
           injection h with h0_ h
           subst h0_ h
           exact ⟨f78, s3, rfl, (L36.trans L79), HS360, (HO4.mono (L36.trans L79)), trivial⟩
         · have c122 : ¬ ((((rd l7 x40).Row).ID) ≤ (((rd l7 (w64 (x40 - 1))).Row).ID)) := c122
           refine wpRwI 37 (x := (decide ((((rd l7 x40).Row).ID) ≤ (((rd l7 (w64 (x40 - 1))).Row).ID)))) (v := false) (by kernel_rfl) (decide_eq_false c122) ?_
           refine wpRwI 49 (x := (decide ((((rd l7 x40).Row).ID) ≤ (((rd l7 (w64 (x40 - 1))).Row).ID)))) (v := false) (by kernel_rfl) (decide_eq_false c122) ?_
           refine wpRwI 50 (x := (decide ((((rd l7 x40).Row).ID) ≤ (((rd l7 (w64 (x40 - 1))).Row).ID)))) (v := false) (by kernel_rfl) (decide_eq_false c122) ?_
           refine condF (by kernel_rfl) ?_
           refine wp_seq_k (fun K125 hK126 => ?_)
           refine wp_region_lit ?_
           refine seqL1 (by kernel_rfl) ?_
           refine seqK rfl (does_run (run_load rfl Try.underlying3 rfl (by kernel_rfl : _ = Value.pointer (some ⟨b66, 0, none⟩)) (HS101.u1.cell 0)) ?_)
           refine seqS2 (a' := ⟨#[.map (mb A1), .slice A8 l7.length c9, uV, uV, (j39 0), iV x40, pV b66 0, iV vt76, iV (((rd l7 x40).Row).ID), pV b96 0, .bool ((mfind s5 (((rd l7 x40).Row).ID)).isSome), uV, uV, .slice A8 l7.length c9, iV (l7.length : Int), fV, .slice A8 l7.length c9, iV (l7.length : Int), iV x40, tV, iV x40, pV b62 (of63 + (x40 : Int).toNat * 19), (ag_Change (rd l7 x40) A65 c65), (ag_Change (rd l7 x40) A65 c65), iV vt76, iV vt76, fV, (j39 15), pV b66 1, pV b66 1, iV (((rd l7 x40).Row).ID), .tuple #[(ag_Row (mget zero_Row s5 (((rd l7 x40).Row).ID)) A95 c95), .bool ((mfind s5 (((rd l7 x40).Row).ID)).isSome)], .map (mb A1), iV (((rd l7 x40).Row).ID), .tuple #[(ag_Row (mget zero_Row s5 (((rd l7 x40).Row).ID)) A95 c95), .bool ((mfind s5 (((rd l7 x40).Row).ID)).isSome)], (ag_Row (mget zero_Row s5 (((rd l7 x40).Row).ID)) A95 c95), .bool ((mfind s5 (((rd l7 x40).Row).ID)).isSome), fV, iV x40, tV, tV, iV (((rd l7 x40).Row).ID), .slice A8 l7.length c9, iV x40, iV (w64 (x40 - 1)), pV b117 (of118 + (w64 (x40 - 1) : Int).toNat * 19), pV b117 (of118 + (w64 (x40 - 1) : Int).toNat * 19 + 1), pV b117 (of118 + (w64 (x40 - 1) : Int).toNat * 19 + 1), iV (((rd l7 (w64 (x40 - 1))).Row).ID), fV, fV, (j39 39), pV b66 0, iV ((rd l7 x40).Kind), .bool (((rd l7 x40).Kind) == 1), .bool (((rd l7 x40).Kind) == 1), (j39 44), (j39 45), (j39 46), (j39 47), (j39 48), (j39 49), (j39 50), (j39 51), (j39 52), (j39 53), (j39 54), uV, uV, uV, uV, uV, uV, uV, uV, uV, uV, uV, uV, uV, uV, uV, uV, uV, uV, uV, uV, uV, uV, uV], []⟩) (by kernel_rfl) ?_
           have hq_ := ite_some h; clear h; rcases hq_ with ⟨c127, h⟩ | ⟨c127, h⟩
           · have c127 : ((rd l7 x40).Kind) = 1 := c127
             refine seqRwI 54 (x := (((rd l7 x40).Kind) == 1)) (v := true) (by kernel_rfl) (beq_iff_eq.mpr c127) ?_
             refine seqRwI 55 (x := (((rd l7 x40).Kind) == 1)) (v := true) (by kernel_rfl) (beq_iff_eq.mpr c127) ?_
             refine seqL3 (by kernel_rfl) ?_
             refine wpList_nil ?_
             refine hK126 _ _ ?_
             have hq_ := ite_some h; clear h; rcases hq_ with ⟨c129, h⟩ | ⟨c129, h⟩
             · have c129 : ((mfind s5 (((rd l7 x40).Row).ID)).isSome) = true := c129
               refine wpRwI 10 (x := (mfind s5 (((rd l7 x40).Row).ID)).isSome) (v := true) (by kernel_rfl) c129 ?_
               refine wpRwI 36 (x := (mfind s5 (((rd l7 x40).Row).ID)).isSome) (v := true) (by kernel_rfl) c129 ?_
               refine wpRwI 51 (x := (mfind s5 (((rd l7 x40).Row).ID)).isSome) (v := true) (by kernel_rfl) c129 ?_
               refine wpRwI 56 (x := (mfind s5 (((rd l7 x40).Row).ID)).isSome) (v := true) (by kernel_rfl) c129 ?_
               refine wpRwI 57 (x := (mfind s5 (((rd l7 x40).Row).ID)).isSome) (v := true) (by kernel_rfl) c129 ?_
               refine condT (by kernel_rfl) ?_
               refine wp_seq_k (fun K130 hK131 => ?_)
               refine wp_region_lit ?_
               refine seqL1 (by kernel_rfl) ?_
               refine wpList_nil ?_
               refine hK131 _ _ ?_
               refine wp_ret ?_
               refine hr105 _ _ ?_
               refine hr52 _ _ ?_
               refine hr28 _ _ ?_
               refine hret _ _ ?_
               refine ends_still (v := Value.int .i64 7) (by kernel_rfl) (by kernel_rfl) ?_
               have HS361 := HS101.drop
               have HS362 := HS361.drop
               replace h := JR170 _ h
               injection h with h
               injection h with h0_ h
               subst h0_ h
               exact ⟨f78, s3, rfl, (L36.trans L79), HS362, (HO4.mono (L36.trans L79)), trivial⟩
             · have c129 : ¬ (((mfind s5 (((rd l7 x40).Row).ID)).isSome) = true) := c129
               refine wpRwI 10 (x := (mfind s5 (((rd l7 x40).Row).ID)).isSome) (v := false) (by kernel_rfl) (Bool.eq_false_iff.mpr c129) ?_
               refine wpRwI 36 (x := (mfind s5 (((rd l7 x40).Row).ID)).isSome) (v := false) (by kernel_rfl) (Bool.eq_false_iff.mpr c129) ?_
               refine wpRwI 51 (x := (mfind s5 (((rd l7 x40).Row).ID)).isSome) (v := false) (by kernel_rfl) (Bool.eq_false_iff.mpr c129) ?_
               refine wpRwI 56 (x := (mfind s5 (((rd l7 x40).Row).ID)).isSome) (v := false) (by kernel_rfl) (Bool.eq_false_iff.mpr c129) ?_
               refine wpRwI 57 (x := (mfind s5 (((rd l7 x40).Row).ID)).isSome) (v := false) (by kernel_rfl) (Bool.eq_false_iff.mpr c129) ?_
               refine condF (by kernel_rfl) ?_
               refine wp_seq_k (fun K132 hK133 => ?_)
               refine wp_region_lit ?_
               refine seqL1 (by kernel_rfl) ?_
               refine seqK rfl (does_run (run_load rfl Try.underlying3 rfl (by kernel_rfl : _ = Value.pointer (some ⟨b66, 0, none⟩)) (HS101.u1.cell 0)) ?_)
               refine seqL2 (by kernel_rfl) ?_
               have hq_ := ite_some h; clear h; rcases hq_ with ⟨c134, h⟩ | ⟨c134, h⟩
               · have c134 : ((rd l7 x40).Kind) ≠ 1 := c134
                 refine seqRwI 61 (x := (((rd l7 x40).Kind) != 1)) (v := true) (by kernel_rfl) (bne_iff_ne.mpr c134) ?_
                 refine seqRwI 62 (x := (((rd l7 x40).Kind) != 1)) (v := true) (by kernel_rfl) (bne_iff_ne.mpr c134) ?_
                 refine seqL4 (by kernel_rfl) ?_
                 refine wpList_nil ?_
                 refine hK133 _ _ ?_
                 refine condT (by kernel_rfl) ?_
                 refine wp_seq_k (fun K135 hK136 => ?_)
                 refine wp_region_lit ?_
                 refine seqL1 (by kernel_rfl) ?_
                 refine wpList_nil ?_
                 refine hK136 _ _ ?_
                 refine wp_ret ?_
                 refine hr105 _ _ ?_
                 refine hr52 _ _ ?_
                 refine hr28 _ _ ?_
                 refine hret _ _ ?_
                 refine ends_still (v := Value.int .i64 8) (by kernel_rfl) (by kernel_rfl) ?_
                 have HS363 := HS101.drop
                 have HS364 := HS363.drop
                 replace h := JR170 _ h
                 injection h with h
                 injection h with h0_ h
                 subst h0_ h
                 exact ⟨f78, s3, rfl, (L36.trans L79), HS364, (HO4.mono (L36.trans L79)), trivial⟩
               · have c134 : ¬ (((rd l7 x40).Kind) ≠ 1) := c134
                 refine seqRwI 61 (x := (((rd l7 x40).Kind) != 1)) (v := false) (by kernel_rfl) (bne_eq_false_iff_eq.mpr (Decidable.of_not_not c134)) ?_
                 refine seqRwI 62 (x := (((rd l7 x40).Kind) != 1)) (v := false) (by kernel_rfl) (bne_eq_false_iff_eq.mpr (Decidable.of_not_not c134)) ?_
                 refine seqL4 (by kernel_rfl) ?_
                 refine wpList_nil ?_
                 refine hK133 _ _ ?_
                 refine condF (by kernel_rfl) ?_
                 refine wp_skip ?_
                 refine hn104 _ _ ?_
                 refine hn51 _ _ ?_
                 refine hK48 _ _ ?_
                 refine wp_region_lit ?_
                 refine seqL2 (by kernel_rfl) ?_
                 refine wpList_nil ?_
                 refine hK33 n34 _ _ (Nat.lt_succ_self _) ?_
                 have HS172 := HS101.u2
                 have HS173 := HS172.u2
                 have HS174 := HS173.u2
                 have HS175 := HS174.drop
                 have HS176 := HS175.drop
                 exact ⟨f78, (w64 (x40 + 1)), (fun i_ => [(j39 0), Value.int .i64 x40, Value.pointer (some ⟨b66, 0, none⟩), Value.int .i64 vt76, Value.int .i64 (((rd l7 x40).Row).ID), Value.pointer (some ⟨b96, 0, none⟩), Value.bool false, Value.bool true, Value.int .i64 x40, Value.pointer (some ⟨b62, of63 + (x40 : Int).toNat * 19, none⟩), (ag_Change (rd l7 x40) A65 c65), (ag_Change (rd l7 x40) A65 c65), Value.int .i64 vt76, Value.int .i64 vt76, Value.bool false, (j39 15), Value.pointer (some ⟨b66, 1, none⟩), Value.pointer (some ⟨b66, 1, none⟩), Value.int .i64 (((rd l7 x40).Row).ID), Value.tuple #[(ag_Row (mget zero_Row s5 (((rd l7 x40).Row).ID)) A95 c95), .bool ((mfind s5 (((rd l7 x40).Row).ID)).isSome)], Value.map (mb A1), Value.int .i64 (((rd l7 x40).Row).ID), Value.tuple #[(ag_Row (mget zero_Row s5 (((rd l7 x40).Row).ID)) A95 c95), .bool ((mfind s5 (((rd l7 x40).Row).ID)).isSome)], (ag_Row (mget zero_Row s5 (((rd l7 x40).Row).ID)) A95 c95), Value.bool false, Value.bool false, Value.int .i64 x40, Value.bool true, Value.bool true, Value.int .i64 (((rd l7 x40).Row).ID), Value.slice A8 l7.length c9, Value.int .i64 x40, Value.int .i64 (w64 (x40 - 1)), Value.pointer (some ⟨b117, of118 + (w64 (x40 - 1) : Int).toNat * 19, none⟩), Value.pointer (some ⟨b117, of118 + (w64 (x40 - 1) : Int).toNat * 19 + 1, none⟩), Value.pointer (some ⟨b117, of118 + (w64 (x40 - 1) : Int).toNat * 19 + 1, none⟩), Value.int .i64 (((rd l7 (w64 (x40 - 1))).Row).ID), Value.bool false, Value.bool false, Value.bool false, Value.pointer (some ⟨b66, 0, none⟩), Value.int .i64 ((rd l7 x40).Kind), Value.bool true, Value.bool true, Value.bool false, Value.bool false, Value.bool false, Value.pointer (some ⟨b66, 0, none⟩), Value.int .i64 ((rd l7 x40).Kind), Value.bool false, Value.bool false, undef, undef, Value.bool false, Value.int .i64 (w64 (x40 + 1))].getD i_ undef), (L36.trans L79), HS176, h, (by kernel_rfl)⟩
           · have c127 : ¬ (((rd l7 x40).Kind) = 1) := c127
             refine seqRwI 54 (x := (((rd l7 x40).Kind) == 1)) (v := false) (by kernel_rfl) (beq_eq_false_iff_ne.mpr c127) ?_
             refine seqRwI 55 (x := (((rd l7 x40).Kind) == 1)) (v := false) (by kernel_rfl) (beq_eq_false_iff_ne.mpr c127) ?_
             refine seqL3 (by kernel_rfl) ?_
             refine wpList_nil ?_
             refine hK126 _ _ ?_
             refine condF (by kernel_rfl) ?_
             refine wp_seq_k (fun K137 hK138 => ?_)
             refine wp_region_lit ?_
             refine seqL1 (by kernel_rfl) ?_
             refine seqK rfl (does_run (run_load rfl Try.underlying3 rfl (by kernel_rfl : _ = Value.pointer (some ⟨b66, 0, none⟩)) (HS101.u1.cell 0)) ?_)
             refine seqL2 (by kernel_rfl) ?_
             have hq_ := ite_some h; clear h; rcases hq_ with ⟨c139, h⟩ | ⟨c139, h⟩
             · have c139 : ((rd l7 x40).Kind) ≠ 1 := c139
               refine seqRwI 61 (x := (((rd l7 x40).Kind) != 1)) (v := true) (by kernel_rfl) (bne_iff_ne.mpr c139) ?_
               refine seqRwI 62 (x := (((rd l7 x40).Kind) != 1)) (v := true) (by kernel_rfl) (bne_iff_ne.mpr c139) ?_
               refine seqL4 (by kernel_rfl) ?_
               refine wpList_nil ?_
               refine hK138 _ _ ?_
               have hq_ := ite_some h; clear h; rcases hq_ with ⟨c141, h⟩ | ⟨c141, h⟩
               · have c141 : ¬ (((mfind s5 (((rd l7 x40).Row).ID)).isSome) = true) := c141
                 refine wpRwI 58 (x := (!((mfind s5 (((rd l7 x40).Row).ID)).isSome))) (v := true) (by kernel_rfl) (congrArg (fun b_ => !b_) (show (mfind s5 (((rd l7 x40).Row).ID)).isSome = false from (Bool.eq_false_iff.mpr c141)) : (!((mfind s5 (((rd l7 x40).Row).ID)).isSome)) = true) ?_
                 refine wpRwI 64 (x := (!((mfind s5 (((rd l7 x40).Row).ID)).isSome))) (v := true) (by kernel_rfl) (congrArg (fun b_ => !b_) (show (mfind s5 (((rd l7 x40).Row).ID)).isSome = false from (Bool.eq_false_iff.mpr c141)) : (!((mfind s5 (((rd l7 x40).Row).ID)).isSome)) = true) ?_
                 refine wpRwI 65 (x := (!((mfind s5 (((rd l7 x40).Row).ID)).isSome))) (v := true) (by kernel_rfl) (congrArg (fun b_ => !b_) (show (mfind s5 (((rd l7 x40).Row).ID)).isSome = false from (Bool.eq_false_iff.mpr c141)) : (!((mfind s5 (((rd l7 x40).Row).ID)).isSome)) = true) ?_
                 refine condT (by kernel_rfl) ?_
                 refine wp_seq_k (fun K142 hK143 => ?_)
                 refine wp_region_lit ?_
                 refine seqL1 (by kernel_rfl) ?_
                 refine wpList_nil ?_
                 refine hK143 _ _ ?_
                 refine wp_ret ?_
                 refine hr105 _ _ ?_
                 refine hr52 _ _ ?_
                 refine hr28 _ _ ?_
                 refine hret _ _ ?_
                 refine ends_still (v := Value.int .i64 8) (by kernel_rfl) (by kernel_rfl) ?_
                 have HS365 := HS101.drop
                 have HS366 := HS365.drop
                 replace h := JR170 _ h
                 injection h with h
                 injection h with h0_ h
                 subst h0_ h
                 exact ⟨f78, s3, rfl, (L36.trans L79), HS366, (HO4.mono (L36.trans L79)), trivial⟩
               · have c141 : ¬ (¬ (((mfind s5 (((rd l7 x40).Row).ID)).isSome) = true)) := c141
                 refine wpRwI 58 (x := (!((mfind s5 (((rd l7 x40).Row).ID)).isSome))) (v := false) (by kernel_rfl) (congrArg (fun b_ => !b_) (show (mfind s5 (((rd l7 x40).Row).ID)).isSome = true from (Decidable.of_not_not c141)) : (!((mfind s5 (((rd l7 x40).Row).ID)).isSome)) = false) ?_
                 refine wpRwI 64 (x := (!((mfind s5 (((rd l7 x40).Row).ID)).isSome))) (v := false) (by kernel_rfl) (congrArg (fun b_ => !b_) (show (mfind s5 (((rd l7 x40).Row).ID)).isSome = true from (Decidable.of_not_not c141)) : (!((mfind s5 (((rd l7 x40).Row).ID)).isSome)) = false) ?_
                 refine wpRwI 65 (x := (!((mfind s5 (((rd l7 x40).Row).ID)).isSome))) (v := false) (by kernel_rfl) (congrArg (fun b_ => !b_) (show (mfind s5 (((rd l7 x40).Row).ID)).isSome = true from (Decidable.of_not_not c141)) : (!((mfind s5 (((rd l7 x40).Row).ID)).isSome)) = false) ?_
                 refine condF (by kernel_rfl) ?_
                 refine wp_skip ?_
                 refine hn104 _ _ ?_
                 refine hn51 _ _ ?_
                 refine hK48 _ _ ?_
                 refine wp_region_lit ?_
                 refine seqL2 (by kernel_rfl) ?_
                 refine wpList_nil ?_
                 refine hK33 n34 _ _ (Nat.lt_succ_self _) ?_
                 have HS177 := HS101.u2
                 have HS178 := HS177.u2
                 have HS179 := HS178.u2
                 have HS180 := HS179.drop
                 have HS181 := HS180.drop
                 exact ⟨f78, (w64 (x40 + 1)), (fun i_ => [(j39 0), Value.int .i64 x40, Value.pointer (some ⟨b66, 0, none⟩), Value.int .i64 vt76, Value.int .i64 (((rd l7 x40).Row).ID), Value.pointer (some ⟨b96, 0, none⟩), Value.bool ((mfind s5 (((rd l7 x40).Row).ID)).isSome), Value.bool true, Value.int .i64 x40, Value.pointer (some ⟨b62, of63 + (x40 : Int).toNat * 19, none⟩), (ag_Change (rd l7 x40) A65 c65), (ag_Change (rd l7 x40) A65 c65), Value.int .i64 vt76, Value.int .i64 vt76, Value.bool false, (j39 15), Value.pointer (some ⟨b66, 1, none⟩), Value.pointer (some ⟨b66, 1, none⟩), Value.int .i64 (((rd l7 x40).Row).ID), Value.tuple #[(ag_Row (mget zero_Row s5 (((rd l7 x40).Row).ID)) A95 c95), .bool ((mfind s5 (((rd l7 x40).Row).ID)).isSome)], Value.map (mb A1), Value.int .i64 (((rd l7 x40).Row).ID), Value.tuple #[(ag_Row (mget zero_Row s5 (((rd l7 x40).Row).ID)) A95 c95), .bool ((mfind s5 (((rd l7 x40).Row).ID)).isSome)], (ag_Row (mget zero_Row s5 (((rd l7 x40).Row).ID)) A95 c95), Value.bool ((mfind s5 (((rd l7 x40).Row).ID)).isSome), Value.bool false, Value.int .i64 x40, Value.bool true, Value.bool true, Value.int .i64 (((rd l7 x40).Row).ID), Value.slice A8 l7.length c9, Value.int .i64 x40, Value.int .i64 (w64 (x40 - 1)), Value.pointer (some ⟨b117, of118 + (w64 (x40 - 1) : Int).toNat * 19, none⟩), Value.pointer (some ⟨b117, of118 + (w64 (x40 - 1) : Int).toNat * 19 + 1, none⟩), Value.pointer (some ⟨b117, of118 + (w64 (x40 - 1) : Int).toNat * 19 + 1, none⟩), Value.int .i64 (((rd l7 (w64 (x40 - 1))).Row).ID), Value.bool false, Value.bool false, Value.bool false, Value.pointer (some ⟨b66, 0, none⟩), Value.int .i64 ((rd l7 x40).Kind), Value.bool false, Value.bool false, undef, Value.bool false, Value.bool false, Value.pointer (some ⟨b66, 0, none⟩), Value.int .i64 ((rd l7 x40).Kind), Value.bool true, Value.bool true, Value.bool ((mfind s5 (((rd l7 x40).Row).ID)).isSome), Value.bool false, Value.bool false, Value.int .i64 (w64 (x40 + 1))].getD i_ undef), (L36.trans L79), HS181, h, (by kernel_rfl)⟩
             · have c139 : ¬ (((rd l7 x40).Kind) ≠ 1) := c139
               refine seqRwI 61 (x := (((rd l7 x40).Kind) != 1)) (v := false) (by kernel_rfl) (bne_eq_false_iff_eq.mpr (Decidable.of_not_not c139)) ?_
               refine seqRwI 62 (x := (((rd l7 x40).Kind) != 1)) (v := false) (by kernel_rfl) (bne_eq_false_iff_eq.mpr (Decidable.of_not_not c139)) ?_
               refine seqL4 (by kernel_rfl) ?_
               refine wpList_nil ?_
               refine hK138 _ _ ?_
               refine condF (by kernel_rfl) ?_
               refine wp_skip ?_
               refine hn104 _ _ ?_
               refine hn51 _ _ ?_
               refine hK48 _ _ ?_
               refine wp_region_lit ?_
               refine seqL2 (by kernel_rfl) ?_
               refine wpList_nil ?_
               refine hK33 n34 _ _ (Nat.lt_succ_self _) ?_
               have HS182 := HS101.u2
               have HS183 := HS182.u2
               have HS184 := HS183.u2
               have HS185 := HS184.drop
               have HS186 := HS185.drop
               exact ⟨f78, (w64 (x40 + 1)), (fun i_ => [(j39 0), Value.int .i64 x40, Value.pointer (some ⟨b66, 0, none⟩), Value.int .i64 vt76, Value.int .i64 (((rd l7 x40).Row).ID), Value.pointer (some ⟨b96, 0, none⟩), Value.bool ((mfind s5 (((rd l7 x40).Row).ID)).isSome), Value.bool true, Value.int .i64 x40, Value.pointer (some ⟨b62, of63 + (x40 : Int).toNat * 19, none⟩), (ag_Change (rd l7 x40) A65 c65), (ag_Change (rd l7 x40) A65 c65), Value.int .i64 vt76, Value.int .i64 vt76, Value.bool false, (j39 15), Value.pointer (some ⟨b66, 1, none⟩), Value.pointer (some ⟨b66, 1, none⟩), Value.int .i64 (((rd l7 x40).Row).ID), Value.tuple #[(ag_Row (mget zero_Row s5 (((rd l7 x40).Row).ID)) A95 c95), .bool ((mfind s5 (((rd l7 x40).Row).ID)).isSome)], Value.map (mb A1), Value.int .i64 (((rd l7 x40).Row).ID), Value.tuple #[(ag_Row (mget zero_Row s5 (((rd l7 x40).Row).ID)) A95 c95), .bool ((mfind s5 (((rd l7 x40).Row).ID)).isSome)], (ag_Row (mget zero_Row s5 (((rd l7 x40).Row).ID)) A95 c95), Value.bool ((mfind s5 (((rd l7 x40).Row).ID)).isSome), Value.bool false, Value.int .i64 x40, Value.bool true, Value.bool true, Value.int .i64 (((rd l7 x40).Row).ID), Value.slice A8 l7.length c9, Value.int .i64 x40, Value.int .i64 (w64 (x40 - 1)), Value.pointer (some ⟨b117, of118 + (w64 (x40 - 1) : Int).toNat * 19, none⟩), Value.pointer (some ⟨b117, of118 + (w64 (x40 - 1) : Int).toNat * 19 + 1, none⟩), Value.pointer (some ⟨b117, of118 + (w64 (x40 - 1) : Int).toNat * 19 + 1, none⟩), Value.int .i64 (((rd l7 (w64 (x40 - 1))).Row).ID), Value.bool false, Value.bool false, Value.bool false, Value.pointer (some ⟨b66, 0, none⟩), Value.int .i64 ((rd l7 x40).Kind), Value.bool false, Value.bool false, undef, Value.bool false, Value.bool false, Value.pointer (some ⟨b66, 0, none⟩), Value.int .i64 ((rd l7 x40).Kind), Value.bool false, Value.bool false, undef, undef, Value.bool false, Value.int .i64 (w64 (x40 + 1))].getD i_ undef), (L36.trans L79), HS186, h, (by kernel_rfl)⟩
       · have c111 : ¬ (x40 > 0) := c111
         refine seqRwI 39 (x := (decide (x40 > 0))) (v := false) (by kernel_rfl) (decide_eq_false c111) ?_
         refine seqRwI 40 (x := (decide (x40 > 0))) (v := false) (by kernel_rfl) (decide_eq_false c111) ?_
         refine seqL11 (by kernel_rfl) ?_
         refine wpList_nil ?_
         refine hK110 _ _ ?_
         refine condF (by kernel_rfl) ?_
         refine wp_seq_k (fun K144 hK145 => ?_)
         refine wp_region_lit ?_
         refine seqL1 (by kernel_rfl) ?_
         refine seqK rfl (does_run (run_load rfl Try.underlying3 rfl (by kernel_rfl : _ = Value.pointer (some ⟨b66, 0, none⟩)) (HS101.u1.cell 0)) ?_)
         refine seqS2 (a' := ⟨#[.map (mb A1), .slice A8 l7.length c9, uV, uV, (j39 0), iV x40, pV b66 0, iV vt76, iV (((rd l7 x40).Row).ID), pV b96 0, .bool ((mfind s5 (((rd l7 x40).Row).ID)).isSome), uV, uV, .slice A8 l7.length c9, iV (l7.length : Int), fV, .slice A8 l7.length c9, iV (l7.length : Int), iV x40, tV, iV x40, pV b62 (of63 + (x40 : Int).toNat * 19), (ag_Change (rd l7 x40) A65 c65), (ag_Change (rd l7 x40) A65 c65), iV vt76, iV vt76, fV, (j39 15), pV b66 1, pV b66 1, iV (((rd l7 x40).Row).ID), .tuple #[(ag_Row (mget zero_Row s5 (((rd l7 x40).Row).ID)) A95 c95), .bool ((mfind s5 (((rd l7 x40).Row).ID)).isSome)], .map (mb A1), iV (((rd l7 x40).Row).ID), .tuple #[(ag_Row (mget zero_Row s5 (((rd l7 x40).Row).ID)) A95 c95), .bool ((mfind s5 (((rd l7 x40).Row).ID)).isSome)], (ag_Row (mget zero_Row s5 (((rd l7 x40).Row).ID)) A95 c95), .bool ((mfind s5 (((rd l7 x40).Row).ID)).isSome), fV, iV x40, fV, fV, uV, uV, uV, uV, uV, uV, uV, uV, uV, fV, (j39 39), pV b66 0, iV ((rd l7 x40).Kind), .bool (((rd l7 x40).Kind) == 1), .bool (((rd l7 x40).Kind) == 1), (j39 44), (j39 45), (j39 46), (j39 47), (j39 48), (j39 49), (j39 50), (j39 51), (j39 52), (j39 53), (j39 54), uV, uV, uV, uV, uV, uV, uV, uV, uV, uV, uV, uV, uV, uV, uV, uV, uV, uV, uV, uV, uV, uV, uV], []⟩) (by kernel_rfl) ?_
         have hq_ := ite_some h; clear h; rcases hq_ with ⟨c146, h⟩ | ⟨c146, h⟩
         · have c146 : ((rd l7 x40).Kind) = 1 := c146
           refine seqRwI 54 (x := (((rd l7 x40).Kind) == 1)) (v := true) (by kernel_rfl) (beq_iff_eq.mpr c146) ?_
           refine seqRwI 55 (x := (((rd l7 x40).Kind) == 1)) (v := true) (by kernel_rfl) (beq_iff_eq.mpr c146) ?_
           refine seqL3 (by kernel_rfl) ?_
           refine wpList_nil ?_
           refine hK145 _ _ ?_
           have hq_ := ite_some h; clear h; rcases hq_ with ⟨c148, h⟩ | ⟨c148, h⟩
           · have c148 : ((mfind s5 (((rd l7 x40).Row).ID)).isSome) = true := c148
             refine wpRwI 10 (x := (mfind s5 (((rd l7 x40).Row).ID)).isSome) (v := true) (by kernel_rfl) c148 ?_
             refine wpRwI 36 (x := (mfind s5 (((rd l7 x40).Row).ID)).isSome) (v := true) (by kernel_rfl) c148 ?_
             refine wpRwI 51 (x := (mfind s5 (((rd l7 x40).Row).ID)).isSome) (v := true) (by kernel_rfl) c148 ?_
             refine wpRwI 56 (x := (mfind s5 (((rd l7 x40).Row).ID)).isSome) (v := true) (by kernel_rfl) c148 ?_
             refine wpRwI 57 (x := (mfind s5 (((rd l7 x40).Row).ID)).isSome) (v := true) (by kernel_rfl) c148 ?_
             refine condT (by kernel_rfl) ?_
             refine wp_seq_k (fun K149 hK150 => ?_)
             refine wp_region_lit ?_
             refine seqL1 (by kernel_rfl) ?_
             refine wpList_nil ?_
             refine hK150 _ _ ?_
             refine wp_ret ?_
             refine hr105 _ _ ?_
             refine hr52 _ _ ?_
             refine hr28 _ _ ?_
             refine hret _ _ ?_
             refine ends_still (v := Value.int .i64 7) (by kernel_rfl) (by kernel_rfl) ?_
             have HS367 := HS101.drop
             have HS368 := HS367.drop
             replace h := JR170 _ h
             injection h with h
             injection h with h0_ h
             subst h0_ h
             exact ⟨f78, s3, rfl, (L36.trans L79), HS368, (HO4.mono (L36.trans L79)), trivial⟩
           · have c148 : ¬ (((mfind s5 (((rd l7 x40).Row).ID)).isSome) = true) := c148
             refine wpRwI 10 (x := (mfind s5 (((rd l7 x40).Row).ID)).isSome) (v := false) (by kernel_rfl) (Bool.eq_false_iff.mpr c148) ?_
             refine wpRwI 36 (x := (mfind s5 (((rd l7 x40).Row).ID)).isSome) (v := false) (by kernel_rfl) (Bool.eq_false_iff.mpr c148) ?_
             refine wpRwI 51 (x := (mfind s5 (((rd l7 x40).Row).ID)).isSome) (v := false) (by kernel_rfl) (Bool.eq_false_iff.mpr c148) ?_
             refine wpRwI 56 (x := (mfind s5 (((rd l7 x40).Row).ID)).isSome) (v := false) (by kernel_rfl) (Bool.eq_false_iff.mpr c148) ?_
             refine wpRwI 57 (x := (mfind s5 (((rd l7 x40).Row).ID)).isSome) (v := false) (by kernel_rfl) (Bool.eq_false_iff.mpr c148) ?_
             refine condF (by kernel_rfl) ?_
             refine wp_seq_k (fun K151 hK152 => ?_)
             refine wp_region_lit ?_
             refine seqL1 (by kernel_rfl) ?_
             refine seqK rfl (does_run (run_load rfl Try.underlying3 rfl (by kernel_rfl : _ = Value.pointer (some ⟨b66, 0, none⟩)) (HS101.u1.cell 0)) ?_)
             refine seqL2 (by kernel_rfl) ?_
             have hq_ := ite_some h; clear h; rcases hq_ with ⟨c153, h⟩ | ⟨c153, h⟩
             · have c153 : ((rd l7 x40).Kind) ≠ 1 := c153
               refine seqRwI 61 (x := (((rd l7 x40).Kind) != 1)) (v := true) (by kernel_rfl) (bne_iff_ne.mpr c153) ?_
               refine seqRwI 62 (x := (((rd l7 x40).Kind) != 1)) (v := true) (by kernel_rfl) (bne_iff_ne.mpr c153) ?_
               refine seqL4 (by kernel_rfl) ?_
               refine wpList_nil ?_
               refine hK152 _ _ ?_
               refine condT (by kernel_rfl) ?_
               refine wp_seq_k (fun K154 hK155 => ?_)
               refine wp_region_lit ?_
               refine seqL1 (by kernel_rfl) ?_
               refine wpList_nil ?_
               refine hK155 _ _ ?_
               refine wp_ret ?_
               refine hr105 _ _ ?_
               refine hr52 _ _ ?_
               refine hr28 _ _ ?_
               refine hret _ _ ?_
               refine ends_still (v := Value.int .i64 8) (by kernel_rfl) (by kernel_rfl) ?_
               have HS369 := HS101.drop
               have HS370 := HS369.drop
               replace h := JR170 _ h
               injection h with h
               injection h with h0_ h
               subst h0_ h
               exact ⟨f78, s3, rfl, (L36.trans L79), HS370, (HO4.mono (L36.trans L79)), trivial⟩
             · have c153 : ¬ (((rd l7 x40).Kind) ≠ 1) := c153
               refine seqRwI 61 (x := (((rd l7 x40).Kind) != 1)) (v := false) (by kernel_rfl) (bne_eq_false_iff_eq.mpr (Decidable.of_not_not c153)) ?_
               refine seqRwI 62 (x := (((rd l7 x40).Kind) != 1)) (v := false) (by kernel_rfl) (bne_eq_false_iff_eq.mpr (Decidable.of_not_not c153)) ?_
               refine seqL4 (by kernel_rfl) ?_
               refine wpList_nil ?_
               refine hK152 _ _ ?_
               refine condF (by kernel_rfl) ?_
               refine wp_skip ?_
               refine hn104 _ _ ?_
               refine hn51 _ _ ?_
               refine hK48 _ _ ?_
               refine wp_region_lit ?_
               refine seqL2 (by kernel_rfl) ?_
               refine wpList_nil ?_
               refine hK33 n34 _ _ (Nat.lt_succ_self _) ?_
               have HS187 := HS101.u2
               have HS188 := HS187.u2
               have HS189 := HS188.u2
               have HS190 := HS189.drop
               have HS191 := HS190.drop
               exact ⟨f78, (w64 (x40 + 1)), (fun i_ => [(j39 0), Value.int .i64 x40, Value.pointer (some ⟨b66, 0, none⟩), Value.int .i64 vt76, Value.int .i64 (((rd l7 x40).Row).ID), Value.pointer (some ⟨b96, 0, none⟩), Value.bool false, Value.bool true, Value.int .i64 x40, Value.pointer (some ⟨b62, of63 + (x40 : Int).toNat * 19, none⟩), (ag_Change (rd l7 x40) A65 c65), (ag_Change (rd l7 x40) A65 c65), Value.int .i64 vt76, Value.int .i64 vt76, Value.bool false, (j39 15), Value.pointer (some ⟨b66, 1, none⟩), Value.pointer (some ⟨b66, 1, none⟩), Value.int .i64 (((rd l7 x40).Row).ID), Value.tuple #[(ag_Row (mget zero_Row s5 (((rd l7 x40).Row).ID)) A95 c95), .bool ((mfind s5 (((rd l7 x40).Row).ID)).isSome)], Value.map (mb A1), Value.int .i64 (((rd l7 x40).Row).ID), Value.tuple #[(ag_Row (mget zero_Row s5 (((rd l7 x40).Row).ID)) A95 c95), .bool ((mfind s5 (((rd l7 x40).Row).ID)).isSome)], (ag_Row (mget zero_Row s5 (((rd l7 x40).Row).ID)) A95 c95), Value.bool false, Value.bool false, Value.int .i64 x40, Value.bool false, Value.bool false, undef, undef, undef, undef, undef, undef, undef, undef, undef, Value.bool false, Value.bool false, Value.pointer (some ⟨b66, 0, none⟩), Value.int .i64 ((rd l7 x40).Kind), Value.bool true, Value.bool true, Value.bool false, Value.bool false, Value.bool false, Value.pointer (some ⟨b66, 0, none⟩), Value.int .i64 ((rd l7 x40).Kind), Value.bool false, Value.bool false, undef, undef, Value.bool false, Value.int .i64 (w64 (x40 + 1))].getD i_ undef), (L36.trans L79), HS191, h, (by kernel_rfl)⟩
         · have c146 : ¬ (((rd l7 x40).Kind) = 1) := c146
           refine seqRwI 54 (x := (((rd l7 x40).Kind) == 1)) (v := false) (by kernel_rfl) (beq_eq_false_iff_ne.mpr c146) ?_
           refine seqRwI 55 (x := (((rd l7 x40).Kind) == 1)) (v := false) (by kernel_rfl) (beq_eq_false_iff_ne.mpr c146) ?_
           refine seqL3 (by kernel_rfl) ?_
           refine wpList_nil ?_
           refine hK145 _ _ ?_
           refine condF (by kernel_rfl) ?_
           refine wp_seq_k (fun K156 hK157 => ?_)
           refine wp_region_lit ?_
           refine seqL1 (by kernel_rfl) ?_
           refine seqK rfl (does_run (run_load rfl Try.underlying3 rfl (by kernel_rfl : _ = Value.pointer (some ⟨b66, 0, none⟩)) (HS101.u1.cell 0)) ?_)
           refine seqL2 (by kernel_rfl) ?_
           have hq_ := ite_some h; clear h; rcases hq_ with ⟨c158, h⟩ | ⟨c158, h⟩
           · have c158 : ((rd l7 x40).Kind) ≠ 1 := c158
             refine seqRwI 61 (x := (((rd l7 x40).Kind) != 1)) (v := true) (by kernel_rfl) (bne_iff_ne.mpr c158) ?_
             refine seqRwI 62 (x := (((rd l7 x40).Kind) != 1)) (v := true) (by kernel_rfl) (bne_iff_ne.mpr c158) ?_
             refine seqL4 (by kernel_rfl) ?_
             refine wpList_nil ?_
             refine hK157 _ _ ?_
             have hq_ := ite_some h; clear h; rcases hq_ with ⟨c160, h⟩ | ⟨c160, h⟩
             · have c160 : ¬ (((mfind s5 (((rd l7 x40).Row).ID)).isSome) = true) := c160
               refine wpRwI 58 (x := (!((mfind s5 (((rd l7 x40).Row).ID)).isSome))) (v := true) (by kernel_rfl) (congrArg (fun b_ => !b_) (show (mfind s5 (((rd l7 x40).Row).ID)).isSome = false from (Bool.eq_false_iff.mpr c160)) : (!((mfind s5 (((rd l7 x40).Row).ID)).isSome)) = true) ?_
               refine wpRwI 64 (x := (!((mfind s5 (((rd l7 x40).Row).ID)).isSome))) (v := true) (by kernel_rfl) (congrArg (fun b_ => !b_) (show (mfind s5 (((rd l7 x40).Row).ID)).isSome = false from (Bool.eq_false_iff.mpr c160)) : (!((mfind s5 (((rd l7 x40).Row).ID)).isSome)) = true) ?_
               refine wpRwI 65 (x := (!((mfind s5 (((rd l7 x40).Row).ID)).isSome))) (v := true) (by kernel_rfl) (congrArg (fun b_ => !b_) (show (mfind s5 (((rd l7 x40).Row).ID)).isSome = false from (Bool.eq_false_iff.mpr c160)) : (!((mfind s5 (((rd l7 x40).Row).ID)).isSome)) = true) ?_
               refine condT (by kernel_rfl) ?_
               refine wp_seq_k (fun K161 hK162 => ?_)
               refine wp_region_lit ?_
               refine seqL1 (by kernel_rfl) ?_
               refine wpList_nil ?_
               refine hK162 _ _ ?_
               refine wp_ret ?_
               refine hr105 _ _ ?_
               refine hr52 _ _ ?_
               refine hr28 _ _ ?_
               refine hret _ _ ?_
               refine ends_still (v := Value.int .i64 8) (by kernel_rfl) (by kernel_rfl) ?_
               have HS371 := HS101.drop
               have HS372 := HS371.drop
               replace h := JR170 _ h
               injection h with h
               injection h with h0_ h
               subst h0_ h
               exact ⟨f78, s3, rfl, (L36.trans L79), HS372, (HO4.mono (L36.trans L79)), trivial⟩
             · have c160 : ¬ (¬ (((mfind s5 (((rd l7 x40).Row).ID)).isSome) = true)) := c160
               refine wpRwI 58 (x := (!((mfind s5 (((rd l7 x40).Row).ID)).isSome))) (v := false) (by kernel_rfl) (congrArg (fun b_ => !b_) (show (mfind s5 (((rd l7 x40).Row).ID)).isSome = true from (Decidable.of_not_not c160)) : (!((mfind s5 (((rd l7 x40).Row).ID)).isSome)) = false) ?_
               refine wpRwI 64 (x := (!((mfind s5 (((rd l7 x40).Row).ID)).isSome))) (v := false) (by kernel_rfl) (congrArg (fun b_ => !b_) (show (mfind s5 (((rd l7 x40).Row).ID)).isSome = true from (Decidable.of_not_not c160)) : (!((mfind s5 (((rd l7 x40).Row).ID)).isSome)) = false) ?_
               refine wpRwI 65 (x := (!((mfind s5 (((rd l7 x40).Row).ID)).isSome))) (v := false) (by kernel_rfl) (congrArg (fun b_ => !b_) (show (mfind s5 (((rd l7 x40).Row).ID)).isSome = true from (Decidable.of_not_not c160)) : (!((mfind s5 (((rd l7 x40).Row).ID)).isSome)) = false) ?_
               refine condF (by kernel_rfl) ?_
               refine wp_skip ?_
               refine hn104 _ _ ?_
               refine hn51 _ _ ?_
               refine hK48 _ _ ?_
               refine wp_region_lit ?_
               refine seqL2 (by kernel_rfl) ?_
               refine wpList_nil ?_
               refine hK33 n34 _ _ (Nat.lt_succ_self _) ?_
               have HS192 := HS101.u2
               have HS193 := HS192.u2
               have HS194 := HS193.u2
               have HS195 := HS194.drop
               have HS196 := HS195.drop
               exact ⟨f78, (w64 (x40 + 1)), (fun i_ => [(j39 0), Value.int .i64 x40, Value.pointer (some ⟨b66, 0, none⟩), Value.int .i64 vt76, Value.int .i64 (((rd l7 x40).Row).ID), Value.pointer (some ⟨b96, 0, none⟩), Value.bool ((mfind s5 (((rd l7 x40).Row).ID)).isSome), Value.bool true, Value.int .i64 x40, Value.pointer (some ⟨b62, of63 + (x40 : Int).toNat * 19, none⟩), (ag_Change (rd l7 x40) A65 c65), (ag_Change (rd l7 x40) A65 c65), Value.int .i64 vt76, Value.int .i64 vt76, Value.bool false, (j39 15), Value.pointer (some ⟨b66, 1, none⟩), Value.pointer (some ⟨b66, 1, none⟩), Value.int .i64 (((rd l7 x40).Row).ID), Value.tuple #[(ag_Row (mget zero_Row s5 (((rd l7 x40).Row).ID)) A95 c95), .bool ((mfind s5 (((rd l7 x40).Row).ID)).isSome)], Value.map (mb A1), Value.int .i64 (((rd l7 x40).Row).ID), Value.tuple #[(ag_Row (mget zero_Row s5 (((rd l7 x40).Row).ID)) A95 c95), .bool ((mfind s5 (((rd l7 x40).Row).ID)).isSome)], (ag_Row (mget zero_Row s5 (((rd l7 x40).Row).ID)) A95 c95), Value.bool ((mfind s5 (((rd l7 x40).Row).ID)).isSome), Value.bool false, Value.int .i64 x40, Value.bool false, Value.bool false, undef, undef, undef, undef, undef, undef, undef, undef, undef, Value.bool false, Value.bool false, Value.pointer (some ⟨b66, 0, none⟩), Value.int .i64 ((rd l7 x40).Kind), Value.bool false, Value.bool false, undef, Value.bool false, Value.bool false, Value.pointer (some ⟨b66, 0, none⟩), Value.int .i64 ((rd l7 x40).Kind), Value.bool true, Value.bool true, Value.bool ((mfind s5 (((rd l7 x40).Row).ID)).isSome), Value.bool false, Value.bool false, Value.int .i64 (w64 (x40 + 1))].getD i_ undef), (L36.trans L79), HS196, h, (by kernel_rfl)⟩
           · have c158 : ¬ (((rd l7 x40).Kind) ≠ 1) := c158
             refine seqRwI 61 (x := (((rd l7 x40).Kind) != 1)) (v := false) (by kernel_rfl) (bne_eq_false_iff_eq.mpr (Decidable.of_not_not c158)) ?_
             refine seqRwI 62 (x := (((rd l7 x40).Kind) != 1)) (v := false) (by kernel_rfl) (bne_eq_false_iff_eq.mpr (Decidable.of_not_not c158)) ?_
             refine seqL4 (by kernel_rfl) ?_
             refine wpList_nil ?_
             refine hK157 _ _ ?_
             refine condF (by kernel_rfl) ?_
             refine wp_skip ?_
             refine hn104 _ _ ?_
             refine hn51 _ _ ?_
             refine hK48 _ _ ?_
             refine wp_region_lit ?_
             refine seqL2 (by kernel_rfl) ?_
             refine wpList_nil ?_
             refine hK33 n34 _ _ (Nat.lt_succ_self _) ?_
             have HS197 := HS101.u2
             have HS198 := HS197.u2
             have HS199 := HS198.u2
             have HS200 := HS199.drop
             have HS201 := HS200.drop
             exact ⟨f78, (w64 (x40 + 1)), (fun i_ => [(j39 0), Value.int .i64 x40, Value.pointer (some ⟨b66, 0, none⟩), Value.int .i64 vt76, Value.int .i64 (((rd l7 x40).Row).ID), Value.pointer (some ⟨b96, 0, none⟩), Value.bool ((mfind s5 (((rd l7 x40).Row).ID)).isSome), Value.bool true, Value.int .i64 x40, Value.pointer (some ⟨b62, of63 + (x40 : Int).toNat * 19, none⟩), (ag_Change (rd l7 x40) A65 c65), (ag_Change (rd l7 x40) A65 c65), Value.int .i64 vt76, Value.int .i64 vt76, Value.bool false, (j39 15), Value.pointer (some ⟨b66, 1, none⟩), Value.pointer (some ⟨b66, 1, none⟩), Value.int .i64 (((rd l7 x40).Row).ID), Value.tuple #[(ag_Row (mget zero_Row s5 (((rd l7 x40).Row).ID)) A95 c95), .bool ((mfind s5 (((rd l7 x40).Row).ID)).isSome)], Value.map (mb A1), Value.int .i64 (((rd l7 x40).Row).ID), Value.tuple #[(ag_Row (mget zero_Row s5 (((rd l7 x40).Row).ID)) A95 c95), .bool ((mfind s5 (((rd l7 x40).Row).ID)).isSome)], (ag_Row (mget zero_Row s5 (((rd l7 x40).Row).ID)) A95 c95), Value.bool ((mfind s5 (((rd l7 x40).Row).ID)).isSome), Value.bool false, Value.int .i64 x40, Value.bool false, Value.bool false, undef, undef, undef, undef, undef, undef, undef, undef, undef, Value.bool false, Value.bool false, Value.pointer (some ⟨b66, 0, none⟩), Value.int .i64 ((rd l7 x40).Kind), Value.bool false, Value.bool false, undef, Value.bool false, Value.bool false, Value.pointer (some ⟨b66, 0, none⟩), Value.int .i64 ((rd l7 x40).Kind), Value.bool false, Value.bool false, undef, undef, Value.bool false, Value.int .i64 (w64 (x40 + 1))].getD i_ undef), (L36.trans L79), HS201, h, (by kernel_rfl)⟩
   · have c46 : ¬ (x40 < (l7.length : Int)) := c46
     refine wpRwI 19 (x := (decide (x40 < (l7.length : Int)))) (v := false) (by kernel_rfl) (decide_eq_false c46) ?_
     refine condF (by kernel_rfl) ?_
     refine wp_exit ?_
     refine hx26 _ _ ?_
     exact J169 f35 (fun i_ => [(j39 0), (j39 1), (j39 2), (j39 3), (j39 4), (j39 5), (j39 6), Value.int .i64 x40, Value.bool false, (j39 8), (j39 9), (j39 10), (j39 11), (j39 12), (j39 13), (j39 14), (j39 15), (j39 16), (j39 17), (j39 18), (j39 19), (j39 20), (j39 21), (j39 22), (j39 23), (j39 24), (j39 25), (j39 26), (j39 27), (j39 28), (j39 29), (j39 30), (j39 31), (j39 32), (j39 33), (j39 34), (j39 35), (j39 36), (j39 37), (j39 38), (j39 39), (j39 40), (j39 41), (j39 42), (j39 43), (j39 44), (j39 45), (j39 46), (j39 47), (j39 48), (j39 49), (j39 50), (j39 51), (j39 52), (j39 53), (j39 54)].getD i_ undef) W37 _ L36 h HS38 (by kernel_rfl)

set_option maxRecDepth 100000 in
set_option maxHeartbeats 4000000 in
theorem catalog_replay.calls (k : Nat) (A2 : Option Addr) (c3 : Nat) (c1 : S_Catalog) (versions5 : Int) {t w : World} {f : FM} {H : List Seg} (HS : St t w f (H)) (HR4 : SlR (tSl ty_Change) f A2 c3 c1.Commits) (rr1 : List (Int × S_Row)) (rr2 : Int) (h : catalog_replay k c1 versions5 = some (rr1, rr2)) :
    Calls Try.prog 30 #[.agg #[.slice A2 c1.Commits.length c3], .int .i64 versions5] w (fun e w' => ∃ (g : FM) (A169 : Option Addr) (c170 : Nat) (s171 : Seg), e = .returned (Value.tuple #[.map (mb A169), .int .i64 rr2]) ∧ FM.le f g ∧ St t w' g (s171 :: H) ∧ OwnM (mty ty_Row) 100085 g A169 c170 s171 rr1) := by
 unfold catalog_replay at h
 refine enter Try.func30 rfl (tm := #[.agg #[.slice A2 c1.Commits.length c3], iV versions5, uV, uV, uV, uV, uV, uV, uV, uV, uV, uV, uV, uV, uV, uV, uV, uV, uV, uV, uV, uV, uV, uV, uV, uV, uV, uV, uV, uV, uV, uV, uV, uV]) (by kernel_rfl) ?_
 intro B hret hnor hnp
 refine wp_seq_k (fun K6 hK7 => ?_)
 refine wp_region_lit ?_
 refine seqK rfl (does_box (cs := #[.slice A2 c1.Commits.length c3]) rfl (by kernel_rfl : _ = Value.agg #[.slice A2 c1.Commits.length c3]) rfl HS ?_)
 intro b8 W9 HS10
 refine seqL2 (by kernel_rfl) ?_
 refine wpList_nil ?_
 refine hK7 _ _ ?_
 refine wp_seq_k (fun K12 hK13 => ?_)
 refine wp_region_lit ?_
 refine seqK rfl (does_makeMapR (mty ty_Row) 100085 rfl HS10 ?_)
 intro b14 W15 s16 HS17 HO18
 refine seqL1 (by kernel_rfl) ?_
 refine wpList_nil ?_
 refine hK13 _ _ ?_
 refine wp_seq_k (fun K20 hK21 => ?_)
 refine wp_seq_k (fun K22 hK23 => ?_)
 refine wp_region_lit ?_
 refine seqL1 (by kernel_rfl) ?_
 refine seqK rfl (does_run (run_load rfl Try.underlying32 rfl (by kernel_rfl : _ = Value.pointer (some ⟨b8, 0, none⟩)) (HS17.u1.cell 0)) ?_)
 refine seqL2 (by kernel_rfl) ?_
 refine wpList_nil ?_
 refine hK23 _ _ ?_
 have hq_ := ite_some h; clear h; rcases hq_ with ⟨c25, h⟩ | ⟨c25, h⟩
 · have c25 : (c1.Commits.length : Int) > 32 := c25
   refine wpRwI 14 (x := (decide ((c1.Commits.length : Int) > 32))) (v := true) (by kernel_rfl) (decide_eq_true c25) ?_
   refine condT (by kernel_rfl) ?_
   refine wp_seq_k (fun K26 hK27 => ?_)
   refine wp_region_lit ?_
   refine seqL3 (by kernel_rfl) ?_
   refine wpList_nil ?_
   refine hK27 _ _ ?_
   refine wp_ret ?_
   refine hret _ _ ?_
   refine ends_still (v := Value.tuple #[.map (mb (some ⟨b14, 0, none⟩)), .int .i64 2]) (by kernel_rfl) (by kernel_rfl) ?_
   have HS163 := HS17.u1
   have HS164 := HS163.drop
   injection h with h
   injection h with h0_ h
   subst h0_ h
   exact ⟨f, (some ⟨b14, 0, none⟩), 0, s16, rfl, FM.le.refl _, HS164, HO18⟩
 · have c25 : ¬ ((c1.Commits.length : Int) > 32) := c25
   refine wpRwI 14 (x := (decide ((c1.Commits.length : Int) > 32))) (v := false) (by kernel_rfl) (decide_eq_false c25) ?_
   refine condF (by kernel_rfl) ?_
   refine wp_skip ?_
   refine hK21 _ _ ?_
   refine wp_seq_k (fun K28 hK29 => ?_)
   refine wp_seq_k (fun K30 hK31 => ?_)
   refine wp_region_lit ?_
   refine seqL1 (by kernel_rfl) ?_
   refine seqK rfl (does_run (run_load rfl Try.underlying32 rfl (by kernel_rfl : _ = Value.pointer (some ⟨b8, 0, none⟩)) (HS17.u1.cell 0)) ?_)
   have hq_ := guard_some h; clear h; obtain ⟨c32, h⟩ := hq_
   have c32 : 0 ≤ versions5 := c32
   have hq_ := guard_some h; clear h; obtain ⟨c33, h⟩ := hq_
   have c33 : versions5 ≤ (c1.Commits.length : Int) := c33
   refine seqL1 (by kernel_rfl) ?_
   refine seqK rfl (does_run (run_cutH (e := (tSl ty_Change)) (xs := c1.Commits) rfl Try.underlying32 (by kernel_rfl) (by kernel_rfl : _ = Value.slice A2 c1.Commits.length c3) (by kernel_rfl : _ = Value.int .i64 versions5) c32 c33 HR4.le W15) ?_)
   refine seqL2 (by kernel_rfl) ?_
   refine wpList_nil ?_
   refine hK31 _ _ ?_
   refine blockK (fun B34 hx35 hn36 hr37 ho38 hp39 => ?_)
   have hq_ := bind_some h; clear h; obtain ⟨o93, hv157, h⟩ := hq_
   have JR159 : ∀ z_, some (Sum.inl z_) = some o93 → some z_ = some (rr1, rr2) := by
    intro z_ e_; injection e_ with e_; subst e_; exact h
   have J158 : ∀ (f149 : FM) (s155 : Seg) (s154 : List (Int × S_Row)) (j153 : Nat → Value) (W151 : World) (a_ : Act), FM.le f f149 → some (Sum.inr s154) = some o93 → St t W151 f149 (s155 :: [(b8, .cells #[.slice A2 c1.Commits.length c3] 34 (0, 0))] :: H) → OwnM (mty ty_Row) 100085 f149 (some ⟨b14, 0, none⟩) 0 s155 s154 → a_ = ⟨#[.agg #[.slice A2 c1.Commits.length c3], iV versions5, pV b8 0, uV, (j153 0), (j153 1), .map (mb (some ⟨b14, 0, none⟩)), uV, (j153 2), (j153 3), (j153 4), pV b8 0, .slice A2 c1.Commits.length c3, iV (c1.Commits.length : Int), fV, uV, pV b8 0, .slice A2 c1.Commits.length c3, iV versions5, .slice A2 (c1.Commits.take (versions5).toNat).length c3, iV ((c1.Commits.take (versions5).toNat).length : Int), (j153 5), (j153 6), (j153 7), (j153 8), (j153 9), (j153 10), (j153 11), (j153 12), (j153 13), (j153 14), (j153 15), (j153 16), uV], []⟩ → K28 a_ W151 := by
    intro f149 s155 s154 j153 W151 a_ L150 hj160 HS152 HO156 hfr_; subst hfr_
    injection hj160 with hj160; subst hj160; try dsimp only at h
    simp only [Sum.elim_inr] at h
    refine hK29 _ _ ?_
    refine wp_seq_k (fun K161 hK162 => ?_)
    refine wp_region_lit ?_
    refine seqL3 (by kernel_rfl) ?_
    refine wpList_nil ?_
    refine hK162 _ _ ?_
    refine wp_ret ?_
    refine hret _ _ ?_
    refine ends_still (v := Value.tuple #[.map (mb (some ⟨b14, 0, none⟩)), .int .i64 0]) (by kernel_rfl) (by kernel_rfl) ?_
    have HS167 := HS152.u1
    have HS168 := HS167.drop
    injection h with h
    injection h with h0_ h
    subst h0_ h
    exact ⟨f149, (some ⟨b14, 0, none⟩), 0, s155, rfl, L150, HS168, HO156⟩
   clear h; have h := hv157; clear hv157
   refine loopK (fun n_ a_ w_ => ∃ (f97 : FM) (s103 : Seg) (s102 : List (Int × S_Row)) (x105 : Int) (j101 : Nat → Value), FM.le f f97 ∧ St t w_ f97 (s103 :: [(b8, .cells #[.slice A2 c1.Commits.length c3] 34 (0, 0))] :: H) ∧ OwnM (mty ty_Row) 100085 f97 (some ⟨b14, 0, none⟩) 0 s103 s102 ∧ catalog_replay.l0 k c1 versions5 n_ s102 x105 = some o93 ∧ a_ = ⟨#[.agg #[.slice A2 c1.Commits.length c3], iV versions5, pV b8 0, uV, (j101 0), (j101 1), .map (mb (some ⟨b14, 0, none⟩)), uV, (j101 2), (j101 3), .map (mb (some ⟨b14, 0, none⟩)), pV b8 0, .slice A2 c1.Commits.length c3, iV (c1.Commits.length : Int), fV, uV, pV b8 0, .slice A2 c1.Commits.length c3, iV versions5, .slice A2 (c1.Commits.take (versions5).toNat).length c3, iV ((c1.Commits.take (versions5).toNat).length : Int), iV x105, (j101 4), (j101 5), (j101 6), (j101 7), (j101 8), (j101 9), (j101 10), (j101 11), (j101 12), (j101 13), (j101 14), uV], []⟩) k ⟨f, s16, ([] : List (Int × S_Row)), 0, (fun i_ => [Value.map none, Value.int .i64 0, undef, undef, undef, undef, undef, undef, undef, undef, undef, undef, undef, undef, undef].getD i_ undef), (FM.le.refl _), HS17, HO18, h, (by kernel_rfl)⟩ ?_
   clear h
   rintro n96 _ W99 ⟨f97, s103, s102, x105, j101, L98, HS100, HO104, h, rfl⟩ K94 hK95
   obtain _ | n96 := n96
   · exact nomatch h
   simp only [catalog_replay.l0] at h
   refine wp_seq_k (fun K106 hK107 => ?_)
   refine wp_region_lit ?_
   refine seqL1 (by kernel_rfl) ?_
   refine wpList_nil ?_
   refine hK107 _ _ ?_
   refine wp_seq_k (fun K108 hK109 => ?_)
   have hq_ := ite_some h; clear h; rcases hq_ with ⟨c111, h⟩ | ⟨c111, h⟩
   · have c111 : x105 < ((c1.Commits.take (versions5).toNat).length : Int) := c111
     refine wpRwI 22 (x := (decide (x105 < ((c1.Commits.take (versions5).toNat).length : Int)))) (v := true) (by kernel_rfl) (decide_eq_true c111) ?_
     refine condT (by kernel_rfl) ?_
     refine wp_skip ?_
     refine hK109 _ _ ?_
     refine wp_seq_k (fun K112 hK113 => ?_)
     refine blockK (fun B114 hx115 hn116 hr117 ho118 hp119 => ?_)
     refine wp_seq_k (fun K121 hK122 => ?_)
     refine wp_region_lit ?_
     have hq_ := guard_some h; clear h; obtain ⟨c123, h⟩ := hq_
     have c123 : 0 ≤ x105 := c123
     obtain ⟨b127, of128, cs124, hA129, hr125, hc126⟩ := ((HR4.take (versions5).toNat).mono L98).at (i := x105) c123 c111
     obtain ⟨A130, c130, rfl, HR130⟩ := hr125
     refine seqK rfl (does_run (run_indexE hA129 (sz := 1) rfl Try.underlying32 (by kernel_rfl) (by kernel_rfl : _ = Value.slice A2 (c1.Commits.take (versions5).toNat).length c3) (by kernel_rfl : _ = Value.int .i64 x105) c123 c111 W99) ?_)
     refine seqK rfl (does_run (run_load rfl Try.underlying28 rfl (by kernel_rfl : _ = Value.pointer (some ⟨b127, of128 + (x105 : Int).toNat * 1, none⟩)) ((hc126 (FM.le.refl _) HS100) 0 (by decide))) ?_)
     refine seqL1 (by kernel_rfl) ?_
     refine wpList_nil ?_
     refine hK122 _ _ ?_
     refine wp_seq_k (fun K131 hK132 => ?_)
     refine wp_region_lit ?_
     have hq_ := bind_some h; clear h; obtain ⟨⟨vt133, vt134⟩, hc135, h⟩ := hq_
     refine seqL2 (by kernel_rfl) ?_
     refine seqK rfl (does_call (f := 31) (args := #[.map (mb (some ⟨b14, 0, none⟩)), .slice A130 (rd (c1.Commits.take (versions5).toNat) x105).length c130]) (by kernel_rfl) (catalog_state_apply.calls k (some ⟨b14, 0, none⟩) 0 s103 A130 c130 s102 (rd (c1.Commits.take (versions5).toNat) x105) HS100 HO104 HR130 vt133 vt134 hc135) ?_)
     rintro _ W138 ⟨f136, s140, rfl, L137, HS139, HO141, HL142⟩
     refine ⟨_, rfl, ?_⟩
     refine seqL1 (by kernel_rfl) ?_
     refine wpList_nil ?_
     refine hK132 _ _ ?_
     refine wp_seq_k (fun K143 hK144 => ?_)
     refine wp_region_lit ?_
     refine seqL2 (by kernel_rfl) ?_
     refine wpList_nil ?_
     refine hK144 _ _ ?_
     have hq_ := ite_some h; clear h; rcases hq_ with ⟨c146, h⟩ | ⟨c146, h⟩
     · have c146 : vt133 ≠ 0 := c146
       refine wpRwI 29 (x := (vt133 != 0)) (v := true) (by kernel_rfl) (bne_iff_ne.mpr c146) ?_
       refine condT (by kernel_rfl) ?_
       refine wp_seq_k (fun K147 hK148 => ?_)
       refine wp_region_lit ?_
       refine seqL4 (by kernel_rfl) ?_
       refine wpList_nil ?_
       refine hK148 _ _ ?_
       refine wp_ret ?_
       refine hr117 _ _ ?_
       refine hr37 _ _ ?_
       refine hret _ _ ?_
       refine ends_still (v := Value.tuple #[.map (mb (some ⟨b14, 0, none⟩)), .int .i64 vt133]) (by kernel_rfl) (by kernel_rfl) ?_
       have HS165 := HS139.u1
       have HS166 := HS165.drop
       replace h := JR159 _ h
       injection h with h
       injection h with h0_ h
       subst h0_ h
       exact ⟨f136, (some ⟨b14, 0, none⟩), 0, s140, rfl, (L98.trans L137), HS166, HO141⟩
     · have c146 : ¬ (vt133 ≠ 0) := c146
       refine wpRwI 29 (x := (vt133 != 0)) (v := false) (by kernel_rfl) (bne_eq_false_iff_eq.mpr (Decidable.of_not_not c146)) ?_
       refine condF (by kernel_rfl) ?_
       refine wp_skip ?_
       refine hn116 _ _ ?_
       refine hK113 _ _ ?_
       refine wp_region_lit ?_
       refine seqL2 (by kernel_rfl) ?_
       refine wpList_nil ?_
       refine hK95 n96 _ _ (Nat.lt_succ_self _) ?_
       exact ⟨f136, s140, vt134, (w64 (x105 + 1)), (fun i_ => [(j101 0), (j101 1), Value.slice A130 (rd (c1.Commits.take (versions5).toNat) x105).length c130, Value.int .i64 vt133, Value.bool true, Value.pointer (some ⟨b127, of128 + (x105 : Int).toNat * 1, none⟩), Value.slice A130 (rd (c1.Commits.take (versions5).toNat) x105).length c130, Value.map (mb (some ⟨b14, 0, none⟩)), Value.slice A130 (rd (c1.Commits.take (versions5).toNat) x105).length c130, Value.int .i64 vt133, Value.int .i64 vt133, Value.bool false, (j101 12), (j101 13), Value.int .i64 (w64 (x105 + 1))].getD i_ undef), (L98.trans L137), HS139, HO141, h, (by kernel_rfl)⟩
   · have c111 : ¬ (x105 < ((c1.Commits.take (versions5).toNat).length : Int)) := c111
     refine wpRwI 22 (x := (decide (x105 < ((c1.Commits.take (versions5).toNat).length : Int)))) (v := false) (by kernel_rfl) (decide_eq_false c111) ?_
     refine condF (by kernel_rfl) ?_
     refine wp_exit ?_
     refine hx35 _ _ ?_
     exact J158 f97 s103 s102 (fun i_ => [(j101 0), (j101 1), (j101 2), (j101 3), Value.map (mb (some ⟨b14, 0, none⟩)), Value.int .i64 x105, Value.bool false, (j101 5), (j101 6), (j101 7), (j101 8), (j101 9), (j101 10), (j101 11), (j101 12), (j101 13), (j101 14)].getD i_ undef) W99 _ L98 h HS100 HO104 (by kernel_rfl)

set_option maxRecDepth 100000 in
set_option maxHeartbeats 4000000 in
theorem catalog_Commit.calls (k : Nat) (A2 : Option Addr) (c3 : Nat) (A6 : Option Addr) (c7 : Nat) (c1 : S_Catalog) (l5 : List S_Change) {t w : World} {f : FM} {H : List Seg} (HS : St t w f (H)) (HR4 : SlR (tSl ty_Change) f A2 c3 c1.Commits) (HR8 : SlR ty_Change f A6 c7 l5) (rr1 : S_Catalog) (rr2 : Int) (rr3 : Int) (h : catalog_Commit k c1 l5 = some (rr1, rr2, rr3)) :
    Calls Try.prog 9 #[.agg #[.slice A2 c1.Commits.length c3], .slice A6 l5.length c7] w (fun e w' => ∃ (g : FM) (A363 : Option Addr) (c364 : Nat) (s365 : Seg), e = .returned (Value.tuple #[.agg #[.slice A363 rr1.Commits.length c364], .int .i64 rr2, .int .i64 rr3]) ∧ FM.le f g ∧ St t w' g (s365 :: H) ∧ Own (tSl ty_Change) 28 g A363 c364 s365 rr1.Commits) := by
 unfold catalog_Commit at h
 refine enter Try.func9 rfl (tm := #[.agg #[.slice A2 c1.Commits.length c3], .slice A6 l5.length c7, uV, uV, uV, uV, uV, uV, uV, uV, uV, uV, uV, uV, uV, uV, uV, uV, uV, uV, uV, uV, uV, uV, uV, uV, uV, uV, uV, uV, uV, uV, uV, uV, uV, uV, uV, uV, uV, uV, uV, uV, uV, uV, uV, uV, uV, uV, uV, uV, uV, uV, uV, uV, uV, uV, uV, uV, uV, uV, uV, uV, uV, uV, uV]) (by kernel_rfl) ?_
 intro B hret hnor hnp
 refine wp_seq_k (fun K9 hK10 => ?_)
 refine wp_region_lit ?_
 refine seqK rfl (does_box (cs := #[.slice A2 c1.Commits.length c3]) rfl (by kernel_rfl : _ = Value.agg #[.slice A2 c1.Commits.length c3]) rfl HS ?_)
 intro b11 W12 HS13
 refine seqK rfl (does_alloc (z := Value.agg #[.slice none 0 0]) (cs := #[.slice none 0 0]) rfl (by kernel_rfl) rfl HS13 ?_)
 intro b15 W16 HS17
 refine seqL2 (by kernel_rfl) ?_
 refine wpList_nil ?_
 refine hK10 _ _ ?_
 refine wp_seq_k (fun K19 hK20 => ?_)
 refine wp_region_lit ?_
 refine seqK rfl (does_run (run_loadN (n := 1) rfl Try.underlying34 rfl (by kernel_rfl) (by kernel_rfl : _ = Value.pointer (some ⟨b11, 0, none⟩)) (cs := [.slice A2 c1.Commits.length c3]) rfl (HS17.u1.cells 0 1 _ rfl)) ?_)
 refine seqL1 (by kernel_rfl) ?_
 refine seqK rfl (does_run (run_load rfl Try.underlying32 rfl (by kernel_rfl : _ = Value.pointer (some ⟨b11, 0, none⟩)) (HS17.u1.cell 0)) ?_)
 have hq_ := bind_some h; clear h; obtain ⟨⟨vt21, vt22⟩, hc23, h⟩ := hq_
 refine seqL1 (by kernel_rfl) ?_
 refine seqK rfl (does_call (f := 30) (args := #[.agg #[.slice A2 c1.Commits.length c3], .int .i64 (c1.Commits.length : Int)]) (by kernel_rfl) (catalog_replay.calls k A2 c3 c1 (c1.Commits.length : Int) HS17 HR4 vt21 vt22 hc23) ?_)
 rintro _ W26 ⟨f24, A28, c29, s30, rfl, L25, HS27, HO31⟩
 refine ⟨_, rfl, ?_⟩
 refine seqL5 (by kernel_rfl) ?_
 refine wpList_nil ?_
 refine hK20 _ _ ?_
 refine wp_seq_k (fun K33 hK34 => ?_)
 refine blockK (fun B35 hx36 hn37 hr38 ho39 hp40 => ?_)
 refine wp_seq_k (fun K42 hK43 => ?_)
 refine wp_region_lit ?_
 refine seqL3 (by kernel_rfl) ?_
 refine wpList_nil ?_
 refine hK43 _ _ ?_
 have hq_ := ite_some h; clear h; rcases hq_ with ⟨c45, h⟩ | ⟨c45, h⟩
 · have c45 : vt22 ≠ 0 := c45
   refine wpRwI 21 (x := (vt22 != 0)) (v := true) (by kernel_rfl) (bne_iff_ne.mpr c45) ?_
   refine wpRwI 23 (x := (vt22 != 0)) (v := true) (by kernel_rfl) (bne_iff_ne.mpr c45) ?_
   refine condT (by kernel_rfl) ?_
   refine wp_seq_k (fun K46 hK47 => ?_)
   refine wp_region_lit ?_
   have HS48 := HS27.u1
   refine seqL2 (by kernel_rfl) ?_
   refine seqK rfl (does_store (n := 1) (vs := [.slice none 0 0]) (cs' := #[.slice none 0 0]) rfl (by kernel_rfl) (by kernel_rfl : _ = Value.pointer (some ⟨b15, 0, none⟩)) (by kernel_rfl : _ = Value.agg #[.slice none 0 0]) rfl rfl (by intro u_ hu_; simp only [List.mem_cons, List.not_mem_nil, or_false] at hu_; subst hu_; rfl) HS48 (Nat.le_of_ble_eq_true rfl) (by kernel_rfl) ?_)
   intro W49 HS50
   refine seqS2 (a' := ⟨#[.agg #[.slice A2 c1.Commits.length c3], .slice A6 l5.length c7, pV b11 0, uV, pV b15 0, iV 0, iV vt22, .map (mb A28), iV vt22, uV, uV, uV, uV, .tuple #[.map (mb A28), iV vt22], .agg #[.slice A2 c1.Commits.length c3], pV b11 0, .slice A2 c1.Commits.length c3, iV (c1.Commits.length : Int), .tuple #[.map (mb A28), iV vt22], .map (mb A28), iV vt22, tV, iV vt22, tV, .agg #[.slice none 0 0], iV vt22, uV, uV, uV, uV, uV, uV, uV, uV, uV, uV, uV, uV, uV, uV, uV, uV, uV, uV, uV, uV, uV, uV, uV, uV, uV, uV, uV, uV, uV, uV, uV, uV, uV, uV, uV, uV, uV, uV, uV], []⟩) (by kernel_rfl) ?_
   refine wpList_nil ?_
   refine hK47 _ _ ?_
   refine wp_ret ?_
   refine hr38 _ _ ?_
   refine hret _ _ ?_
   have HS330 := HS50.cons_nil
   refine ends (v := Value.tuple #[.agg #[.slice none 0 0], .int .i64 0, .int .i64 vt22]) (results3 (q1 := .cell 4 34) (q2 := .tmp 5) (q3 := .tmp 6) (by kernel_rfl) (resN (n := 1) (cs := [.slice none 0 0]) (by kernel_rfl : _ = Value.pointer (some ⟨b15, 0, none⟩)) Try.underlying34 rfl (by kernel_rfl) rfl (HS330.u1.cells 0 1 _ rfl)) (resT (by kernel_rfl : _ = Value.int .i64 0)) (resT (by kernel_rfl : _ = Value.int .i64 vt22))) (by kernel_rfl) ?_
   have HS332 := HS330.u3
   have HS333 := HS332.u3
   have HS334 := HS333.u3
   have HS335 := HS334.drop
   have HS336 := HS335.drop
   have HS337 := HS336.drop
   injection h with h
   injection h with h0_ h
   injection h with h1_ h
   subst h0_ h1_ h
   exact ⟨f24, none, 0, [], rfl, L25, HS337, (Own.nil _)⟩
 · have c45 : ¬ (vt22 ≠ 0) := c45
   refine wpRwI 21 (x := (vt22 != 0)) (v := false) (by kernel_rfl) (bne_eq_false_iff_eq.mpr (Decidable.of_not_not c45)) ?_
   refine wpRwI 23 (x := (vt22 != 0)) (v := false) (by kernel_rfl) (bne_eq_false_iff_eq.mpr (Decidable.of_not_not c45)) ?_
   refine condF (by kernel_rfl) ?_
   refine wp_seq_k (fun K51 hK52 => ?_)
   refine wp_region_lit ?_
   refine seqL1 (by kernel_rfl) ?_
   refine seqK rfl (does_run (run_load rfl Try.underlying32 rfl (by kernel_rfl : _ = Value.pointer (some ⟨b11, 0, none⟩)) (HS27.u2.cell 0)) ?_)
   refine seqS3 (a' := ⟨#[.agg #[.slice A2 c1.Commits.length c3], .slice A6 l5.length c7, pV b11 0, uV, pV b15 0, iV 0, iV 0, .map (mb A28), iV vt22, uV, uV, uV, uV, .tuple #[.map (mb A28), iV vt22], .agg #[.slice A2 c1.Commits.length c3], pV b11 0, .slice A2 c1.Commits.length c3, iV (c1.Commits.length : Int), .tuple #[.map (mb A28), iV vt22], .map (mb A28), iV vt22, fV, iV vt22, fV, uV, uV, .bool ((c1.Commits.length : Int) == 32), pV b11 0, .slice A2 c1.Commits.length c3, iV (c1.Commits.length : Int), .bool ((c1.Commits.length : Int) == 32), uV, uV, uV, uV, uV, uV, uV, uV, uV, uV, uV, uV, uV, uV, uV, uV, uV, uV, uV, uV, uV, uV, uV, uV, uV, uV, uV, uV, uV, uV, uV, uV, uV, uV], []⟩) (by kernel_rfl) ?_
   refine wpList_nil ?_
   refine hK52 _ _ ?_
   have hq_ := ite_some h; clear h; rcases hq_ with ⟨c54, h⟩ | ⟨c54, h⟩
   · have c54 : (c1.Commits.length : Int) = 32 := c54
     refine wpRwI 26 (x := ((c1.Commits.length : Int) == 32)) (v := true) (by kernel_rfl) (beq_iff_eq.mpr c54) ?_
     refine wpRwI 30 (x := ((c1.Commits.length : Int) == 32)) (v := true) (by kernel_rfl) (beq_iff_eq.mpr c54) ?_
     refine condT (by kernel_rfl) ?_
     refine wp_seq_k (fun K55 hK56 => ?_)
     refine wp_region_lit ?_
     have HS57 := HS27.u1
     refine seqL1 (by kernel_rfl) ?_
     refine seqK rfl (does_store (n := 1) (vs := [.slice none 0 0]) (cs' := #[.slice none 0 0]) rfl (by kernel_rfl) (by kernel_rfl : _ = Value.pointer (some ⟨b15, 0, none⟩)) (by kernel_rfl : _ = Value.agg #[.slice none 0 0]) rfl rfl (by intro u_ hu_; simp only [List.mem_cons, List.not_mem_nil, or_false] at hu_; subst hu_; rfl) HS57 (Nat.le_of_ble_eq_true rfl) (by kernel_rfl) ?_)
     intro W58 HS59
     refine seqL2 (by kernel_rfl) ?_
     refine wpList_nil ?_
     refine hK56 _ _ ?_
     refine wp_ret ?_
     refine hr38 _ _ ?_
     refine hret _ _ ?_
     have HS338 := HS59.cons_nil
     refine ends (v := Value.tuple #[.agg #[.slice none 0 0], .int .i64 0, .int .i64 9]) (results3 (q1 := .cell 4 34) (q2 := .tmp 5) (q3 := .tmp 6) (by kernel_rfl) (resN (n := 1) (cs := [.slice none 0 0]) (by kernel_rfl : _ = Value.pointer (some ⟨b15, 0, none⟩)) Try.underlying34 rfl (by kernel_rfl) rfl (HS338.u1.cells 0 1 _ rfl)) (resT (by kernel_rfl : _ = Value.int .i64 0)) (resT (by kernel_rfl : _ = Value.int .i64 9))) (by kernel_rfl) ?_
     have HS340 := HS338.u3
     have HS341 := HS340.u3
     have HS342 := HS341.u3
     have HS343 := HS342.drop
     have HS344 := HS343.drop
     have HS345 := HS344.drop
     injection h with h
     injection h with h0_ h
     injection h with h1_ h
     subst h0_ h1_ h
     exact ⟨f24, none, 0, [], rfl, L25, HS345, (Own.nil _)⟩
   · have c54 : ¬ ((c1.Commits.length : Int) = 32) := c54
     refine wpRwI 26 (x := ((c1.Commits.length : Int) == 32)) (v := false) (by kernel_rfl) (beq_eq_false_iff_ne.mpr c54) ?_
     refine wpRwI 30 (x := ((c1.Commits.length : Int) == 32)) (v := false) (by kernel_rfl) (beq_eq_false_iff_ne.mpr c54) ?_
     refine condF (by kernel_rfl) ?_
     refine wp_skip ?_
     refine hn37 _ _ ?_
     refine hK34 _ _ ?_
     refine wp_seq_k (fun K60 hK61 => ?_)
     refine wp_seq_k (fun K62 hK63 => ?_)
     refine wp_region_lit ?_
     have hq_ := bind_some h; clear h; obtain ⟨⟨vt64, vt65⟩, hc66, h⟩ := hq_
     refine seqL2 (by kernel_rfl) ?_
     refine seqK rfl (does_call (f := 31) (args := #[.map (mb A28), .slice A6 l5.length c7]) (by kernel_rfl) (catalog_state_apply.calls k A28 c29 s30 A6 c7 vt21 l5 HS27 HO31 (HR8.mono L25) vt64 vt65 hc66) ?_)
     rintro _ W69 ⟨f67, s71, rfl, L68, HS70, HO72, HL73⟩
     refine ⟨_, rfl, ?_⟩
     refine seqL1 (by kernel_rfl) ?_
     refine wpList_nil ?_
     refine hK63 _ _ ?_
     refine wp_seq_k (fun K74 hK75 => ?_)
     refine wp_region_lit ?_
     refine seqL2 (by kernel_rfl) ?_
     refine wpList_nil ?_
     refine hK75 _ _ ?_
     have hq_ := ite_some h; clear h; rcases hq_ with ⟨c77, h⟩ | ⟨c77, h⟩
     · have c77 : vt64 ≠ 0 := c77
       refine wpRwI 36 (x := (vt64 != 0)) (v := true) (by kernel_rfl) (bne_iff_ne.mpr c77) ?_
       refine condT (by kernel_rfl) ?_
       refine wp_seq_k (fun K78 hK79 => ?_)
       refine wp_region_lit ?_
       have HS80 := HS70.u1
       refine seqL2 (by kernel_rfl) ?_
       refine seqK rfl (does_store (n := 1) (vs := [.slice none 0 0]) (cs' := #[.slice none 0 0]) rfl (by kernel_rfl) (by kernel_rfl : _ = Value.pointer (some ⟨b15, 0, none⟩)) (by kernel_rfl : _ = Value.agg #[.slice none 0 0]) rfl rfl (by intro u_ hu_; simp only [List.mem_cons, List.not_mem_nil, or_false] at hu_; subst hu_; rfl) HS80 (Nat.le_of_ble_eq_true rfl) (by kernel_rfl) ?_)
       intro W81 HS82
       refine seqL2 (by kernel_rfl) ?_
       refine wpList_nil ?_
       refine hK79 _ _ ?_
       refine wp_ret ?_
       refine hret _ _ ?_
       have HS346 := HS82.cons_nil
       refine ends (v := Value.tuple #[.agg #[.slice none 0 0], .int .i64 0, .int .i64 vt64]) (results3 (q1 := .cell 4 34) (q2 := .tmp 5) (q3 := .tmp 6) (by kernel_rfl) (resN (n := 1) (cs := [.slice none 0 0]) (by kernel_rfl : _ = Value.pointer (some ⟨b15, 0, none⟩)) Try.underlying34 rfl (by kernel_rfl) rfl (HS346.u1.cells 0 1 _ rfl)) (resT (by kernel_rfl : _ = Value.int .i64 0)) (resT (by kernel_rfl : _ = Value.int .i64 vt64))) (by kernel_rfl) ?_
       have HS348 := HS346.u3
       have HS349 := HS348.u3
       have HS350 := HS349.u3
       have HS351 := HS350.drop
       have HS352 := HS351.drop
       have HS353 := HS352.drop
       injection h with h
       injection h with h0_ h
       injection h with h1_ h
       subst h0_ h1_ h
       exact ⟨f67, none, 0, [], rfl, (L25.trans L68), HS353, (Own.nil _)⟩
     · have c77 : ¬ (vt64 ≠ 0) := c77
       refine wpRwI 36 (x := (vt64 != 0)) (v := false) (by kernel_rfl) (bne_eq_false_iff_eq.mpr (Decidable.of_not_not c77)) ?_
       refine condF (by kernel_rfl) ?_
       refine wp_skip ?_
       refine hK61 _ _ ?_
       refine wp_seq_k (fun K83 hK84 => ?_)
       refine wp_region_lit ?_
       refine seqK rfl (does_alloc (z := Value.agg #[.slice none 0 0]) (cs := #[.slice none 0 0]) rfl (by kernel_rfl) rfl HS70 ?_)
       intro b85 W86 HS87
       refine wpList_nil ?_
       refine hK84 _ _ ?_
       refine wp_seq_k (fun K89 hK90 => ?_)
       refine wp_seq_k (fun K91 hK92 => ?_)
       refine wp_region_lit ?_
       refine seqL1 (by kernel_rfl) ?_
       refine seqK rfl (does_run (run_load rfl Try.underlying32 rfl (by kernel_rfl : _ = Value.pointer (some ⟨b11, 0, none⟩)) (HS87.u3.cell 0)) ?_)
       refine seqL2 (by kernel_rfl) ?_
       refine wpList_nil ?_
       refine hK92 _ _ ?_
       refine blockK (fun B93 hx94 hn95 hr96 ho97 hp98 => ?_)
       have hq_ := bind_some h; clear h; obtain ⟨o175, hv267, h⟩ := hq_
       have J268 : ∀ (f256 : FM) (A262 : Option Addr) (c263 : Nat) (s264 : Seg) (x261 : List (List S_Change)) (j260 : Nat → Value) (W258 : World) (a_ : Act), FM.le f67 f256 → some (x261) = some o175 → St t W258 f256 (s264 :: [(b85, .cells #[.slice A262 x261.length c263] 34 (0, 0))] :: s71 :: [(b15, .cells #[.slice none 0 0] 34 (0, 0))] :: [(b11, .cells #[.slice A2 c1.Commits.length c3] 34 (0, 0))] :: H) → Own (tSl ty_Change) 28 f256 A262 c263 s264 x261 → a_ = ⟨#[.agg #[.slice A2 c1.Commits.length c3], .slice A6 l5.length c7, pV b11 0, uV, pV b15 0, iV 0, iV 0, .map (mb A28), iV vt22, iV vt64, pV b85 0, uV, (j260 0), .tuple #[.map (mb A28), iV vt22], .agg #[.slice A2 c1.Commits.length c3], pV b11 0, .slice A2 c1.Commits.length c3, iV (c1.Commits.length : Int), .tuple #[.map (mb A28), iV vt22], .map (mb A28), iV vt22, fV, iV vt22, fV, uV, uV, fV, pV b11 0, .slice A2 c1.Commits.length c3, iV (c1.Commits.length : Int), fV, uV, .map (mb A28), .slice A6 l5.length c7, iV vt64, iV vt64, fV, uV, uV, pV b11 0, .slice A2 c1.Commits.length c3, iV (c1.Commits.length : Int), (j260 1), (j260 2), (j260 3), (j260 4), (j260 5), (j260 6), (j260 7), (j260 8), (j260 9), (j260 10), (j260 11), (j260 12), uV, uV, uV, uV, uV, uV, uV, uV, uV, uV, uV], []⟩ → K89 a_ W258 := by
        intro f256 A262 c263 s264 x261 j260 W258 a_ L257 hj269 HS259 HO265 hfr_; subst hfr_
        injection hj269 with hj269; subst hj269; try dsimp only at h
        refine hK90 _ _ ?_
        refine wp_seq_k (fun K277 hK278 => ?_)
        have HS279 := HS259.u4
        have HS280 := HS279.u4
        have HS281 := HS280.u4
        have HS282 := HS281.u4
        have HS283 := HS282.u4
        refine heldG (S := Sg t f256 (s71 :: [(b15, .cells #[.slice none 0 0] 34 (0, 0))] :: [(b11, .cells #[.slice A2 c1.Commits.length c3] 34 (0, 0))] :: H) [(5, s264), (5, [(b85, .cells #[.slice A262 x261.length c263] 34 (0, 0))])]) (n := 8) (by kernel_rfl) rfl HS283 ?_
        intro W284 HS285
        refine takeG [0] (n := 8) (fuel := 7) (l' := #[true, false, false, false, false, false, false, false]) (a' := ⟨#[.agg #[.slice A2 c1.Commits.length c3], .slice A6 l5.length c7, pV b11 0, uV, pV b15 0, iV 0, iV 0, .map (mb A28), iV vt22, iV vt64, pV b85 0, uV, (j260 0), .tuple #[.map (mb A28), iV vt22], .agg #[.slice A2 c1.Commits.length c3], pV b11 0, .slice A2 c1.Commits.length c3, iV (c1.Commits.length : Int), .tuple #[.map (mb A28), iV vt22], .map (mb A28), iV vt22, fV, iV vt22, fV, uV, uV, fV, pV b11 0, .slice A2 c1.Commits.length c3, iV (c1.Commits.length : Int), fV, uV, .map (mb A28), .slice A6 l5.length c7, iV vt64, iV vt64, fV, uV, uV, pV b11 0, .slice A2 c1.Commits.length c3, iV (c1.Commits.length : Int), (j260 1), (j260 2), (j260 3), (j260 4), (j260 5), (j260 6), (j260 7), (j260 8), (j260 9), (j260 10), (j260 11), (j260 12), pV b85 0, uV, uV, uV, uV, uV, uV, uV, uV, uV, uV], []⟩) rfl (by kernel_rfl) (by kernel_rfl) (by kernel_rfl) hnp (Sg.g2 (Sx.of [s264, [(b85, .cells #[.slice A262 x261.length c263] 34 (0, 0))]] (FM.le.refl _) HS285) (fun _ => St.only [] HS285 (FM.le.refl _)) (fun _ => St.only [s264] HS285 (FM.le.refl _))) ?_
        refine takeGQ 1 [5] rfl (by kernel_rfl) (by kernel_rfl) (by kernel_rfl) (by kernel_rfl) (by kernel_rfl) (by kernel_rfl) hnp (Sg.g2 (Sx.of [s264, [(b85, .cells #[.slice A262 x261.length c263] 34 (0, 0))]] (FM.le.refl _) HS285) (fun _ => St.only [] HS285 (FM.le.refl _)) (fun _ => St.only [s264] HS285 (FM.le.refl _))) (fun w_ hw_ => by obtain ⟨g_, hl_, hS_⟩ := hw_.seg (j := 5) (s := [(b85, .cells #[.slice A262 x261.length c263] 34 (0, 0))]) (by simp) (by simp); exact run_load rfl Try.underlying32 rfl (by kernel_rfl : _ = Value.pointer (some ⟨b85, 0, none⟩)) (hS_.cell 0)) ?_
        refine takeG [2] (n := 6) (fuel := 5) (l' := #[true, true, true, false, false, false, false, false]) (a' := ⟨#[.agg #[.slice A2 c1.Commits.length c3], .slice A6 l5.length c7, pV b11 0, uV, pV b15 0, iV 0, iV 0, .map (mb A28), iV vt22, iV vt64, pV b85 0, uV, (j260 0), .tuple #[.map (mb A28), iV vt22], .agg #[.slice A2 c1.Commits.length c3], pV b11 0, .slice A2 c1.Commits.length c3, iV (c1.Commits.length : Int), .tuple #[.map (mb A28), iV vt22], .map (mb A28), iV vt22, fV, iV vt22, fV, uV, uV, fV, pV b11 0, .slice A2 c1.Commits.length c3, iV (c1.Commits.length : Int), fV, uV, .map (mb A28), .slice A6 l5.length c7, iV vt64, iV vt64, fV, uV, uV, pV b11 0, .slice A2 c1.Commits.length c3, iV (c1.Commits.length : Int), (j260 1), (j260 2), (j260 3), (j260 4), (j260 5), (j260 6), (j260 7), (j260 8), (j260 9), (j260 10), (j260 11), (j260 12), pV b85 0, .slice A262 x261.length c263, .slice A6 l5.length c7, uV, uV, uV, uV, uV, uV, uV, uV], []⟩) rfl (by kernel_rfl) (by kernel_rfl) (by kernel_rfl) hnp (Sg.g2 (Sx.of [s264, [(b85, .cells #[.slice A262 x261.length c263] 34 (0, 0))]] (FM.le.refl _) HS285) (fun _ => St.only [] HS285 (FM.le.refl _)) (fun _ => St.only [s264] HS285 (FM.le.refl _))) ?_
        have hq_ := bind_some h; clear h; obtain ⟨vt286, hc287, h⟩ := hq_
        refine takeGE 3 (by kernel_rfl) rfl (by kernel_rfl) (does_call (f := 29) (args := #[.slice A6 l5.length c7]) (by kernel_rfl) (catalog_copies.calls k A6 c7 l5 HS285 (HR8.mono (L25.trans (L68.trans L257))) vt286 hc287) ?_)
        rintro _ W290 ⟨f288, A292, c293, s294, rfl, L289, HS291, HO295⟩
        refine ⟨_, rfl, ?_⟩
        refine ⟨(Sg.g2 (Sx.of [s294, s264, [(b85, .cells #[.slice A262 x261.length c263] 34 (0, 0))]] L289 HS291) (fun _ => St.only [s294] HS291 L289) (fun _ => St.only [s294, s264] HS291 L289)), ?_⟩
        obtain ⟨f297, L298, HS299, HR300⟩ := HO295.freeze HS291
        refine takeGE 4 (by kernel_rfl) rfl (by kernel_rfl) (does_lit (e := (tSl ty_Change)) (E := 28) (vs := #[(0, Value.slice A292 vt286.length c293)]) (cs := #[.slice A292 vt286.length c293]) (xs := ([vt286] : List (List S_Change))) rfl Try.underlying32 (by kernel_rfl) (by kernel_rfl) ⟨[.slice A292 vt286.length c293], _, rfl, ⟨A292, c293, rfl, HR300⟩, rfl⟩ rfl HS299 ?_ (by decide))
        intro b301 W302 s303 HS304 _ HO305
        refine ⟨(Sg.g2 (Sx.of [s303, s264, [(b85, .cells #[.slice A262 x261.length c263] 34 (0, 0))]] (L289.trans L298) HS304) (fun _ => St.only [s303] HS304 (L289.trans L298)) (fun _ => St.only [s303, s264] HS304 (L289.trans L298))), ?_⟩
        have hq_ := guard_some h; clear h; obtain ⟨c307, h⟩ := hq_
        have c307 : (x261.length + 1) * 24 ≤ 140737488355328 := c307
        have HS308 := HS304.u1
        have HS309 := HS308.u1
        refine takeGE 5 (by kernel_rfl) rfl (by kernel_rfl) (does_append1 (e := (tSl ty_Change)) (E := 28) (xs := x261) (ys := ([vt286] : List (List S_Change))) rfl (by kernel_rfl : _ = Value.slice A262 x261.length c263) (by kernel_rfl : _ = Value.slice (some ⟨b301, 0, none⟩) ([vt286] : List (List S_Change)).length 1) Try.underlying32 inf28 (HO265.mono (L289.trans L298)) HO305 HS309 c307 (lim63 c307 (by decide)) ?_)
        intro A310 c311 s312 W313 HS314 HO315
        refine ⟨(Sg.g2 (Sx.of [s312, [(b85, .cells #[.slice A262 x261.length c263] 34 (0, 0))]] (L289.trans L298) HS314) (fun hl_ => Bool.noConfusion (show true = false from hl_)) (fun hl_ => Bool.noConfusion (show true = false from hl_))), ?_⟩
        refine takeG [6] (n := 2) (fuel := 1) (l' := #[true, true, true, true, true, true, true, false]) (a' := ⟨#[.agg #[.slice A2 c1.Commits.length c3], .slice A6 l5.length c7, pV b11 0, uV, pV b15 0, iV 0, iV 0, .map (mb A28), iV vt22, iV vt64, pV b85 0, uV, (j260 0), .tuple #[.map (mb A28), iV vt22], .agg #[.slice A2 c1.Commits.length c3], pV b11 0, .slice A2 c1.Commits.length c3, iV (c1.Commits.length : Int), .tuple #[.map (mb A28), iV vt22], .map (mb A28), iV vt22, fV, iV vt22, fV, uV, uV, fV, pV b11 0, .slice A2 c1.Commits.length c3, iV (c1.Commits.length : Int), fV, uV, .map (mb A28), .slice A6 l5.length c7, iV vt64, iV vt64, fV, uV, uV, pV b11 0, .slice A2 c1.Commits.length c3, iV (c1.Commits.length : Int), (j260 1), (j260 2), (j260 3), (j260 4), (j260 5), (j260 6), (j260 7), (j260 8), (j260 9), (j260 10), (j260 11), (j260 12), pV b85 0, .slice A262 x261.length c263, .slice A6 l5.length c7, .slice A292 vt286.length c293, .slice (some ⟨b301, 0, none⟩) ([vt286] : List (List S_Change)).length 1, .slice A310 (x261 ++ ([vt286] : List (List S_Change))).length c311, pV b85 0, uV, uV, uV, uV], []⟩) rfl (by kernel_rfl) (by kernel_rfl) (by kernel_rfl) hnp (Sg.g2 (Sx.of [s312, [(b85, .cells #[.slice A262 x261.length c263] 34 (0, 0))]] (L289.trans L298) HS314) (fun hl_ => Bool.noConfusion (show true = false from hl_)) (fun hl_ => Bool.noConfusion (show true = false from hl_))) ?_
        have HS316 := HS314.u1
        refine takeGE 7 (by kernel_rfl) rfl (by kernel_rfl) (does_store (n := 1) (vs := [.slice A310 (x261 ++ ([vt286] : List (List S_Change))).length c311]) (cs' := #[.slice A310 (x261 ++ ([vt286] : List (List S_Change))).length c311]) rfl (by kernel_rfl) (by kernel_rfl : _ = Value.pointer (some ⟨b85, 0, none⟩)) (by kernel_rfl : _ = Value.slice A310 (x261 ++ ([vt286] : List (List S_Change))).length c311) rfl rfl (by intro u_ hu_; simp only [List.mem_cons, List.not_mem_nil, or_false] at hu_; subst hu_; rfl) HS316 (Nat.le_of_ble_eq_true rfl) (by kernel_rfl) ?_)
        intro W317 HS318
        refine ⟨(Sg.g2 (Sx.of [[(b85, .cells #[.slice A310 (x261 ++ ([vt286] : List (List S_Change))).length c311] 34 (0, 0))], s312] (L289.trans L298) HS318) (fun hl_ => Bool.noConfusion (show true = false from hl_)) (fun hl_ => Bool.noConfusion (show true = false from hl_))), ?_⟩
        refine doneG (by kernel_rfl) ?_ _
        refine hK278 _ _ ?_
        refine wp_seq_k (fun K319 hK320 => ?_)
        have HS321 := HS318.u4
        have HS322 := HS321.u3
        have HS323 := HS322.u3
        have HS324 := HS323.u3
        have HS325 := HS324.u4
        refine heldG (S := Sg t f297 ([(b85, .cells #[.slice A310 (x261 ++ ([vt286] : List (List S_Change))).length c311] 34 (0, 0))] :: s312 :: s71 :: [(b11, .cells #[.slice A2 c1.Commits.length c3] 34 (0, 0))] :: H) [(4, [(b15, .cells #[.slice none 0 0] 34 (0, 0))])]) (n := 7) (by kernel_rfl) rfl HS325 ?_
        intro W326 HS327
        refine takeGQ 0 [] rfl (by kernel_rfl) (by kernel_rfl) (by kernel_rfl) (by kernel_rfl) (by kernel_rfl) (by kernel_rfl) hnp (Sg.g1 (Sx.of [[(b15, .cells #[.slice none 0 0] 34 (0, 0))]] (FM.le.refl _) HS327) (fun _ => St.only [] HS327 (FM.le.refl _))) (fun w_ hw_ => by obtain ⟨g_, hl_, hS_⟩ := hw_.st; exact run_loadN (n := 1) rfl Try.underlying34 rfl (by kernel_rfl) (by kernel_rfl : _ = Value.pointer (some ⟨b85, 0, none⟩)) (cs := [.slice A310 (x261 ++ ([vt286] : List (List S_Change))).length c311]) rfl (hS_.cells 0 1 _ rfl)) ?_
        refine takeG [1] (n := 6) (fuel := 5) (l' := #[true, true, false, false, false, false, false]) (a' := ⟨#[.agg #[.slice A2 c1.Commits.length c3], .slice A6 l5.length c7, pV b11 0, uV, pV b15 0, iV 0, iV 0, .map (mb A28), iV vt22, iV vt64, pV b85 0, uV, (j260 0), .tuple #[.map (mb A28), iV vt22], .agg #[.slice A2 c1.Commits.length c3], pV b11 0, .slice A2 c1.Commits.length c3, iV (c1.Commits.length : Int), .tuple #[.map (mb A28), iV vt22], .map (mb A28), iV vt22, fV, iV vt22, fV, uV, uV, fV, pV b11 0, .slice A2 c1.Commits.length c3, iV (c1.Commits.length : Int), fV, uV, .map (mb A28), .slice A6 l5.length c7, iV vt64, iV vt64, fV, uV, uV, pV b11 0, .slice A2 c1.Commits.length c3, iV (c1.Commits.length : Int), (j260 1), (j260 2), (j260 3), (j260 4), (j260 5), (j260 6), (j260 7), (j260 8), (j260 9), (j260 10), (j260 11), (j260 12), pV b85 0, .slice A262 x261.length c263, .slice A6 l5.length c7, .slice A292 vt286.length c293, .slice (some ⟨b301, 0, none⟩) ([vt286] : List (List S_Change)).length 1, .slice A310 (x261 ++ ([vt286] : List (List S_Change))).length c311, pV b85 0, .agg #[.slice A310 (x261 ++ ([vt286] : List (List S_Change))).length c311], pV b85 0, uV, uV], []⟩) rfl (by kernel_rfl) (by kernel_rfl) (by kernel_rfl) hnp (Sg.g1 (Sx.of [[(b15, .cells #[.slice none 0 0] 34 (0, 0))]] (FM.le.refl _) HS327) (fun _ => St.only [] HS327 (FM.le.refl _))) ?_
        refine takeGQ 2 [] rfl (by kernel_rfl) (by kernel_rfl) (by kernel_rfl) (by kernel_rfl) (by kernel_rfl) (by kernel_rfl) hnp (Sg.g1 (Sx.of [[(b15, .cells #[.slice none 0 0] 34 (0, 0))]] (FM.le.refl _) HS327) (fun _ => St.only [] HS327 (FM.le.refl _))) (fun w_ hw_ => by obtain ⟨g_, hl_, hS_⟩ := hw_.st; exact run_load rfl Try.underlying32 rfl (by kernel_rfl : _ = Value.pointer (some ⟨b85, 0, none⟩)) (hS_.cell 0)) ?_
        refine takeG [3] (n := 4) (fuel := 3) (l' := #[true, true, true, true, false, false, false]) (a' := ⟨#[.agg #[.slice A2 c1.Commits.length c3], .slice A6 l5.length c7, pV b11 0, uV, pV b15 0, iV 0, iV 0, .map (mb A28), iV vt22, iV vt64, pV b85 0, uV, (j260 0), .tuple #[.map (mb A28), iV vt22], .agg #[.slice A2 c1.Commits.length c3], pV b11 0, .slice A2 c1.Commits.length c3, iV (c1.Commits.length : Int), .tuple #[.map (mb A28), iV vt22], .map (mb A28), iV vt22, fV, iV vt22, fV, uV, uV, fV, pV b11 0, .slice A2 c1.Commits.length c3, iV (c1.Commits.length : Int), fV, uV, .map (mb A28), .slice A6 l5.length c7, iV vt64, iV vt64, fV, uV, uV, pV b11 0, .slice A2 c1.Commits.length c3, iV (c1.Commits.length : Int), (j260 1), (j260 2), (j260 3), (j260 4), (j260 5), (j260 6), (j260 7), (j260 8), (j260 9), (j260 10), (j260 11), (j260 12), pV b85 0, .slice A262 x261.length c263, .slice A6 l5.length c7, .slice A292 vt286.length c293, .slice (some ⟨b301, 0, none⟩) ([vt286] : List (List S_Change)).length 1, .slice A310 (x261 ++ ([vt286] : List (List S_Change))).length c311, pV b85 0, .agg #[.slice A310 (x261 ++ ([vt286] : List (List S_Change))).length c311], pV b85 0, .slice A310 (x261 ++ ([vt286] : List (List S_Change))).length c311, iV ((x261 ++ ([vt286] : List (List S_Change))).length : Int)], []⟩) rfl (by kernel_rfl) (by kernel_rfl) (by kernel_rfl) hnp (Sg.g1 (Sx.of [[(b15, .cells #[.slice none 0 0] 34 (0, 0))]] (FM.le.refl _) HS327) (fun _ => St.only [] HS327 (FM.le.refl _))) ?_
        refine takeGE 4 (by kernel_rfl) rfl (by kernel_rfl) (does_store (n := 1) (vs := [.slice A310 (x261 ++ ([vt286] : List (List S_Change))).length c311]) (cs' := #[.slice A310 (x261 ++ ([vt286] : List (List S_Change))).length c311]) rfl (by kernel_rfl) (by kernel_rfl : _ = Value.pointer (some ⟨b15, 0, none⟩)) (by kernel_rfl : _ = Value.agg #[.slice A310 (x261 ++ ([vt286] : List (List S_Change))).length c311]) rfl rfl (by intro u_ hu_; simp only [List.mem_cons, List.not_mem_nil, or_false] at hu_; subst hu_; rfl) HS327 (Nat.le_of_ble_eq_true rfl) (by kernel_rfl) ?_)
        intro W328 HS329
        refine ⟨(Sg.g1 (Sx.of [[(b15, .cells #[.slice A310 (x261 ++ ([vt286] : List (List S_Change))).length c311] 34 (0, 0))]] (FM.le.refl _) HS329) (fun hl_ => Bool.noConfusion (show true = false from hl_))), ?_⟩
        refine takeG [5, 6] (n := 2) (fuel := 0) (l' := #[true, true, true, true, true, true, true]) (a' := ⟨#[.agg #[.slice A2 c1.Commits.length c3], .slice A6 l5.length c7, pV b11 0, uV, pV b15 0, iV ((x261 ++ ([vt286] : List (List S_Change))).length : Int), iV 0, .map (mb A28), iV vt22, iV vt64, pV b85 0, uV, (j260 0), .tuple #[.map (mb A28), iV vt22], .agg #[.slice A2 c1.Commits.length c3], pV b11 0, .slice A2 c1.Commits.length c3, iV (c1.Commits.length : Int), .tuple #[.map (mb A28), iV vt22], .map (mb A28), iV vt22, fV, iV vt22, fV, uV, uV, fV, pV b11 0, .slice A2 c1.Commits.length c3, iV (c1.Commits.length : Int), fV, uV, .map (mb A28), .slice A6 l5.length c7, iV vt64, iV vt64, fV, uV, uV, pV b11 0, .slice A2 c1.Commits.length c3, iV (c1.Commits.length : Int), (j260 1), (j260 2), (j260 3), (j260 4), (j260 5), (j260 6), (j260 7), (j260 8), (j260 9), (j260 10), (j260 11), (j260 12), pV b85 0, .slice A262 x261.length c263, .slice A6 l5.length c7, .slice A292 vt286.length c293, .slice (some ⟨b301, 0, none⟩) ([vt286] : List (List S_Change)).length 1, .slice A310 (x261 ++ ([vt286] : List (List S_Change))).length c311, pV b85 0, .agg #[.slice A310 (x261 ++ ([vt286] : List (List S_Change))).length c311], pV b85 0, .slice A310 (x261 ++ ([vt286] : List (List S_Change))).length c311, iV ((x261 ++ ([vt286] : List (List S_Change))).length : Int)], []⟩) rfl (by kernel_rfl) (by kernel_rfl) (by kernel_rfl) hnp (Sg.g1 (Sx.of [[(b15, .cells #[.slice A310 (x261 ++ ([vt286] : List (List S_Change))).length c311] 34 (0, 0))]] (FM.le.refl _) HS329) (fun hl_ => Bool.noConfusion (show true = false from hl_))) ?_
        refine doneG (by kernel_rfl) ?_ _
        refine hK320 _ _ ?_
        refine wp_ret ?_
        refine hret _ _ ?_
        refine ends (v := Value.tuple #[.agg #[.slice A310 (x261 ++ ([vt286] : List (List S_Change))).length c311], .int .i64 ((x261 ++ ([vt286] : List (List S_Change))).length : Int), .int .i64 0]) (results3 (q1 := .cell 4 34) (q2 := .tmp 5) (q3 := .tmp 6) (by kernel_rfl) (resN (n := 1) (cs := [.slice A310 (x261 ++ ([vt286] : List (List S_Change))).length c311]) (by kernel_rfl : _ = Value.pointer (some ⟨b15, 0, none⟩)) Try.underlying34 rfl (by kernel_rfl) rfl (HS329.cells 0 1 _ rfl)) (resT (by kernel_rfl : _ = Value.int .i64 ((x261 ++ ([vt286] : List (List S_Change))).length : Int))) (resT (by kernel_rfl : _ = Value.int .i64 0))) (by kernel_rfl) ?_
        have HS354 := HS329.u2
        have HS355 := HS354.u4
        have HS356 := HS355.u4
        have HS357 := HS356.u4
        have HS358 := HS357.u4
        have HS359 := HS358.drop
        have HS360 := HS359.drop
        have HS361 := HS360.drop
        have HS362 := HS361.drop
        injection h with h
        injection h with h0_ h
        injection h with h1_ h
        subst h0_ h1_ h
        exact ⟨f297, A310, c311, s312, rfl, (L25.trans (L68.trans (L257.trans (L289.trans L298)))), HS362, HO315⟩
       clear h; have h := hv267; clear hv267
       have HS270 := HS87.cons_nil
       refine loopK (fun n_ a_ w_ => ∃ (f179 : FM) (A186 : Option Addr) (c187 : Nat) (s188 : Seg) (x184 : Int) (x185 : List (List S_Change)) (j183 : Nat → Value), FM.le f67 f179 ∧ St t w_ f179 (s188 :: [(b85, .cells #[.slice A186 x185.length c187] 34 (0, 0))] :: s71 :: [(b15, .cells #[.slice none 0 0] 34 (0, 0))] :: [(b11, .cells #[.slice A2 c1.Commits.length c3] 34 (0, 0))] :: H) ∧ Own (tSl ty_Change) 28 f179 A186 c187 s188 x185 ∧ catalog_Commit.l0 k c1 n_ x184 x185 = some o175 ∧ a_ = ⟨#[.agg #[.slice A2 c1.Commits.length c3], .slice A6 l5.length c7, pV b11 0, uV, pV b15 0, iV 0, iV 0, .map (mb A28), iV vt22, iV vt64, pV b85 0, uV, (j183 0), .tuple #[.map (mb A28), iV vt22], .agg #[.slice A2 c1.Commits.length c3], pV b11 0, .slice A2 c1.Commits.length c3, iV (c1.Commits.length : Int), .tuple #[.map (mb A28), iV vt22], .map (mb A28), iV vt22, fV, iV vt22, fV, uV, uV, fV, pV b11 0, .slice A2 c1.Commits.length c3, iV (c1.Commits.length : Int), fV, uV, .map (mb A28), .slice A6 l5.length c7, iV vt64, iV vt64, fV, uV, uV, pV b11 0, .slice A2 c1.Commits.length c3, iV (c1.Commits.length : Int), iV x184, (j183 1), (j183 2), (j183 3), (j183 4), (j183 5), (j183 6), (j183 7), (j183 8), (j183 9), (j183 10), (j183 11), uV, uV, uV, uV, uV, uV, uV, uV, uV, uV, uV], []⟩) k ⟨f67, none, 0, [], 0, ([] : List (List S_Change)), (fun i_ => [undef, undef, undef, undef, undef, undef, undef, undef, undef, undef, undef, undef].getD i_ undef), (FM.le.refl _), HS270, (Own.nil _), h, (by kernel_rfl)⟩ ?_
       clear h
       rintro n178 _ W181 ⟨f179, A186, c187, s188, x184, x185, j183, L180, HS182, HO189, h, rfl⟩ K176 hK177
       obtain _ | n178 := n178
       · exact nomatch h
       simp only [catalog_Commit.l0] at h
       refine wp_seq_k (fun K191 hK192 => ?_)
       refine wp_region_lit ?_
       refine seqL1 (by kernel_rfl) ?_
       refine wpList_nil ?_
       refine hK192 _ _ ?_
       refine wp_seq_k (fun K193 hK194 => ?_)
       have hq_ := ite_some h; clear h; rcases hq_ with ⟨c196, h⟩ | ⟨c196, h⟩
       · have c196 : x184 < (c1.Commits.length : Int) := c196
         refine wpRwI 43 (x := (decide (x184 < (c1.Commits.length : Int)))) (v := true) (by kernel_rfl) (decide_eq_true c196) ?_
         refine condT (by kernel_rfl) ?_
         refine wp_skip ?_
         refine hK194 _ _ ?_
         refine wp_seq_k (fun K197 hK198 => ?_)
         refine blockK (fun B199 hx200 hn201 hr202 ho203 hp204 => ?_)
         refine wp_seq_k (fun K206 hK207 => ?_)
         refine wp_region_lit ?_
         have hq_ := guard_some h; clear h; obtain ⟨c208, h⟩ := hq_
         have c208 : 0 ≤ x184 := c208
         obtain ⟨b212, of213, cs209, hA214, hr210, hc211⟩ := (HR4.mono (L25.trans (L68.trans L180))).at (i := x184) c208 c196
         obtain ⟨A215, c215, rfl, HR215⟩ := hr210
         refine seqK rfl (does_run (run_indexE hA214 (sz := 1) rfl Try.underlying32 (by kernel_rfl) (by kernel_rfl : _ = Value.slice A2 c1.Commits.length c3) (by kernel_rfl : _ = Value.int .i64 x184) c208 c196 W181) ?_)
         refine seqK rfl (does_run (run_load rfl Try.underlying28 rfl (by kernel_rfl : _ = Value.pointer (some ⟨b212, of213 + (x184 : Int).toNat * 1, none⟩)) ((hc211 (FM.le.refl _) HS182) 0 (by decide))) ?_)
         refine seqL1 (by kernel_rfl) ?_
         refine wpList_nil ?_
         refine hK207 _ _ ?_
         have HS216 := HS182.u4
         have HS217 := HS216.u4
         have HS218 := HS217.u4
         have HS219 := HS218.u4
         have HS220 := HS219.u4
         refine heldG (S := Sg t f179 (s71 :: [(b15, .cells #[.slice none 0 0] 34 (0, 0))] :: [(b11, .cells #[.slice A2 c1.Commits.length c3] 34 (0, 0))] :: H) [(5, s188), (5, [(b85, .cells #[.slice A186 x185.length c187] 34 (0, 0))])]) (n := 8) (by kernel_rfl) rfl HS220 ?_
         intro W221 HS222
         refine takeG [0] (n := 8) (fuel := 7) (l' := #[true, false, false, false, false, false, false, false]) (a' := ⟨#[.agg #[.slice A2 c1.Commits.length c3], .slice A6 l5.length c7, pV b11 0, uV, pV b15 0, iV 0, iV 0, .map (mb A28), iV vt22, iV vt64, pV b85 0, uV, .slice A215 (rd c1.Commits x184).length c215, .tuple #[.map (mb A28), iV vt22], .agg #[.slice A2 c1.Commits.length c3], pV b11 0, .slice A2 c1.Commits.length c3, iV (c1.Commits.length : Int), .tuple #[.map (mb A28), iV vt22], .map (mb A28), iV vt22, fV, iV vt22, fV, uV, uV, fV, pV b11 0, .slice A2 c1.Commits.length c3, iV (c1.Commits.length : Int), fV, uV, .map (mb A28), .slice A6 l5.length c7, iV vt64, iV vt64, fV, uV, uV, pV b11 0, .slice A2 c1.Commits.length c3, iV (c1.Commits.length : Int), iV x184, tV, pV b212 (of213 + (x184 : Int).toNat * 1), .slice A215 (rd c1.Commits x184).length c215, pV b85 0, (j183 5), (j183 6), (j183 7), (j183 8), (j183 9), (j183 10), (j183 11), uV, uV, uV, uV, uV, uV, uV, uV, uV, uV, uV], []⟩) rfl (by kernel_rfl) (by kernel_rfl) (by kernel_rfl) (fun ch_ a_ w_ q_ => (fun ch_ a_ w_ q_ => hnp ch_ a_ w_ (hp98 ch_ a_ w_ q_)) ch_ a_ w_ (hp204 ch_ a_ w_ q_)) (Sg.g2 (Sx.of [s188, [(b85, .cells #[.slice A186 x185.length c187] 34 (0, 0))]] (FM.le.refl _) HS222) (fun _ => St.only [] HS222 (FM.le.refl _)) (fun _ => St.only [s188] HS222 (FM.le.refl _))) ?_
         refine takeGQ 1 [5] rfl (by kernel_rfl) (by kernel_rfl) (by kernel_rfl) (by kernel_rfl) (by kernel_rfl) (by kernel_rfl) (fun ch_ a_ w_ q_ => (fun ch_ a_ w_ q_ => hnp ch_ a_ w_ (hp98 ch_ a_ w_ q_)) ch_ a_ w_ (hp204 ch_ a_ w_ q_)) (Sg.g2 (Sx.of [s188, [(b85, .cells #[.slice A186 x185.length c187] 34 (0, 0))]] (FM.le.refl _) HS222) (fun _ => St.only [] HS222 (FM.le.refl _)) (fun _ => St.only [s188] HS222 (FM.le.refl _))) (fun w_ hw_ => by obtain ⟨g_, hl_, hS_⟩ := hw_.seg (j := 5) (s := [(b85, .cells #[.slice A186 x185.length c187] 34 (0, 0))]) (by simp) (by simp); exact run_load rfl Try.underlying32 rfl (by kernel_rfl : _ = Value.pointer (some ⟨b85, 0, none⟩)) (hS_.cell 0)) ?_
         refine takeG [2] (n := 6) (fuel := 5) (l' := #[true, true, true, false, false, false, false, false]) (a' := ⟨#[.agg #[.slice A2 c1.Commits.length c3], .slice A6 l5.length c7, pV b11 0, uV, pV b15 0, iV 0, iV 0, .map (mb A28), iV vt22, iV vt64, pV b85 0, uV, .slice A215 (rd c1.Commits x184).length c215, .tuple #[.map (mb A28), iV vt22], .agg #[.slice A2 c1.Commits.length c3], pV b11 0, .slice A2 c1.Commits.length c3, iV (c1.Commits.length : Int), .tuple #[.map (mb A28), iV vt22], .map (mb A28), iV vt22, fV, iV vt22, fV, uV, uV, fV, pV b11 0, .slice A2 c1.Commits.length c3, iV (c1.Commits.length : Int), fV, uV, .map (mb A28), .slice A6 l5.length c7, iV vt64, iV vt64, fV, uV, uV, pV b11 0, .slice A2 c1.Commits.length c3, iV (c1.Commits.length : Int), iV x184, tV, pV b212 (of213 + (x184 : Int).toNat * 1), .slice A215 (rd c1.Commits x184).length c215, pV b85 0, .slice A186 x185.length c187, .slice A215 (rd c1.Commits x184).length c215, (j183 7), (j183 8), (j183 9), (j183 10), (j183 11), uV, uV, uV, uV, uV, uV, uV, uV, uV, uV, uV], []⟩) rfl (by kernel_rfl) (by kernel_rfl) (by kernel_rfl) (fun ch_ a_ w_ q_ => (fun ch_ a_ w_ q_ => hnp ch_ a_ w_ (hp98 ch_ a_ w_ q_)) ch_ a_ w_ (hp204 ch_ a_ w_ q_)) (Sg.g2 (Sx.of [s188, [(b85, .cells #[.slice A186 x185.length c187] 34 (0, 0))]] (FM.le.refl _) HS222) (fun _ => St.only [] HS222 (FM.le.refl _)) (fun _ => St.only [s188] HS222 (FM.le.refl _))) ?_
         have hq_ := bind_some h; clear h; obtain ⟨vt223, hc224, h⟩ := hq_
         refine takeGE 3 (by kernel_rfl) rfl (by kernel_rfl) (does_call (f := 29) (args := #[.slice A215 (rd c1.Commits x184).length c215]) (by kernel_rfl) (catalog_copies.calls k A215 c215 (rd c1.Commits x184) HS222 HR215 vt223 hc224) ?_)
         rintro _ W227 ⟨f225, A229, c230, s231, rfl, L226, HS228, HO232⟩
         refine ⟨_, rfl, ?_⟩
         refine ⟨(Sg.g2 (Sx.of [s231, s188, [(b85, .cells #[.slice A186 x185.length c187] 34 (0, 0))]] L226 HS228) (fun _ => St.only [s231] HS228 L226) (fun _ => St.only [s231, s188] HS228 L226)), ?_⟩
         obtain ⟨f234, L235, HS236, HR237⟩ := HO232.freeze HS228
         refine takeGE 4 (by kernel_rfl) rfl (by kernel_rfl) (does_lit (e := (tSl ty_Change)) (E := 28) (vs := #[(0, Value.slice A229 vt223.length c230)]) (cs := #[.slice A229 vt223.length c230]) (xs := ([vt223] : List (List S_Change))) rfl Try.underlying32 (by kernel_rfl) (by kernel_rfl) ⟨[.slice A229 vt223.length c230], _, rfl, ⟨A229, c230, rfl, HR237⟩, rfl⟩ rfl HS236 ?_ (by decide))
         intro b238 W239 s240 HS241 _ HO242
         refine ⟨(Sg.g2 (Sx.of [s240, s188, [(b85, .cells #[.slice A186 x185.length c187] 34 (0, 0))]] (L226.trans L235) HS241) (fun _ => St.only [s240] HS241 (L226.trans L235)) (fun _ => St.only [s240, s188] HS241 (L226.trans L235))), ?_⟩
         have hq_ := guard_some h; clear h; obtain ⟨c244, h⟩ := hq_
         have c244 : (x185.length + 1) * 24 ≤ 140737488355328 := c244
         have HS245 := HS241.u1
         have HS246 := HS245.u1
         refine takeGE 5 (by kernel_rfl) rfl (by kernel_rfl) (does_append1 (e := (tSl ty_Change)) (E := 28) (xs := x185) (ys := ([vt223] : List (List S_Change))) rfl (by kernel_rfl : _ = Value.slice A186 x185.length c187) (by kernel_rfl : _ = Value.slice (some ⟨b238, 0, none⟩) ([vt223] : List (List S_Change)).length 1) Try.underlying32 inf28 (HO189.mono (L226.trans L235)) HO242 HS246 c244 (lim63 c244 (by decide)) ?_)
         intro A247 c248 s249 W250 HS251 HO252
         refine ⟨(Sg.g2 (Sx.of [s249, [(b85, .cells #[.slice A186 x185.length c187] 34 (0, 0))]] (L226.trans L235) HS251) (fun hl_ => Bool.noConfusion (show true = false from hl_)) (fun hl_ => Bool.noConfusion (show true = false from hl_))), ?_⟩
         refine takeG [6] (n := 2) (fuel := 1) (l' := #[true, true, true, true, true, true, true, false]) (a' := ⟨#[.agg #[.slice A2 c1.Commits.length c3], .slice A6 l5.length c7, pV b11 0, uV, pV b15 0, iV 0, iV 0, .map (mb A28), iV vt22, iV vt64, pV b85 0, uV, .slice A215 (rd c1.Commits x184).length c215, .tuple #[.map (mb A28), iV vt22], .agg #[.slice A2 c1.Commits.length c3], pV b11 0, .slice A2 c1.Commits.length c3, iV (c1.Commits.length : Int), .tuple #[.map (mb A28), iV vt22], .map (mb A28), iV vt22, fV, iV vt22, fV, uV, uV, fV, pV b11 0, .slice A2 c1.Commits.length c3, iV (c1.Commits.length : Int), fV, uV, .map (mb A28), .slice A6 l5.length c7, iV vt64, iV vt64, fV, uV, uV, pV b11 0, .slice A2 c1.Commits.length c3, iV (c1.Commits.length : Int), iV x184, tV, pV b212 (of213 + (x184 : Int).toNat * 1), .slice A215 (rd c1.Commits x184).length c215, pV b85 0, .slice A186 x185.length c187, .slice A215 (rd c1.Commits x184).length c215, .slice A229 vt223.length c230, .slice (some ⟨b238, 0, none⟩) ([vt223] : List (List S_Change)).length 1, .slice A247 (x185 ++ ([vt223] : List (List S_Change))).length c248, pV b85 0, (j183 11), uV, uV, uV, uV, uV, uV, uV, uV, uV, uV, uV], []⟩) rfl (by kernel_rfl) (by kernel_rfl) (by kernel_rfl) (fun ch_ a_ w_ q_ => (fun ch_ a_ w_ q_ => hnp ch_ a_ w_ (hp98 ch_ a_ w_ q_)) ch_ a_ w_ (hp204 ch_ a_ w_ q_)) (Sg.g2 (Sx.of [s249, [(b85, .cells #[.slice A186 x185.length c187] 34 (0, 0))]] (L226.trans L235) HS251) (fun hl_ => Bool.noConfusion (show true = false from hl_)) (fun hl_ => Bool.noConfusion (show true = false from hl_))) ?_
         have HS253 := HS251.u1
         refine takeGE 7 (by kernel_rfl) rfl (by kernel_rfl) (does_store (n := 1) (vs := [.slice A247 (x185 ++ ([vt223] : List (List S_Change))).length c248]) (cs' := #[.slice A247 (x185 ++ ([vt223] : List (List S_Change))).length c248]) rfl (by kernel_rfl) (by kernel_rfl : _ = Value.pointer (some ⟨b85, 0, none⟩)) (by kernel_rfl : _ = Value.slice A247 (x185 ++ ([vt223] : List (List S_Change))).length c248) rfl rfl (by intro u_ hu_; simp only [List.mem_cons, List.not_mem_nil, or_false] at hu_; subst hu_; rfl) HS253 (Nat.le_of_ble_eq_true rfl) (by kernel_rfl) ?_)
         intro W254 HS255
         refine ⟨(Sg.g2 (Sx.of [[(b85, .cells #[.slice A247 (x185 ++ ([vt223] : List (List S_Change))).length c248] 34 (0, 0))], s249] (L226.trans L235) HS255) (fun hl_ => Bool.noConfusion (show true = false from hl_)) (fun hl_ => Bool.noConfusion (show true = false from hl_))), ?_⟩
         refine doneG (by kernel_rfl) ?_ _
         refine hn201 _ _ ?_
         refine hK198 _ _ ?_
         refine wp_region_lit ?_
         refine seqL2 (by kernel_rfl) ?_
         refine wpList_nil ?_
         refine hK177 n178 _ _ (Nat.lt_succ_self _) ?_
         have HS272 := HS255.u4
         have HS273 := HS272.u4
         have HS274 := HS273.u4
         have HS275 := HS274.u3
         have HS276 := HS275.u4
         exact ⟨f234, A247, c248, s249, (w64 (x184 + 1)), (x185 ++ ([vt223] : List (List S_Change))), (fun i_ => [Value.slice A215 (rd c1.Commits x184).length c215, Value.bool true, Value.pointer (some ⟨b212, of213 + (x184 : Int).toNat * 1, none⟩), Value.slice A215 (rd c1.Commits x184).length c215, Value.pointer (some ⟨b85, 0, none⟩), Value.slice A186 x185.length c187, Value.slice A215 (rd c1.Commits x184).length c215, Value.slice A229 vt223.length c230, Value.slice (some ⟨b238, 0, none⟩) ([vt223] : List (List S_Change)).length 1, Value.slice A247 (x185 ++ ([vt223] : List (List S_Change))).length c248, Value.pointer (some ⟨b85, 0, none⟩), Value.int .i64 (w64 (x184 + 1))].getD i_ undef), (L180.trans (L226.trans L235)), HS276, HO252, h, (by kernel_rfl)⟩
       · have c196 : ¬ (x184 < (c1.Commits.length : Int)) := c196
         refine wpRwI 43 (x := (decide (x184 < (c1.Commits.length : Int)))) (v := false) (by kernel_rfl) (decide_eq_false c196) ?_
         refine condF (by kernel_rfl) ?_
         refine wp_exit ?_
         refine hx94 _ _ ?_
         exact J268 f179 A186 c187 s188 x185 (fun i_ => [(j183 0), Value.int .i64 x184, Value.bool false, (j183 2), (j183 3), (j183 4), (j183 5), (j183 6), (j183 7), (j183 8), (j183 9), (j183 10), (j183 11)].getD i_ undef) W181 _ L180 h HS182 HO189 (by kernel_rfl)

end Go.Sp.K5
