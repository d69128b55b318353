import Derived.Test.YtiofgpdfnhihhaaGreatDoorProg
import Derived.Test.YtiofgpdfnhihhaaGreatDoorSpCopy
import Derived.Test.YtiofgpdfnhihhaaGreatDoorFF3
import Derived.Test.YtiofgpdfnhihhaaGreatDoorSpStr
import Derived.Test.YtiofgpdfnhihhaaGreatDoorSpLib
import Derived.Test.YtiofgpdfnhihhaaGreatDoorSpBld
import Derived.Test.YtiofgpdfnhihhaaGreatDoorConv
import Derived.Test.YtiofgpdfnhihhaaGreatDoorLibs
import Derived.Test.YtiofgpdfnhihhaaGreatDoorSpGrow
import Derived.Test.YtiofgpdfnhihhaaGreatDoorSpRound
import Derived.Test.YtiofgpdfnhihhaaGreatDoorKF3n0
import Derived.Test.YtiofgpdfnhihhaaGreatDoorKF3n1
import Derived.Test.YtiofgpdfnhihhaaGreatDoorKF3n2
import Derived.Test.YtiofgpdfnhihhaaGreatDoorKF3n3
import Derived.Test.YtiofgpdfnhihhaaGreatDoorKF3n4
import Derived.Test.YtiofgpdfnhihhaaGreatDoorKF3n5
namespace Go.Sp.F3
open Go Go.Sp Go.Proofs
set_option linter.unusedVariables false
attribute [local irreducible] wpList AnyL Code.wp Calls Does Code.wpIn wpListIn CallsIn bodyPostM LeavesInM
set_option maxRecDepth 100000 in
set_option maxHeartbeats 4000000 in
theorem frame_Decode.calls (k : Nat) (A2 : Option Addr) (c3 : Nat) (b1 : List Int) {t w : World} {f : FM} {H : List Seg} (HS : St t w f (H)) (HR4 : SlR (tInt .u8) f A2 c3 b1) (HA : TabF Tryz.prog "strings.asciiSpace" .u8 Go.Lib.asciiSpaceTab f) (HM : VarI 3 f) (HT : TabF Tryz.prog "internal/strconv.uint64pow10" .u64 Go.Lib.pow10Tab f) (rr1 : S_Frame) (rr2 : Int) (h : frame_Decode k b1 = some (rr1, rr2)) :
    Calls Tryz.prog 19 #[.slice A2 b1.length c3] w (fun e w' => ∃ (g : FM) (A519 : Option Addr) (c520 : Nat) (A521 : Option Addr) (c522 : Nat) (s523 : Seg), e = .returned (Value.tuple #[.agg #[.int .i64 rr1.W, .int .i64 rr1.H, .slice A519 rr1.Cards.length c520, .slice A521 rr1.Counts.length c522], .int .i64 rr2]) ∧ FM.le f g ∧ St t w' g (s523 :: H) ∧ SlR ty_Card g A519 c520 rr1.Cards ∧ Own (tInt .i64) 3 g A521 c522 s523 rr1.Counts) := by
 unfold frame_Decode at h
 refine enter Tryz.func19 rfl (tm := #[.slice A2 b1.length c3, uV, uV, uV, uV, uV, uV, uV, uV, uV, uV, uV, uV, uV, uV, uV, uV, uV, uV, uV, uV, uV, uV, uV, uV, uV, uV, uV, uV, uV, uV, uV, uV, uV, uV, uV, uV, uV, uV, uV, uV, uV, uV, uV, uV, uV, uV, uV, uV, uV, uV, uV, uV, uV, uV, uV, uV, uV, uV, uV, uV, uV, uV, uV, uV, uV, uV, uV, uV, uV, uV, uV, uV, uV, uV, uV, uV, uV, uV, uV, uV, uV, uV, uV, uV, uV, uV, uV, uV, uV, uV, uV, uV, uV, uV, uV, uV, uV, uV, uV, uV, uV, uV, uV, uV, uV, uV, uV, uV, uV, uV, uV, uV, uV, uV]) kr ?_
 intro B hret hnor hnp
 refine wp_seq_k fun K5 hK6 => rl ?_
 refine seqK rfl (does_alloc (z := Value.agg #[.int .i64 0, .int .i64 0, .slice none 0 0, .slice none 0 0]) (cs := #[.int .i64 0, .int .i64 0, .slice none 0 0, .slice none 0 0]) rfl kr rfl HS ?_)
 intro b7 W8 HS9
 refine seqL1 kr ?_
 refine nl (hK6 _ _ ?_)
 refine wp_seq_k fun K11 hK12 => rl ?_
 have hq_ := bind_some h; clear h; obtain ⟨⟨vt13, vt14⟩, hc15, h⟩ := hq_
 refine seqL1 kr ?_
 refine seqK rfl (does_call (f := 38) (args := #[.slice A2 b1.length c3]) kr (frame_Verify.calls k A2 c3 b1 HS9 HR4 vt13 vt14 hc15) ?_)
 rintro _ W18 ⟨f16, A20, c21, s22, rfl, L17, HS19, HO23⟩
 refine ⟨_, rfl, ?_⟩
 refine seqL5 kr ?_
 refine nl (hK12 _ _ ?_)
 refine wp_seq_k (fun K25 hK26 => ?_)
 refine blockK (fun B27 hx28 hn29 hr30 ho31 hp32 => ?_)
 refine wp_seq_k fun K34 hK35 => rl ?_
 refine seqL3 kr ?_
 refine nl (hK35 _ _ ?_)
 have hq_ := ite_some h; clear h; rcases hq_ with ⟨c37, h⟩ | ⟨c37, h⟩
 · have c37 : vt14 ≠ 0 := c37
   refine wpRwI 21 kr (bne_iff_ne.mpr c37) ?_
   refine wpRwI 23 kr (bne_iff_ne.mpr c37) ?_
   refine condT kr ?_
   refine wp_seq_k fun K38 hK39 => rl ?_
   have HS40 := HS19.u1
   refine seqL2 kr ?_
   refine seqK rfl (does_storeA (vs := [.int .i64 0, .int .i64 0, .slice none 0 0, .slice none 0 0]) rfl kr kr kr rfl (ones rfl) HS40 kr ?_)
   intro W41 HS42
   refine seqL1 kr ?_
   refine nl (hK39 _ _ ?_)
   refine wp_ret ?_
   refine hr30 _ _ ?_
   refine hret _ _ ?_
   have HS444 := HS42.cons_nil
   refine ends (v := Value.tuple #[.agg #[.int .i64 0, .int .i64 0, .slice none 0 0, .slice none 0 0], .int .i64 vt14]) (results2 (q1 := .cell 2 25) (q2 := .tmp 3) kr (resN (n := 4) (cs := [.int .i64 0, .int .i64 0, .slice none 0 0, .slice none 0 0]) (kv (.pointer (some ⟨b7, 0, none⟩))) Tryz.underlying25 rfl kr rfl (HS444.u1.cells 0 4 _ rfl)) (resT (kv (.int .i64 vt14)))) kr ?_
   have HS447 := HS444.u2.u2
   have HS448 := HS447.drop
   have HS449 := HS448.drop
   injection h with h
   injection h with h0_ h
   subst h0_ h
   exact ⟨f16, none, 0, none, 0, [], rfl, L17, HS449, (SlR.nil _ _), (Own.nil _)⟩
 · have c37 : ¬ (vt14 ≠ 0) := c37
   refine wpRwI 21 (x := (vt14 != 0)) (v := false) kr (bne_eq_false_iff_eq.mpr (Decidable.of_not_not c37)) ?_
   refine wpRwI 23 (x := (vt14 != 0)) (v := false) kr (bne_eq_false_iff_eq.mpr (Decidable.of_not_not c37)) ?_
   refine condF kr ?_
   refine wp_seq_k fun K43 hK44 => rl ?_
   refine seqL4 kr ?_
   refine nl (hK44 _ _ ?_)
   have hq_ := ite_some h; clear h; rcases hq_ with ⟨c46, h⟩ | ⟨c46, h⟩
   · have c46 : (vt13.length : Int) > 0 := c46
     refine wpRwI 26 kr (decide_eq_true c46) ?_
     refine wpRwI 29 kr (decide_eq_true c46) ?_
     refine condT kr ?_
     refine wp_seq_k fun K47 hK48 => rl ?_
     have HS49 := HS19.u1
     refine seqL1 kr ?_
     refine seqK rfl (does_storeA (vs := [.int .i64 0, .int .i64 0, .slice none 0 0, .slice none 0 0]) rfl kr kr kr rfl (ones rfl) HS49 kr ?_)
     intro W50 HS51
     refine seqL1 kr ?_
     refine nl (hK48 _ _ ?_)
     refine wp_ret ?_
     refine hr30 _ _ ?_
     refine hret _ _ ?_
     have HS450 := HS51.cons_nil
     refine ends (v := Value.tuple #[.agg #[.int .i64 0, .int .i64 0, .slice none 0 0, .slice none 0 0], .int .i64 13]) (results2 (q1 := .cell 2 25) (q2 := .tmp 3) kr (resN (n := 4) (cs := [.int .i64 0, .int .i64 0, .slice none 0 0, .slice none 0 0]) (kv (.pointer (some ⟨b7, 0, none⟩))) Tryz.underlying25 rfl kr rfl (HS450.u1.cells 0 4 _ rfl)) (resT (kv (.int .i64 13)))) kr ?_
     have HS453 := HS450.u2.u2
     have HS454 := HS453.drop
     have HS455 := HS454.drop
     injection h with h
     injection h with h0_ h
     subst h0_ h
     exact ⟨f16, none, 0, none, 0, [], rfl, L17, HS455, (SlR.nil _ _), (Own.nil _)⟩
   · have c46 : ¬ ((vt13.length : Int) > 0) := c46
     refine wpRwI 26 kr (decide_eq_false c46) ?_
     refine wpRwI 29 kr (decide_eq_false c46) ?_
     refine condF kr ?_
     refine wp_skip ?_
     refine hn29 _ _ ?_
     refine hK26 _ _ ?_
     refine wp_seq_k fun K52 hK53 => rl ?_
     refine seqL1 kr ?_
     refine nl (hK53 _ _ ?_)
     refine wp_seq_k (fun K54 hK55 => ?_)
     refine wp_seq_k fun K56 hK57 => rl ?_
     refine seqL1 kr ?_
     refine nl (hK57 _ _ ?_)
     refine blockK (fun B58 hx59 hn60 hr61 ho62 hp63 => ?_)
     have hq_ := bind_some h; clear h; obtain ⟨o64, hv119, h⟩ := hq_
     have J120 : ∀ (f108 : FM) (A114 : Option Addr) (c115 : Nat) (s116 : Seg) (body113 : List Int) (j112 : Nat → Value) (W110 : World) (a_ : Act), FM.le f16 f108 → some (body113) = some o64 → St t W110 f108 (s116 :: s22 :: [(b7, .cells #[.int .i64 0, .int .i64 0, .slice none 0 0, .slice none 0 0] 25 (0, 0))] :: H) → Own (tInt .u8) 5 f108 A114 c115 s116 body113 → a_ = ⟨#[.slice A2 b1.length c3, uV, pV b7 0, iV 0, .slice A20 vt13.length c21, iV vt14, .slice A114 body113.length c115, (j112 0), uV, uV, uV, uV, uV, uV, uV, uV, .tuple #[.slice A20 vt13.length c21, iV vt14], .slice A2 b1.length c3, .tuple #[.slice A20 vt13.length c21, iV vt14], .slice A20 vt13.length c21, iV vt14, fV, iV vt14, fV, uV, uV, fV, .slice A20 vt13.length c21, iV (vt13.length : Int), fV, uV, (j112 1), (j112 2), (j112 3), (j112 4), (j112 5), (j112 6), (j112 7), (j112 8), (j112 9), (j112 10), (j112 11), (j112 12), (j112 13), uV, uV, uV, uV, uV, uV, uV, uV, uV, uV, uV, uV, uV, uV, uV, uV, uV, uV, uV, uV, uV, uV, uV, uV, uV, uV, uV, uV, uV, uV, uV, uV, uV, uV, uV, uV, uV, uV, uV, uV, uV, uV, uV, uV, uV, uV, uV, uV, uV, uV, uV, uV, uV, uV, uV, uV, uV, uV, uV, uV, uV, uV, uV, uV, uV, uV, uV, uV, uV, uV, uV], []⟩ → K54 a_ W110 := by
      intro f108 A114 c115 s116 body113 j112 W110 a_ L109 hj121 HS111 HO117 hfr_; subst hfr_
      injection hj121 with hj121; subst hj121; try dsimp only at h
      refine hK55 _ _ ?_
      refine wp_seq_k fun K124 hK125 => rl ?_
      refine seqL1 kr ?_
      refine nl (hK125 _ _ ?_)
      refine wp_seq_k fun K126 hK127 => rl ?_
      refine seqL1 kr ?_
      refine nl (hK127 _ _ ?_)
      refine wp_seq_k (fun K128 hK129 => ?_)
      refine blockK (fun B130 hx131 hn132 hr133 ho134 hp135 => ?_)
      obtain ⟨f235, L236, HS237, HR238⟩ := HO117.freeze HS111
      have hq_ := bind_some h; clear h; obtain ⟨o239, hv345, h⟩ := hq_
      have JR347 : ∀ z_, some (Sum.inl z_) = some o239 → some z_ = some (rr1, rr2) := by
       intro z_ e_; injection e_ with e_; subst e_; exact h
      have J346 : ∀ (f333 : FM) (A339 : Option Addr) (c340 : Nat) (s341 : Seg) (cards338 : List S_Card) (vat344 : Int) (j337 : Nat → Value) (W335 : World) (a_ : Act), FM.le f235 f333 → some (Sum.inr (cards338, vat344)) = some o239 → St t W335 f333 (s341 :: s22 :: [(b7, .cells #[.int .i64 0, .int .i64 0, .slice none 0 0, .slice none 0 0] 25 (0, 0))] :: H) → Own ty_Card 70 f333 A339 c340 s341 cards338 → a_ = ⟨#[.slice A2 b1.length c3, uV, pV b7 0, (j337 0), .slice A20 vt13.length c21, iV vt14, .slice A114 body113.length c115, (j112 0), .slice A339 cards338.length c340, iV vat344, (j337 1), (j337 2), uV, uV, uV, uV, .tuple #[.slice A20 vt13.length c21, iV vt14], .slice A2 b1.length c3, .tuple #[.slice A20 vt13.length c21, iV vt14], .slice A20 vt13.length c21, iV vt14, fV, iV vt14, fV, uV, uV, fV, .slice A20 vt13.length c21, iV (vt13.length : Int), fV, uV, (j112 1), (j112 2), (j112 3), (j112 4), (j112 5), (j112 6), (j112 7), (j112 8), (j112 9), (j112 10), (j112 11), (j112 12), (j112 13), (j337 3), (j337 4), (j337 5), (j337 6), (j337 7), (j337 8), (j337 9), (j337 10), (j337 11), (j337 12), (j337 13), (j337 14), (j337 15), (j337 16), (j337 17), (j337 18), (j337 19), (j337 20), (j337 21), (j337 22), (j337 23), (j337 24), (j337 25), (j337 26), (j337 27), (j337 28), (j337 29), (j337 30), (j337 31), (j337 32), (j337 33), (j337 34), (j337 35), (j337 36), (j337 37), (j337 38), (j337 39), (j337 40), uV, uV, uV, uV, uV, uV, uV, uV, uV, uV, uV, uV, uV, uV, uV, uV, uV, uV, uV, uV, uV, uV, uV, uV, uV, uV, uV, uV, uV, uV, uV, uV, uV], []⟩ → K128 a_ W335 := by
       intro f333 A339 c340 s341 cards338 vat344 j337 W335 a_ L334 hj348 HS336 HO342 hfr_; subst hfr_
       injection hj348 with hj348; subst hj348; try dsimp only at h
       simp only [Sum.elim_inr] at h
       refine hK129 _ _ ?_
       refine wp_seq_k fun K356 hK357 => rl ?_
       have hq_ := guard_some h; clear h; obtain ⟨c358, h⟩ := hq_
       have c358 : 0 ≤ (mn (body113.length : Int) (w64 ((w64 ((w64 (Int.tdiv vat344 256)) + 1)) * 256))) := c358
       have hq_ := guard_some h; clear h; obtain ⟨c359, h⟩ := hq_
       have c359 : (mn (body113.length : Int) (w64 ((w64 ((w64 (Int.tdiv vat344 256)) + 1)) * 256))) ≤ (body113.length : Int) := c359
       refine seqL9 kr ?_
       refine seqK rfl (does_cutL (e := (tInt .u8)) (xs := body113) rfl Tryz.underlying30 kr (kv (.slice A114 body113.length c115)) (kv (.int .i64 (mn (body113.length : Int) (w64 ((w64 ((w64 (Int.tdiv vat344 256)) + 1)) * 256))))) c358 c359 HR238 ?_)
       intro A360 c361 HR362
       obtain ⟨f363, L364, HS365, HR366⟩ := HO342.freeze HS336
       have hq_ := bind_some h; clear h; obtain ⟨⟨vt367, vt368⟩, hc369, h⟩ := hq_
       refine seqK rfl (does_call (f := 41) (args := #[.slice A339 cards338.length c340, .slice A360 (body113.drop (mn (body113.length : Int) (w64 ((w64 ((w64 (Int.tdiv vat344 256)) + 1)) * 256))).toNat).length c361]) kr (frame_whole.calls k A339 c340 A360 c361 cards338 (body113.drop (mn (body113.length : Int) (w64 ((w64 ((w64 (Int.tdiv vat344 256)) + 1)) * 256))).toNat) HS365 HR366 (HR362.mono (L334.trans L364)) vt367 vt368 hc369) ?_)
       rintro _ W372 ⟨f370, A374, c375, A377, c378, s379, rfl, L371, HS373, HR376, HO380⟩
       refine ⟨_, rfl, ?_⟩
       refine seqL3 kr ?_
       refine seqK rfl (does_alloc (z := Value.agg #[.int .i64 0, .int .i64 0, .slice none 0 0, .slice none 0 0]) (cs := #[.int .i64 0, .int .i64 0, .slice none 0 0, .slice none 0 0]) rfl kr rfl HS373 ?_)
       intro b382 W383 HS384
       refine seqK rfl (does_storeA (vs := [.int .i64 vt367.W, .int .i64 vt367.H, .slice A374 vt367.Cards.length c375, .slice A377 vt367.Counts.length c378]) rfl kr kr kr rfl (ones rfl) HS384 kr ?_)
       intro W386 HS387
       refine seqL1 kr ?_
       refine nl (hK357 _ _ ?_)
       refine wp_seq_k (fun K388 hK389 => ?_)
       refine wp_seq_k fun K390 hK391 => rl ?_
       refine seqL2 kr ?_
       refine nl (hK391 _ _ ?_)
       have hq_ := ite_some h; clear h; rcases hq_ with ⟨c393, h⟩ | ⟨c393, h⟩
       · have c393 : ¬ (vt368 = true) := c393
         refine wpRwI 97 kr (congrArg (fun b_ => !b_) (show vt368 = false from (Bool.eq_false_iff.mpr c393)) : (!vt368) = true) ?_
         refine condT kr ?_
         refine wp_seq_k fun K394 hK395 => rl ?_
         have HS396 := HS387.u3
         refine seqL1 kr ?_
         refine seqK rfl (does_storeA (vs := [.int .i64 0, .int .i64 0, .slice none 0 0, .slice none 0 0]) rfl kr kr kr rfl (ones rfl) HS396 kr ?_)
         intro W397 HS398
         refine seqL1 kr ?_
         refine nl (hK395 _ _ ?_)
         refine wp_ret ?_
         refine hret _ _ ?_
         have HS476 := HS398.cons_nil
         refine ends (v := Value.tuple #[.agg #[.int .i64 0, .int .i64 0, .slice none 0 0, .slice none 0 0], .int .i64 3]) (results2 (q1 := .cell 2 25) (q2 := .tmp 3) kr (resN (n := 4) (cs := [.int .i64 0, .int .i64 0, .slice none 0 0, .slice none 0 0]) (kv (.pointer (some ⟨b7, 0, none⟩))) Tryz.underlying25 rfl kr rfl (HS476.u1.cells 0 4 _ rfl)) (resT (kv (.int .i64 3)))) kr ?_
         have HS481 := HS476.u4.u4.u4.u4
         have HS482 := HS481.drop
         have HS483 := HS482.drop
         have HS484 := HS483.drop
         have HS485 := HS484.drop
         injection h with h
         injection h with h0_ h
         subst h0_ h
         exact ⟨f370, none, 0, none, 0, [], rfl, (L17.trans (L109.trans (L236.trans (L334.trans (L364.trans L371))))), HS485, (SlR.nil _ _), (Own.nil _)⟩
       · have c393 : ¬ (¬ (vt368 = true)) := c393
         refine wpRwI 97 (x := (!vt368)) (v := false) kr (congrArg (fun b_ => !b_) (show vt368 = true from (Decidable.of_not_not c393)) : (!vt368) = false) ?_
         refine condF kr ?_
         refine wp_skip ?_
         refine hK389 _ _ ?_
         refine wp_seq_k (fun K399 hK400 => ?_)
         refine wp_seq_k fun K401 hK402 => rl ?_
         refine seqK rfl (does_run (run_loadN (n := 4) rfl Tryz.underlying25 rfl kr (kv (.pointer (some ⟨b382, 0, none⟩))) (cs := [.int .i64 vt367.W, .int .i64 vt367.H, .slice A374 vt367.Cards.length c375, .slice A377 vt367.Counts.length c378]) rfl (HS387.cells 0 4 _ rfl)) ?_)
         have HS403 := HS387.u1
         obtain ⟨f404, L405, HS406, HR407, th408⟩ := HO380.lend HS403
         have hq_ := bind_some h; clear h; obtain ⟨⟨vt409, vt410⟩, hc411, h⟩ := hq_
         refine seqK rfl (does_call (f := 16) (args := #[.agg #[.int .i64 vt367.W, .int .i64 vt367.H, .slice A374 vt367.Cards.length c375, .slice A377 vt367.Counts.length c378]]) kr (frame_Encode.calls k A374 c375 A377 c378 vt367 HS406 (HR376.mono L405) HR407 (HA.mono (L17.trans (L109.trans (L236.trans (L334.trans (L364.trans (L371.trans L405))))))) (HT.mono (L17.trans (L109.trans (L236.trans (L334.trans (L364.trans (L371.trans L405))))))) vt409 vt410 hc411) ?_)
         rintro _ W414 ⟨f412, A416, c417, s418, rfl, L413, HS415, HO419⟩
         refine ⟨_, rfl, ?_⟩
         obtain ⟨f421, L422, HS423⟩ := th408 L413 HS415
         replace HO419 := HO419.flat (g := f421) (fun _ _ _ _ h_ => h_)
         refine seqL5 kr ?_
         refine nl (hK402 _ _ ?_)
         refine wp_seq_k fun K424 hK425 => rl ?_
         refine seqL3 kr ?_
         have hq_ := ite_some h; clear h; rcases hq_ with ⟨c426, h⟩ | ⟨c426, h⟩
         · have c426 : vt410 ≠ 0 := c426
           refine seqRwI 105 kr (bne_iff_ne.mpr c426) ?_
           refine seqRwI 106 kr (bne_iff_ne.mpr c426) ?_
           refine seqL6 kr ?_
           refine nl (hK425 _ _ ?_)
           refine condT kr ?_
           refine wp_seq_k fun K427 hK428 => rl ?_
           have HS429 := HS423.u4
           refine seqL1 kr ?_
           refine seqK rfl (does_storeA (vs := [.int .i64 0, .int .i64 0, .slice none 0 0, .slice none 0 0]) rfl kr kr kr rfl (ones rfl) HS429 kr ?_)
           intro W430 HS431
           refine seqL1 kr ?_
           refine nl (hK428 _ _ ?_)
           refine wp_ret ?_
           refine hret _ _ ?_
           have HS486 := HS431.cons_nil
           refine ends (v := Value.tuple #[.agg #[.int .i64 0, .int .i64 0, .slice none 0 0, .slice none 0 0], .int .i64 3]) (results2 (q1 := .cell 2 25) (q2 := .tmp 3) kr (resN (n := 4) (cs := [.int .i64 0, .int .i64 0, .slice none 0 0, .slice none 0 0]) (kv (.pointer (some ⟨b7, 0, none⟩))) Tryz.underlying25 rfl kr rfl (HS486.u1.cells 0 4 _ rfl)) (resT (kv (.int .i64 3)))) kr ?_
           have HS492 := HS486.u5.u5.u5.u5.u5
           have HS493 := HS492.drop
           have HS494 := HS493.drop
           have HS495 := HS494.drop
           have HS496 := HS495.drop
           have HS497 := HS496.drop
           injection h with h
           injection h with h0_ h
           subst h0_ h
           exact ⟨f421, none, 0, none, 0, [], rfl, (L17.trans (L109.trans (L236.trans (L334.trans (L364.trans (L371.trans L422)))))), HS497, (SlR.nil _ _), (Own.nil _)⟩
         · have c426 : ¬ (vt410 ≠ 0) := c426
           refine seqRwI 105 (x := (vt410 != 0)) (v := false) kr (bne_eq_false_iff_eq.mpr (Decidable.of_not_not c426)) ?_
           refine seqRwI 106 (x := (vt410 != 0)) (v := false) kr (bne_eq_false_iff_eq.mpr (Decidable.of_not_not c426)) ?_
           refine seqL1 kr ?_
           refine seqG kr (does_run (run_bstr (f := _) rfl Tryz.underlying30 Tryz.underlying5 Tryz.underlying9 (kv (.slice A416 vt409.length c417)) ((HO419.mono fL).rc HS423.u1)) ?_)
           refine seqL1 kr ?_
           refine seqG kr (does_run (run_bstr (f := _) rfl Tryz.underlying30 Tryz.underlying5 Tryz.underlying9 (kv (.slice A2 b1.length c3)) ((HR4.mono (L17.trans (L109.trans (L236.trans (L334.trans (L364.trans (L371.trans L422))))))).rc HS423)) ?_)
           refine seqL2 kr ?_
           refine nl (hK425 _ _ ?_)
           have hq_ := ite_some h; clear h; rcases hq_ with ⟨c433, h⟩ | ⟨c433, h⟩
           · have c433 : (!((bstr vt409).toList == (bstr b1).toList)) = true := c433
             refine wpRwI 111 kr c433 ?_
             refine wpRwI 112 kr c433 ?_
             refine condT kr ?_
             refine wp_seq_k fun K434 hK435 => rl ?_
             have HS436 := HS423.u4
             refine seqL1 kr ?_
             refine seqK rfl (does_storeA (vs := [.int .i64 0, .int .i64 0, .slice none 0 0, .slice none 0 0]) rfl kr kr kr rfl (ones rfl) HS436 kr ?_)
             intro W437 HS438
             refine seqL1 kr ?_
             refine nl (hK435 _ _ ?_)
             refine wp_ret ?_
             refine hret _ _ ?_
             have HS498 := HS438.cons_nil
             refine ends (v := Value.tuple #[.agg #[.int .i64 0, .int .i64 0, .slice none 0 0, .slice none 0 0], .int .i64 3]) (results2 (q1 := .cell 2 25) (q2 := .tmp 3) kr (resN (n := 4) (cs := [.int .i64 0, .int .i64 0, .slice none 0 0, .slice none 0 0]) (kv (.pointer (some ⟨b7, 0, none⟩))) Tryz.underlying25 rfl kr rfl (HS498.u1.cells 0 4 _ rfl)) (resT (kv (.int .i64 3)))) kr ?_
             have HS504 := HS498.u5.u5.u5.u5.u5
             have HS505 := HS504.drop
             have HS506 := HS505.drop
             have HS507 := HS506.drop
             have HS508 := HS507.drop
             have HS509 := HS508.drop
             injection h with h
             injection h with h0_ h
             subst h0_ h
             exact ⟨f421, none, 0, none, 0, [], rfl, (L17.trans (L109.trans (L236.trans (L334.trans (L364.trans (L371.trans L422)))))), HS509, (SlR.nil _ _), (Own.nil _)⟩
           · have c433 : ¬ ((!((bstr vt409).toList == (bstr b1).toList)) = true) := c433
             refine wpRwI 111 kr (Bool.eq_false_iff.mpr c433) ?_
             refine wpRwI 112 kr (Bool.eq_false_iff.mpr c433) ?_
             refine condF kr ?_
             refine wp_skip ?_
             refine hK400 _ _ ?_
             refine wp_seq_k fun K439 hK440 => rl ?_
             refine seqK rfl (does_run (run_loadN (n := 4) rfl Tryz.underlying25 rfl kr (kv (.pointer (some ⟨b382, 0, none⟩))) (cs := [.int .i64 vt367.W, .int .i64 vt367.H, .slice A374 vt367.Cards.length c375, .slice A377 vt367.Counts.length c378]) rfl (HS423.u2.cells 0 4 _ rfl)) ?_)
             have HS441 := HS423.u4
             refine seqK rfl (does_storeA (vs := [.int .i64 vt367.W, .int .i64 vt367.H, .slice A374 vt367.Cards.length c375, .slice A377 vt367.Counts.length c378]) rfl kr kr kr rfl (ones rfl) HS441 kr ?_)
             intro W442 HS443
             refine seqL1 kr ?_
             refine nl (hK440 _ _ ?_)
             refine wp_ret ?_
             refine hret _ _ ?_
             refine ends (v := Value.tuple #[.agg #[.int .i64 vt367.W, .int .i64 vt367.H, .slice A374 vt367.Cards.length c375, .slice A377 vt367.Counts.length c378], .int .i64 0]) (results2 (q1 := .cell 2 25) (q2 := .tmp 3) kr (resN (n := 4) (cs := [.int .i64 vt367.W, .int .i64 vt367.H, .slice A374 vt367.Cards.length c375, .slice A377 vt367.Counts.length c378]) (kv (.pointer (some ⟨b7, 0, none⟩))) Tryz.underlying25 rfl kr rfl (HS443.cells 0 4 _ rfl)) (resT (kv (.int .i64 0)))) kr ?_
             have HS514 := HS443.u1.u4.u4.u4.u4
             have HS515 := HS514.drop
             have HS516 := HS515.drop
             have HS517 := HS516.drop
             have HS518 := HS517.drop
             injection h with h
             injection h with h0_ h
             subst h0_ h
             exact ⟨f421, A374, c375, A377, c378, s379, rfl, (L17.trans (L109.trans (L236.trans (L334.trans (L364.trans (L371.trans L422)))))), HS518, (HR376.mono L422), (HO380.mono L422)⟩
      clear h; have h := hv345; clear hv345
      have HS349 := HS237.cons_nil
      refine loopK (fun n_ a_ w_ => ∃ (f243 : FM) (A249 : Option Addr) (c250 : Nat) (s251 : Seg) (cards248 : List S_Card) (vat254 : Int) (j247 : Nat → Value), FM.le f235 f243 ∧ St t w_ f243 (s251 :: s22 :: [(b7, .cells #[.int .i64 0, .int .i64 0, .slice none 0 0, .slice none 0 0] 25 (0, 0))] :: H) ∧ Own ty_Card 70 f243 A249 c250 s251 cards248 ∧ frame_Decode.l1 k body113 n_ cards248 vat254 = some o239 ∧ a_ = ⟨#[.slice A2 b1.length c3, uV, pV b7 0, (j247 0), .slice A20 vt13.length c21, iV vt14, .slice A114 body113.length c115, (j112 0), .slice A249 cards248.length c250, iV vat254, (j247 1), (j247 2), uV, uV, uV, uV, .tuple #[.slice A20 vt13.length c21, iV vt14], .slice A2 b1.length c3, .tuple #[.slice A20 vt13.length c21, iV vt14], .slice A20 vt13.length c21, iV vt14, fV, iV vt14, fV, uV, uV, fV, .slice A20 vt13.length c21, iV (vt13.length : Int), fV, uV, (j112 1), (j112 2), (j112 3), (j112 4), (j112 5), (j112 6), (j112 7), (j112 8), (j112 9), (j112 10), (j112 11), (j112 12), (j112 13), (j247 3), (j247 4), (j247 5), (j247 6), (j247 7), (j247 8), (j247 9), (j247 10), (j247 11), (j247 12), (j247 13), (j247 14), (j247 15), (j247 16), (j247 17), (j247 18), (j247 19), (j247 20), (j247 21), (j247 22), (j247 23), (j247 24), (j247 25), (j247 26), (j247 27), (j247 28), (j247 29), (j247 30), (j247 31), (j247 32), (j247 33), (j247 34), (j247 35), (j247 36), (j247 37), (j247 38), (j247 39), (j247 40), uV, uV, uV, uV, uV, uV, uV, uV, uV, uV, uV, uV, uV, uV, uV, uV, uV, uV, uV, uV, uV, uV, uV, uV, uV, uV, uV, uV, uV, uV, uV, uV, uV], []⟩) k ⟨f235, none, 0, [], ([] : List S_Card), 0, (jL [iV 0]), fL, HS349, (Own.nil _), h, kr⟩ ?_
      clear h
      rintro n242 _ W245 ⟨f243, A249, c250, s251, cards248, vat254, j247, L244, HS246, HO252, h, rfl⟩ K240 hK241
      obtain _ | n242 := n242
      · exact nomatch h
      simp only [frame_Decode.l1] at h
      refine wp_seq_k (fun K255 hK256 => ?_)
      refine wp_seq_k fun K257 hK258 => rl ?_
      refine seqL5 kr ?_
      have hq_ := ite_some h; clear h; rcases hq_ with ⟨c259, h⟩ | ⟨c259, h⟩
      · have c259 : vat254 < (body113.length : Int) := c259
        refine seqRwI 47 kr (decide_eq_true c259) ?_
        refine seqRwI 48 kr (decide_eq_true c259) ?_
        have hq_ := guard_some h; clear h; obtain ⟨c260, h⟩ := hq_
        have c260 : 0 ≤ vat254 := c260
        have hq_ := guard_some h; clear h; obtain ⟨c261, h⟩ := hq_
        have c261 : vat254 ≤ (w64 (vat254 + 64)) := c261
        have hq_ := guard_some h; clear h; obtain ⟨c262, h⟩ := hq_
        have c262 : (w64 (vat254 + 64)) ≤ (body113.length : Int) := c262
        refine seqL4 kr ?_
        refine seqG kr (does_cutLH (e := (tInt .u8)) (xs := body113) rfl Tryz.underlying30 kr (kv (.slice A114 body113.length c115)) (kv (.int .i64 vat254)) (kv (.int .i64 (w64 (vat254 + 64))))  c260 c261 c262 HR238 ?_)
        intro A263 c264 HR265
        refine seqG kr (does_run (run_bstr (f := _) rfl Tryz.underlying30 Tryz.underlying5 Tryz.underlying9 (kv (.slice A263 ((body113.take (w64 (vat254 + 64)).toNat).drop (vat254).toNat).length c264)) ((HR265.mono L244).rc HS246)) ?_)
        have hq_ := bind_some h; clear h; obtain ⟨vt266, hc267, h⟩ := hq_
        refine seqG kr (does_call (f := 39) (args := #[.string (bstr ((body113.take (w64 (vat254 + 64)).toNat).drop (vat254).toNat)), .string ⟨#[32]⟩]) kr (strings_TrimRight.calls k (bstr ((body113.take (w64 (vat254 + 64)).toNat).drop (vat254).toNat)) Z11 HS246 vt266 hc267) ?_)
        rintro _ W270 ⟨f268, rfl, L269, HS271⟩
        refine ⟨_, rfl, ?_⟩
        refine seqL2 kr ?_
        refine nl (hK258 _ _ ?_)
        have hq_ := ite_some h; clear h; rcases hq_ with ⟨c273, h⟩ | ⟨c273, h⟩
        · have c273 : (!(vt266.toList == Z19.toList)) = true := c273
          refine wpRwI 56 kr c273 ?_
          refine wpRwI 57 kr c273 ?_
          refine condT kr ?_
          refine wp_skip ?_
          refine hK256 _ _ ?_
          refine wp_seq_k (fun K274 hK275 => ?_)
          refine blockK (fun B276 hx277 hn278 hr279 ho280 hp281 => ?_)
          refine wp_seq_k fun K283 hK284 => rl ?_
          refine seqL4 kr ?_
          refine seqK rfl (does_cutLH (e := (tInt .u8)) (xs := body113) rfl Tryz.underlying30 kr (kv (.slice A114 body113.length c115)) (kv (.int .i64 vat254)) (kv (.int .i64 (w64 (vat254 + 64))))  c260 c261 c262 HR238 ?_)
          intro A285 c286 HR287
          refine seqK rfl (does_run (run_bstr (f := _) rfl Tryz.underlying30 Tryz.underlying5 Tryz.underlying9 (kv (.slice A285 ((body113.take (w64 (vat254 + 64)).toNat).drop (vat254).toNat).length c286)) ((HR287.mono (L244.trans L269)).rc HS271)) ?_)
          have hq_ := bind_some h; clear h; obtain ⟨⟨vt288, vt289⟩, hc290, h⟩ := hq_
          refine seqK rfl (does_call (f := 40) (args := #[.string (bstr ((body113.take (w64 (vat254 + 64)).toNat).drop (vat254).toNat))]) kr (frame_card.calls k (bstr ((body113.take (w64 (vat254 + 64)).toNat).drop (vat254).toNat)) HS271 (HM.mono (L17.trans (L109.trans (L236.trans (L244.trans L269))))) vt288 vt289 hc290) ?_)
          rintro _ W293 ⟨f291, rfl, L292, HS294⟩
          refine ⟨_, rfl, ?_⟩
          refine seqL3 kr ?_
          refine seqK rfl (does_alloc (z := Value.agg #[.string ⟨#[]⟩, .string ⟨#[]⟩, .string ⟨#[]⟩, .string ⟨#[]⟩]) (cs := #[.string ⟨#[]⟩, .string ⟨#[]⟩, .string ⟨#[]⟩, .string ⟨#[]⟩]) rfl kr rfl HS294 ?_)
          intro b295 W296 HS297
          refine seqK rfl (does_storeA (vs := [.string vt288.Key, .string vt288.Value, .string vt288.Unit, .string vt288.Note]) rfl kr kr kr rfl (ones rfl) HS297 kr ?_)
          intro W299 HS300
          refine seqL1 kr ?_
          refine nl (hK284 _ _ ?_)
          refine wp_seq_k (fun K301 hK302 => ?_)
          refine wp_seq_k fun K303 hK304 => rl ?_
          refine seqL3 kr ?_
          have hq_ := ite_some h; clear h; rcases hq_ with ⟨c305, h⟩ | ⟨c305, h⟩
          · have c305 : ¬ (vt289 = true) := c305
            refine seqRwI 71 kr (congrArg (fun b_ => !b_) (show vt289 = false from (Bool.eq_false_iff.mpr c305)) : (!vt289) = true) ?_
            refine seqRwI 72 kr (congrArg (fun b_ => !b_) (show vt289 = false from (Bool.eq_false_iff.mpr c305)) : (!vt289) = true) ?_
            refine seqL4 kr ?_
            refine nl (hK304 _ _ ?_)
            refine condT kr ?_
            refine wp_seq_k fun K306 hK307 => rl ?_
            have HS308 := HS300.u3
            refine seqL1 kr ?_
            refine seqK rfl (does_storeA (vs := [.int .i64 0, .int .i64 0, .slice none 0 0, .slice none 0 0]) rfl kr kr kr rfl (ones rfl) HS308 kr ?_)
            intro W309 HS310
            refine seqL1 kr ?_
            refine nl (hK307 _ _ ?_)
            refine wp_ret ?_
            refine hr279 _ _ ?_
            refine hr133 _ _ ?_
            refine hret _ _ ?_
            have HS456 := HS310.cons_nil
            refine ends (v := Value.tuple #[.agg #[.int .i64 0, .int .i64 0, .slice none 0 0, .slice none 0 0], .int .i64 3]) (results2 (q1 := .cell 2 25) (q2 := .tmp 3) kr (resN (n := 4) (cs := [.int .i64 0, .int .i64 0, .slice none 0 0, .slice none 0 0]) (kv (.pointer (some ⟨b7, 0, none⟩))) Tryz.underlying25 rfl kr rfl (HS456.u1.cells 0 4 _ rfl)) (resT (kv (.int .i64 3)))) kr ?_
            have HS461 := HS456.u4.u4.u4.u4
            have HS462 := HS461.drop
            have HS463 := HS462.drop
            have HS464 := HS463.drop
            have HS465 := HS464.drop
            replace h := JR347 _ h
            injection h with h
            injection h with h0_ h
            subst h0_ h
            exact ⟨f291, none, 0, none, 0, [], rfl, (L17.trans (L109.trans (L236.trans (L244.trans (L269.trans L292))))), HS465, (SlR.nil _ _), (Own.nil _)⟩
          · have c305 : ¬ (¬ (vt289 = true)) := c305
            refine seqRwI 71 (x := (!vt289)) (v := false) kr (congrArg (fun b_ => !b_) (show vt289 = true from (Decidable.of_not_not c305)) : (!vt289) = false) ?_
            refine seqRwI 72 (x := (!vt289)) (v := false) kr (congrArg (fun b_ => !b_) (show vt289 = true from (Decidable.of_not_not c305)) : (!vt289) = false) ?_
            refine seqL4 kr ?_
            refine nl (hK304 _ _ ?_)
            have hq_ := ite_some h; clear h; rcases hq_ with ⟨c312, h⟩ | ⟨c312, h⟩
            · have c312 : (cards248.length : Int) > 31 := c312
              refine wpRwI 75 kr (decide_eq_true c312) ?_
              refine wpRwI 76 kr (decide_eq_true c312) ?_
              refine condT kr ?_
              refine wp_seq_k fun K313 hK314 => rl ?_
              have HS315 := HS300.u3
              refine seqL1 kr ?_
              refine seqK rfl (does_storeA (vs := [.int .i64 0, .int .i64 0, .slice none 0 0, .slice none 0 0]) rfl kr kr kr rfl (ones rfl) HS315 kr ?_)
              intro W316 HS317
              refine seqL1 kr ?_
              refine nl (hK314 _ _ ?_)
              refine wp_ret ?_
              refine hr279 _ _ ?_
              refine hr133 _ _ ?_
              refine hret _ _ ?_
              have HS466 := HS317.cons_nil
              refine ends (v := Value.tuple #[.agg #[.int .i64 0, .int .i64 0, .slice none 0 0, .slice none 0 0], .int .i64 3]) (results2 (q1 := .cell 2 25) (q2 := .tmp 3) kr (resN (n := 4) (cs := [.int .i64 0, .int .i64 0, .slice none 0 0, .slice none 0 0]) (kv (.pointer (some ⟨b7, 0, none⟩))) Tryz.underlying25 rfl kr rfl (HS466.u1.cells 0 4 _ rfl)) (resT (kv (.int .i64 3)))) kr ?_
              have HS471 := HS466.u4.u4.u4.u4
              have HS472 := HS471.drop
              have HS473 := HS472.drop
              have HS474 := HS473.drop
              have HS475 := HS474.drop
              replace h := JR347 _ h
              injection h with h
              injection h with h0_ h
              subst h0_ h
              exact ⟨f291, none, 0, none, 0, [], rfl, (L17.trans (L109.trans (L236.trans (L244.trans (L269.trans L292))))), HS475, (SlR.nil _ _), (Own.nil _)⟩
            · have c312 : ¬ ((cards248.length : Int) > 31) := c312
              refine wpRwI 75 kr (decide_eq_false c312) ?_
              refine wpRwI 76 kr (decide_eq_false c312) ?_
              refine condF kr ?_
              refine wp_skip ?_
              refine hK302 _ _ ?_
              refine rl ?_
              refine seqL1 kr ?_
              refine seqK rfl (does_run (run_loadN (n := 4) rfl Tryz.underlying70 rfl kr (kv (.pointer (some ⟨b295, 0, none⟩))) (cs := [.string vt288.Key, .string vt288.Value, .string vt288.Unit, .string vt288.Note]) rfl (HS300.cells 0 4 _ rfl)) ?_)
              refine seqK rfl (does_lit (e := ty_Card) (E := 70) (vs := #[(0, Value.agg #[.string vt288.Key, .string vt288.Value, .string vt288.Unit, .string vt288.Note])]) (cs := #[.string vt288.Key, .string vt288.Value, .string vt288.Unit, .string vt288.Note]) (xs := ([vt288] : List S_Card)) rfl Tryz.underlying23 kr kr ⟨[.string vt288.Key, .string vt288.Value, .string vt288.Unit, .string vt288.Note], _, rfl, rfl, rfl⟩ rfl HS300 ?_ (by decide))
              intro b318 W319 s320 HS321 _ HO322
              have hq_ := guard_some h; clear h; obtain ⟨c324, h⟩ := hq_
              have c324 : (cards248.length + 1) * 64 ≤ 140737488355328 := c324
              have HS326 := HS321.u2.u1
              refine seqK rfl (does_append1 (e := ty_Card) (E := 70) (xs := cards248) (ys := ([vt288] : List S_Card)) rfl (kv (.slice A249 cards248.length c250)) (kv (.slice (some ⟨b318, 0, none⟩) ([vt288] : List S_Card).length 1)) Tryz.underlying23 inf70 (HO252.mono (L269.trans L292)) HO322 HS326 c324 (lim63 c324 (by decide)) ?_)
              intro A327 c328 s329 W330 HS331 HO332
              refine seqL1 kr ?_
              refine nl ?_
              refine hn278 _ _ ?_
              refine hK275 _ _ ?_
              refine rl ?_
              refine seqL3 kr ?_
              refine nl ?_
              refine hK241 n242 _ _ (Nat.lt_succ_self _) ?_
              have HS354 := HS331.u3.u3.u2.u3
              have HS355 := HS354.drop
              exact ⟨f291, A327, c328, s329, (cards248 ++ ([vt288] : List S_Card)), (w64 (vat254 + 64)), (jL [(j247 0), .pointer (some ⟨b295, 0, none⟩), .bool vt289, iV vat254, .slice A114 body113.length c115, iV (body113.length : Int), tV, tV, .slice A114 body113.length c115, iV vat254, iV vat254, iV (w64 (vat254 + 64)), .slice A263 ((body113.take (w64 (vat254 + 64)).toNat).drop (vat254).toNat).length c264, .string (bstr ((body113.take (w64 (vat254 + 64)).toNat).drop (vat254).toNat)), .string vt266, tV, tV, iV vat254, iV (w64 (vat254 + 64)), .tuple #[(ag_Card vt288), .bool vt289], .slice A114 body113.length c115, iV vat254, iV vat254, iV (w64 (vat254 + 64)), .slice A285 ((body113.take (w64 (vat254 + 64)).toNat).drop (vat254).toNat).length c286, .string (bstr ((body113.take (w64 (vat254 + 64)).toNat).drop (vat254).toNat)), .tuple #[(ag_Card vt288), .bool vt289], (ag_Card vt288), .bool vt289, .bool vt289, fV, fV, .slice A249 cards248.length c250, iV (cards248.length : Int), fV, fV, (j247 36), .slice A249 cards248.length c250, (ag_Card vt288), .slice (some ⟨b318, 0, none⟩) ([vt288] : List S_Card).length 1, .slice A327 (cards248 ++ ([vt288] : List S_Card)).length c328]), (L244.trans (L269.trans L292)), HS355, HO332, h, kr⟩
        · have c273 : ¬ ((!(vt266.toList == Z19.toList)) = true) := c273
          refine wpRwI 56 kr (Bool.eq_false_iff.mpr c273) ?_
          refine wpRwI 57 kr (Bool.eq_false_iff.mpr c273) ?_
          refine condF kr ?_
          refine wp_exit ?_
          refine hx131 _ _ ?_
          exact J346 f268 A249 c250 s251 cards248 vat254 (jL [(j247 0), (j247 1), (j247 2), iV vat254, .slice A114 body113.length c115, iV (body113.length : Int), tV, tV, .slice A114 body113.length c115, iV vat254, iV vat254, iV (w64 (vat254 + 64)), .slice A263 ((body113.take (w64 (vat254 + 64)).toNat).drop (vat254).toNat).length c264, .string (bstr ((body113.take (w64 (vat254 + 64)).toNat).drop (vat254).toNat)), .string vt266, fV, fV, (j247 17), (j247 18), (j247 19), (j247 20), (j247 21), (j247 22), (j247 23), (j247 24), (j247 25), (j247 26), (j247 27), (j247 28), (j247 29), (j247 30), (j247 31), (j247 32), (j247 33), (j247 34), (j247 35), (j247 36), (j247 37), (j247 38), (j247 39), (j247 40)]) W270 _ (L244.trans L269) h HS271 (HO252.mono L269) kr
      · have c259 : ¬ (vat254 < (body113.length : Int)) := c259
        refine seqRwI 47 kr (decide_eq_false c259) ?_
        refine seqRwI 48 kr (decide_eq_false c259) ?_
        refine seqL9 kr ?_
        refine nl (hK258 _ _ ?_)
        refine condF kr ?_
        refine wp_exit ?_
        refine hx131 _ _ ?_
        exact J346 f243 A249 c250 s251 cards248 vat254 (jL [(j247 0), (j247 1), (j247 2), iV vat254, .slice A114 body113.length c115, iV (body113.length : Int), fV, fV, uV, uV, uV, uV, uV, uV, uV, uV, fV, (j247 17), (j247 18), (j247 19), (j247 20), (j247 21), (j247 22), (j247 23), (j247 24), (j247 25), (j247 26), (j247 27), (j247 28), (j247 29), (j247 30), (j247 31), (j247 32), (j247 33), (j247 34), (j247 35), (j247 36), (j247 37), (j247 38), (j247 39), (j247 40)]) W245 _ L244 h HS246 HO252 kr
     clear h; have h := hv119; clear hv119
     have HS122 := HS19.cons_nil
     refine loopK (fun n_ a_ w_ => ∃ (f68 : FM) (A74 : Option Addr) (c75 : Nat) (s76 : Seg) (body73 : List Int) (i79 : Int) (j72 : Nat → Value), FM.le f16 f68 ∧ St t w_ f68 (s76 :: s22 :: [(b7, .cells #[.int .i64 0, .int .i64 0, .slice none 0 0, .slice none 0 0] 25 (0, 0))] :: H) ∧ Own (tInt .u8) 5 f68 A74 c75 s76 body73 ∧ frame_Decode.l0 k b1 n_ body73 i79 = some o64 ∧ a_ = ⟨#[.slice A2 b1.length c3, uV, pV b7 0, iV 0, .slice A20 vt13.length c21, iV vt14, .slice A74 body73.length c75, iV i79, uV, uV, uV, uV, uV, uV, uV, uV, .tuple #[.slice A20 vt13.length c21, iV vt14], .slice A2 b1.length c3, .tuple #[.slice A20 vt13.length c21, iV vt14], .slice A20 vt13.length c21, iV vt14, fV, iV vt14, fV, uV, uV, fV, .slice A20 vt13.length c21, iV (vt13.length : Int), fV, uV, (j72 0), (j72 1), (j72 2), (j72 3), (j72 4), (j72 5), (j72 6), (j72 7), (j72 8), (j72 9), (j72 10), (j72 11), (j72 12), uV, uV, uV, uV, uV, uV, uV, uV, uV, uV, uV, uV, uV, uV, uV, uV, uV, uV, uV, uV, uV, uV, uV, uV, uV, uV, uV, uV, uV, uV, uV, uV, uV, uV, uV, uV, uV, uV, uV, uV, uV, uV, uV, uV, uV, uV, uV, uV, uV, uV, uV, uV, uV, uV, uV, uV, uV, uV, uV, uV, uV, uV, uV, uV, uV, uV, uV, uV, uV, uV, uV], []⟩) k ⟨f16, none, 0, [], ([] : List Int), 0, (jL []), fL, HS122, (Own.nil _), h, kr⟩ ?_
     clear h
     rintro n67 _ W70 ⟨f68, A74, c75, s76, body73, i79, j72, L69, HS71, HO77, h, rfl⟩ K65 hK66
     obtain _ | n67 := n67
     · exact nomatch h
     simp only [frame_Decode.l0] at h
     refine wp_seq_k (fun K80 hK81 => ?_)
     refine wp_seq_k fun K82 hK83 => rl ?_
     refine seqL4 kr ?_
     refine nl (hK83 _ _ ?_)
     have hq_ := ite_some h; clear h; rcases hq_ with ⟨c85, h⟩ | ⟨c85, h⟩
     · have c85 : i79 < (b1.length : Int) := c85
       refine wpRwI 34 kr (decide_eq_true c85) ?_
       refine condT kr ?_
       refine wp_skip ?_
       refine hK81 _ _ ?_
       refine wp_seq_k (fun K86 hK87 => ?_)
       refine blockK (fun B88 hx89 hn90 hr91 ho92 hp93 => ?_)
       refine rl ?_
       have hq_ := guard_some h; clear h; obtain ⟨c95, h⟩ := hq_
       have c95 : 0 ≤ i79 := c95
       have hq_ := guard_some h; clear h; obtain ⟨c96, h⟩ := hq_
       have c96 : i79 ≤ (w64 (i79 + 256)) := c96
       have hq_ := guard_some h; clear h; obtain ⟨c97, h⟩ := hq_
       have c97 : (w64 (i79 + 256)) ≤ (b1.length : Int) := c97
       refine seqL5 kr ?_
       refine seqK rfl (does_cutLH (e := (tInt .u8)) (xs := b1) rfl Tryz.underlying30 kr (kv (.slice A2 b1.length c3)) (kv (.int .i64 i79)) (kv (.int .i64 (w64 (i79 + 256))))  c95 c96 c97 HR4 ?_)
       intro A98 c99 HR100
       have hq_ := guard_some h; clear h; obtain ⟨c101, h⟩ := hq_
       have c101 : (body73.length + ((b1.take (w64 (i79 + 256)).toNat).drop (i79).toNat).length) * 1 ≤ 140737488355328 := c101
       refine seqK rfl (does_append (e := (tInt .u8)) (E := 5) (xs := body73) (ys := ((b1.take (w64 (i79 + 256)).toNat).drop (i79).toNat)) rfl (kv (.slice A74 body73.length c75)) (kv (.slice A98 ((b1.take (w64 (i79 + 256)).toNat).drop (i79).toNat).length c99)) Tryz.underlying30 inf5 HO77 HS71 ((HR100.mono (L17.trans L69)).rc HS71) c101 (lim63 c101 (by decide)) ?_)
       intro A102 c103 s104 W105 HS106 HO107
       refine seqL1 kr ?_
       refine nl ?_
       refine hn90 _ _ ?_
       refine hK87 _ _ ?_
       refine rl ?_
       refine seqL3 kr ?_
       refine nl ?_
       refine hK66 n67 _ _ (Nat.lt_succ_self _) ?_
       exact ⟨f68, A102, c103, s104, (body73 ++ ((b1.take (w64 (i79 + 256)).toNat).drop (i79).toNat)), (w64 (i79 + 260)), (jL [iV i79, .slice A2 b1.length c3, iV (b1.length : Int), tV, iV i79, iV (w64 (i79 + 260)), .slice A74 body73.length c75, .slice A2 b1.length c3, iV i79, iV i79, iV (w64 (i79 + 256)), .slice A98 ((b1.take (w64 (i79 + 256)).toNat).drop (i79).toNat).length c99, .slice A102 (body73 ++ ((b1.take (w64 (i79 + 256)).toNat).drop (i79).toNat)).length c103]), L69, HS106, HO107, h, kr⟩
     · have c85 : ¬ (i79 < (b1.length : Int)) := c85
       refine wpRwI 34 kr (decide_eq_false c85) ?_
       refine condF kr ?_
       refine wp_exit ?_
       refine hx59 _ _ ?_
       exact J120 f68 A74 c75 s76 body73 (jL [iV i79, iV i79, .slice A2 b1.length c3, iV (b1.length : Int), fV, (j72 4), (j72 5), (j72 6), (j72 7), (j72 8), (j72 9), (j72 10), (j72 11), (j72 12)]) W70 _ L69 h HS71 HO77 kr

set_option maxRecDepth 100000 in
set_option maxHeartbeats 4000000 in
theorem squeeze_Index.calls (k : Nat) (A2 : Option Addr) (c3 : Nat) (b1 : List Int) {t w : World} {f : FM} {H : List Seg} (HS : St t w f (H)) (HR4 : SlR (tInt .u8) f A2 c3 b1) (rr1 : Int) (rr2 : Int) (rr3 : List Int) (rr4 : Int) (h : squeeze_Index k b1 = some (rr1, rr2, rr3, rr4)) :
    Calls Tryz.prog 42 #[.slice A2 b1.length c3] w (fun e w' => ∃ (g : FM) (A211 : Option Addr) (c212 : Nat) (s213 : Seg), e = .returned (Value.tuple #[.int .i64 rr1, .int .i64 rr2, .slice A211 rr3.length c212, .int .i64 rr4]) ∧ FM.le f g ∧ St t w' g (s213 :: H) ∧ Own (tInt .i64) 3 g A211 c212 s213 rr3) := by
 unfold squeeze_Index at h
 refine enter Tryz.func42 rfl (tm := #[.slice A2 b1.length c3, uV, uV, uV, uV, uV, uV, uV, uV, uV, uV, uV, uV, uV, uV, uV, uV, uV, uV, uV, uV, uV, uV, uV, uV, uV, uV, uV, uV, uV, uV, uV, uV, uV, uV, uV, uV, uV, uV, uV, uV, uV, uV, uV, uV, uV, uV, uV, uV, uV, uV, uV, uV, uV, uV, uV, uV, uV, uV, uV, uV, uV, uV, uV, uV, uV, uV, uV, uV, uV, uV, uV, uV, uV, uV, uV, uV, uV, uV, uV, uV, uV, uV, uV, uV, uV, uV, uV, uV, uV, uV, uV]) kr ?_
 intro B hret hnor hnp
 refine wp_seq_k fun K5 hK6 => rl ?_
 refine seqL4 kr ?_
 refine nl (hK6 _ _ ?_)
 refine wp_seq_k (fun K7 hK8 => ?_)
 refine wp_seq_k fun K9 hK10 => rl ?_
 refine seqL4 kr ?_
 have hq_ := ite_some h; clear h; rcases hq_ with ⟨c11, h⟩ | ⟨c11, h⟩
 · have c11 : (b1.length : Int) < 2 := c11
   refine seqRwI 10 kr (decide_eq_true c11) ?_
   refine seqRwI 11 kr (decide_eq_true c11) ?_
   refine seqL23 kr ?_
   refine nl (hK10 _ _ ?_)
   refine condT kr ?_
   refine wp_seq_k fun K12 hK13 => rl ?_
   refine seqL4 kr ?_
   refine nl (hK13 _ _ ?_)
   refine wp_ret ?_
   refine hret _ _ ?_
   have HS189 := HS.cons_nil
   refine ends_still (v := Value.tuple #[.int .i64 0, .int .i64 0, .slice none 0 0, .int .i64 3]) kr kr ?_
   injection h with h
   injection h with h0_ h
   injection h with h1_ h
   injection h with h2_ h
   subst h0_ h1_ h2_ h
   exact ⟨f, none, 0, [], rfl, FM.le.refl _, HS189, (Own.nil _)⟩
 · have c11 : ¬ ((b1.length : Int) < 2) := c11
   refine seqRwI 10 kr (decide_eq_false c11) ?_
   refine seqRwI 11 kr (decide_eq_false c11) ?_
   have hq_ := guard_some h; clear h; obtain ⟨c14, h⟩ := hq_
   have c14 : 0 < (b1.length : Int) := c14
   obtain ⟨b18, of19, cs15, hA20, hr16, hc17⟩ := HR4.at (i := 0) (by decide) c14
   obtain rfl := hr16
   refine seqL1 kr ?_
   refine seqG kr (does_run (run_indexE hA20 (sz := 1) rfl Tryz.underlying30 kr (kv (.slice A2 b1.length c3)) (kv (.int .i64 0)) (by decide) c14 w) ?_)
   refine seqG kr (does_run (run_load rfl Tryz.underlying5 rfl (kv (.pointer (some ⟨b18, of19 + (0 : Int).toNat * 1, none⟩))) ((hc17 fL HS) 0 (by decide))) ?_)
   refine seqL3 kr ?_
   have hq_ := ite_some h; clear h; rcases hq_ with ⟨c21, h⟩ | ⟨c21, h⟩
   · have c21 : (rd b1 0) < 1 := c21
     refine seqRwI 15 kr (decide_eq_true c21) ?_
     refine seqRwI 16 kr (decide_eq_true c21) ?_
     refine seqRwI 17 kr (decide_eq_true c21) ?_
     refine seqL17 kr ?_
     refine nl (hK10 _ _ ?_)
     refine condT kr ?_
     refine wp_seq_k fun K22 hK23 => rl ?_
     refine seqL4 kr ?_
     refine nl (hK23 _ _ ?_)
     refine wp_ret ?_
     refine hret _ _ ?_
     have HS191 := HS.cons_nil
     refine ends_still (v := Value.tuple #[.int .i64 0, .int .i64 0, .slice none 0 0, .int .i64 3]) kr kr ?_
     injection h with h
     injection h with h0_ h
     injection h with h1_ h
     injection h with h2_ h
     subst h0_ h1_ h2_ h
     exact ⟨f, none, 0, [], rfl, FM.le.refl _, HS191, (Own.nil _)⟩
   · have c21 : ¬ ((rd b1 0) < 1) := c21
     refine seqRwI 15 kr (decide_eq_false c21) ?_
     refine seqRwI 16 kr (decide_eq_false c21) ?_
     refine seqRwI 17 kr (decide_eq_false c21) ?_
     refine seqL1 kr ?_
     refine seqG kr (does_run (run_indexE hA20 (sz := 1) rfl Tryz.underlying30 kr (kv (.slice A2 b1.length c3)) (kv (.int .i64 0)) (by decide) c14 w) ?_)
     refine seqG kr (does_run (run_load rfl Tryz.underlying5 rfl (kv (.pointer (some ⟨b18, of19 + (0 : Int).toNat * 1, none⟩))) ((hc17 fL HS) 0 (by decide))) ?_)
     refine seqL3 kr ?_
     have hq_ := ite_some h; clear h; rcases hq_ with ⟨c24, h⟩ | ⟨c24, h⟩
     · have c24 : (rd b1 0) > 32 := c24
       refine seqRwI 21 kr (decide_eq_true c24) ?_
       refine seqRwI 22 kr (decide_eq_true c24) ?_
       refine seqRwI 23 kr (decide_eq_true c24) ?_
       refine seqL11 kr ?_
       refine nl (hK10 _ _ ?_)
       refine condT kr ?_
       refine wp_seq_k fun K25 hK26 => rl ?_
       refine seqL4 kr ?_
       refine nl (hK26 _ _ ?_)
       refine wp_ret ?_
       refine hret _ _ ?_
       have HS193 := HS.cons_nil
       refine ends_still (v := Value.tuple #[.int .i64 0, .int .i64 0, .slice none 0 0, .int .i64 3]) kr kr ?_
       injection h with h
       injection h with h0_ h
       injection h with h1_ h
       injection h with h2_ h
       subst h0_ h1_ h2_ h
       exact ⟨f, none, 0, [], rfl, FM.le.refl _, HS193, (Own.nil _)⟩
     · have c24 : ¬ ((rd b1 0) > 32) := c24
       refine seqRwI 21 kr (decide_eq_false c24) ?_
       refine seqRwI 22 kr (decide_eq_false c24) ?_
       refine seqRwI 23 kr (decide_eq_false c24) ?_
       have hq_ := guard_some h; clear h; obtain ⟨c27, h⟩ := hq_
       have c27 : 1 < (b1.length : Int) := c27
       obtain ⟨b31, of32, cs28, hA33, hr29, hc30⟩ := HR4.at (i := 1) (by decide) c27
       obtain rfl := hr29
       refine seqL1 kr ?_
       refine seqG kr (does_run (run_indexE hA33 (sz := 1) rfl Tryz.underlying30 kr (kv (.slice A2 b1.length c3)) (kv (.int .i64 1)) (by decide) c27 w) ?_)
       refine seqG kr (does_run (run_load rfl Tryz.underlying5 rfl (kv (.pointer (some ⟨b31, of32 + (1 : Int).toNat * 1, none⟩))) ((hc30 fL HS) 0 (by decide))) ?_)
       refine seqL3 kr ?_
       have hq_ := ite_some h; clear h; rcases hq_ with ⟨c34, h⟩ | ⟨c34, h⟩
       · have c34 : (rd b1 1) < 1 := c34
         refine seqRwI 27 kr (decide_eq_true c34) ?_
         refine seqRwI 28 kr (decide_eq_true c34) ?_
         refine seqRwI 29 kr (decide_eq_true c34) ?_
         refine seqL5 kr ?_
         refine nl (hK10 _ _ ?_)
         refine condT kr ?_
         refine wp_seq_k fun K35 hK36 => rl ?_
         refine seqL4 kr ?_
         refine nl (hK36 _ _ ?_)
         refine wp_ret ?_
         refine hret _ _ ?_
         have HS195 := HS.cons_nil
         refine ends_still (v := Value.tuple #[.int .i64 0, .int .i64 0, .slice none 0 0, .int .i64 3]) kr kr ?_
         injection h with h
         injection h with h0_ h
         injection h with h1_ h
         injection h with h2_ h
         subst h0_ h1_ h2_ h
         exact ⟨f, none, 0, [], rfl, FM.le.refl _, HS195, (Own.nil _)⟩
       · have c34 : ¬ ((rd b1 1) < 1) := c34
         refine seqRwI 27 kr (decide_eq_false c34) ?_
         refine seqRwI 28 kr (decide_eq_false c34) ?_
         refine seqRwI 29 kr (decide_eq_false c34) ?_
         refine seqL1 kr ?_
         refine seqG kr (does_run (run_indexE hA33 (sz := 1) rfl Tryz.underlying30 kr (kv (.slice A2 b1.length c3)) (kv (.int .i64 1)) (by decide) c27 w) ?_)
         refine seqG kr (does_run (run_load rfl Tryz.underlying5 rfl (kv (.pointer (some ⟨b31, of32 + (1 : Int).toNat * 1, none⟩))) ((hc30 fL HS) 0 (by decide))) ?_)
         refine seqL2 kr ?_
         refine nl (hK10 _ _ ?_)
         have hq_ := ite_some h; clear h; rcases hq_ with ⟨c38, h⟩ | ⟨c38, h⟩
         · have c38 : (rd b1 1) > 32 := c38
           refine wpRwI 33 kr (decide_eq_true c38) ?_
           refine wpRwI 34 kr (decide_eq_true c38) ?_
           refine condT kr ?_
           refine wp_seq_k fun K39 hK40 => rl ?_
           refine seqL4 kr ?_
           refine nl (hK40 _ _ ?_)
           refine wp_ret ?_
           refine hret _ _ ?_
           have HS197 := HS.cons_nil
           refine ends_still (v := Value.tuple #[.int .i64 0, .int .i64 0, .slice none 0 0, .int .i64 3]) kr kr ?_
           injection h with h
           injection h with h0_ h
           injection h with h1_ h
           injection h with h2_ h
           subst h0_ h1_ h2_ h
           exact ⟨f, none, 0, [], rfl, FM.le.refl _, HS197, (Own.nil _)⟩
         · have c38 : ¬ ((rd b1 1) > 32) := c38
           refine wpRwI 33 kr (decide_eq_false c38) ?_
           refine wpRwI 34 kr (decide_eq_false c38) ?_
           refine condF kr ?_
           refine wp_skip ?_
           refine hK8 _ _ ?_
           refine wp_seq_k (fun K41 hK42 => ?_)
           refine heldG (S := Sg t f (H) []) (n := 10) kr rfl HS ?_
           intro W43 HS44
           refine takeGL [0] (n := 10) (fuel := 9) #[true, false, false, false, false, false, false, false, false, false] rfl kr kr kr hnp (Sg.g0 (Sx.of [] fL HS44)) ?_
           refine takeGQ 1 [] rfl kr kr kr kr kr kr hnp (Sg.g0 (Sx.of [] fL HS44)) (fun w_ hw_ => by obtain ⟨g_, hl_, hS_⟩ := hw_.st; exact run_indexE hA20 (sz := 1) rfl Tryz.underlying30 kr (kv (.slice A2 b1.length c3)) (kv (.int .i64 0)) (by decide) c14 w_) ?_
           refine takeGQ 2 [] rfl kr kr kr kr kr kr hnp (Sg.g0 (Sx.of [] fL HS44)) (fun w_ hw_ => by obtain ⟨g_, hl_, hS_⟩ := hw_.st; exact run_load rfl Tryz.underlying5 rfl (kv (.pointer (some ⟨b18, of19 + (0 : Int).toNat * 1, none⟩))) ((hc17 hl_ hS_) 0 (by decide))) ?_
           refine takeGL [3, 4] (n := 7) (fuel := 5) #[true, true, true, true, true, false, false, false, false, false] rfl kr kr kr hnp (Sg.g0 (Sx.of [] fL HS44)) ?_
           refine takeGQ 5 [] rfl kr kr kr kr kr kr hnp (Sg.g0 (Sx.of [] fL HS44)) (fun w_ hw_ => by obtain ⟨g_, hl_, hS_⟩ := hw_.st; exact run_indexE hA33 (sz := 1) rfl Tryz.underlying30 kr (kv (.slice A2 b1.length c3)) (kv (.int .i64 1)) (by decide) c27 w_) ?_
           refine takeGQ 6 [] rfl kr kr kr kr kr kr hnp (Sg.g0 (Sx.of [] fL HS44)) (fun w_ hw_ => by obtain ⟨g_, hl_, hS_⟩ := hw_.st; exact run_load rfl Tryz.underlying5 rfl (kv (.pointer (some ⟨b31, of32 + (1 : Int).toNat * 1, none⟩))) ((hc30 hl_ hS_) 0 (by decide))) ?_
           refine takeGL [7, 8, 9] (n := 3) (fuel := 0) #[true, true, true, true, true, true, true, true, true, true] rfl kr kr kr hnp (Sg.g0 (Sx.of [] fL HS44)) ?_
           refine doneG kr ?_ _
           refine hK42 _ _ ?_
           refine wp_seq_k fun K45 hK46 => rl ?_
           refine seqL1 kr ?_
           refine nl (hK46 _ _ ?_)
           refine wp_seq_k (fun K47 hK48 => ?_)
           refine wp_seq_k fun K49 hK50 => rl ?_
           refine seqL2 kr ?_
           refine nl (hK50 _ _ ?_)
           refine blockK (fun B51 hx52 hn53 hr54 ho55 hp56 => ?_)
           have hq_ := bind_some h; clear h; obtain ⟨o57, hv158, h⟩ := hq_
           have JR160 : ∀ z_, some (Sum.inl z_) = some o57 → some z_ = some (rr1, rr2, rr3, rr4) := by
            intro z_ e_; injection e_ with e_; subst e_; exact h
           have J159 : ∀ (f144 : FM) (A152 : Option Addr) (c153 : Nat) (s154 : Seg) (vw149 : Int) (vh150 : Int) (vat151 : List Int) (next157 : Int) (j148 : Nat → Value) (W146 : World) (a_ : Act), FM.le f f144 → some (Sum.inr (vw149, vh150, vat151, next157)) = some o57 → St t W146 f144 (s154 :: H) → Own (tInt .i64) 3 f144 A152 c153 s154 vat151 → a_ = ⟨#[.slice A2 b1.length c3, uV, iV vw149, iV vh150, .slice A152 vat151.length c153, (j148 0), iV next157, (j148 1), .slice A2 b1.length c3, iV (b1.length : Int), fV, fV, .slice A2 b1.length c3, pV b18 (of19 + (0 : Int).toNat * 1), .int .u8 (rd b1 0), fV, fV, fV, .slice A2 b1.length c3, pV b18 (of19 + (0 : Int).toNat * 1), .int .u8 (rd b1 0), fV, fV, fV, .slice A2 b1.length c3, pV b31 (of32 + (1 : Int).toNat * 1), .int .u8 (rd b1 1), fV, fV, fV, .slice A2 b1.length c3, pV b31 (of32 + (1 : Int).toNat * 1), .int .u8 (rd b1 1), fV, fV, .slice A2 b1.length c3, pV b18 (of19 + (0 : Int).toNat * 1), .int .u8 (rd b1 0), iV (w64 ((rd b1 0))), .slice A2 b1.length c3, pV b31 (of32 + (1 : Int).toNat * 1), .int .u8 (rd b1 1), iV (w64 ((rd b1 1))), iV (w64 ((rd b1 1))), (j148 2), (j148 3), (j148 4), (j148 5), (j148 6), (j148 7), (j148 8), (j148 9), (j148 10), (j148 11), (j148 12), (j148 13), (j148 14), (j148 15), (j148 16), (j148 17), (j148 18), (j148 19), (j148 20), (j148 21), (j148 22), (j148 23), (j148 24), (j148 25), (j148 26), (j148 27), (j148 28), (j148 29), (j148 30), (j148 31), (j148 32), (j148 33), (j148 34), (j148 35), (j148 36), (j148 37), (j148 38), uV, uV, uV, uV, uV, uV, uV, uV, uV, uV, uV], []⟩ → K47 a_ W146 := by
            intro f144 A152 c153 s154 vw149 vh150 vat151 next157 j148 W146 a_ L145 hj161 HS147 HO155 hfr_; subst hfr_
            injection hj161 with hj161; subst hj161; try dsimp only at h
            simp only [Sum.elim_inr] at h
            refine hK48 _ _ ?_
            refine wp_seq_k (fun K164 hK165 => ?_)
            refine wp_seq_k fun K166 hK167 => rl ?_
            refine seqL4 kr ?_
            refine nl (hK167 _ _ ?_)
            have hq_ := ite_some h; clear h; rcases hq_ with ⟨c169, h⟩ | ⟨c169, h⟩
            · have c169 : next157 ≠ (b1.length : Int) := c169
              refine wpRwI 84 kr (bne_iff_ne.mpr c169) ?_
              refine condT kr ?_
              refine wp_seq_k fun K170 hK171 => rl ?_
              refine seqL4 kr ?_
              refine nl (hK171 _ _ ?_)
              refine wp_ret ?_
              refine hret _ _ ?_
              have HS207 := HS147.cons_nil
              refine ends_still (v := Value.tuple #[.int .i64 0, .int .i64 0, .slice none 0 0, .int .i64 3]) kr kr ?_
              have HS209 := HS207.u1
              have HS210 := HS209.drop
              injection h with h
              injection h with h0_ h
              injection h with h1_ h
              injection h with h2_ h
              subst h0_ h1_ h2_ h
              exact ⟨f144, none, 0, [], rfl, L145, HS210, (Own.nil _)⟩
            · have c169 : ¬ (next157 ≠ (b1.length : Int)) := c169
              refine wpRwI 84 (x := (next157 != (b1.length : Int))) (v := false) kr (bne_eq_false_iff_eq.mpr (Decidable.of_not_not c169)) ?_
              refine condF kr ?_
              refine wp_skip ?_
              refine hK165 _ _ ?_
              refine wp_seq_k fun K172 hK173 => rl ?_
              refine seqL5 kr ?_
              refine seqK rfl (does_lit (e := (tInt .i64)) (E := 3) (vs := #[(0, Value.int .i64 (b1.length : Int))]) (cs := #[.int .i64 (b1.length : Int)]) (xs := ([(b1.length : Int)] : List Int)) rfl Tryz.underlying22 kr kr ⟨[.int .i64 (b1.length : Int)], _, rfl, rfl, rfl⟩ rfl HS147 ?_ (by decide))
              intro b174 W175 s176 HS177 _ HO178
              have hq_ := guard_some h; clear h; obtain ⟨c180, h⟩ := hq_
              have c180 : (vat151.length + 1) * 8 ≤ 140737488355328 := c180
              have HS182 := HS177.u1.u1
              refine seqK rfl (does_append1 (e := (tInt .i64)) (E := 3) (xs := vat151) (ys := ([(b1.length : Int)] : List Int)) rfl (kv (.slice A152 vat151.length c153)) (kv (.slice (some ⟨b174, 0, none⟩) ([(b1.length : Int)] : List Int).length 1)) Tryz.underlying22 inf3 HO155 HO178 HS182 c180 (lim63 c180 (by decide)) ?_)
              intro A183 c184 s185 W186 HS187 HO188
              refine seqL4 kr ?_
              refine nl (hK173 _ _ ?_)
              refine wp_ret ?_
              refine hret _ _ ?_
              refine ends_still (v := Value.tuple #[.int .i64 vw149, .int .i64 vh150, .slice A183 (vat151 ++ ([(b1.length : Int)] : List Int)).length c184, .int .i64 0]) kr kr ?_
              injection h with h
              injection h with h0_ h
              injection h with h1_ h
              injection h with h2_ h
              subst h0_ h1_ h2_ h
              exact ⟨f144, A183, c184, s185, rfl, L145, HS187, HO188⟩
           clear h; have h := hv158; clear hv158
           have HS162 := HS44.cons_nil
           refine loopK (fun n_ a_ w_ => ∃ (f61 : FM) (A69 : Option Addr) (c70 : Nat) (s71 : Seg) (vw66 : Int) (vh67 : Int) (vat68 : List Int) (next74 : Int) (x75 : Int) (j65 : Nat → Value), FM.le f f61 ∧ St t w_ f61 (s71 :: H) ∧ Own (tInt .i64) 3 f61 A69 c70 s71 vat68 ∧ squeeze_Index.l0 k b1 n_ vw66 vh67 vat68 next74 x75 = some o57 ∧ a_ = ⟨#[.slice A2 b1.length c3, uV, iV vw66, iV vh67, .slice A69 vat68.length c70, (j65 0), iV next74, (j65 1), .slice A2 b1.length c3, iV (b1.length : Int), fV, fV, .slice A2 b1.length c3, pV b18 (of19 + (0 : Int).toNat * 1), .int .u8 (rd b1 0), fV, fV, fV, .slice A2 b1.length c3, pV b18 (of19 + (0 : Int).toNat * 1), .int .u8 (rd b1 0), fV, fV, fV, .slice A2 b1.length c3, pV b31 (of32 + (1 : Int).toNat * 1), .int .u8 (rd b1 1), fV, fV, fV, .slice A2 b1.length c3, pV b31 (of32 + (1 : Int).toNat * 1), .int .u8 (rd b1 1), fV, fV, .slice A2 b1.length c3, pV b18 (of19 + (0 : Int).toNat * 1), .int .u8 (rd b1 0), iV (w64 ((rd b1 0))), .slice A2 b1.length c3, pV b31 (of32 + (1 : Int).toNat * 1), .int .u8 (rd b1 1), iV (w64 ((rd b1 1))), iV (w64 ((rd b1 1))), iV x75, (j65 2), (j65 3), (j65 4), (j65 5), (j65 6), (j65 7), (j65 8), (j65 9), (j65 10), (j65 11), (j65 12), (j65 13), (j65 14), (j65 15), (j65 16), (j65 17), (j65 18), (j65 19), (j65 20), (j65 21), (j65 22), (j65 23), (j65 24), (j65 25), (j65 26), (j65 27), (j65 28), (j65 29), (j65 30), (j65 31), (j65 32), (j65 33), (j65 34), (j65 35), (j65 36), (j65 37), uV, uV, uV, uV, uV, uV, uV, uV, uV, uV, uV], []⟩) k ⟨f, none, 0, [], (w64 ((rd b1 0))), (w64 ((rd b1 1))), ([] : List Int), 2, 0, (jL [iV 0]), fL, HS162, (Own.nil _), h, kr⟩ ?_
           clear h
           rintro n60 _ W63 ⟨f61, A69, c70, s71, vw66, vh67, vat68, next74, x75, j65, L62, HS64, HO72, h, rfl⟩ K58 hK59
           obtain _ | n60 := n60
           · exact nomatch h
           simp only [squeeze_Index.l0] at h
           refine wp_seq_k fun K76 hK77 => rl ?_
           refine seqL1 kr ?_
           refine nl (hK77 _ _ ?_)
           refine wp_seq_k (fun K78 hK79 => ?_)
           have hq_ := ite_some h; clear h; rcases hq_ with ⟨c81, h⟩ | ⟨c81, h⟩
           · have c81 : x75 < (w64 ((rd b1 1))) := c81
             refine wpRwI 45 kr (decide_eq_true c81) ?_
             refine condT kr ?_
             refine wp_skip ?_
             refine hK79 _ _ ?_
             refine wp_seq_k (fun K82 hK83 => ?_)
             refine blockK (fun B84 hx85 hn86 hr87 ho88 hp89 => ?_)
             refine wp_seq_k (fun K91 hK92 => ?_)
             refine wp_seq_k fun K93 hK94 => rl ?_
             refine seqL5 kr ?_
             refine nl (hK94 _ _ ?_)
             have hq_ := ite_some h; clear h; rcases hq_ with ⟨c96, h⟩ | ⟨c96, h⟩
             · have c96 : (w64 ((b1.length : Int) - next74)) < 2 := c96
               refine wpRwI 50 kr (decide_eq_true c96) ?_
               refine condT kr ?_
               refine wp_seq_k fun K97 hK98 => rl ?_
               refine seqL4 kr ?_
               refine nl (hK98 _ _ ?_)
               refine wp_ret ?_
               refine hr87 _ _ ?_
               refine hr54 _ _ ?_
               refine hret _ _ ?_
               have HS199 := HS64.cons_nil
               refine ends_still (v := Value.tuple #[.int .i64 0, .int .i64 0, .slice none 0 0, .int .i64 3]) kr kr ?_
               have HS201 := HS199.u1
               have HS202 := HS201.drop
               replace h := JR160 _ h
               injection h with h
               injection h with h0_ h
               injection h with h1_ h
               injection h with h2_ h
               subst h0_ h1_ h2_ h
               exact ⟨f61, none, 0, [], rfl, L62, HS202, (Own.nil _)⟩
             · have c96 : ¬ ((w64 ((b1.length : Int) - next74)) < 2) := c96
               refine wpRwI 50 kr (decide_eq_false c96) ?_
               refine condF kr ?_
               refine wp_skip ?_
               refine hK92 _ _ ?_
               refine wp_seq_k (fun K99 hK100 => ?_)
               refine heldG (S := Sg t f61 (s71 :: H) []) (n := 14) kr rfl HS64 ?_
               intro W101 HS102
               have hq_ := guard_some h; clear h; obtain ⟨c103, h⟩ := hq_
               have c103 : 0 ≤ next74 := c103
               have hq_ := guard_some h; clear h; obtain ⟨c104, h⟩ := hq_
               have c104 : next74 < (b1.length : Int) := c104
               obtain ⟨b108, of109, cs105, hA110, hr106, hc107⟩ := (HR4.mono L62).at (i := next74) c103 c104
               obtain rfl := hr106
               refine takeGL [0, 1] (n := 14) (fuel := 12) #[true, true, false, false, false, false, false, false, false, false, false, false, false, false] rfl kr kr kr (fun ch_ a_ w_ q_ => (fun ch_ a_ w_ q_ => hnp ch_ a_ w_ (hp56 ch_ a_ w_ q_)) ch_ a_ w_ (hp89 ch_ a_ w_ q_)) (Sg.g0 (Sx.of [] fL HS102)) ?_
               refine takeGQ 2 [] rfl kr kr kr kr kr kr (fun ch_ a_ w_ q_ => (fun ch_ a_ w_ q_ => hnp ch_ a_ w_ (hp56 ch_ a_ w_ q_)) ch_ a_ w_ (hp89 ch_ a_ w_ q_)) (Sg.g0 (Sx.of [] fL HS102)) (fun w_ hw_ => by obtain ⟨g_, hl_, hS_⟩ := hw_.st; exact run_indexE hA110 (sz := 1) rfl Tryz.underlying30 kr (kv (.slice A2 b1.length c3)) (kv (.int .i64 next74)) c103 c104 w_) ?_
               refine takeGQ 3 [] rfl kr kr kr kr kr kr (fun ch_ a_ w_ q_ => (fun ch_ a_ w_ q_ => hnp ch_ a_ w_ (hp56 ch_ a_ w_ q_)) ch_ a_ w_ (hp89 ch_ a_ w_ q_)) (Sg.g0 (Sx.of [] fL HS102)) (fun w_ hw_ => by obtain ⟨g_, hl_, hS_⟩ := hw_.st; exact run_load rfl Tryz.underlying5 rfl (kv (.pointer (some ⟨b108, of109 + (next74 : Int).toNat * 1, none⟩))) ((hc107 hl_ hS_) 0 (by decide))) ?_
               have hq_ := guard_some h; clear h; obtain ⟨c111, h⟩ := hq_
               have c111 : 0 ≤ (w64 (next74 + 1)) := c111
               have hq_ := guard_some h; clear h; obtain ⟨c112, h⟩ := hq_
               have c112 : (w64 (next74 + 1)) < (b1.length : Int) := c112
               obtain ⟨b116, of117, cs113, hA118, hr114, hc115⟩ := (HR4.mono L62).at (i := w64 (next74 + 1)) c111 c112
               obtain rfl := hr114
               refine takeGL [4, 5, 6, 7, 8] (n := 10) (fuel := 5) #[true, true, true, true, true, true, true, true, true, false, false, false, false, false] rfl kr kr kr (fun ch_ a_ w_ q_ => (fun ch_ a_ w_ q_ => hnp ch_ a_ w_ (hp56 ch_ a_ w_ q_)) ch_ a_ w_ (hp89 ch_ a_ w_ q_)) (Sg.g0 (Sx.of [] fL HS102)) ?_
               refine takeGQ 9 [] rfl kr kr kr kr kr kr (fun ch_ a_ w_ q_ => (fun ch_ a_ w_ q_ => hnp ch_ a_ w_ (hp56 ch_ a_ w_ q_)) ch_ a_ w_ (hp89 ch_ a_ w_ q_)) (Sg.g0 (Sx.of [] fL HS102)) (fun w_ hw_ => by obtain ⟨g_, hl_, hS_⟩ := hw_.st; exact run_indexE hA118 (sz := 1) rfl Tryz.underlying30 kr (kv (.slice A2 b1.length c3)) (kv (.int .i64 (w64 (next74 + 1)))) c111 c112 w_) ?_
               refine takeGQ 10 [] rfl kr kr kr kr kr kr (fun ch_ a_ w_ q_ => (fun ch_ a_ w_ q_ => hnp ch_ a_ w_ (hp56 ch_ a_ w_ q_)) ch_ a_ w_ (hp89 ch_ a_ w_ q_)) (Sg.g0 (Sx.of [] fL HS102)) (fun w_ hw_ => by obtain ⟨g_, hl_, hS_⟩ := hw_.st; exact run_load rfl Tryz.underlying5 rfl (kv (.pointer (some ⟨b116, of117 + (w64 (next74 + 1) : Int).toNat * 1, none⟩))) ((hc115 hl_ hS_) 0 (by decide))) ?_
               refine takeGL [11, 12, 13] (n := 3) (fuel := 0) #[true, true, true, true, true, true, true, true, true, true, true, true, true, true] rfl kr kr kr (fun ch_ a_ w_ q_ => (fun ch_ a_ w_ q_ => hnp ch_ a_ w_ (hp56 ch_ a_ w_ q_)) ch_ a_ w_ (hp89 ch_ a_ w_ q_)) (Sg.g0 (Sx.of [] fL HS102)) ?_
               refine doneG kr ?_ _
               refine hK100 _ _ ?_
               refine wp_seq_k (fun K119 hK120 => ?_)
               refine wp_seq_k fun K121 hK122 => rl ?_
               refine seqL3 kr ?_
               refine seqK rfl (does_lit (e := (tInt .i64)) (E := 3) (vs := #[(0, Value.int .i64 (w64 (next74 + 2)))]) (cs := #[.int .i64 (w64 (next74 + 2))]) (xs := ([w64 (next74 + 2)] : List Int)) rfl Tryz.underlying22 kr kr ⟨[.int .i64 (w64 (next74 + 2))], _, rfl, rfl, rfl⟩ rfl HS102 ?_ (by decide))
               intro b123 W124 s125 HS126 _ HO127
               have hq_ := guard_some h; clear h; obtain ⟨c129, h⟩ := hq_
               have c129 : (vat68.length + 1) * 8 ≤ 140737488355328 := c129
               have HS131 := HS126.u1.u1
               refine seqK rfl (does_append1 (e := (tInt .i64)) (E := 3) (xs := vat68) (ys := ([w64 (next74 + 2)] : List Int)) rfl (kv (.slice A69 vat68.length c70)) (kv (.slice (some ⟨b123, 0, none⟩) ([w64 (next74 + 2)] : List Int).length 1)) Tryz.underlying22 inf3 HO72 HO127 HS131 c129 (lim63 c129 (by decide)) ?_)
               intro A132 c133 s134 W135 HS136 HO137
               refine seqL1 kr ?_
               refine nl (hK122 _ _ ?_)
               refine wp_seq_k fun K138 hK139 => rl ?_
               refine seqL7 kr ?_
               refine nl (hK139 _ _ ?_)
               have hq_ := ite_some h; clear h; rcases hq_ with ⟨c141, h⟩ | ⟨c141, h⟩
               · have c141 : (Go.bits .or .i64 (w64 ((w64 ((rd b1 next74))) * 2 ^ 8)) (w64 ((rd b1 (w64 (next74 + 1)))))) > (w64 ((w64 ((b1.length : Int) - next74)) - 2)) := c141
                 refine wpRwI 75 kr (decide_eq_true c141) ?_
                 refine condT kr ?_
                 refine wp_seq_k fun K142 hK143 => rl ?_
                 refine seqL4 kr ?_
                 refine nl (hK143 _ _ ?_)
                 refine wp_ret ?_
                 refine hr87 _ _ ?_
                 refine hr54 _ _ ?_
                 refine hret _ _ ?_
                 have HS203 := HS136.cons_nil
                 refine ends_still (v := Value.tuple #[.int .i64 0, .int .i64 0, .slice none 0 0, .int .i64 3]) kr kr ?_
                 have HS205 := HS203.u1
                 have HS206 := HS205.drop
                 replace h := JR160 _ h
                 injection h with h
                 injection h with h0_ h
                 injection h with h1_ h
                 injection h with h2_ h
                 subst h0_ h1_ h2_ h
                 exact ⟨f61, none, 0, [], rfl, L62, HS206, (Own.nil _)⟩
               · have c141 : ¬ ((Go.bits .or .i64 (w64 ((w64 ((rd b1 next74))) * 2 ^ 8)) (w64 ((rd b1 (w64 (next74 + 1)))))) > (w64 ((w64 ((b1.length : Int) - next74)) - 2))) := c141
                 refine wpRwI 75 kr (decide_eq_false c141) ?_
                 refine condF kr ?_
                 refine wp_skip ?_
                 refine hK120 _ _ ?_
                 refine rl ?_
                 refine seqL5 kr ?_
                 refine nl ?_
                 refine hn86 _ _ ?_
                 refine hK83 _ _ ?_
                 refine rl ?_
                 refine seqL2 kr ?_
                 refine nl ?_
                 refine hK59 n60 _ _ (Nat.lt_succ_self _) ?_
                 exact ⟨f61, A132, c133, s134, vw66, vh67, (vat68 ++ ([w64 (next74 + 2)] : List Int)), (w64 (next74 + (w64 (2 + (Go.bits .or .i64 (w64 ((w64 ((rd b1 next74))) * 2 ^ 8)) (w64 ((rd b1 (w64 (next74 + 1)))))))))), (w64 (x75 + 1)), (jL [(j65 0), iV (Go.bits .or .i64 (w64 ((w64 ((rd b1 next74))) * 2 ^ 8)) (w64 ((rd b1 (w64 (next74 + 1)))))), tV, .slice A2 b1.length c3, iV (b1.length : Int), iV next74, iV (w64 ((b1.length : Int) - next74)), fV, .slice A2 b1.length c3, iV next74, .pointer (some ⟨b108, of109 + (next74 : Int).toNat * 1, none⟩), .int .u8 (rd b1 next74), iV (w64 ((rd b1 next74))), iV (w64 ((w64 ((rd b1 next74))) * 2 ^ 8)), .slice A2 b1.length c3, iV next74, iV (w64 (next74 + 1)), .pointer (some ⟨b116, of117 + (w64 (next74 + 1) : Int).toNat * 1, none⟩), .int .u8 (rd b1 (w64 (next74 + 1))), iV (w64 ((rd b1 (w64 (next74 + 1))))), iV (Go.bits .or .i64 (w64 ((w64 ((rd b1 next74))) * 2 ^ 8)) (w64 ((rd b1 (w64 (next74 + 1)))))), .slice A69 vat68.length c70, iV next74, iV (w64 (next74 + 2)), .slice (some ⟨b123, 0, none⟩) ([w64 (next74 + 2)] : List Int).length 1, .slice A132 (vat68 ++ ([w64 (next74 + 2)] : List Int)).length c133, iV (Go.bits .or .i64 (w64 ((w64 ((rd b1 next74))) * 2 ^ 8)) (w64 ((rd b1 (w64 (next74 + 1)))))), .slice A2 b1.length c3, iV (b1.length : Int), iV next74, iV (w64 ((b1.length : Int) - next74)), iV (w64 ((w64 ((b1.length : Int) - next74)) - 2)), fV, iV next74, iV (Go.bits .or .i64 (w64 ((w64 ((rd b1 next74))) * 2 ^ 8)) (w64 ((rd b1 (w64 (next74 + 1)))))), iV (w64 (2 + (Go.bits .or .i64 (w64 ((w64 ((rd b1 next74))) * 2 ^ 8)) (w64 ((rd b1 (w64 (next74 + 1)))))))), iV (w64 (next74 + (w64 (2 + (Go.bits .or .i64 (w64 ((w64 ((rd b1 next74))) * 2 ^ 8)) (w64 ((rd b1 (w64 (next74 + 1)))))))))), iV (w64 (x75 + 1))]), L62, HS136, HO137, h, kr⟩
           · have c81 : ¬ (x75 < (w64 ((rd b1 1)))) := c81
             refine wpRwI 45 kr (decide_eq_false c81) ?_
             refine condF kr ?_
             refine wp_exit ?_
             refine hx52 _ _ ?_
             exact J159 f61 A69 c70 s71 vw66 vh67 vat68 next74 (jL [(j65 0), (j65 1), iV x75, fV, (j65 3), (j65 4), (j65 5), (j65 6), (j65 7), (j65 8), (j65 9), (j65 10), (j65 11), (j65 12), (j65 13), (j65 14), (j65 15), (j65 16), (j65 17), (j65 18), (j65 19), (j65 20), (j65 21), (j65 22), (j65 23), (j65 24), (j65 25), (j65 26), (j65 27), (j65 28), (j65 29), (j65 30), (j65 31), (j65 32), (j65 33), (j65 34), (j65 35), (j65 36), (j65 37)]) W63 _ L62 h HS64 HO72 kr

set_option maxRecDepth 100000 in
set_option maxHeartbeats 4000000 in
theorem squeeze_reader_get.calls (k : Nat) (b1 : Nat) (A4 : Option Addr) (c5 : Nat) (r3 : S_reader) (n7 : Int) {t w : World} {f : FM} {H : List Seg} (HS : St t w f ([(b1, .cells #[.slice A4 r3.b.length c5, .int .i64 r3.used, .bool r3.over] 138 (0, 0))] :: H)) (HR6 : SlR (tInt .u8) f A4 c5 r3.b) (rr1 : Int) (rr2 : Int) (rr3 : Bool) (h : squeeze_reader_get k r3 n7 = some (rr1, rr2, rr3)) :
    Calls Tryz.prog 78 #[.pointer (some ⟨b1, 0, none⟩), .int .i64 n7] w (fun e w' => ∃ (g : FM), e = .returned (Value.int .i64 rr1) ∧ FM.le f g ∧ St t w' g ([(b1, .cells #[.slice A4 r3.b.length c5, .int .i64 rr2, .bool rr3] 138 (0, 0))] :: H)) := by
 unfold squeeze_reader_get at h
 refine enter Tryz.func78 rfl (tm := #[pV b1 0, iV n7, uV, uV, uV, uV, uV, uV, uV, uV, uV, uV, uV, uV, uV, uV, uV, uV, uV, uV, uV, uV, uV, uV, uV, uV, uV, uV, uV, uV, uV, uV, uV, uV, uV, uV, uV, uV, uV, uV, uV, uV, uV, uV, uV, uV, uV, uV, uV, uV, uV, uV, uV, uV, uV, uV]) kr ?_
 intro B hret hnor hnp
 refine wp_seq_k fun K8 hK9 => rl ?_
 refine seqL1 kr ?_
 refine nl (hK9 _ _ ?_)
 refine wp_seq_k fun K10 hK11 => rl ?_
 refine seqL1 kr ?_
 refine nl (hK11 _ _ ?_)
 refine wp_seq_k (fun K12 hK13 => ?_)
 refine wp_seq_k fun K14 hK15 => rl ?_
 refine seqL2 kr ?_
 refine nl (hK15 _ _ ?_)
 refine blockK (fun B16 hx17 hn18 hr19 ho20 hp21 => ?_)
 have hq_ := bind_some h; clear h; obtain ⟨o77, hv142, h⟩ := hq_
 have J143 : ∀ (f134 : FM) (v139 : Int) (x140 : Int) (x141 : Bool) (j138 : Nat → Value) (W136 : World) (a_ : Act), FM.le f f134 → some ((v139, x140, x141)) = some o77 → St t W136 f134 ([(b1, .cells #[.slice A4 r3.b.length c5, .int .i64 x140, .bool x141] 138 (0, 0))] :: H) → a_ = ⟨#[pV b1 0, iV n7, uV, uV, iV 0, iV v139, iV n7, (j138 0), (j138 1), (j138 2), (j138 3), (j138 4), (j138 5), (j138 6), (j138 7), (j138 8), (j138 9), (j138 10), (j138 11), (j138 12), (j138 13), (j138 14), (j138 15), (j138 16), (j138 17), (j138 18), (j138 19), (j138 20), (j138 21), (j138 22), (j138 23), (j138 24), (j138 25), (j138 26), (j138 27), (j138 28), (j138 29), (j138 30), (j138 31), (j138 32), (j138 33), (j138 34), (j138 35), (j138 36), (j138 37), (j138 38), (j138 39), (j138 40), (j138 41), (j138 42), (j138 43), (j138 44), (j138 45), (j138 46), (j138 47), uV], []⟩ → K12 a_ W136 := by
  intro f134 v139 x140 x141 j138 W136 a_ L135 hj144 HS137  hfr_; subst hfr_
  injection hj144 with hj144; subst hj144; try dsimp only at h
  refine hK13 _ _ ?_
  refine wp_seq_k fun K145 hK146 => rl ?_
  refine seqL2 kr ?_
  refine nl (hK146 _ _ ?_)
  refine wp_ret ?_
  refine hret _ _ ?_
  refine ends_still (v := Value.int .i64 v139) kr kr ?_
  injection h with h
  injection h with h0_ h
  injection h with h1_ h
  subst h0_ h1_ h
  exact ⟨f134, rfl, L135, HS137⟩
 clear h; have h := hv142; clear hv142
 refine loopK (fun n_ a_ w_ => ∃ (f81 : FM) (v86 : Int) (x87 : Int) (x88 : Int) (x89 : Bool) (j85 : Nat → Value), FM.le f f81 ∧ St t w_ f81 ([(b1, .cells #[.slice A4 r3.b.length c5, .int .i64 x88, .bool x89] 138 (0, 0))] :: H) ∧ squeeze_reader_get.l0 k n7 r3 n_ v86 x87 x88 x89 = some o77 ∧ a_ = ⟨#[pV b1 0, iV n7, uV, uV, iV 0, iV v86, iV n7, iV x87, (j85 0), (j85 1), (j85 2), (j85 3), (j85 4), (j85 5), (j85 6), (j85 7), (j85 8), (j85 9), (j85 10), (j85 11), (j85 12), (j85 13), (j85 14), (j85 15), (j85 16), (j85 17), (j85 18), (j85 19), (j85 20), (j85 21), (j85 22), (j85 23), (j85 24), (j85 25), (j85 26), (j85 27), (j85 28), (j85 29), (j85 30), (j85 31), (j85 32), (j85 33), (j85 34), (j85 35), (j85 36), (j85 37), (j85 38), (j85 39), (j85 40), (j85 41), (j85 42), (j85 43), (j85 44), (j85 45), (j85 46), uV], []⟩) k ⟨f, 0, 0, r3.used, r3.over, (jL []), fL, HS, h, kr⟩ ?_
 clear h
 rintro n80 _ W83 ⟨f81, v86, x87, x88, x89, j85, L82, HS84, h, rfl⟩ K78 hK79
 obtain _ | n80 := n80
 · exact nomatch h
 simp only [squeeze_reader_get.l0] at h
 refine wp_seq_k fun K90 hK91 => rl ?_
 refine seqL1 kr ?_
 refine nl (hK91 _ _ ?_)
 refine wp_seq_k (fun K92 hK93 => ?_)
 have hq_ := ite_some h; clear h; rcases hq_ with ⟨c95, h⟩ | ⟨c95, h⟩
 · have c95 : x87 < n7 := c95
   refine wpRwI 8 kr (decide_eq_true c95) ?_
   refine condT kr ?_
   refine wp_skip ?_
   refine hK93 _ _ ?_
   refine wp_seq_k (fun K96 hK97 => ?_)
   refine blockK (fun B98 hx99 hn100 hr101 ho102 hp103 => ?_)
   refine wp_seq_k fun K105 hK106 => rl ?_
   refine seqL3 kr ?_
   refine nl (hK106 _ _ ?_)
   refine wp_seq_k (fun K107 hK108 => ?_)
   refine wp_seq_k (fun K109 hK110 => ?_)
   refine heldG (S := Sg t f81 ([(b1, .cells #[.slice A4 r3.b.length c5, .int .i64 x88, .bool x89] 138 (0, 0))] :: H) []) (n := 11) kr rfl HS84 ?_
   intro W111 HS112
   refine takeGL [0, 1, 2] (n := 11) (fuel := 8) #[true, true, true, false, false, false, false, false, false, false, false] rfl kr kr kr (fun ch_ a_ w_ q_ => (fun ch_ a_ w_ q_ => hnp ch_ a_ w_ (hp21 ch_ a_ w_ q_)) ch_ a_ w_ (hp103 ch_ a_ w_ q_)) (Sg.g0 (Sx.of [] fL HS112)) ?_
   refine takeGQ 3 [] rfl kr kr kr kr kr kr (fun ch_ a_ w_ q_ => (fun ch_ a_ w_ q_ => hnp ch_ a_ w_ (hp21 ch_ a_ w_ q_)) ch_ a_ w_ (hp103 ch_ a_ w_ q_)) (Sg.g0 (Sx.of [] fL HS112)) (fun w_ hw_ => by obtain ⟨g_, hl_, hS_⟩ := hw_.st; exact run_load rfl Tryz.underlying3 rfl (kv (.pointer (some ⟨b1, 1, none⟩))) (hS_.cell 1)) ?_
   refine takeGL [4, 5, 6] (n := 7) (fuel := 4) #[true, true, true, true, true, true, true, false, false, false, false] rfl kr kr kr (fun ch_ a_ w_ q_ => (fun ch_ a_ w_ q_ => hnp ch_ a_ w_ (hp21 ch_ a_ w_ q_)) ch_ a_ w_ (hp103 ch_ a_ w_ q_)) (Sg.g0 (Sx.of [] fL HS112)) ?_
   refine takeGQ 7 [] rfl kr kr kr kr kr kr (fun ch_ a_ w_ q_ => (fun ch_ a_ w_ q_ => hnp ch_ a_ w_ (hp21 ch_ a_ w_ q_)) ch_ a_ w_ (hp103 ch_ a_ w_ q_)) (Sg.g0 (Sx.of [] fL HS112)) (fun w_ hw_ => by obtain ⟨g_, hl_, hS_⟩ := hw_.st; exact run_load rfl Tryz.underlying30 rfl (kv (.pointer (some ⟨b1, 0, none⟩))) (hS_.cell 0)) ?_
   refine takeGL [8, 9, 10] (n := 3) (fuel := 0) #[true, true, true, true, true, true, true, true, true, true, true] rfl kr kr kr (fun ch_ a_ w_ q_ => (fun ch_ a_ w_ q_ => hnp ch_ a_ w_ (hp21 ch_ a_ w_ q_)) ch_ a_ w_ (hp103 ch_ a_ w_ q_)) (Sg.g0 (Sx.of [] fL HS112)) ?_
   refine doneG kr ?_ _
   refine hK110 _ _ ?_
   have hq_ := ite_some h; clear h; rcases hq_ with ⟨c114, h⟩ | ⟨c114, h⟩
   · have c114 : x88 ≥ (w64 (8 * (r3.b.length : Int))) := c114
     refine wpRwI 21 kr (decide_eq_true c114) ?_
     refine condT kr ?_
     refine wp_seq_k fun K115 hK116 => rl ?_
     refine seqL3 kr ?_
     refine seqK rfl (does_store (n := 1) (vs := [.bool true]) (cs' := #[.slice A4 r3.b.length c5, .int .i64 x88, .bool true]) rfl kr (kv (.pointer (some ⟨b1, 2, none⟩))) (kv (.bool true)) rfl rfl (ones rfl) HS112 (Nat.le_of_ble_eq_true rfl) kr ?_)
     intro W117 HS118
     refine nl (hK116 _ _ ?_)
     refine wp_exit ?_
     refine hx99 _ _ ?_
     refine hK97 _ _ ?_
     refine rl ?_
     refine seqL2 kr ?_
     refine nl ?_
     refine hK79 n80 _ _ (Nat.lt_succ_self _) ?_
     exact ⟨f81, (w64 (v86 * 2 ^ 1)), (w64 (x87 + 1)), x88, true, (jL [tV, iV v86, iV (w64 (v86 * 2 ^ 1)), .pointer (some ⟨b1, 0, none⟩), .pointer (some ⟨b1, 0, none⟩), .pointer (some ⟨b1, 1, none⟩), iV x88, .pointer (some ⟨b1, 0, none⟩), .pointer (some ⟨b1, 0, none⟩), .pointer (some ⟨b1, 0, none⟩), .slice A4 r3.b.length c5, iV (r3.b.length : Int), iV (w64 (8 * (r3.b.length : Int))), tV, .pointer (some ⟨b1, 0, none⟩), .pointer (some ⟨b1, 0, none⟩), .pointer (some ⟨b1, 2, none⟩), (j85 17), (j85 18), (j85 19), (j85 20), (j85 21), (j85 22), (j85 23), (j85 24), (j85 25), (j85 26), (j85 27), (j85 28), (j85 29), (j85 30), (j85 31), (j85 32), (j85 33), (j85 34), (j85 35), (j85 36), (j85 37), (j85 38), (j85 39), (j85 40), (j85 41), (j85 42), (j85 43), (j85 44), (j85 45), iV (w64 (x87 + 1))]), L82, HS118, h, kr⟩
   · have c114 : ¬ (x88 ≥ (w64 (8 * (r3.b.length : Int)))) := c114
     refine wpRwI 21 kr (decide_eq_false c114) ?_
     refine condF kr ?_
     refine wp_skip ?_
     refine hK108 _ _ ?_
     refine wp_seq_k (fun K119 hK120 => ?_)
     refine heldG (S := Sg t f81 ([(b1, .cells #[.slice A4 r3.b.length c5, .int .i64 x88, .bool x89] 138 (0, 0))] :: H) []) (n := 23) kr rfl HS112 ?_
     intro W121 HS122
     refine takeGL [0, 1, 2, 3] (n := 23) (fuel := 19) #[true, true, true, true, false, false, false, false, false, false, false, false, false, false, false, false, false, false, false, false, false, false, false] rfl kr kr kr (fun ch_ a_ w_ q_ => (fun ch_ a_ w_ q_ => hnp ch_ a_ w_ (hp21 ch_ a_ w_ q_)) ch_ a_ w_ (hp103 ch_ a_ w_ q_)) (Sg.g0 (Sx.of [] fL HS122)) ?_
     refine takeGQ 4 [] rfl kr kr kr kr kr kr (fun ch_ a_ w_ q_ => (fun ch_ a_ w_ q_ => hnp ch_ a_ w_ (hp21 ch_ a_ w_ q_)) ch_ a_ w_ (hp103 ch_ a_ w_ q_)) (Sg.g0 (Sx.of [] fL HS122)) (fun w_ hw_ => by obtain ⟨g_, hl_, hS_⟩ := hw_.st; exact run_load rfl Tryz.underlying30 rfl (kv (.pointer (some ⟨b1, 0, none⟩))) (hS_.cell 0)) ?_
     refine takeGL [5, 6, 7] (n := 18) (fuel := 15) #[true, true, true, true, true, true, true, true, false, false, false, false, false, false, false, false, false, false, false, false, false, false, false] rfl kr kr kr (fun ch_ a_ w_ q_ => (fun ch_ a_ w_ q_ => hnp ch_ a_ w_ (hp21 ch_ a_ w_ q_)) ch_ a_ w_ (hp103 ch_ a_ w_ q_)) (Sg.g0 (Sx.of [] fL HS122)) ?_
     refine takeGQ 8 [] rfl kr kr kr kr kr kr (fun ch_ a_ w_ q_ => (fun ch_ a_ w_ q_ => hnp ch_ a_ w_ (hp21 ch_ a_ w_ q_)) ch_ a_ w_ (hp103 ch_ a_ w_ q_)) (Sg.g0 (Sx.of [] fL HS122)) (fun w_ hw_ => by obtain ⟨g_, hl_, hS_⟩ := hw_.st; exact run_load rfl Tryz.underlying3 rfl (kv (.pointer (some ⟨b1, 1, none⟩))) (hS_.cell 1)) ?_
     have hq_ := guard_some h; clear h; obtain ⟨c123, h⟩ := hq_
     have c123 : 0 ≤ (w64 (Int.tdiv x88 8)) := c123
     have hq_ := guard_some h; clear h; obtain ⟨c124, h⟩ := hq_
     have c124 : (w64 (Int.tdiv x88 8)) < (r3.b.length : Int) := c124
     obtain ⟨b128, of129, cs125, hA130, hr126, hc127⟩ := (HR6.mono L82).at (i := w64 (Int.tdiv x88 8)) c123 c124
     obtain rfl := hr126
     refine takeGL [9] (n := 14) (fuel := 13) #[true, true, true, true, true, true, true, true, true, true, false, false, false, false, false, false, false, false, false, false, false, false, false] rfl kr kr kr (fun ch_ a_ w_ q_ => (fun ch_ a_ w_ q_ => hnp ch_ a_ w_ (hp21 ch_ a_ w_ q_)) ch_ a_ w_ (hp103 ch_ a_ w_ q_)) (Sg.g0 (Sx.of [] fL HS122)) ?_
     refine takeGQ 10 [] rfl kr kr kr kr kr kr (fun ch_ a_ w_ q_ => (fun ch_ a_ w_ q_ => hnp ch_ a_ w_ (hp21 ch_ a_ w_ q_)) ch_ a_ w_ (hp103 ch_ a_ w_ q_)) (Sg.g0 (Sx.of [] fL HS122)) (fun w_ hw_ => by obtain ⟨g_, hl_, hS_⟩ := hw_.st; exact run_indexE hA130 (sz := 1) rfl Tryz.underlying30 kr (kv (.slice A4 r3.b.length c5)) (kv (.int .i64 (w64 (Int.tdiv x88 8)))) c123 c124 w_) ?_
     refine takeGQ 11 [] rfl kr kr kr kr kr kr (fun ch_ a_ w_ q_ => (fun ch_ a_ w_ q_ => hnp ch_ a_ w_ (hp21 ch_ a_ w_ q_)) ch_ a_ w_ (hp103 ch_ a_ w_ q_)) (Sg.g0 (Sx.of [] fL HS122)) (fun w_ hw_ => by obtain ⟨g_, hl_, hS_⟩ := hw_.st; exact run_load rfl Tryz.underlying5 rfl (kv (.pointer (some ⟨b128, of129 + (w64 (Int.tdiv x88 8) : Int).toNat * 1, none⟩))) ((hc127 hl_ hS_) 0 (by decide))) ?_
     refine takeGL [12, 13, 14] (n := 11) (fuel := 8) #[true, true, true, true, true, true, true, true, true, true, true, true, true, true, true, false, false, false, false, false, false, false, false] rfl kr kr kr (fun ch_ a_ w_ q_ => (fun ch_ a_ w_ q_ => hnp ch_ a_ w_ (hp21 ch_ a_ w_ q_)) ch_ a_ w_ (hp103 ch_ a_ w_ q_)) (Sg.g0 (Sx.of [] fL HS122)) ?_
     refine takeGQ 15 [] rfl kr kr kr kr kr kr (fun ch_ a_ w_ q_ => (fun ch_ a_ w_ q_ => hnp ch_ a_ w_ (hp21 ch_ a_ w_ q_)) ch_ a_ w_ (hp103 ch_ a_ w_ q_)) (Sg.g0 (Sx.of [] fL HS122)) (fun w_ hw_ => by obtain ⟨g_, hl_, hS_⟩ := hw_.st; exact run_load rfl Tryz.underlying3 rfl (kv (.pointer (some ⟨b1, 1, none⟩))) (hS_.cell 1)) ?_
     have hq_ := guard_some h; clear h; obtain ⟨c131, h⟩ := hq_
     have c131 : ¬ ((w64 (7 - (Int.tmod x88 8))) < 0) := c131
     refine takeGL [16, 17] (n := 7) (fuel := 5) #[true, true, true, true, true, true, true, true, true, true, true, true, true, true, true, true, true, true, false, false, false, false, false] rfl kr kr kr (fun ch_ a_ w_ q_ => (fun ch_ a_ w_ q_ => hnp ch_ a_ w_ (hp21 ch_ a_ w_ q_)) ch_ a_ w_ (hp103 ch_ a_ w_ q_)) (Sg.g0 (Sx.of [] fL HS122)) ?_
     refine takeGQ 18 [] rfl kr kr kr kr kr kr (fun ch_ a_ w_ q_ => (fun ch_ a_ w_ q_ => hnp ch_ a_ w_ (hp21 ch_ a_ w_ q_)) ch_ a_ w_ (hp103 ch_ a_ w_ q_)) (Sg.g0 (Sx.of [] fL HS122)) (fun w_ hw_ => by obtain ⟨g_, hl_, hS_⟩ := hw_.st; exact run_shr rfl (kv (.int .u8 (rd r3.b (w64 (Int.tdiv x88 8))))) (kv (.int .i64 (w64 (7 - (Int.tmod x88 8))))) c131 w_) ?_
     refine takeGL [19, 20, 21, 22] (n := 4) (fuel := 0) #[true, true, true, true, true, true, true, true, true, true, true, true, true, true, true, true, true, true, true, true, true, true, true] rfl kr kr kr (fun ch_ a_ w_ q_ => (fun ch_ a_ w_ q_ => hnp ch_ a_ w_ (hp21 ch_ a_ w_ q_)) ch_ a_ w_ (hp103 ch_ a_ w_ q_)) (Sg.g0 (Sx.of [] fL HS122)) ?_
     refine doneG kr ?_ _
     refine hK120 _ _ ?_
     refine rl ?_
     refine seqL3 kr ?_
     refine seqK rfl (does_run (run_load rfl Tryz.underlying3 rfl (kv (.pointer (some ⟨b1, 1, none⟩))) (HS122.cell 1)) ?_)
     refine seqL3 kr ?_
     refine seqK rfl (does_store (n := 1) (vs := [.int .i64 (w64 (x88 + 1))]) (cs' := #[.slice A4 r3.b.length c5, .int .i64 (w64 (x88 + 1)), .bool x89]) rfl kr (kv (.pointer (some ⟨b1, 1, none⟩))) (kv (.int .i64 (w64 (x88 + 1)))) rfl rfl (ones rfl) HS122 (Nat.le_of_ble_eq_true rfl) kr ?_)
     intro W132 HS133
     refine nl ?_
     refine hn100 _ _ ?_
     refine hK97 _ _ ?_
     refine rl ?_
     refine seqL2 kr ?_
     refine nl ?_
     refine hK79 n80 _ _ (Nat.lt_succ_self _) ?_
     exact ⟨f81, (Go.bits .or .i64 (w64 (v86 * 2 ^ 1)) (Go.bits .and .i64 (w64 (shr (rd r3.b (w64 (Int.tdiv x88 8))) (min (w64 (7 - (Int.tmod x88 8))).toNat 8))) 1)), (w64 (x87 + 1)), (w64 (x88 + 1)), x89, (jL [tV, iV v86, iV (w64 (v86 * 2 ^ 1)), .pointer (some ⟨b1, 0, none⟩), .pointer (some ⟨b1, 0, none⟩), .pointer (some ⟨b1, 1, none⟩), iV x88, .pointer (some ⟨b1, 0, none⟩), .pointer (some ⟨b1, 0, none⟩), .pointer (some ⟨b1, 0, none⟩), .slice A4 r3.b.length c5, iV (r3.b.length : Int), iV (w64 (8 * (r3.b.length : Int))), fV, (j85 14), (j85 15), (j85 16), iV (w64 (v86 * 2 ^ 1)), .pointer (some ⟨b1, 0, none⟩), .pointer (some ⟨b1, 0, none⟩), .pointer (some ⟨b1, 0, none⟩), .slice A4 r3.b.length c5, .pointer (some ⟨b1, 0, none⟩), .pointer (some ⟨b1, 0, none⟩), .pointer (some ⟨b1, 1, none⟩), iV x88, iV (w64 (Int.tdiv x88 8)), .pointer (some ⟨b128, of129 + (w64 (Int.tdiv x88 8) : Int).toNat * 1, none⟩), .int .u8 (rd r3.b (w64 (Int.tdiv x88 8))), .pointer (some ⟨b1, 0, none⟩), .pointer (some ⟨b1, 0, none⟩), .pointer (some ⟨b1, 1, none⟩), iV x88, iV (Int.tmod x88 8), iV (w64 (7 - (Int.tmod x88 8))), .int .u8 (shr (rd r3.b (w64 (Int.tdiv x88 8))) (min (w64 (7 - (Int.tmod x88 8))).toNat 8)), iV (w64 (shr (rd r3.b (w64 (Int.tdiv x88 8))) (min (w64 (7 - (Int.tmod x88 8))).toNat 8))), iV (Go.bits .and .i64 (w64 (shr (rd r3.b (w64 (Int.tdiv x88 8))) (min (w64 (7 - (Int.tmod x88 8))).toNat 8))) 1), iV (Go.bits .or .i64 (w64 (v86 * 2 ^ 1)) (Go.bits .and .i64 (w64 (shr (rd r3.b (w64 (Int.tdiv x88 8))) (min (w64 (7 - (Int.tmod x88 8))).toNat 8))) 1)), .pointer (some ⟨b1, 0, none⟩), .pointer (some ⟨b1, 0, none⟩), .pointer (some ⟨b1, 1, none⟩), iV x88, iV (w64 (x88 + 1)), .pointer (some ⟨b1, 0, none⟩), .pointer (some ⟨b1, 1, none⟩), iV (w64 (x87 + 1))]), L82, HS133, h, kr⟩
 · have c95 : ¬ (x87 < n7) := c95
   refine wpRwI 8 kr (decide_eq_false c95) ?_
   refine condF kr ?_
   refine wp_exit ?_
   refine hx17 _ _ ?_
   exact J143 f81 v86 x88 x89 (jL [iV x87, fV, (j85 1), (j85 2), (j85 3), (j85 4), (j85 5), (j85 6), (j85 7), (j85 8), (j85 9), (j85 10), (j85 11), (j85 12), (j85 13), (j85 14), (j85 15), (j85 16), (j85 17), (j85 18), (j85 19), (j85 20), (j85 21), (j85 22), (j85 23), (j85 24), (j85 25), (j85 26), (j85 27), (j85 28), (j85 29), (j85 30), (j85 31), (j85 32), (j85 33), (j85 34), (j85 35), (j85 36), (j85 37), (j85 38), (j85 39), (j85 40), (j85 41), (j85 42), (j85 43), (j85 44), (j85 45), (j85 46)]) W83 _ L82 h HS84 kr

set_option maxRecDepth 100000 in
set_option maxHeartbeats 4000000 in
theorem squeeze_read_1.calls (k : Nat)  (n1 : Int) {t w : World} {f : FM} {H : List Seg} (HS : St t w f (H)) (rr1 : Bool) (h : squeeze_read_1 k n1 = some rr1) :
    Calls Tryz.prog 79 #[.int .i64 n1] w (fun e w' => ∃ (g : FM), e = .returned (Value.bool rr1) ∧ FM.le f g ∧ St t w' g (H)) := by
 unfold squeeze_read_1 at h
 refine enter Tryz.func79 rfl (tm := #[iV n1, uV, uV, uV, uV, uV, uV, uV, uV]) kr ?_
 intro B hret hnor hnp
 refine wp_seq_k fun K2 hK3 => rl ?_
 refine seqL1 kr ?_
 refine nl (hK3 _ _ ?_)
 refine wp_seq_k fun K4 hK5 => rl ?_
 refine seqL3 kr ?_
 have hq_ := ite_some h; clear h; rcases hq_ with ⟨c6, h⟩ | ⟨c6, h⟩
 · have c6 : n1 < 0 := c6
   refine seqRwI 4 kr (decide_eq_true c6) ?_
   refine seqRwI 5 kr (decide_eq_true c6) ?_
   refine seqL4 kr ?_
   refine nl (hK5 _ _ ?_)
   refine wp_ret ?_
   refine hret _ _ ?_
   refine ends_still (v := Value.bool true) kr kr ?_
   injection h with h
   subst h
   exact ⟨f, rfl, FM.le.refl _, HS⟩
 · have c6 : ¬ (n1 < 0) := c6
   refine seqRwI 4 kr (decide_eq_false c6) ?_
   refine seqRwI 5 kr (decide_eq_false c6) ?_
   refine seqL4 kr ?_
   refine nl (hK5 _ _ ?_)
   refine wp_ret ?_
   refine hret _ _ ?_
   refine ends_still (v := Value.bool (decide (n1 > 65535))) kr kr ?_
   injection h with h
   subst h
   exact ⟨f, rfl, FM.le.refl _, HS⟩

set_option maxRecDepth 100000 in
set_option maxHeartbeats 4000000 in
theorem slices_IndexFunc_int__squeeze_read_1.calls (k : Nat) (A2 : Option Addr) (c3 : Nat) (s1 : List Int) {t w : World} {f : FM} {H : List Seg} (HS : St t w f (H)) (HR4 : SlR (tInt .i64) f A2 c3 s1) (rr1 : Int) (h : slices_IndexFunc_int__squeeze_read_1 k s1 = some rr1) :
    Calls Tryz.prog 43 #[.slice A2 s1.length c3, .func (.func 79) #[] #[]] w (fun e w' => ∃ (g : FM), e = .returned (Value.int .i64 rr1) ∧ FM.le f g ∧ St t w' g (H)) := by
 unfold slices_IndexFunc_int__squeeze_read_1 at h
 refine enter Tryz.func43 rfl (tm := #[.slice A2 s1.length c3, .func (.func 79) #[] #[], uV, uV, uV, uV, uV, uV, uV, uV, uV, uV, uV, uV, uV, uV, uV, uV, uV]) kr ?_
 intro B hret hnor hnp
 refine wp_seq_k fun K5 hK6 => rl ?_
 refine seqL1 kr ?_
 refine nl (hK6 _ _ ?_)
 refine wp_seq_k (fun K7 hK8 => ?_)
 refine wp_seq_k fun K9 hK10 => rl ?_
 refine seqL3 kr ?_
 refine nl (hK10 _ _ ?_)
 refine blockK (fun B11 hx12 hn13 hr14 ho15 hp16 => ?_)
 have hq_ := bind_some h; clear h; obtain ⟨o17, hv68, h⟩ := hq_
 have JR70 : ∀ z_, some (Sum.inl z_) = some o17 → some z_ = some rr1 := by
  intro z_ e_; injection e_ with e_; subst e_; exact h
 have J69 : ∀ (f63 : FM) (j67 : Nat → Value) (W65 : World) (a_ : Act), FM.le f f63 → some (Sum.inr ()) = some o17 → St t W65 f63 (H) → a_ = ⟨#[.slice A2 s1.length c3, .func (.func 79) #[] #[], uV, uV, (j67 0), (j67 1), .slice A2 s1.length c3, iV (s1.length : Int), (j67 2), (j67 3), (j67 4), (j67 5), (j67 6), (j67 7), (j67 8), (j67 9), (j67 10), (j67 11), (j67 12)], []⟩ → K7 a_ W65 := by
  intro f63 j67 W65 a_ L64 hj71 HS66  hfr_; subst hfr_
  injection hj71 with hj71; subst hj71; try dsimp only at h
  simp only [Sum.elim_inr] at h
  refine hK8 _ _ ?_
  refine wp_seq_k fun K72 hK73 => rl ?_
  refine seqL1 kr ?_
  refine nl (hK73 _ _ ?_)
  refine wp_ret ?_
  refine hret _ _ ?_
  refine ends_still (v := Value.int .i64 (-1)) kr kr ?_
  injection h with h
  subst h
  exact ⟨f63, rfl, L64, HS66⟩
 clear h; have h := hv68; clear hv68
 refine loopK (fun n_ a_ w_ => ∃ (f21 : FM) (x26 : Int) (j25 : Nat → Value), FM.le f f21 ∧ St t w_ f21 (H) ∧ slices_IndexFunc_int__squeeze_read_1.l0 k s1 n_ x26 = some o17 ∧ a_ = ⟨#[.slice A2 s1.length c3, .func (.func 79) #[] #[], uV, uV, (j25 0), (j25 1), .slice A2 s1.length c3, iV (s1.length : Int), iV x26, (j25 2), (j25 3), (j25 4), (j25 5), (j25 6), (j25 7), (j25 8), (j25 9), (j25 10), (j25 11)], []⟩) k ⟨f, 0, (jL [iV 0]), fL, HS, h, kr⟩ ?_
 clear h
 rintro n20 _ W23 ⟨f21, x26, j25, L22, HS24, h, rfl⟩ K18 hK19
 obtain _ | n20 := n20
 · exact nomatch h
 simp only [slices_IndexFunc_int__squeeze_read_1.l0] at h
 refine wp_seq_k fun K27 hK28 => rl ?_
 refine seqL1 kr ?_
 refine nl (hK28 _ _ ?_)
 refine wp_seq_k (fun K29 hK30 => ?_)
 have hq_ := ite_some h; clear h; rcases hq_ with ⟨c32, h⟩ | ⟨c32, h⟩
 · have c32 : x26 < (s1.length : Int) := c32
   refine wpRwI 9 kr (decide_eq_true c32) ?_
   refine condT kr ?_
   refine wp_skip ?_
   refine hK30 _ _ ?_
   refine wp_seq_k (fun K33 hK34 => ?_)
   refine blockK (fun B35 hx36 hn37 hr38 ho39 hp40 => ?_)
   refine wp_seq_k fun K42 hK43 => rl ?_
   refine seqL2 kr ?_
   refine nl (hK43 _ _ ?_)
   refine wp_seq_k fun K44 hK45 => rl ?_
   have hq_ := guard_some h; clear h; obtain ⟨c46, h⟩ := hq_
   have c46 : 0 ≤ x26 := c46
   obtain ⟨b50, of51, cs47, hA52, hr48, hc49⟩ := (HR4.mono L22).at (i := x26) c46 c32
   obtain rfl := hr48
   refine seqL3 kr ?_
   refine seqK rfl (does_run (run_indexE hA52 (sz := 1) rfl Tryz.underlying22 kr (kv (.slice A2 s1.length c3)) (kv (.int .i64 x26)) c46 c32 W23) ?_)
   refine seqK rfl (does_run (run_load rfl Tryz.underlying3 rfl (kv (.pointer (some ⟨b50, of51 + (x26 : Int).toNat * 1, none⟩))) ((hc49 fL HS24) 0 (by decide))) ?_)
   have hq_ := bind_some h; clear h; obtain ⟨vt53, hc54, h⟩ := hq_
   refine seqK rfl (does_call (f := 79) (args := #[.int .i64 (rd s1 x26)]) kr (squeeze_read_1.calls k (rd s1 x26) HS24 vt53 hc54) ?_)
   rintro _ W57 ⟨f55, rfl, L56, HS58⟩
   refine ⟨_, rfl, ?_⟩
   refine nl (hK45 _ _ ?_)
   have hq_ := ite_some h; clear h; rcases hq_ with ⟨c60, h⟩ | ⟨c60, h⟩
   · have c60 : vt53 = true := c60
     refine wpRwI 16 kr c60 ?_
     refine condT kr ?_
     refine wp_seq_k fun K61 hK62 => rl ?_
     refine seqL2 kr ?_
     refine nl (hK62 _ _ ?_)
     refine wp_ret ?_
     refine hr38 _ _ ?_
     refine hr14 _ _ ?_
     refine hret _ _ ?_
     refine ends_still (v := Value.int .i64 x26) kr kr ?_
     replace h := JR70 _ h
     injection h with h
     subst h
     exact ⟨f55, rfl, (L22.trans L56), HS58⟩
   · have c60 : ¬ (vt53 = true) := c60
     refine wpRwI 16 kr (Bool.eq_false_iff.mpr c60) ?_
     refine condF kr ?_
     refine wp_skip ?_
     refine hn37 _ _ ?_
     refine hK34 _ _ ?_
     refine rl ?_
     refine seqL2 kr ?_
     refine nl ?_
     refine hK19 n20 _ _ (Nat.lt_succ_self _) ?_
     exact ⟨f55, (w64 (x26 + 1)), (jL [(j25 0), iV x26, tV, iV x26, .func (.func 79) #[] #[], .slice A2 s1.length c3, iV x26, .pointer (some ⟨b50, of51 + (x26 : Int).toNat * 1, none⟩), iV (rd s1 x26), fV, (j25 10), iV (w64 (x26 + 1))]), (L22.trans L56), HS58, h, kr⟩
 · have c32 : ¬ (x26 < (s1.length : Int)) := c32
   refine wpRwI 9 kr (decide_eq_false c32) ?_
   refine condF kr ?_
   refine wp_exit ?_
   refine hx12 _ _ ?_
   exact J69 f21 (jL [(j25 0), (j25 1), iV x26, fV, (j25 3), (j25 4), (j25 5), (j25 6), (j25 7), (j25 8), (j25 9), (j25 10), (j25 11)]) W23 _ L22 h HS24 kr

set_option maxRecDepth 100000 in
set_option maxHeartbeats 4000000 in
theorem slices_ContainsFunc_int__squeeze_read_1.calls (k : Nat) (A2 : Option Addr) (c3 : Nat) (s1 : List Int) {t w : World} {f : FM} {H : List Seg} (HS : St t w f (H)) (HR4 : SlR (tInt .i64) f A2 c3 s1) (rr1 : Bool) (h : slices_ContainsFunc_int__squeeze_read_1 k s1 = some rr1) :
    Calls Tryz.prog 21 #[.slice A2 s1.length c3, .func (.func 79) #[] #[]] w (fun e w' => ∃ (g : FM), e = .returned (Value.bool rr1) ∧ FM.le f g ∧ St t w' g (H)) := by
 unfold slices_ContainsFunc_int__squeeze_read_1 at h
 refine enter Tryz.func21 rfl (tm := #[.slice A2 s1.length c3, .func (.func 79) #[] #[], uV, uV, uV, uV, uV, uV, uV]) kr ?_
 intro B hret hnor hnp
 refine wp_seq_k fun K5 hK6 => rl ?_
 refine seqL1 kr ?_
 refine nl (hK6 _ _ ?_)
 refine wp_seq_k fun K7 hK8 => rl ?_
 have hq_ := bind_some h; clear h; obtain ⟨vt9, hc10, h⟩ := hq_
 refine seqL2 kr ?_
 refine seqK rfl (does_call (f := 43) (args := #[.slice A2 s1.length c3, .func (.func 79) #[] #[]]) kr (slices_IndexFunc_int__squeeze_read_1.calls k A2 c3 s1 HS HR4 vt9 hc10) ?_)
 rintro _ W13 ⟨f11, rfl, L12, HS14⟩
 refine ⟨_, rfl, ?_⟩
 refine seqL2 kr ?_
 refine nl (hK8 _ _ ?_)
 refine wp_ret ?_
 refine hret _ _ ?_
 refine ends_still (v := Value.bool (decide (vt9 ≥ 0))) kr kr ?_
 injection h with h
 subst h
 exact ⟨f11, rfl, L12, HS14⟩

set_option maxRecDepth 100000 in
set_option maxHeartbeats 4000000 in
theorem slices_Equal_byte.calls (k : Nat) (A2 : Option Addr) (c3 : Nat) (A6 : Option Addr) (c7 : Nat) (s11 : List Int) (s25 : List Int) {t w : World} {f : FM} {H : List Seg} (HS : St t w f (H)) (HR4 : SlR (tInt .u8) f A2 c3 s11) (HR8 : SlR (tInt .u8) f A6 c7 s25) (rr1 : Bool) (h : slices_Equal_byte k s11 s25 = some rr1) :
    Calls Tryz.prog 80 #[.slice A2 s11.length c3, .slice A6 s25.length c7] w (fun e w' => ∃ (g : FM), e = .returned (Value.bool rr1) ∧ FM.le f g ∧ St t w' g (H)) := by
 unfold slices_Equal_byte at h
 refine enter Tryz.func80 rfl (tm := #[.slice A2 s11.length c3, .slice A6 s25.length c7, uV, uV, uV, uV, uV, uV, uV, uV, uV, uV, uV, uV, uV, uV, uV, uV, uV, uV, uV, uV, uV, uV, uV, uV]) kr ?_
 intro B hret hnor hnp
 refine wp_seq_k fun K9 hK10 => rl ?_
 refine seqL1 kr ?_
 refine nl (hK10 _ _ ?_)
 refine wp_seq_k (fun K11 hK12 => ?_)
 refine wp_seq_k fun K13 hK14 => rl ?_
 refine seqL5 kr ?_
 refine nl (hK14 _ _ ?_)
 have hq_ := ite_some h; clear h; rcases hq_ with ⟨c16, h⟩ | ⟨c16, h⟩
 · have c16 : (s11.length : Int) ≠ (s25.length : Int) := c16
   refine wpRwI 10 kr (bne_iff_ne.mpr c16) ?_
   refine condT kr ?_
   refine wp_seq_k fun K17 hK18 => rl ?_
   refine seqL1 kr ?_
   refine nl (hK18 _ _ ?_)
   refine wp_ret ?_
   refine hret _ _ ?_
   refine ends_still (v := Value.bool false) kr kr ?_
   injection h with h
   subst h
   exact ⟨f, rfl, FM.le.refl _, HS⟩
 · have c16 : ¬ ((s11.length : Int) ≠ (s25.length : Int)) := c16
   refine wpRwI 10 (x := ((s11.length : Int) != (s25.length : Int))) (v := false) kr (bne_eq_false_iff_eq.mpr (Decidable.of_not_not c16)) ?_
   refine condF kr ?_
   refine wp_skip ?_
   refine hK12 _ _ ?_
   refine wp_seq_k (fun K19 hK20 => ?_)
   refine wp_seq_k fun K21 hK22 => rl ?_
   refine seqL3 kr ?_
   refine nl (hK22 _ _ ?_)
   refine blockK (fun B23 hx24 hn25 hr26 ho27 hp28 => ?_)
   have hq_ := bind_some h; clear h; obtain ⟨o29, hv83, h⟩ := hq_
   have JR85 : ∀ z_, some (Sum.inl z_) = some o29 → some z_ = some rr1 := by
    intro z_ e_; injection e_ with e_; subst e_; exact h
   have J84 : ∀ (f78 : FM) (j82 : Nat → Value) (W80 : World) (a_ : Act), FM.le f f78 → some (Sum.inr ()) = some o29 → St t W80 f78 (H) → a_ = ⟨#[.slice A2 s11.length c3, .slice A6 s25.length c7, uV, uV, (j82 0), (j82 1), .slice A2 s11.length c3, iV (s11.length : Int), .slice A6 s25.length c7, iV (s25.length : Int), fV, .slice A2 s11.length c3, iV (s11.length : Int), (j82 2), (j82 3), (j82 4), (j82 5), (j82 6), (j82 7), (j82 8), (j82 9), (j82 10), (j82 11), (j82 12), (j82 13), (j82 14)], []⟩ → K19 a_ W80 := by
    intro f78 j82 W80 a_ L79 hj86 HS81  hfr_; subst hfr_
    injection hj86 with hj86; subst hj86; try dsimp only at h
    simp only [Sum.elim_inr] at h
    refine hK20 _ _ ?_
    refine wp_seq_k fun K87 hK88 => rl ?_
    refine seqL1 kr ?_
    refine nl (hK88 _ _ ?_)
    refine wp_ret ?_
    refine hret _ _ ?_
    refine ends_still (v := Value.bool true) kr kr ?_
    injection h with h
    subst h
    exact ⟨f78, rfl, L79, HS81⟩
   clear h; have h := hv83; clear hv83
   refine loopK (fun n_ a_ w_ => ∃ (f33 : FM) (x38 : Int) (j37 : Nat → Value), FM.le f f33 ∧ St t w_ f33 (H) ∧ slices_Equal_byte.l0 k s11 s25 n_ x38 = some o29 ∧ a_ = ⟨#[.slice A2 s11.length c3, .slice A6 s25.length c7, uV, uV, (j37 0), (j37 1), .slice A2 s11.length c3, iV (s11.length : Int), .slice A6 s25.length c7, iV (s25.length : Int), fV, .slice A2 s11.length c3, iV (s11.length : Int), iV x38, (j37 2), (j37 3), (j37 4), (j37 5), (j37 6), (j37 7), (j37 8), (j37 9), (j37 10), (j37 11), (j37 12), (j37 13)], []⟩) k ⟨f, 0, (jL [fV]), fL, HS, h, kr⟩ ?_
   clear h
   rintro n32 _ W35 ⟨f33, x38, j37, L34, HS36, h, rfl⟩ K30 hK31
   obtain _ | n32 := n32
   · exact nomatch h
   simp only [slices_Equal_byte.l0] at h
   refine wp_seq_k fun K39 hK40 => rl ?_
   refine seqL1 kr ?_
   refine nl (hK40 _ _ ?_)
   refine wp_seq_k (fun K41 hK42 => ?_)
   have hq_ := ite_some h; clear h; rcases hq_ with ⟨c44, h⟩ | ⟨c44, h⟩
   · have c44 : x38 < (s11.length : Int) := c44
     refine wpRwI 14 kr (decide_eq_true c44) ?_
     refine condT kr ?_
     refine wp_skip ?_
     refine hK42 _ _ ?_
     refine wp_seq_k (fun K45 hK46 => ?_)
     refine blockK (fun B47 hx48 hn49 hr50 ho51 hp52 => ?_)
     refine wp_seq_k fun K54 hK55 => rl ?_
     refine seqL2 kr ?_
     refine nl (hK55 _ _ ?_)
     refine wp_seq_k (fun K56 hK57 => ?_)
     refine heldG (S := Sg t f33 (H) []) (n := 9) kr rfl HS36 ?_
     intro W58 HS59
     have hq_ := guard_some h; clear h; obtain ⟨c60, h⟩ := hq_
     have c60 : 0 ≤ x38 := c60
     obtain ⟨b64, of65, cs61, hA66, hr62, hc63⟩ := (HR4.mono L34).at (i := x38) c60 c44
     obtain rfl := hr62
     refine takeGL [0, 1] (n := 9) (fuel := 7) #[true, true, false, false, false, false, false, false, false] rfl kr kr kr (fun ch_ a_ w_ q_ => (fun ch_ a_ w_ q_ => hnp ch_ a_ w_ (hp28 ch_ a_ w_ q_)) ch_ a_ w_ (hp52 ch_ a_ w_ q_)) (Sg.g0 (Sx.of [] fL HS59)) ?_
     refine takeGQ 2 [] rfl kr kr kr kr kr kr (fun ch_ a_ w_ q_ => (fun ch_ a_ w_ q_ => hnp ch_ a_ w_ (hp28 ch_ a_ w_ q_)) ch_ a_ w_ (hp52 ch_ a_ w_ q_)) (Sg.g0 (Sx.of [] fL HS59)) (fun w_ hw_ => by obtain ⟨g_, hl_, hS_⟩ := hw_.st; exact run_indexE hA66 (sz := 1) rfl Tryz.underlying30 kr (kv (.slice A2 s11.length c3)) (kv (.int .i64 x38)) c60 c44 w_) ?_
     refine takeGQ 3 [] rfl kr kr kr kr kr kr (fun ch_ a_ w_ q_ => (fun ch_ a_ w_ q_ => hnp ch_ a_ w_ (hp28 ch_ a_ w_ q_)) ch_ a_ w_ (hp52 ch_ a_ w_ q_)) (Sg.g0 (Sx.of [] fL HS59)) (fun w_ hw_ => by obtain ⟨g_, hl_, hS_⟩ := hw_.st; exact run_load rfl Tryz.underlying5 rfl (kv (.pointer (some ⟨b64, of65 + (x38 : Int).toNat * 1, none⟩))) ((hc63 hl_ hS_) 0 (by decide))) ?_
     have hq_ := guard_some h; clear h; obtain ⟨c67, h⟩ := hq_
     have c67 : x38 < (s25.length : Int) := c67
     obtain ⟨b71, of72, cs68, hA73, hr69, hc70⟩ := (HR8.mono L34).at (i := x38) c60 c67
     obtain rfl := hr69
     refine takeGL [4, 5] (n := 5) (fuel := 3) #[true, true, true, true, true, true, false, false, false] rfl kr kr kr (fun ch_ a_ w_ q_ => (fun ch_ a_ w_ q_ => hnp ch_ a_ w_ (hp28 ch_ a_ w_ q_)) ch_ a_ w_ (hp52 ch_ a_ w_ q_)) (Sg.g0 (Sx.of [] fL HS59)) ?_
     refine takeGQ 6 [] rfl kr kr kr kr kr kr (fun ch_ a_ w_ q_ => (fun ch_ a_ w_ q_ => hnp ch_ a_ w_ (hp28 ch_ a_ w_ q_)) ch_ a_ w_ (hp52 ch_ a_ w_ q_)) (Sg.g0 (Sx.of [] fL HS59)) (fun w_ hw_ => by obtain ⟨g_, hl_, hS_⟩ := hw_.st; exact run_indexE hA73 (sz := 1) rfl Tryz.underlying30 kr (kv (.slice A6 s25.length c7)) (kv (.int .i64 x38)) c60 c67 w_) ?_
     refine takeGQ 7 [] rfl kr kr kr kr kr kr (fun ch_ a_ w_ q_ => (fun ch_ a_ w_ q_ => hnp ch_ a_ w_ (hp28 ch_ a_ w_ q_)) ch_ a_ w_ (hp52 ch_ a_ w_ q_)) (Sg.g0 (Sx.of [] fL HS59)) (fun w_ hw_ => by obtain ⟨g_, hl_, hS_⟩ := hw_.st; exact run_load rfl Tryz.underlying5 rfl (kv (.pointer (some ⟨b71, of72 + (x38 : Int).toNat * 1, none⟩))) ((hc70 hl_ hS_) 0 (by decide))) ?_
     refine takeGL [8] (n := 1) (fuel := 0) #[true, true, true, true, true, true, true, true, true] rfl kr kr kr (fun ch_ a_ w_ q_ => (fun ch_ a_ w_ q_ => hnp ch_ a_ w_ (hp28 ch_ a_ w_ q_)) ch_ a_ w_ (hp52 ch_ a_ w_ q_)) (Sg.g0 (Sx.of [] fL HS59)) ?_
     refine doneG kr ?_ _
     refine hK57 _ _ ?_
     have hq_ := ite_some h; clear h; rcases hq_ with ⟨c75, h⟩ | ⟨c75, h⟩
     · have c75 : (rd s11 x38) ≠ (rd s25 x38) := c75
       refine wpRwI 24 kr (bne_iff_ne.mpr c75) ?_
       refine condT kr ?_
       refine wp_seq_k fun K76 hK77 => rl ?_
       refine seqL1 kr ?_
       refine nl (hK77 _ _ ?_)
       refine wp_ret ?_
       refine hr50 _ _ ?_
       refine hr26 _ _ ?_
       refine hret _ _ ?_
       refine ends_still (v := Value.bool false) kr kr ?_
       replace h := JR85 _ h
       injection h with h
       subst h
       exact ⟨f33, rfl, L34, HS59⟩
     · have c75 : ¬ ((rd s11 x38) ≠ (rd s25 x38)) := c75
       refine wpRwI 24 (x := ((rd s11 x38) != (rd s25 x38))) (v := false) kr (bne_eq_false_iff_eq.mpr (Decidable.of_not_not c75)) ?_
       refine condF kr ?_
       refine wp_skip ?_
       refine hn49 _ _ ?_
       refine hK46 _ _ ?_
       refine rl ?_
       refine seqL2 kr ?_
       refine nl ?_
       refine hK31 n32 _ _ (Nat.lt_succ_self _) ?_
       exact ⟨f33, (w64 (x38 + 1)), (jL [(j37 0), iV x38, tV, iV x38, .slice A2 s11.length c3, iV x38, .pointer (some ⟨b64, of65 + (x38 : Int).toNat * 1, none⟩), .int .u8 (rd s11 x38), .slice A6 s25.length c7, iV x38, .pointer (some ⟨b71, of72 + (x38 : Int).toNat * 1, none⟩), .int .u8 (rd s25 x38), fV, iV (w64 (x38 + 1))]), L34, HS59, h, kr⟩
   · have c44 : ¬ (x38 < (s11.length : Int)) := c44
     refine wpRwI 14 kr (decide_eq_false c44) ?_
     refine condF kr ?_
     refine wp_exit ?_
     refine hx24 _ _ ?_
     exact J84 f33 (jL [(j37 0), (j37 1), iV x38, fV, (j37 3), (j37 4), (j37 5), (j37 6), (j37 7), (j37 8), (j37 9), (j37 10), (j37 11), (j37 12), (j37 13)]) W35 _ L34 h HS36 kr

end Go.Sp.F3
