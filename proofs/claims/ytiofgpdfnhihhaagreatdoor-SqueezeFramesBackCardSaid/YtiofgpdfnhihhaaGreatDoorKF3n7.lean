import Derived.Test.YtiofgpdfnhihhaaGreatDoorProg
import Derived.Test.YtiofgpdfnhihhaaGreatDoorSpCopy
import Derived.Test.YtiofgpdfnhihhaaGreatDoorFF3
import Derived.Test.YtiofgpdfnhihhaaGreatDoorSpStr
import Derived.Test.YtiofgpdfnhihhaaGreatDoorSpLib
import Derived.Test.YtiofgpdfnhihhaaGreatDoorSpBld
import Derived.Test.YtiofgpdfnhihhaaGreatDoorConv
import Derived.Test.YtiofgpdfnhihhaaGreatDoorLibs
import Derived.Test.YtiofgpdfnhihhaaGreatDoorSpGrow
import Derived.Test.YtiofgpdfnhihhaaGreatDoorSpRound
import Derived.Test.YtiofgpdfnhihhaaGreatDoorKF3n0
import Derived.Test.YtiofgpdfnhihhaaGreatDoorKF3n1
import Derived.Test.YtiofgpdfnhihhaaGreatDoorKF3n2
import Derived.Test.YtiofgpdfnhihhaaGreatDoorKF3n3
import Derived.Test.YtiofgpdfnhihhaaGreatDoorKF3n4
import Derived.Test.YtiofgpdfnhihhaaGreatDoorKF3n5
import Derived.Test.YtiofgpdfnhihhaaGreatDoorKF3n6
namespace Go.Sp.F3
open Go Go.Sp Go.Proofs
set_option linter.unusedVariables false
attribute [local irreducible] wpList AnyL Code.wp Calls Does Code.wpIn wpListIn CallsIn bodyPostM LeavesInM
set_option maxRecDepth 100000 in
set_option maxHeartbeats 4000000 in
theorem squeeze_read.calls (k : Nat) (A2 : Option Addr) (c3 : Nat) (b1 : List Int) (vw5 : Int) {t w : World} {f : FM} {H : List Seg} (HS : St t w f (H)) (HR4 : SlR (tInt .u8) f A2 c3 b1) (rr1 : List Int) (rr2 : Bool) (h : squeeze_read k b1 vw5 = some (rr1, rr2)) :
    Calls Tryz.prog 44 #[.slice A2 b1.length c3, .int .i64 vw5] w (fun e w' => ∃ (g : FM) (A625 : Option Addr) (c626 : Nat) (s627 : Seg), e = .returned (Value.tuple #[.slice A625 rr1.length c626, .bool rr2]) ∧ FM.le f g ∧ St t w' g (s627 :: H) ∧ Own (tInt .i64) 3 g A625 c626 s627 rr1) := by
 unfold squeeze_read at h
 refine enter Tryz.func44 rfl (tm := #[.slice A2 b1.length c3, iV vw5, uV, uV, uV, uV, uV, uV, uV, uV, uV, uV, uV, uV, uV, uV, uV, uV, uV, uV, uV, uV, uV, uV, uV, uV, uV, uV, uV, uV, uV, uV, uV, uV, uV, uV, uV, uV, uV, uV, uV, uV, uV, uV, uV, uV, uV, uV, uV, uV, uV, uV, uV, uV, uV, uV, uV, uV, uV, uV, uV, uV, uV, uV, uV, uV, uV, uV, uV, uV, uV, uV, uV, uV, uV, uV, uV, uV, uV, uV, uV, uV, uV, uV, uV, uV]) kr ?_
 intro B hret hnor hnp
 refine wp_seq_k fun K6 hK7 => rl ?_
 refine seqL2 kr ?_
 refine nl (hK7 _ _ ?_)
 refine wp_seq_k fun K8 hK9 => rl ?_
 refine seqL2 kr ?_
 refine seqK rfl (does_box (cs := #[.slice A2 b1.length c3, .int .i64 0, .bool false]) rfl (kv (.agg #[.slice A2 b1.length c3, .int .i64 0, .bool false])) rfl HS ?_)
 intro b10 W11 HS12
 refine seqL1 kr ?_
 refine nl (hK9 _ _ ?_)
 refine wp_seq_k fun K14 hK15 => rl ?_
 have hq_ := bind_some h; clear h; obtain ⟨⟨vt16, vt17, vt18⟩, hc19, h⟩ := hq_
 refine seqL1 kr ?_
 refine seqK rfl (does_call (f := 78) (args := #[.pointer (some ⟨b10, 0, none⟩), .int .i64 16]) kr (squeeze_reader_get.calls k b10 A2 c3 (⟨b1, 0, false⟩ : S_reader) 16 HS12 HR4 vt16 vt17 vt18 hc19) ?_)
 rintro _ W22 ⟨f20, rfl, L21, HS23⟩
 refine ⟨_, rfl, ?_⟩
 refine seqK rfl (does_lit (e := (tInt .i64)) (E := 3) (vs := #[(0, Value.int .i64 vt16)]) (cs := #[.int .i64 vt16]) (xs := ([vt16] : List Int)) rfl Tryz.underlying22 kr kr ⟨[.int .i64 vt16], _, rfl, rfl, rfl⟩ rfl HS23 ?_ (by decide))
 intro b24 W25 s26 HS27 _ HO28
 refine seqL1 kr ?_
 refine nl (hK15 _ _ ?_)
 refine wp_seq_k fun K30 hK31 => rl ?_
 refine seqL1 kr ?_
 refine nl (hK31 _ _ ?_)
 refine wp_seq_k (fun K32 hK33 => ?_)
 refine wp_seq_k fun K34 hK35 => rl ?_
 refine seqL1 kr ?_
 refine nl (hK35 _ _ ?_)
 refine blockK (fun B36 hx37 hn38 hr39 ho40 hp41 => ?_)
 have hq_ := bind_some h; clear h; obtain ⟨o277, hv533, h⟩ := hq_
 have J534 : ∀ (f521 : FM) (A527 : Option Addr) (c528 : Nat) (s529 : Seg) (out526 : List Int) (x531 : Int) (x532 : Bool) (j525 : Nat → Value) (W523 : World) (a_ : Act), FM.le f20 f521 → some ((out526, x531, x532)) = some o277 → St t W523 f521 (s529 :: [(b10, .cells #[.slice A2 b1.length c3, .int .i64 x531, .bool x532] 138 (0, 0))] :: H) → Own (tInt .i64) 3 f521 A527 c528 s529 out526 → a_ = ⟨#[.slice A2 b1.length c3, iV vw5, uV, uV, .slice none 0 0, fV, pV b10 0, .slice A527 out526.length c528, (j525 0), (j525 1), (j525 2), (j525 3), .slice A2 b1.length c3, .agg #[.slice A2 b1.length c3, iV 0, fV], pV b10 0, pV b10 0, iV vt16, (j525 4), (j525 5), (j525 6), (j525 7), (j525 8), (j525 9), (j525 10), (j525 11), (j525 12), (j525 13), (j525 14), (j525 15), (j525 16), (j525 17), (j525 18), (j525 19), (j525 20), (j525 21), (j525 22), (j525 23), (j525 24), (j525 25), (j525 26), (j525 27), (j525 28), (j525 29), (j525 30), (j525 31), (j525 32), (j525 33), (j525 34), (j525 35), (j525 36), (j525 37), (j525 38), (j525 39), (j525 40), (j525 41), (j525 42), (j525 43), (j525 44), (j525 45), (j525 46), (j525 47), (j525 48), (j525 49), (j525 50), (j525 51), (j525 52), (j525 53), (j525 54), (j525 55), (j525 56), uV, uV, uV, uV, uV, uV, uV, uV, uV, uV, uV, uV, uV, uV, uV, uV], []⟩ → K32 a_ W523 := by
  intro f521 A527 c528 s529 out526 x531 x532 j525 W523 a_ L522 hj535 HS524 HO530 hfr_; subst hfr_
  injection hj535 with hj535; subst hj535; try dsimp only at h
  refine hK33 _ _ ?_
  refine wp_seq_k (fun K536 hK537 => ?_)
  refine wp_seq_k fun K538 hK539 => rl ?_
  refine seqL3 kr ?_
  refine seqK rfl (does_run (run_load rfl Tryz.underlying4 rfl (kv (.pointer (some ⟨b10, 2, none⟩))) (HS524.u1.cell 2)) ?_)
  refine seqL1 kr ?_
  have hq_ := ite_some h; clear h; rcases hq_ with ⟨c540, h⟩ | ⟨c540, h⟩
  · have c540 : x532 = true := c540
    refine seqRwI 73 kr c540 ?_
    refine seqRwI 74 kr c540 ?_
    refine seqL10 kr ?_
    refine nl (hK539 _ _ ?_)
    refine condT kr ?_
    refine wp_seq_k fun K541 hK542 => rl ?_
    refine seqL2 kr ?_
    refine nl (hK542 _ _ ?_)
    refine wp_ret ?_
    refine hret _ _ ?_
    have HS600 := HS524.cons_nil
    refine ends_still (v := Value.tuple #[.slice none 0 0, .bool false]) kr kr ?_
    have HS603 := HS600.u2.u2
    have HS604 := HS603.drop
    have HS605 := HS604.drop
    injection h with h
    injection h with h0_ h
    subst h0_ h
    exact ⟨f521, none, 0, [], rfl, (L21.trans L522), HS605, (Own.nil _)⟩
  · have c540 : ¬ (x532 = true) := c540
    refine seqRwI 73 kr (Bool.eq_false_iff.mpr c540) ?_
    refine seqRwI 74 kr (Bool.eq_false_iff.mpr c540) ?_
    obtain ⟨f543, L544, HS545, HR546, th547⟩ := HO530.lend HS524
    have hq_ := bind_some h; clear h; obtain ⟨vt548, hc549, h⟩ := hq_
    refine seqL1 kr ?_
    refine seqG kr (does_call (f := 21) (args := #[.slice A527 out526.length c528, .func (.func 79) #[] #[]]) kr (slices_ContainsFunc_int__squeeze_read_1.calls k A527 c528 out526 HS545 HR546 vt548 hc549) ?_)
    rintro _ W552 ⟨f550, rfl, L551, HS553⟩
    refine ⟨_, rfl, ?_⟩
    obtain ⟨f554, L555, HS556⟩ := th547 L551 HS553
    refine seqL2 kr ?_
    have hq_ := ite_some h; clear h; rcases hq_ with ⟨c557, h⟩ | ⟨c557, h⟩
    · have c557 : vt548 = true := c557
      refine seqRwI 76 kr c557 ?_
      refine seqRwI 77 kr c557 ?_
      refine seqRwI 78 kr c557 ?_
      refine seqL6 kr ?_
      refine nl (hK539 _ _ ?_)
      refine condT kr ?_
      refine wp_seq_k fun K558 hK559 => rl ?_
      refine seqL2 kr ?_
      refine nl (hK559 _ _ ?_)
      refine wp_ret ?_
      refine hret _ _ ?_
      have HS606 := HS556.cons_nil
      refine ends_still (v := Value.tuple #[.slice none 0 0, .bool false]) kr kr ?_
      have HS609 := HS606.u2.u2
      have HS610 := HS609.drop
      have HS611 := HS610.drop
      injection h with h
      injection h with h0_ h
      subst h0_ h
      exact ⟨f554, none, 0, [], rfl, (L21.trans (L522.trans L555)), HS611, (Own.nil _)⟩
    · have c557 : ¬ (vt548 = true) := c557
      refine seqRwI 76 kr (Bool.eq_false_iff.mpr c557) ?_
      refine seqRwI 77 kr (Bool.eq_false_iff.mpr c557) ?_
      refine seqRwI 78 kr (Bool.eq_false_iff.mpr c557) ?_
      obtain ⟨f560, L561, HS562, HR563, th564⟩ := (HO530.mono L555).lend HS556
      have hq_ := bind_some h; clear h; obtain ⟨vt565, hc566, h⟩ := hq_
      refine seqL1 kr ?_
      refine seqG kr (does_call (f := 36) (args := #[.slice A527 out526.length c528]) kr (squeeze_row.calls k A527 c528 out526 HS562 HR563 vt565 hc566) ?_)
      rintro _ W569 ⟨f567, A571, c572, s573, rfl, L568, HS570, HO574⟩
      refine ⟨_, rfl, ?_⟩
      obtain ⟨f576, L577, HS578⟩ := th564 L568 HS570
      replace HO574 := HO574.flat (g := f576) (fun _ _ _ _ h_ => h_)
      have HS579 := HS578.u1
      obtain ⟨f580, L581, HS582, HR583, th584⟩ := HO574.lend HS579
      have hq_ := bind_some h; clear h; obtain ⟨vt585, hc586, h⟩ := hq_
      refine seqL1 kr ?_
      refine seqG kr (does_call (f := 80) (args := #[.slice A571 vt565.length c572, .slice A2 b1.length c3]) kr (slices_Equal_byte.calls k A571 c572 A2 c3 vt565 b1 HS582 HR583 (HR4.mono (L21.trans (L522.trans (L555.trans (L577.trans L581))))) vt585 hc586) ?_)
      rintro _ W589 ⟨f587, rfl, L588, HS590⟩
      refine ⟨_, rfl, ?_⟩
      obtain ⟨f591, L592, HS593⟩ := th584 L588 HS590
      refine seqL2 kr ?_
      refine nl (hK539 _ _ ?_)
      have hq_ := ite_some h; clear h; rcases hq_ with ⟨c595, h⟩ | ⟨c595, h⟩
      · have c595 : ¬ (vt585 = true) := c595
        refine wpRwI 83 kr (congrArg (fun b_ => !b_) (show vt585 = false from (Bool.eq_false_iff.mpr c595)) : (!vt585) = true) ?_
        refine wpRwI 84 kr (congrArg (fun b_ => !b_) (show vt585 = false from (Bool.eq_false_iff.mpr c595)) : (!vt585) = true) ?_
        refine condT kr ?_
        refine wp_seq_k fun K596 hK597 => rl ?_
        refine seqL2 kr ?_
        refine nl (hK597 _ _ ?_)
        refine wp_ret ?_
        refine hret _ _ ?_
        have HS612 := HS593.cons_nil
        refine ends_still (v := Value.tuple #[.slice none 0 0, .bool false]) kr kr ?_
        have HS616 := HS612.u3.u3.u3
        have HS617 := HS616.drop
        have HS618 := HS617.drop
        have HS619 := HS618.drop
        injection h with h
        injection h with h0_ h
        subst h0_ h
        exact ⟨f591, none, 0, [], rfl, (L21.trans (L522.trans (L555.trans (L577.trans L592)))), HS619, (Own.nil _)⟩
      · have c595 : ¬ (¬ (vt585 = true)) := c595
        refine wpRwI 83 (x := (!vt585)) (v := false) kr (congrArg (fun b_ => !b_) (show vt585 = true from (Decidable.of_not_not c595)) : (!vt585) = false) ?_
        refine wpRwI 84 (x := (!vt585)) (v := false) kr (congrArg (fun b_ => !b_) (show vt585 = true from (Decidable.of_not_not c595)) : (!vt585) = false) ?_
        refine condF kr ?_
        refine wp_skip ?_
        refine hK537 _ _ ?_
        refine wp_seq_k fun K598 hK599 => rl ?_
        refine seqL3 kr ?_
        refine nl (hK599 _ _ ?_)
        refine wp_ret ?_
        refine hret _ _ ?_
        refine ends_still (v := Value.tuple #[.slice A527 out526.length c528, .bool true]) kr kr ?_
        have HS622 := HS593.u1.u2.u2
        have HS623 := HS622.drop
        have HS624 := HS623.drop
        injection h with h
        injection h with h0_ h
        subst h0_ h
        exact ⟨f591, A527, c528, s529, rfl, (L21.trans (L522.trans (L555.trans (L577.trans L592)))), HS624, (HO530.mono (L555.trans (L577.trans L592)))⟩
 clear h; have h := hv533; clear hv533
 refine loopK (fun n_ a_ w_ => ∃ (f281 : FM) (A287 : Option Addr) (c288 : Nat) (s289 : Seg) (out286 : List Int) (vk291 : Int) (i292 : Int) (x293 : Int) (x294 : Bool) (j285 : Nat → Value), FM.le f20 f281 ∧ St t w_ f281 (s289 :: [(b10, .cells #[.slice A2 b1.length c3, .int .i64 x293, .bool x294] 138 (0, 0))] :: H) ∧ Own (tInt .i64) 3 f281 A287 c288 s289 out286 ∧ squeeze_read.l0 k vw5 b1 n_ out286 vk291 i292 x293 x294 = some o277 ∧ a_ = ⟨#[.slice A2 b1.length c3, iV vw5, uV, uV, .slice none 0 0, fV, pV b10 0, .slice A287 out286.length c288, iV vk291, iV i292, (j285 0), (j285 1), .slice A2 b1.length c3, .agg #[.slice A2 b1.length c3, iV 0, fV], pV b10 0, pV b10 0, iV vt16, .slice (some ⟨b24, 0, none⟩) ([vt16] : List Int).length 1, (j285 2), (j285 3), (j285 4), (j285 5), (j285 6), (j285 7), (j285 8), (j285 9), (j285 10), (j285 11), (j285 12), (j285 13), (j285 14), (j285 15), (j285 16), (j285 17), (j285 18), (j285 19), (j285 20), (j285 21), (j285 22), (j285 23), (j285 24), (j285 25), (j285 26), (j285 27), (j285 28), (j285 29), (j285 30), (j285 31), (j285 32), (j285 33), (j285 34), (j285 35), (j285 36), (j285 37), (j285 38), (j285 39), (j285 40), (j285 41), (j285 42), (j285 43), (j285 44), (j285 45), (j285 46), (j285 47), (j285 48), (j285 49), (j285 50), (j285 51), (j285 52), (j285 53), uV, uV, uV, uV, uV, uV, uV, uV, uV, uV, uV, uV, uV, uV, uV, uV], []⟩) k ⟨f20, (some ⟨b24, 0, none⟩), 1, s26, ([vt16] : List Int), 0, 1, vt17, vt18, (jL []), fL, HS27, HO28, h, kr⟩ ?_
 clear h
 rintro n280 _ W283 ⟨f281, A287, c288, s289, out286, vk291, i292, x293, x294, j285, L282, HS284, HO290, h, rfl⟩ K278 hK279
 obtain _ | n280 := n280
 · exact nomatch h
 simp only [squeeze_read.l0] at h
 refine wp_seq_k (fun K295 hK296 => ?_)
 refine wp_seq_k fun K297 hK298 => rl ?_
 refine seqL4 kr ?_
 have hq_ := ite_some h; clear h; rcases hq_ with ⟨c299, h⟩ | ⟨c299, h⟩
 · have c299 : i292 < vw5 := c299
   refine seqRwI 20 kr (decide_eq_true c299) ?_
   refine seqRwI 21 kr (decide_eq_true c299) ?_
   refine seqL3 kr ?_
   refine seqG kr (does_run (run_load rfl Tryz.underlying4 rfl (kv (.pointer (some ⟨b10, 2, none⟩))) (HS284.u1.cell 2)) ?_)
   refine seqL2 kr ?_
   refine nl (hK298 _ _ ?_)
   have hq_ := ite_some h; clear h; rcases hq_ with ⟨c301, h⟩ | ⟨c301, h⟩
   · have c301 : ¬ (x294 = true) := c301
     refine wpRwI 26 kr (congrArg (fun b_ => !b_) (show x294 = false from (Bool.eq_false_iff.mpr c301)) : (!x294) = true) ?_
     refine wpRwI 27 kr (congrArg (fun b_ => !b_) (show x294 = false from (Bool.eq_false_iff.mpr c301)) : (!x294) = true) ?_
     refine condT kr ?_
     refine wp_skip ?_
     refine hK296 _ _ ?_
     refine wp_seq_k (fun K302 hK303 => ?_)
     refine blockK (fun B304 hx305 hn306 hr307 ho308 hp309 => ?_)
     refine wp_seq_k (fun K311 hK312 => ?_)
     refine wp_seq_k fun K313 hK314 => rl ?_
     refine seqL4 kr ?_
     refine nl (hK314 _ _ ?_)
     have hq_ := bind_some h; clear h; obtain ⟨v315, hv334, h⟩ := hq_
     have J335 : ∀ (f326 : FM) (vk331 : Int) (x332 : Int) (x333 : Bool) (j330 : Nat → Value) (W328 : World) (a_ : Act), FM.le f281 f326 → some ((vk331, x332, x333)) = some v315 → St t W328 f326 (s289 :: [(b10, .cells #[.slice A2 b1.length c3, .int .i64 x332, .bool x333] 138 (0, 0))] :: H) → a_ = ⟨#[.slice A2 b1.length c3, iV vw5, uV, uV, .slice none 0 0, fV, pV b10 0, .slice A287 out286.length c288, iV vk331, iV i292, (j285 0), (j285 1), .slice A2 b1.length c3, .agg #[.slice A2 b1.length c3, iV 0, fV], pV b10 0, pV b10 0, iV vt16, .slice (some ⟨b24, 0, none⟩) ([vt16] : List Int).length 1, iV i292, iV vw5, tV, tV, pV b10 0, pV b10 0, pV b10 2, .bool x294, tV, tV, (j285 12), (j285 13), iV i292, iV (w64 (i292 - 1)), iV (Int.tmod (w64 (i292 - 1)) 8), .bool ((Int.tmod (w64 (i292 - 1)) 8) == 0), (j330 0), (j330 1), (j285 20), (j285 21), (j285 22), (j285 23), (j285 24), (j285 25), (j285 26), (j285 27), (j285 28), (j285 29), (j285 30), (j285 31), (j285 32), (j285 33), (j285 34), (j285 35), (j285 36), (j285 37), (j285 38), (j285 39), (j285 40), (j285 41), (j285 42), (j285 43), (j285 44), (j285 45), (j285 46), (j285 47), (j285 48), (j285 49), (j285 50), (j285 51), (j285 52), (j285 53), uV, uV, uV, uV, uV, uV, uV, uV, uV, uV, uV, uV, uV, uV, uV, uV], []⟩ → K311 a_ W328 := by
      intro f326 vk331 x332 x333 j330 W328 a_ L327 hj336 HS329  hfr_; subst hfr_
      injection hj336 with hj336; subst hj336; try dsimp only at h
      refine hK312 _ _ ?_
      refine wp_seq_k fun K338 hK339 => rl ?_
      refine seqL1 kr ?_
      refine nl (hK339 _ _ ?_)
      refine wp_seq_k (fun K340 hK341 => ?_)
      refine wp_seq_k fun K342 hK343 => rl ?_
      refine seqL2 kr ?_
      refine nl (hK343 _ _ ?_)
      have hq_ := bind_some h; clear h; obtain ⟨v344, hv462, h⟩ := hq_
      have J463 : ∀ (f454 : FM) (z459 : Int) (x460 : Int) (x461 : Bool) (j458 : Nat → Value) (W456 : World) (a_ : Act), FM.le f326 f454 → some ((z459, x460, x461)) = some v344 → St t W456 f454 (s289 :: [(b10, .cells #[.slice A2 b1.length c3, .int .i64 x460, .bool x461] 138 (0, 0))] :: H) → a_ = ⟨#[.slice A2 b1.length c3, iV vw5, uV, uV, .slice none 0 0, fV, pV b10 0, .slice A287 out286.length c288, iV vk331, iV i292, iV z459, (j285 1), .slice A2 b1.length c3, .agg #[.slice A2 b1.length c3, iV 0, fV], pV b10 0, pV b10 0, iV vt16, .slice (some ⟨b24, 0, none⟩) ([vt16] : List Int).length 1, iV i292, iV vw5, tV, tV, pV b10 0, pV b10 0, pV b10 2, .bool x294, tV, tV, (j285 12), (j285 13), iV i292, iV (w64 (i292 - 1)), iV (Int.tmod (w64 (i292 - 1)) 8), .bool ((Int.tmod (w64 (i292 - 1)) 8) == 0), (j330 0), (j330 1), iV vk331, .bool (vk331 == 15), (j458 0), (j458 1), (j458 2), (j458 3), (j458 4), (j458 5), (j458 6), (j458 7), (j458 8), (j458 9), (j458 10), (j458 11), (j458 12), (j458 13), (j285 36), (j285 37), (j285 38), (j285 39), (j285 40), (j285 41), (j285 42), (j285 43), (j285 44), (j285 45), (j285 46), (j285 47), (j285 48), (j285 49), (j285 50), (j285 51), (j285 52), (j285 53), uV, uV, uV, uV, uV, uV, uV, uV, uV, uV, uV, uV, uV, uV, uV, uV], []⟩ → K340 a_ W456 := by
       intro f454 z459 x460 x461 j458 W456 a_ L455 hj464 HS457  hfr_; subst hfr_
       injection hj464 with hj464; subst hj464; try dsimp only at h
       refine hK341 _ _ ?_
       refine wp_seq_k fun K467 hK468 => rl ?_
       refine seqL3 kr ?_
       refine nl (hK468 _ _ ?_)
       refine wp_seq_k (fun K469 hK470 => ?_)
       refine wp_seq_k fun K471 hK472 => rl ?_
       refine seqL3 kr ?_
       refine nl (hK472 _ _ ?_)
       have hq_ := ite_some h; clear h; rcases hq_ with ⟨c474, h⟩ | ⟨c474, h⟩
       · have c474 : (Int.tmod z459 2) = 1 := c474
         refine wpRwI 56 kr (beq_iff_eq.mpr c474) ?_
         refine condT kr ?_
         refine rl ?_
         refine seqL4 kr ?_
         refine nl (hK470 _ _ ?_)
         refine rl ?_
         have hq_ := guard_some h; clear h; obtain ⟨c475, h⟩ := hq_
         have c475 : 0 ≤ (w64 (i292 - 1)) := c475
         have hq_ := guard_some h; clear h; obtain ⟨c476, h⟩ := hq_
         have c476 : (w64 (i292 - 1)) < (out286.length : Int) := c476
         obtain ⟨b480, of481, cs477, hA482, hr478, hc479⟩ := (HO290.mono (L327.trans L455)).at (i := w64 (i292 - 1)) c475 c476
         obtain rfl := hr478
         refine seqL4 kr ?_
         refine seqK rfl (does_run (run_indexE hA482 (sz := 1) rfl Tryz.underlying22 kr (kv (.slice A287 out286.length c288)) (kv (.int .i64 (w64 (i292 - 1)))) c475 c476 W456) ?_)
         refine seqK rfl (does_run (run_load rfl Tryz.underlying3 rfl (kv (.pointer (some ⟨b480, of481 + (w64 (i292 - 1) : Int).toNat * 1, none⟩))) ((hc479 HS457) 0 (by decide))) ?_)
         refine seqL2 kr ?_
         refine seqK rfl (does_lit (e := (tInt .i64)) (E := 3) (vs := #[(0, Value.int .i64 (w64 ((rd out286 (w64 (i292 - 1))) + (w64 ((w64 (0 - (w64 (Int.tdiv z459 2)))) - 1)))))]) (cs := #[.int .i64 (w64 ((rd out286 (w64 (i292 - 1))) + (w64 ((w64 (0 - (w64 (Int.tdiv z459 2)))) - 1))))]) (xs := ([w64 ((rd out286 (w64 (i292 - 1))) + (w64 ((w64 (0 - (w64 (Int.tdiv z459 2)))) - 1)))] : List Int)) rfl Tryz.underlying22 kr kr ⟨[.int .i64 (w64 ((rd out286 (w64 (i292 - 1))) + (w64 ((w64 (0 - (w64 (Int.tdiv z459 2)))) - 1))))], _, rfl, rfl, rfl⟩ rfl HS457 ?_ (by decide))
         intro b483 W484 s485 HS486 _ HO487
         have hq_ := guard_some h; clear h; obtain ⟨c489, h⟩ := hq_
         have c489 : (out286.length + 1) * 8 ≤ 140737488355328 := c489
         have HS491 := HS486.u1.u1
         refine seqK rfl (does_append1 (e := (tInt .i64)) (E := 3) (xs := out286) (ys := ([w64 ((rd out286 (w64 (i292 - 1))) + (w64 ((w64 (0 - (w64 (Int.tdiv z459 2)))) - 1)))] : List Int)) rfl (kv (.slice A287 out286.length c288)) (kv (.slice (some ⟨b483, 0, none⟩) ([w64 ((rd out286 (w64 (i292 - 1))) + (w64 ((w64 (0 - (w64 (Int.tdiv z459 2)))) - 1)))] : List Int).length 1)) Tryz.underlying22 inf3 (HO290.mono (L327.trans L455)) HO487 HS491 c489 (lim63 c489 (by decide)) ?_)
         intro A492 c493 s494 W495 HS496 HO497
         refine seqL1 kr ?_
         refine nl ?_
         refine hn306 _ _ ?_
         refine hK303 _ _ ?_
         refine rl ?_
         refine seqL3 kr ?_
         refine nl ?_
         refine hK279 n280 _ _ (Nat.lt_succ_self _) ?_
         exact ⟨f454, A492, c493, s494, (out286 ++ ([w64 ((rd out286 (w64 (i292 - 1))) + (w64 ((w64 (0 - (w64 (Int.tdiv z459 2)))) - 1)))] : List Int)), vk331, (w64 (i292 + 1)), x460, x461, (jL [iV z459, iV (w64 ((w64 (0 - (w64 (Int.tdiv z459 2)))) - 1)), iV i292, iV vw5, tV, tV, .pointer (some ⟨b10, 0, none⟩), .pointer (some ⟨b10, 0, none⟩), .pointer (some ⟨b10, 2, none⟩), .bool x294, tV, tV, iV i292, iV (w64 (i292 + 1)), iV i292, iV (w64 (i292 - 1)), iV (Int.tmod (w64 (i292 - 1)) 8), .bool ((Int.tmod (w64 (i292 - 1)) 8) == 0), (j330 0), (j330 1), iV vk331, .bool (vk331 == 15), (j458 0), (j458 1), (j458 2), (j458 3), (j458 4), (j458 5), (j458 6), (j458 7), (j458 8), (j458 9), (j458 10), (j458 11), (j458 12), (j458 13), iV z459, iV (w64 (Int.tdiv z459 2)), iV z459, iV (Int.tmod z459 2), tV, iV (w64 (Int.tdiv z459 2)), iV (w64 (0 - (w64 (Int.tdiv z459 2)))), iV (w64 ((w64 (0 - (w64 (Int.tdiv z459 2)))) - 1)), .slice A287 out286.length c288, .slice A287 out286.length c288, iV i292, iV (w64 (i292 - 1)), .pointer (some ⟨b480, of481 + (w64 (i292 - 1) : Int).toNat * 1, none⟩), iV (rd out286 (w64 (i292 - 1))), iV (w64 ((w64 (0 - (w64 (Int.tdiv z459 2)))) - 1)), iV (w64 ((rd out286 (w64 (i292 - 1))) + (w64 ((w64 (0 - (w64 (Int.tdiv z459 2)))) - 1)))), .slice (some ⟨b483, 0, none⟩) ([w64 ((rd out286 (w64 (i292 - 1))) + (w64 ((w64 (0 - (w64 (Int.tdiv z459 2)))) - 1)))] : List Int).length 1, .slice A492 (out286 ++ ([w64 ((rd out286 (w64 (i292 - 1))) + (w64 ((w64 (0 - (w64 (Int.tdiv z459 2)))) - 1)))] : List Int)).length c493]), (L282.trans (L327.trans L455)), HS496, HO497, h, kr⟩
       · have c474 : ¬ ((Int.tmod z459 2) = 1) := c474
         refine wpRwI 56 kr (beq_eq_false_iff_ne.mpr c474) ?_
         refine condF kr ?_
         refine wp_skip ?_
         refine hK470 _ _ ?_
         refine rl ?_
         have hq_ := guard_some h; clear h; obtain ⟨c498, h⟩ := hq_
         have c498 : 0 ≤ (w64 (i292 - 1)) := c498
         have hq_ := guard_some h; clear h; obtain ⟨c499, h⟩ := hq_
         have c499 : (w64 (i292 - 1)) < (out286.length : Int) := c499
         obtain ⟨b503, of504, cs500, hA505, hr501, hc502⟩ := (HO290.mono (L327.trans L455)).at (i := w64 (i292 - 1)) c498 c499
         obtain rfl := hr501
         refine seqL4 kr ?_
         refine seqK rfl (does_run (run_indexE hA505 (sz := 1) rfl Tryz.underlying22 kr (kv (.slice A287 out286.length c288)) (kv (.int .i64 (w64 (i292 - 1)))) c498 c499 W456) ?_)
         refine seqK rfl (does_run (run_load rfl Tryz.underlying3 rfl (kv (.pointer (some ⟨b503, of504 + (w64 (i292 - 1) : Int).toNat * 1, none⟩))) ((hc502 HS457) 0 (by decide))) ?_)
         refine seqL2 kr ?_
         refine seqK rfl (does_lit (e := (tInt .i64)) (E := 3) (vs := #[(0, Value.int .i64 (w64 ((rd out286 (w64 (i292 - 1))) + (w64 (Int.tdiv z459 2)))))]) (cs := #[.int .i64 (w64 ((rd out286 (w64 (i292 - 1))) + (w64 (Int.tdiv z459 2))))]) (xs := ([w64 ((rd out286 (w64 (i292 - 1))) + (w64 (Int.tdiv z459 2)))] : List Int)) rfl Tryz.underlying22 kr kr ⟨[.int .i64 (w64 ((rd out286 (w64 (i292 - 1))) + (w64 (Int.tdiv z459 2))))], _, rfl, rfl, rfl⟩ rfl HS457 ?_ (by decide))
         intro b506 W507 s508 HS509 _ HO510
         have hq_ := guard_some h; clear h; obtain ⟨c512, h⟩ := hq_
         have c512 : (out286.length + 1) * 8 ≤ 140737488355328 := c512
         have HS514 := HS509.u1.u1
         refine seqK rfl (does_append1 (e := (tInt .i64)) (E := 3) (xs := out286) (ys := ([w64 ((rd out286 (w64 (i292 - 1))) + (w64 (Int.tdiv z459 2)))] : List Int)) rfl (kv (.slice A287 out286.length c288)) (kv (.slice (some ⟨b506, 0, none⟩) ([w64 ((rd out286 (w64 (i292 - 1))) + (w64 (Int.tdiv z459 2)))] : List Int).length 1)) Tryz.underlying22 inf3 (HO290.mono (L327.trans L455)) HO510 HS514 c512 (lim63 c512 (by decide)) ?_)
         intro A515 c516 s517 W518 HS519 HO520
         refine seqL1 kr ?_
         refine nl ?_
         refine hn306 _ _ ?_
         refine hK303 _ _ ?_
         refine rl ?_
         refine seqL3 kr ?_
         refine nl ?_
         refine hK279 n280 _ _ (Nat.lt_succ_self _) ?_
         exact ⟨f454, A515, c516, s517, (out286 ++ ([w64 ((rd out286 (w64 (i292 - 1))) + (w64 (Int.tdiv z459 2)))] : List Int)), vk331, (w64 (i292 + 1)), x460, x461, (jL [iV z459, iV (w64 (Int.tdiv z459 2)), iV i292, iV vw5, tV, tV, .pointer (some ⟨b10, 0, none⟩), .pointer (some ⟨b10, 0, none⟩), .pointer (some ⟨b10, 2, none⟩), .bool x294, tV, tV, iV i292, iV (w64 (i292 + 1)), iV i292, iV (w64 (i292 - 1)), iV (Int.tmod (w64 (i292 - 1)) 8), .bool ((Int.tmod (w64 (i292 - 1)) 8) == 0), (j330 0), (j330 1), iV vk331, .bool (vk331 == 15), (j458 0), (j458 1), (j458 2), (j458 3), (j458 4), (j458 5), (j458 6), (j458 7), (j458 8), (j458 9), (j458 10), (j458 11), (j458 12), (j458 13), iV z459, iV (w64 (Int.tdiv z459 2)), iV z459, iV (Int.tmod z459 2), fV, (j285 41), (j285 42), (j285 43), .slice A287 out286.length c288, .slice A287 out286.length c288, iV i292, iV (w64 (i292 - 1)), .pointer (some ⟨b503, of504 + (w64 (i292 - 1) : Int).toNat * 1, none⟩), iV (rd out286 (w64 (i292 - 1))), iV (w64 (Int.tdiv z459 2)), iV (w64 ((rd out286 (w64 (i292 - 1))) + (w64 (Int.tdiv z459 2)))), .slice (some ⟨b506, 0, none⟩) ([w64 ((rd out286 (w64 (i292 - 1))) + (w64 (Int.tdiv z459 2)))] : List Int).length 1, .slice A515 (out286 ++ ([w64 ((rd out286 (w64 (i292 - 1))) + (w64 (Int.tdiv z459 2)))] : List Int)).length c516]), (L282.trans (L327.trans L455)), HS519, HO520, h, kr⟩
      clear h; have h := hv462; clear hv462
      have hq_ := ite_some h; clear h; rcases hq_ with ⟨c345, h⟩ | ⟨c345, h⟩
      · have c345 : vk331 = 15 := c345
        refine wpRwI 37 kr (beq_iff_eq.mpr c345) ?_
        refine condT kr ?_
        refine rl ?_
        have HS346 := HS329.u1
        have hq_ := bind_some h; clear h; obtain ⟨⟨vt347, vt348, vt349⟩, hc350, h⟩ := hq_
        refine seqL1 kr ?_
        refine seqK rfl (does_call (f := 78) (args := #[.pointer (some ⟨b10, 0, none⟩), .int .i64 17]) kr (squeeze_reader_get.calls k b10 A2 c3 (⟨b1, x332, x333⟩ : S_reader) 17 HS346 (HR4.mono (L21.trans (L282.trans L327))) vt347 vt348 vt349 hc350) ?_)
        rintro _ W353 ⟨f351, rfl, L352, HS354⟩
        refine ⟨_, rfl, ?_⟩
        refine seqL1 kr ?_
        refine nl ?_
        refine fnRwI (F := K340) 37 (x := true) (v := (vk331 == 15)) kr (Eq.symm (beq_iff_eq.mpr c345)) ?_
        have HS465 := HS354.u1
        exact J463 f351 vt347 vt348 vt349 (jL [.pointer (some ⟨b10, 0, none⟩), iV vt347, (j285 24), (j285 25), (j285 26), (j285 27), (j285 28), (j285 29), (j285 30), (j285 31), (j285 32), (j285 33), (j285 34), (j285 35)]) W353 _ L352 h HS465 kr
      · have c345 : ¬ (vk331 = 15) := c345
        refine wpRwI 37 kr (beq_eq_false_iff_ne.mpr c345) ?_
        refine condF kr ?_
        refine wp_seq_k (fun K355 hK356 => ?_)
        refine blockK (fun B357 hx358 hn359 hr360 ho361 hp362 => ?_)
        have hq_ := bind_some h; clear h; obtain ⟨o395, hv437, h⟩ := hq_
        have J438 : ∀ (f429 : FM) (z434 : Int) (x435 : Int) (x436 : Bool) (j433 : Nat → Value) (W431 : World) (a_ : Act), FM.le f326 f429 → some ((z434, x435, x436)) = some o395 → St t W431 f429 (s289 :: [(b10, .cells #[.slice A2 b1.length c3, .int .i64 x435, .bool x436] 138 (0, 0))] :: H) → a_ = ⟨#[.slice A2 b1.length c3, iV vw5, uV, uV, .slice none 0 0, fV, pV b10 0, .slice A287 out286.length c288, iV vk331, iV i292, iV z434, (j285 1), .slice A2 b1.length c3, .agg #[.slice A2 b1.length c3, iV 0, fV], pV b10 0, pV b10 0, iV vt16, .slice (some ⟨b24, 0, none⟩) ([vt16] : List Int).length 1, iV i292, iV vw5, tV, tV, pV b10 0, pV b10 0, pV b10 2, .bool x294, tV, tV, (j285 12), (j285 13), iV i292, iV (w64 (i292 - 1)), iV (Int.tmod (w64 (i292 - 1)) 8), .bool ((Int.tmod (w64 (i292 - 1)) 8) == 0), (j330 0), (j330 1), iV vk331, fV, (j285 22), (j285 23), (j433 0), (j433 1), (j433 2), (j433 3), (j433 4), (j285 29), (j285 30), (j285 31), (j285 32), (j285 33), (j285 34), (j285 35), (j285 36), (j285 37), (j285 38), (j285 39), (j285 40), (j285 41), (j285 42), (j285 43), (j285 44), (j285 45), (j285 46), (j285 47), (j285 48), (j285 49), (j285 50), (j285 51), (j285 52), (j285 53), uV, uV, uV, uV, uV, uV, uV, uV, uV, uV, uV, uV, uV, uV, uV, uV], []⟩ → K355 a_ W431 := by
         intro f429 z434 x435 x436 j433 W431 a_ L430 hj439 HS432  hfr_; subst hfr_
         injection hj439 with hj439; subst hj439; try dsimp only at h
         refine hK356 _ _ ?_
         have HS442 := HS432.u1
         refine heldG (S := Sg t f429 (s289 :: H) [(5, [(b10, .cells #[.slice A2 b1.length c3, .int .i64 x435, .bool x436] 138 (0, 0))])]) (n := 8) kr rfl HS442 ?_
         intro W443 HS444
         have hq_ := guard_some h; clear h; obtain ⟨c445, h⟩ := hq_
         have c445 : ¬ (vk331 < 0) := c445
         refine takeGL [0, 1] (n := 8) (fuel := 6) #[true, true, false, false, false, false, false, false] rfl kr kr kr (fun ch_ a_ w_ q_ => (fun ch_ a_ w_ q_ => hnp ch_ a_ w_ (hp41 ch_ a_ w_ q_)) ch_ a_ w_ (hp309 ch_ a_ w_ q_)) (Sg.g1 (Sx.of [[(b10, .cells #[.slice A2 b1.length c3, .int .i64 x435, .bool x436] 138 (0, 0))]] fL HS444) (fun _ => St.only [] HS444 fL)) ?_
         refine takeGQ 2 [] rfl kr kr kr kr kr kr (fun ch_ a_ w_ q_ => (fun ch_ a_ w_ q_ => hnp ch_ a_ w_ (hp41 ch_ a_ w_ q_)) ch_ a_ w_ (hp309 ch_ a_ w_ q_)) (Sg.g1 (Sx.of [[(b10, .cells #[.slice A2 b1.length c3, .int .i64 x435, .bool x436] 138 (0, 0))]] fL HS444) (fun _ => St.only [] HS444 fL)) (fun w_ hw_ => by obtain ⟨g_, hl_, hS_⟩ := hw_.st; exact run_shl rfl (kv (.int .i64 z434)) (kv (.int .i64 vk331)) c445 w_) ?_
         refine takeGL [3, 4] (n := 5) (fuel := 3) #[true, true, true, true, true, false, false, false] rfl kr kr kr (fun ch_ a_ w_ q_ => (fun ch_ a_ w_ q_ => hnp ch_ a_ w_ (hp41 ch_ a_ w_ q_)) ch_ a_ w_ (hp309 ch_ a_ w_ q_)) (Sg.g1 (Sx.of [[(b10, .cells #[.slice A2 b1.length c3, .int .i64 x435, .bool x436] 138 (0, 0))]] fL HS444) (fun _ => St.only [] HS444 fL)) ?_
         have hq_ := bind_some h; clear h; obtain ⟨⟨vt446, vt447, vt448⟩, hc449, h⟩ := hq_
         refine takeGE 5 kr rfl kr (does_call (f := 78) (args := #[.pointer (some ⟨b10, 0, none⟩), .int .i64 vk331]) kr (squeeze_reader_get.calls k b10 A2 c3 (⟨b1, x435, x436⟩ : S_reader) vk331 HS444 (HR4.mono (L21.trans (L282.trans (L327.trans L430)))) vt446 vt447 vt448 hc449) ?_)
         rintro _ W452 ⟨f450, rfl, L451, HS453⟩
         refine ⟨_, rfl, ?_⟩
         refine ⟨(Sg.g1 (Sx.of [[(b10, .cells #[.slice A2 b1.length c3, .int .i64 vt447, .bool vt448] 138 (0, 0))]] L451 HS453) (fun hl_ => Bool.noConfusion (show true = false from hl_))), ?_⟩
         refine takeGL [6, 7] (n := 2) (fuel := 0) #[true, true, true, true, true, true, true, true] rfl kr kr kr (fun ch_ a_ w_ q_ => (fun ch_ a_ w_ q_ => hnp ch_ a_ w_ (hp41 ch_ a_ w_ q_)) ch_ a_ w_ (hp309 ch_ a_ w_ q_)) (Sg.g1 (Sx.of [[(b10, .cells #[.slice A2 b1.length c3, .int .i64 vt447, .bool vt448] 138 (0, 0))]] L451 HS453) (fun hl_ => Bool.noConfusion (show true = false from hl_))) ?_
         refine doneG kr ?_ _
         refine fnRwI (F := K340) 37 (x := false) (v := (vk331 == 15)) kr (Eq.symm (beq_eq_false_iff_ne.mpr c345)) ?_
         have HS466 := HS453.u1
         exact J463 f450 (Go.bits .or .i64 (w64 (z434 * 2 ^ (min (vk331).toNat 64))) vt446) vt447 vt448 (jL [(j285 22), (j285 23), (j433 0), (j433 1), (j433 2), (j433 3), (j433 4), iV z434, iV vk331, iV (w64 (z434 * 2 ^ (min (vk331).toNat 64))), .pointer (some ⟨b10, 0, none⟩), iV vk331, iV vt446, iV (Go.bits .or .i64 (w64 (z434 * 2 ^ (min (vk331).toNat 64))) vt446)]) W452 _ (L430.trans L451) h HS466 kr
        clear h; have h := hv437; clear hv437
        refine loopK (fun n_ a_ w_ => ∃ (f399 : FM) (z404 : Int) (x405 : Int) (x406 : Bool) (j403 : Nat → Value), FM.le f326 f399 ∧ St t w_ f399 (s289 :: [(b10, .cells #[.slice A2 b1.length c3, .int .i64 x405, .bool x406] 138 (0, 0))] :: H) ∧ squeeze_read.l1 k b1 n_ z404 x405 x406 = some o395 ∧ a_ = ⟨#[.slice A2 b1.length c3, iV vw5, uV, uV, .slice none 0 0, fV, pV b10 0, .slice A287 out286.length c288, iV vk331, iV i292, iV z404, (j285 1), .slice A2 b1.length c3, .agg #[.slice A2 b1.length c3, iV 0, fV], pV b10 0, pV b10 0, iV vt16, .slice (some ⟨b24, 0, none⟩) ([vt16] : List Int).length 1, iV i292, iV vw5, tV, tV, pV b10 0, pV b10 0, pV b10 2, .bool x294, tV, tV, (j285 12), (j285 13), iV i292, iV (w64 (i292 - 1)), iV (Int.tmod (w64 (i292 - 1)) 8), .bool ((Int.tmod (w64 (i292 - 1)) 8) == 0), (j330 0), (j330 1), iV vk331, fV, (j285 22), (j285 23), (j403 0), (j403 1), (j403 2), (j403 3), (j403 4), (j285 29), (j285 30), (j285 31), (j285 32), (j285 33), (j285 34), (j285 35), (j285 36), (j285 37), (j285 38), (j285 39), (j285 40), (j285 41), (j285 42), (j285 43), (j285 44), (j285 45), (j285 46), (j285 47), (j285 48), (j285 49), (j285 50), (j285 51), (j285 52), (j285 53), uV, uV, uV, uV, uV, uV, uV, uV, uV, uV, uV, uV, uV, uV, uV, uV], []⟩) k ⟨f326, 0, x332, x333, (jL [(j285 24), (j285 25), (j285 26), (j285 27), (j285 28)]), fL, HS329, h, kr⟩ ?_
        clear h
        rintro n398 _ W401 ⟨f399, z404, x405, x406, j403, L400, HS402, h, rfl⟩ K396 hK397
        obtain _ | n398 := n398
        · exact nomatch h
        simp only [squeeze_read.l1] at h
        refine wp_seq_k (fun K407 hK408 => ?_)
        refine wp_seq_k fun K409 hK410 => rl ?_
        have HS411 := HS402.u1
        have hq_ := bind_some h; clear h; obtain ⟨⟨vt412, vt413, vt414⟩, hc415, h⟩ := hq_
        refine seqL1 kr ?_
        refine seqK rfl (does_call (f := 78) (args := #[.pointer (some ⟨b10, 0, none⟩), .int .i64 1]) kr (squeeze_reader_get.calls k b10 A2 c3 (⟨b1, x405, x406⟩ : S_reader) 1 HS411 (HR4.mono (L21.trans (L282.trans (L327.trans L400)))) vt412 vt413 vt414 hc415) ?_)
        rintro _ W418 ⟨f416, rfl, L417, HS419⟩
        refine ⟨_, rfl, ?_⟩
        refine seqL1 kr ?_
        refine nl (hK410 _ _ ?_)
        have hq_ := ite_some h; clear h; rcases hq_ with ⟨c421, h⟩ | ⟨c421, h⟩
        · have c421 : vt412 = 1 := c421
          refine wpRwI 42 kr (beq_iff_eq.mpr c421) ?_
          refine condT kr ?_
          refine wp_skip ?_
          refine hK408 _ _ ?_
          refine blockK (fun B422 hx423 hn424 hr425 ho426 hp427 => ?_)
          refine rl ?_
          refine seqL3 kr ?_
          refine nl ?_
          refine hn424 _ _ ?_
          refine hK397 n398 _ _ (Nat.lt_succ_self _) ?_
          have HS441 := HS419.u1
          exact ⟨f416, (w64 (z404 + 1)), vt413, vt414, (jL [.pointer (some ⟨b10, 0, none⟩), iV vt412, tV, iV z404, iV (w64 (z404 + 1))]), (L400.trans L417), HS441, h, kr⟩
        · have c421 : ¬ (vt412 = 1) := c421
          refine wpRwI 42 kr (beq_eq_false_iff_ne.mpr c421) ?_
          refine condF kr ?_
          refine wp_exit ?_
          refine hx358 _ _ ?_
          have HS440 := HS419.u1
          exact J438 f416 z404 vt413 vt414 (jL [.pointer (some ⟨b10, 0, none⟩), iV vt412, fV, (j403 3), (j403 4)]) W418 _ (L400.trans L417) h HS440 kr
     clear h; have h := hv334; clear hv334
     have hq_ := ite_some h; clear h; rcases hq_ with ⟨c316, h⟩ | ⟨c316, h⟩
     · have c316 : (Int.tmod (w64 (i292 - 1)) 8) = 0 := c316
       refine wpRwI 33 kr (beq_iff_eq.mpr c316) ?_
       refine condT kr ?_
       refine rl ?_
       have HS317 := HS284.u1
       have hq_ := bind_some h; clear h; obtain ⟨⟨vt318, vt319, vt320⟩, hc321, h⟩ := hq_
       refine seqL1 kr ?_
       refine seqK rfl (does_call (f := 78) (args := #[.pointer (some ⟨b10, 0, none⟩), .int .i64 4]) kr (squeeze_reader_get.calls k b10 A2 c3 (⟨b1, x293, x294⟩ : S_reader) 4 HS317 (HR4.mono (L21.trans L282)) vt318 vt319 vt320 hc321) ?_)
       rintro _ W324 ⟨f322, rfl, L323, HS325⟩
       refine ⟨_, rfl, ?_⟩
       refine seqL1 kr ?_
       refine nl ?_
       refine fnRwI (F := K311) 33 (x := true) (v := ((Int.tmod (w64 (i292 - 1)) 8) == 0)) kr (Eq.symm (beq_iff_eq.mpr c316)) ?_
       have HS337 := HS325.u1
       exact J335 f322 vt318 vt319 vt320 (jL [.pointer (some ⟨b10, 0, none⟩), iV vt318]) W324 _ L323 h HS337 kr
     · have c316 : ¬ ((Int.tmod (w64 (i292 - 1)) 8) = 0) := c316
       refine wpRwI 33 kr (beq_eq_false_iff_ne.mpr c316) ?_
       refine condF kr ?_
       refine wp_skip ?_
       refine fnRwI (F := K311) 33 (x := false) (v := ((Int.tmod (w64 (i292 - 1)) 8) == 0)) kr (Eq.symm (beq_eq_false_iff_ne.mpr c316)) ?_
       exact J335 f281 vk291 x293 x294 (jL [(j285 18), (j285 19)]) W283 _ fL h HS284 kr
   · have c301 : ¬ (¬ (x294 = true)) := c301
     refine wpRwI 26 (x := (!x294)) (v := false) kr (congrArg (fun b_ => !b_) (show x294 = true from (Decidable.of_not_not c301)) : (!x294) = false) ?_
     refine wpRwI 27 (x := (!x294)) (v := false) kr (congrArg (fun b_ => !b_) (show x294 = true from (Decidable.of_not_not c301)) : (!x294) = false) ?_
     refine condF kr ?_
     refine wp_exit ?_
     refine hx37 _ _ ?_
     exact J534 f281 A287 c288 s289 out286 x293 x294 (jL [iV vk291, iV i292, (j285 0), (j285 1), .slice (some ⟨b24, 0, none⟩) ([vt16] : List Int).length 1, iV i292, iV vw5, tV, tV, .pointer (some ⟨b10, 0, none⟩), .pointer (some ⟨b10, 0, none⟩), .pointer (some ⟨b10, 2, none⟩), .bool x294, fV, fV, (j285 12), (j285 13), (j285 14), (j285 15), (j285 16), (j285 17), (j285 18), (j285 19), (j285 20), (j285 21), (j285 22), (j285 23), (j285 24), (j285 25), (j285 26), (j285 27), (j285 28), (j285 29), (j285 30), (j285 31), (j285 32), (j285 33), (j285 34), (j285 35), (j285 36), (j285 37), (j285 38), (j285 39), (j285 40), (j285 41), (j285 42), (j285 43), (j285 44), (j285 45), (j285 46), (j285 47), (j285 48), (j285 49), (j285 50), (j285 51), (j285 52), (j285 53)]) W283 _ L282 h HS284 HO290 kr
 · have c299 : ¬ (i292 < vw5) := c299
   refine seqRwI 20 kr (decide_eq_false c299) ?_
   refine seqRwI 21 kr (decide_eq_false c299) ?_
   refine seqL6 kr ?_
   refine nl (hK298 _ _ ?_)
   refine condF kr ?_
   refine wp_exit ?_
   refine hx37 _ _ ?_
   exact J534 f281 A287 c288 s289 out286 x293 x294 (jL [iV vk291, iV i292, (j285 0), (j285 1), .slice (some ⟨b24, 0, none⟩) ([vt16] : List Int).length 1, iV i292, iV vw5, fV, fV, uV, uV, uV, uV, uV, fV, (j285 12), (j285 13), (j285 14), (j285 15), (j285 16), (j285 17), (j285 18), (j285 19), (j285 20), (j285 21), (j285 22), (j285 23), (j285 24), (j285 25), (j285 26), (j285 27), (j285 28), (j285 29), (j285 30), (j285 31), (j285 32), (j285 33), (j285 34), (j285 35), (j285 36), (j285 37), (j285 38), (j285 39), (j285 40), (j285 41), (j285 42), (j285 43), (j285 44), (j285 45), (j285 46), (j285 47), (j285 48), (j285 49), (j285 50), (j285 51), (j285 52), (j285 53)]) W283 _ L282 h HS284 HO290 kr

set_option maxRecDepth 100000 in
set_option maxHeartbeats 4000000 in
theorem squeeze_Row.calls (k : Nat) (A2 : Option Addr) (c3 : Nat) (b1 : List Int) (y5 : Int) {t w : World} {f : FM} {H : List Seg} (HS : St t w f (H)) (HR4 : SlR (tInt .u8) f A2 c3 b1) (rr1 : List Int) (rr2 : Int) (h : squeeze_Row k b1 y5 = some (rr1, rr2)) :
    Calls Tryz.prog 23 #[.slice A2 b1.length c3, .int .i64 y5] w (fun e w' => ∃ (g : FM) (A126 : Option Addr) (c127 : Nat) (s128 : Seg), e = .returned (Value.tuple #[.slice A126 rr1.length c127, .int .i64 rr2]) ∧ FM.le f g ∧ St t w' g (s128 :: H) ∧ Own (tInt .i64) 3 g A126 c127 s128 rr1) := by
 unfold squeeze_Row at h
 refine enter Tryz.func23 rfl (tm := #[.slice A2 b1.length c3, iV y5, uV, uV, uV, uV, uV, uV, uV, uV, uV, uV, uV, uV, uV, uV, uV, uV, uV, uV, uV, uV, uV, uV, uV, uV, uV, uV, uV, uV, uV, uV, uV, uV, uV, uV, uV, uV, uV, uV, uV, uV, uV, uV, uV, uV, uV, uV, uV, uV, uV, uV, uV, uV, uV, uV]) kr ?_
 intro B hret hnor hnp
 refine wp_seq_k fun K6 hK7 => rl ?_
 refine seqL2 kr ?_
 refine nl (hK7 _ _ ?_)
 refine wp_seq_k fun K8 hK9 => rl ?_
 have hq_ := bind_some h; clear h; obtain ⟨⟨vt10, vt11, vt12, vt13⟩, hc14, h⟩ := hq_
 refine seqL1 kr ?_
 refine seqK rfl (does_call (f := 42) (args := #[.slice A2 b1.length c3]) kr (squeeze_Index.calls k A2 c3 b1 HS HR4 vt10 vt11 vt12 vt13 hc14) ?_)
 rintro _ W17 ⟨f15, A19, c20, s21, rfl, L16, HS18, HO22⟩
 refine ⟨_, rfl, ?_⟩
 refine seqL9 kr ?_
 refine nl (hK9 _ _ ?_)
 refine wp_seq_k (fun K24 hK25 => ?_)
 refine wp_seq_k fun K26 hK27 => rl ?_
 refine seqL2 kr ?_
 refine nl (hK27 _ _ ?_)
 have hq_ := ite_some h; clear h; rcases hq_ with ⟨c29, h⟩ | ⟨c29, h⟩
 · have c29 : vt13 ≠ 0 := c29
   refine wpRwI 21 kr (bne_iff_ne.mpr c29) ?_
   refine condT kr ?_
   refine wp_seq_k fun K30 hK31 => rl ?_
   refine seqL3 kr ?_
   refine nl (hK31 _ _ ?_)
   refine wp_ret ?_
   refine hret _ _ ?_
   have HS106 := HS18.cons_nil
   refine ends_still (v := Value.tuple #[.slice none 0 0, .int .i64 vt13]) kr kr ?_
   have HS108 := HS106.u1
   have HS109 := HS108.drop
   injection h with h
   injection h with h0_ h
   subst h0_ h
   exact ⟨f15, none, 0, [], rfl, L16, HS109, (Own.nil _)⟩
 · have c29 : ¬ (vt13 ≠ 0) := c29
   refine wpRwI 21 (x := (vt13 != 0)) (v := false) kr (bne_eq_false_iff_eq.mpr (Decidable.of_not_not c29)) ?_
   refine condF kr ?_
   refine wp_skip ?_
   refine hK25 _ _ ?_
   refine wp_seq_k (fun K32 hK33 => ?_)
   refine wp_seq_k fun K34 hK35 => rl ?_
   refine seqL3 kr ?_
   have hq_ := ite_some h; clear h; rcases hq_ with ⟨c36, h⟩ | ⟨c36, h⟩
   · have c36 : y5 < 0 := c36
     refine seqRwI 24 kr (decide_eq_true c36) ?_
     refine seqRwI 25 kr (decide_eq_true c36) ?_
     refine seqL4 kr ?_
     refine nl (hK35 _ _ ?_)
     refine condT kr ?_
     refine wp_seq_k fun K37 hK38 => rl ?_
     refine seqL2 kr ?_
     refine nl (hK38 _ _ ?_)
     refine wp_ret ?_
     refine hret _ _ ?_
     have HS110 := HS18.cons_nil
     refine ends_still (v := Value.tuple #[.slice none 0 0, .int .i64 4]) kr kr ?_
     have HS112 := HS110.u1
     have HS113 := HS112.drop
     injection h with h
     injection h with h0_ h
     subst h0_ h
     exact ⟨f15, none, 0, [], rfl, L16, HS113, (Own.nil _)⟩
   · have c36 : ¬ (y5 < 0) := c36
     refine seqRwI 24 kr (decide_eq_false c36) ?_
     refine seqRwI 25 kr (decide_eq_false c36) ?_
     refine seqL4 kr ?_
     refine nl (hK35 _ _ ?_)
     have hq_ := ite_some h; clear h; rcases hq_ with ⟨c40, h⟩ | ⟨c40, h⟩
     · have c40 : y5 ≥ vt11 := c40
       refine wpRwI 28 kr (decide_eq_true c40) ?_
       refine wpRwI 29 kr (decide_eq_true c40) ?_
       refine condT kr ?_
       refine wp_seq_k fun K41 hK42 => rl ?_
       refine seqL2 kr ?_
       refine nl (hK42 _ _ ?_)
       refine wp_ret ?_
       refine hret _ _ ?_
       have HS114 := HS18.cons_nil
       refine ends_still (v := Value.tuple #[.slice none 0 0, .int .i64 4]) kr kr ?_
       have HS116 := HS114.u1
       have HS117 := HS116.drop
       injection h with h
       injection h with h0_ h
       subst h0_ h
       exact ⟨f15, none, 0, [], rfl, L16, HS117, (Own.nil _)⟩
     · have c40 : ¬ (y5 ≥ vt11) := c40
       refine wpRwI 28 kr (decide_eq_false c40) ?_
       refine wpRwI 29 kr (decide_eq_false c40) ?_
       refine condF kr ?_
       refine wp_skip ?_
       refine hK33 _ _ ?_
       refine wp_seq_k fun K43 hK44 => rl ?_
       have hq_ := guard_some h; clear h; obtain ⟨c45, h⟩ := hq_
       have c45 : 0 ≤ (w64 (y5 + 1)) := c45
       have hq_ := guard_some h; clear h; obtain ⟨c46, h⟩ := hq_
       have c46 : (w64 (y5 + 1)) < (vt12.length : Int) := c46
       obtain ⟨b50, of51, cs47, hA52, hr48, hc49⟩ := HO22.at (i := w64 (y5 + 1)) c45 c46
       obtain rfl := hr48
       refine seqL3 kr ?_
       refine seqK rfl (does_run (run_indexE hA52 (sz := 1) rfl Tryz.underlying22 kr (kv (.slice A19 vt12.length c20)) (kv (.int .i64 (w64 (y5 + 1)))) c45 c46 W17) ?_)
       refine seqK rfl (does_run (run_load rfl Tryz.underlying3 rfl (kv (.pointer (some ⟨b50, of51 + (w64 (y5 + 1) : Int).toNat * 1, none⟩))) ((hc49 HS18) 0 (by decide))) ?_)
       refine seqL1 kr ?_
       refine nl (hK44 _ _ ?_)
       refine wp_seq_k (fun K53 hK54 => ?_)
       refine wp_seq_k fun K55 hK56 => rl ?_
       refine seqL4 kr ?_
       refine nl (hK56 _ _ ?_)
       have hq_ := bind_some h; clear h; obtain ⟨v57, hv65, h⟩ := hq_
       have J66 : ∀ (f59 : FM) (vend64 : Int) (j63 : Nat → Value) (W61 : World) (a_ : Act), FM.le f15 f59 → some (vend64) = some v57 → St t W61 f59 (s21 :: H) → a_ = ⟨#[.slice A2 b1.length c3, iV y5, uV, uV, .slice none 0 0, iV 0, iV vt10, iV vt11, .slice A19 vt12.length c20, iV vt13, iV vend64, uV, uV, .tuple #[iV vt10, iV vt11, .slice A19 vt12.length c20, iV vt13], .slice A2 b1.length c3, .tuple #[iV vt10, iV vt11, .slice A19 vt12.length c20, iV vt13], iV vt10, iV vt11, .slice A19 vt12.length c20, iV vt13, iV vt13, fV, uV, iV y5, fV, fV, iV y5, iV vt11, fV, fV, .slice A19 vt12.length c20, iV y5, iV (w64 (y5 + 1)), pV b50 (of51 + (w64 (y5 + 1) : Int).toNat * 1), iV (rd vt12 (w64 (y5 + 1))), iV y5, iV (w64 (y5 + 1)), iV vt11, .bool (decide ((w64 (y5 + 1)) < vt11)), (j63 0), (j63 1), uV, uV, uV, uV, uV, uV, uV, uV, uV, uV, uV, uV, uV, uV, uV], []⟩ → K53 a_ W61 := by
        intro f59 vend64 j63 W61 a_ L60 hj67 HS62  hfr_; subst hfr_
        injection hj67 with hj67; subst hj67; try dsimp only at h
        refine hK54 _ _ ?_
        refine wp_seq_k fun K68 hK69 => rl ?_
        have hq_ := guard_some h; clear h; obtain ⟨c70, h⟩ := hq_
        have c70 : 0 ≤ y5 := c70
        have hq_ := guard_some h; clear h; obtain ⟨c71, h⟩ := hq_
        have c71 : y5 < (vt12.length : Int) := c71
        obtain ⟨b75, of76, cs72, hA77, hr73, hc74⟩ := (HO22.mono L60).at (i := y5) c70 c71
        obtain rfl := hr73
        refine seqL3 kr ?_
        refine seqK rfl (does_run (run_indexE hA77 (sz := 1) rfl Tryz.underlying22 kr (kv (.slice A19 vt12.length c20)) (kv (.int .i64 y5)) c70 c71 W61) ?_)
        refine seqK rfl (does_run (run_load rfl Tryz.underlying3 rfl (kv (.pointer (some ⟨b75, of76 + (y5 : Int).toNat * 1, none⟩))) ((hc74 HS62) 0 (by decide))) ?_)
        have hq_ := guard_some h; clear h; obtain ⟨c78, h⟩ := hq_
        have c78 : 0 ≤ (rd vt12 y5) := c78
        have hq_ := guard_some h; clear h; obtain ⟨c79, h⟩ := hq_
        have c79 : (rd vt12 y5) ≤ vend64 := c79
        have hq_ := guard_some h; clear h; obtain ⟨c80, h⟩ := hq_
        have c80 : vend64 ≤ (b1.length : Int) := c80
        refine seqL1 kr ?_
        refine seqK rfl (does_cutLH (e := (tInt .u8)) (xs := b1) rfl Tryz.underlying30 kr (kv (.slice A2 b1.length c3)) (kv (.int .i64 (rd vt12 y5))) (kv (.int .i64 vend64))  c78 c79 c80 HR4 ?_)
        intro A81 c82 HR83
        have hq_ := bind_some h; clear h; obtain ⟨⟨vt84, vt85⟩, hc86, h⟩ := hq_
        refine seqL1 kr ?_
        refine seqK rfl (does_call (f := 44) (args := #[.slice A81 ((b1.take (vend64).toNat).drop ((rd vt12 y5)).toNat).length c82, .int .i64 vt10]) kr (squeeze_read.calls k A81 c82 ((b1.take (vend64).toNat).drop ((rd vt12 y5)).toNat) vt10 HS62 (HR83.mono (L16.trans L60)) vt84 vt85 hc86) ?_)
        rintro _ W89 ⟨f87, A91, c92, s93, rfl, L88, HS90, HO94⟩
        refine ⟨_, rfl, ?_⟩
        refine seqL5 kr ?_
        refine nl (hK69 _ _ ?_)
        refine wp_seq_k (fun K96 hK97 => ?_)
        refine wp_seq_k fun K98 hK99 => rl ?_
        refine seqL2 kr ?_
        refine nl (hK99 _ _ ?_)
        have hq_ := ite_some h; clear h; rcases hq_ with ⟨c101, h⟩ | ⟨c101, h⟩
        · have c101 : ¬ (vt85 = true) := c101
          refine wpRwI 54 kr (congrArg (fun b_ => !b_) (show vt85 = false from (Bool.eq_false_iff.mpr c101)) : (!vt85) = true) ?_
          refine condT kr ?_
          refine wp_seq_k fun K102 hK103 => rl ?_
          refine seqL2 kr ?_
          refine nl (hK103 _ _ ?_)
          refine wp_ret ?_
          refine hret _ _ ?_
          have HS118 := HS90.cons_nil
          refine ends_still (v := Value.tuple #[.slice none 0 0, .int .i64 3]) kr kr ?_
          have HS121 := HS118.u2.u2
          have HS122 := HS121.drop
          have HS123 := HS122.drop
          injection h with h
          injection h with h0_ h
          subst h0_ h
          exact ⟨f87, none, 0, [], rfl, (L16.trans (L60.trans L88)), HS123, (Own.nil _)⟩
        · have c101 : ¬ (¬ (vt85 = true)) := c101
          refine wpRwI 54 (x := (!vt85)) (v := false) kr (congrArg (fun b_ => !b_) (show vt85 = true from (Decidable.of_not_not c101)) : (!vt85) = false) ?_
          refine condF kr ?_
          refine wp_skip ?_
          refine hK97 _ _ ?_
          refine wp_seq_k fun K104 hK105 => rl ?_
          refine seqL3 kr ?_
          refine nl (hK105 _ _ ?_)
          refine wp_ret ?_
          refine hret _ _ ?_
          refine ends_still (v := Value.tuple #[.slice A91 vt84.length c92, .int .i64 0]) kr kr ?_
          have HS124 := HS90.u1
          have HS125 := HS124.drop
          injection h with h
          injection h with h0_ h
          subst h0_ h
          exact ⟨f87, A91, c92, s93, rfl, (L16.trans (L60.trans L88)), HS125, HO94⟩
       clear h; have h := hv65; clear hv65
       have hq_ := ite_some h; clear h; rcases hq_ with ⟨c58, h⟩ | ⟨c58, h⟩
       · have c58 : (w64 (y5 + 1)) < vt11 := c58
         refine wpRwI 38 kr (decide_eq_true c58) ?_
         refine condT kr ?_
         refine rl ?_
         refine seqL3 kr ?_
         refine nl ?_
         refine fnRwI (F := K53) 38 (x := true) (v := (decide ((w64 (y5 + 1)) < vt11))) kr (Eq.symm (decide_eq_true c58)) ?_
         exact J66 f15 (w64 ((rd vt12 (w64 (y5 + 1))) - 2)) (jL [iV (rd vt12 (w64 (y5 + 1))), iV (w64 ((rd vt12 (w64 (y5 + 1))) - 2))]) W17 _ fL h HS18 kr
       · have c58 : ¬ ((w64 (y5 + 1)) < vt11) := c58
         refine wpRwI 38 kr (decide_eq_false c58) ?_
         refine condF kr ?_
         refine wp_skip ?_
         refine fnRwI (F := K53) 38 (x := false) (v := (decide ((w64 (y5 + 1)) < vt11))) kr (Eq.symm (decide_eq_false c58)) ?_
         exact J66 f15 (rd vt12 (w64 (y5 + 1))) (jL []) W17 _ fL h HS18 kr

set_option maxRecDepth 100000 in
set_option maxHeartbeats 4000000 in
theorem squeeze_Unpack.calls (k : Nat) (A2 : Option Addr) (c3 : Nat) (b1 : List Int) {t w : World} {f : FM} {H : List Seg} (HS : St t w f (H)) (HR4 : SlR (tInt .u8) f A2 c3 b1) (rr1 : Int) (rr2 : Int) (rr3 : List Int) (rr4 : Int) (h : squeeze_Unpack k b1 = some (rr1, rr2, rr3, rr4)) :
    Calls Tryz.prog 20 #[.slice A2 b1.length c3] w (fun e w' => ∃ (g : FM) (A142 : Option Addr) (c143 : Nat) (s144 : Seg), e = .returned (Value.tuple #[.int .i64 rr1, .int .i64 rr2, .slice A142 rr3.length c143, .int .i64 rr4]) ∧ FM.le f g ∧ St t w' g (s144 :: H) ∧ Own (tInt .i64) 3 g A142 c143 s144 rr3) := by
 unfold squeeze_Unpack at h
 refine enter Tryz.func20 rfl (tm := #[.slice A2 b1.length c3, uV, uV, uV, uV, uV, uV, uV, uV, uV, uV, uV, uV, uV, uV, uV, uV, uV, uV, uV, uV, uV, uV, uV, uV, uV, uV, uV, uV, uV, uV, uV, uV, uV, uV, uV, uV, uV, uV]) kr ?_
 intro B hret hnor hnp
 refine wp_seq_k fun K5 hK6 => rl ?_
 refine seqL4 kr ?_
 refine nl (hK6 _ _ ?_)
 refine wp_seq_k (fun K7 hK8 => ?_)
 refine wp_seq_k fun K9 hK10 => rl ?_
 have hq_ := bind_some h; clear h; obtain ⟨⟨vt11, vt12, vt13, vt14⟩, hc15, h⟩ := hq_
 refine seqL1 kr ?_
 refine seqK rfl (does_call (f := 42) (args := #[.slice A2 b1.length c3]) kr (squeeze_Index.calls k A2 c3 b1 HS HR4 vt11 vt12 vt13 vt14 hc15) ?_)
 rintro _ W18 ⟨f16, A20, c21, s22, rfl, L17, HS19, HO23⟩
 refine ⟨_, rfl, ?_⟩
 refine seqL8 kr ?_
 refine nl (hK10 _ _ ?_)
 refine wp_seq_k fun K25 hK26 => rl ?_
 refine seqL2 kr ?_
 refine nl (hK26 _ _ ?_)
 have hq_ := ite_some h; clear h; rcases hq_ with ⟨c28, h⟩ | ⟨c28, h⟩
 · have c28 : vt14 ≠ 0 := c28
   refine wpRwI 17 kr (bne_iff_ne.mpr c28) ?_
   refine condT kr ?_
   refine wp_seq_k fun K29 hK30 => rl ?_
   refine seqL5 kr ?_
   refine nl (hK30 _ _ ?_)
   refine wp_ret ?_
   refine hret _ _ ?_
   have HS128 := HS19.cons_nil
   refine ends_still (v := Value.tuple #[.int .i64 0, .int .i64 0, .slice none 0 0, .int .i64 vt14]) kr kr ?_
   have HS130 := HS128.u1
   have HS131 := HS130.drop
   injection h with h
   injection h with h0_ h
   injection h with h1_ h
   injection h with h2_ h
   subst h0_ h1_ h2_ h
   exact ⟨f16, none, 0, [], rfl, L17, HS131, (Own.nil _)⟩
 · have c28 : ¬ (vt14 ≠ 0) := c28
   refine wpRwI 17 (x := (vt14 != 0)) (v := false) kr (bne_eq_false_iff_eq.mpr (Decidable.of_not_not c28)) ?_
   refine condF kr ?_
   refine wp_skip ?_
   refine hK8 _ _ ?_
   refine wp_seq_k (fun K31 hK32 => ?_)
   refine wp_seq_k fun K33 hK34 => rl ?_
   refine seqL2 kr ?_
   refine nl (hK34 _ _ ?_)
   refine blockK (fun B35 hx36 hn37 hr38 ho39 hp40 => ?_)
   have hq_ := bind_some h; clear h; obtain ⟨o41, hv120, h⟩ := hq_
   have JR122 : ∀ z_, some (Sum.inl z_) = some o41 → some z_ = some (rr1, rr2, rr3, rr4) := by
    intro z_ e_; injection e_ with e_; subst e_; exact h
   have J121 : ∀ (f107 : FM) (A115 : Option Addr) (c116 : Nat) (s117 : Seg) (vw112 : Int) (vh113 : Int) (counts114 : List Int) (j111 : Nat → Value) (W109 : World) (a_ : Act), FM.le f16 f107 → some (Sum.inr (vw112, vh113, counts114)) = some o41 → St t W109 f107 (s117 :: s22 :: H) → Own (tInt .i64) 3 f107 A115 c116 s117 counts114 → a_ = ⟨#[.slice A2 b1.length c3, uV, iV vw112, iV vh113, .slice A115 counts114.length c116, (j111 0), (j111 1), (j111 2), (j111 3), .tuple #[iV vt11, iV vt12, .slice A20 vt13.length c21, iV vt14], .slice A2 b1.length c3, .tuple #[iV vt11, iV vt12, .slice A20 vt13.length c21, iV vt14], iV vt11, iV vt12, .slice A20 vt13.length c21, iV vt14, iV vt14, fV, uV, iV vt12, (j111 4), (j111 5), (j111 6), (j111 7), (j111 8), (j111 9), (j111 10), (j111 11), (j111 12), (j111 13), (j111 14), (j111 15), (j111 16), (j111 17), (j111 18), (j111 19), uV, uV, uV], []⟩ → K31 a_ W109 := by
    intro f107 A115 c116 s117 vw112 vh113 counts114 j111 W109 a_ L108 hj123 HS110 HO118 hfr_; subst hfr_
    injection hj123 with hj123; subst hj123; try dsimp only at h
    simp only [Sum.elim_inr] at h
    refine hK32 _ _ ?_
    refine wp_seq_k fun K126 hK127 => rl ?_
    refine seqL7 kr ?_
    refine nl (hK127 _ _ ?_)
    refine wp_ret ?_
    refine hret _ _ ?_
    refine ends_still (v := Value.tuple #[.int .i64 vw112, .int .i64 vh113, .slice A115 counts114.length c116, .int .i64 0]) kr kr ?_
    have HS140 := HS110.u1
    have HS141 := HS140.drop
    injection h with h
    injection h with h0_ h
    injection h with h1_ h
    injection h with h2_ h
    subst h0_ h1_ h2_ h
    exact ⟨f107, A115, c116, s117, rfl, (L17.trans L108), HS141, HO118⟩
   clear h; have h := hv120; clear hv120
   have HS124 := HS19.cons_nil
   refine loopK (fun n_ a_ w_ => ∃ (f45 : FM) (A53 : Option Addr) (c54 : Nat) (s55 : Seg) (vw50 : Int) (vh51 : Int) (counts52 : List Int) (x58 : Int) (j49 : Nat → Value), FM.le f16 f45 ∧ St t w_ f45 (s55 :: s22 :: H) ∧ Own (tInt .i64) 3 f45 A53 c54 s55 counts52 ∧ squeeze_Unpack.l0 k vt12 b1 n_ vw50 vh51 counts52 x58 = some o41 ∧ a_ = ⟨#[.slice A2 b1.length c3, uV, iV vw50, iV vh51, .slice A53 counts52.length c54, (j49 0), (j49 1), (j49 2), (j49 3), .tuple #[iV vt11, iV vt12, .slice A20 vt13.length c21, iV vt14], .slice A2 b1.length c3, .tuple #[iV vt11, iV vt12, .slice A20 vt13.length c21, iV vt14], iV vt11, iV vt12, .slice A20 vt13.length c21, iV vt14, iV vt14, fV, uV, iV vt12, iV x58, (j49 4), (j49 5), (j49 6), (j49 7), (j49 8), (j49 9), (j49 10), (j49 11), (j49 12), (j49 13), (j49 14), (j49 15), (j49 16), (j49 17), (j49 18), uV, uV, uV], []⟩) k ⟨f16, none, 0, [], vt11, vt12, ([] : List Int), 0, (jL [iV vt14]), fL, HS124, (Own.nil _), h, kr⟩ ?_
   clear h
   rintro n44 _ W47 ⟨f45, A53, c54, s55, vw50, vh51, counts52, x58, j49, L46, HS48, HO56, h, rfl⟩ K42 hK43
   obtain _ | n44 := n44
   · exact nomatch h
   simp only [squeeze_Unpack.l0] at h
   refine wp_seq_k fun K59 hK60 => rl ?_
   refine seqL1 kr ?_
   refine nl (hK60 _ _ ?_)
   refine wp_seq_k (fun K61 hK62 => ?_)
   have hq_ := ite_some h; clear h; rcases hq_ with ⟨c64, h⟩ | ⟨c64, h⟩
   · have c64 : x58 < vt12 := c64
     refine wpRwI 21 kr (decide_eq_true c64) ?_
     refine condT kr ?_
     refine wp_skip ?_
     refine hK62 _ _ ?_
     refine wp_seq_k (fun K65 hK66 => ?_)
     refine blockK (fun B67 hx68 hn69 hr70 ho71 hp72 => ?_)
     refine wp_seq_k fun K74 hK75 => rl ?_
     refine seqL2 kr ?_
     refine nl (hK75 _ _ ?_)
     refine wp_seq_k fun K76 hK77 => rl ?_
     have hq_ := bind_some h; clear h; obtain ⟨⟨vt78, vt79⟩, hc80, h⟩ := hq_
     refine seqL2 kr ?_
     refine seqK rfl (does_call (f := 23) (args := #[.slice A2 b1.length c3, .int .i64 x58]) kr (squeeze_Row.calls k A2 c3 b1 x58 HS48 (HR4.mono (L17.trans L46)) vt78 vt79 hc80) ?_)
     rintro _ W83 ⟨f81, A85, c86, s87, rfl, L82, HS84, HO88⟩
     refine ⟨_, rfl, ?_⟩
     refine seqL5 kr ?_
     refine nl (hK77 _ _ ?_)
     refine wp_seq_k (fun K90 hK91 => ?_)
     refine wp_seq_k fun K92 hK93 => rl ?_
     refine seqL2 kr ?_
     refine nl (hK93 _ _ ?_)
     have hq_ := ite_some h; clear h; rcases hq_ with ⟨c95, h⟩ | ⟨c95, h⟩
     · have c95 : vt79 ≠ 0 := c95
       refine wpRwI 30 kr (bne_iff_ne.mpr c95) ?_
       refine condT kr ?_
       refine wp_seq_k fun K96 hK97 => rl ?_
       refine seqL5 kr ?_
       refine nl (hK97 _ _ ?_)
       refine wp_ret ?_
       refine hr70 _ _ ?_
       refine hr38 _ _ ?_
       refine hret _ _ ?_
       have HS132 := HS84.cons_nil
       refine ends_still (v := Value.tuple #[.int .i64 0, .int .i64 0, .slice none 0 0, .int .i64 vt79]) kr kr ?_
       have HS136 := HS132.u3.u3.u3
       have HS137 := HS136.drop
       have HS138 := HS137.drop
       have HS139 := HS138.drop
       replace h := JR122 _ h
       injection h with h
       injection h with h0_ h
       injection h with h1_ h
       injection h with h2_ h
       subst h0_ h1_ h2_ h
       exact ⟨f81, none, 0, [], rfl, (L17.trans (L46.trans L82)), HS139, (Own.nil _)⟩
     · have c95 : ¬ (vt79 ≠ 0) := c95
       refine wpRwI 30 (x := (vt79 != 0)) (v := false) kr (bne_eq_false_iff_eq.mpr (Decidable.of_not_not c95)) ?_
       refine condF kr ?_
       refine wp_skip ?_
       refine hK91 _ _ ?_
       refine rl ?_
       have hq_ := guard_some h; clear h; obtain ⟨c98, h⟩ := hq_
       have c98 : (counts52.length + vt78.length) * 8 ≤ 140737488355328 := c98
       have HS100 := HS84.u1.u1
       refine seqL2 kr ?_
       refine seqK rfl (does_append1 (e := (tInt .i64)) (E := 3) (xs := counts52) (ys := vt78) rfl (kv (.slice A53 counts52.length c54)) (kv (.slice A85 vt78.length c86)) Tryz.underlying22 inf3 (HO56.mono L82) HO88 HS100 c98 (lim63 c98 (by decide)) ?_)
       intro A101 c102 s103 W104 HS105 HO106
       refine seqL1 kr ?_
       refine nl ?_
       refine hn69 _ _ ?_
       refine hK66 _ _ ?_
       refine rl ?_
       refine seqL2 kr ?_
       refine nl ?_
       refine hK43 n44 _ _ (Nat.lt_succ_self _) ?_
       exact ⟨f81, A101, c102, s103, vw50, vh51, (counts52 ++ vt78), (w64 (x58 + 1)), (jL [(j49 0), iV x58, .slice A85 vt78.length c86, iV vt79, tV, iV x58, .tuple #[.slice A85 vt78.length c86, .int .i64 vt79], .slice A2 b1.length c3, iV x58, .tuple #[.slice A85 vt78.length c86, .int .i64 vt79], .slice A85 vt78.length c86, iV vt79, iV vt79, fV, (j49 14), .slice A53 counts52.length c54, .slice A85 vt78.length c86, .slice A101 (counts52 ++ vt78).length c102, iV (w64 (x58 + 1))]), (L46.trans L82), HS105, HO106, h, kr⟩
   · have c64 : ¬ (x58 < vt12) := c64
     refine wpRwI 21 kr (decide_eq_false c64) ?_
     refine condF kr ?_
     refine wp_exit ?_
     refine hx36 _ _ ?_
     exact J121 f45 A53 c54 s55 vw50 vh51 counts52 (jL [(j49 0), (j49 1), (j49 2), (j49 3), iV x58, fV, (j49 5), (j49 6), (j49 7), (j49 8), (j49 9), (j49 10), (j49 11), (j49 12), (j49 13), (j49 14), (j49 15), (j49 16), (j49 17), (j49 18)]) W47 _ L46 h HS48 HO56 kr

set_option maxRecDepth 100000 in
set_option maxHeartbeats 4000000 in
theorem squeeze_Load_1.calls (k : Nat)  (n1 : Int) {t w : World} {f : FM} {H : List Seg} (HS : St t w f (H)) (rr1 : Bool) (h : squeeze_Load_1 k n1 = some rr1) :
    Calls Tryz.prog 22 #[.int .i64 n1] w (fun e w' => ∃ (g : FM), e = .returned (Value.bool rr1) ∧ FM.le f g ∧ St t w' g (H)) := by
 unfold squeeze_Load_1 at h
 refine enter Tryz.func22 rfl (tm := #[iV n1, uV, uV, uV, uV]) kr ?_
 intro B hret hnor hnp
 refine wp_seq_k fun K2 hK3 => rl ?_
 refine seqL1 kr ?_
 refine nl (hK3 _ _ ?_)
 refine wp_seq_k fun K4 hK5 => rl ?_
 refine seqL3 kr ?_
 refine nl (hK5 _ _ ?_)
 refine wp_ret ?_
 refine hret _ _ ?_
 refine ends_still (v := Value.bool (n1 != 0)) kr kr ?_
 injection h with h
 subst h
 exact ⟨f, rfl, FM.le.refl _, HS⟩

set_option maxRecDepth 100000 in
set_option maxHeartbeats 4000000 in
theorem slices_IndexFunc_int__squeeze_Load_1.calls (k : Nat) (A2 : Option Addr) (c3 : Nat) (s1 : List Int) {t w : World} {f : FM} {H : List Seg} (HS : St t w f (H)) (HR4 : SlR (tInt .i64) f A2 c3 s1) (rr1 : Int) (h : slices_IndexFunc_int__squeeze_Load_1 k s1 = some rr1) :
    Calls Tryz.prog 43 #[.slice A2 s1.length c3, .func (.func 22) #[] #[]] w (fun e w' => ∃ (g : FM), e = .returned (Value.int .i64 rr1) ∧ FM.le f g ∧ St t w' g (H)) := by
 unfold slices_IndexFunc_int__squeeze_Load_1 at h
 refine enter Tryz.func43 rfl (tm := #[.slice A2 s1.length c3, .func (.func 22) #[] #[], uV, uV, uV, uV, uV, uV, uV, uV, uV, uV, uV, uV, uV, uV, uV, uV, uV]) kr ?_
 intro B hret hnor hnp
 refine wp_seq_k fun K5 hK6 => rl ?_
 refine seqL1 kr ?_
 refine nl (hK6 _ _ ?_)
 refine wp_seq_k (fun K7 hK8 => ?_)
 refine wp_seq_k fun K9 hK10 => rl ?_
 refine seqL3 kr ?_
 refine nl (hK10 _ _ ?_)
 refine blockK (fun B11 hx12 hn13 hr14 ho15 hp16 => ?_)
 have hq_ := bind_some h; clear h; obtain ⟨o17, hv68, h⟩ := hq_
 have JR70 : ∀ z_, some (Sum.inl z_) = some o17 → some z_ = some rr1 := by
  intro z_ e_; injection e_ with e_; subst e_; exact h
 have J69 : ∀ (f63 : FM) (j67 : Nat → Value) (W65 : World) (a_ : Act), FM.le f f63 → some (Sum.inr ()) = some o17 → St t W65 f63 (H) → a_ = ⟨#[.slice A2 s1.length c3, .func (.func 22) #[] #[], uV, uV, (j67 0), (j67 1), .slice A2 s1.length c3, iV (s1.length : Int), (j67 2), (j67 3), (j67 4), (j67 5), (j67 6), (j67 7), (j67 8), (j67 9), (j67 10), (j67 11), (j67 12)], []⟩ → K7 a_ W65 := by
  intro f63 j67 W65 a_ L64 hj71 HS66  hfr_; subst hfr_
  injection hj71 with hj71; subst hj71; try dsimp only at h
  simp only [Sum.elim_inr] at h
  refine hK8 _ _ ?_
  refine wp_seq_k fun K72 hK73 => rl ?_
  refine seqL1 kr ?_
  refine nl (hK73 _ _ ?_)
  refine wp_ret ?_
  refine hret _ _ ?_
  refine ends_still (v := Value.int .i64 (-1)) kr kr ?_
  injection h with h
  subst h
  exact ⟨f63, rfl, L64, HS66⟩
 clear h; have h := hv68; clear hv68
 refine loopK (fun n_ a_ w_ => ∃ (f21 : FM) (x26 : Int) (j25 : Nat → Value), FM.le f f21 ∧ St t w_ f21 (H) ∧ slices_IndexFunc_int__squeeze_Load_1.l0 k s1 n_ x26 = some o17 ∧ a_ = ⟨#[.slice A2 s1.length c3, .func (.func 22) #[] #[], uV, uV, (j25 0), (j25 1), .slice A2 s1.length c3, iV (s1.length : Int), iV x26, (j25 2), (j25 3), (j25 4), (j25 5), (j25 6), (j25 7), (j25 8), (j25 9), (j25 10), (j25 11)], []⟩) k ⟨f, 0, (jL [iV 0]), fL, HS, h, kr⟩ ?_
 clear h
 rintro n20 _ W23 ⟨f21, x26, j25, L22, HS24, h, rfl⟩ K18 hK19
 obtain _ | n20 := n20
 · exact nomatch h
 simp only [slices_IndexFunc_int__squeeze_Load_1.l0] at h
 refine wp_seq_k fun K27 hK28 => rl ?_
 refine seqL1 kr ?_
 refine nl (hK28 _ _ ?_)
 refine wp_seq_k (fun K29 hK30 => ?_)
 have hq_ := ite_some h; clear h; rcases hq_ with ⟨c32, h⟩ | ⟨c32, h⟩
 · have c32 : x26 < (s1.length : Int) := c32
   refine wpRwI 9 kr (decide_eq_true c32) ?_
   refine condT kr ?_
   refine wp_skip ?_
   refine hK30 _ _ ?_
   refine wp_seq_k (fun K33 hK34 => ?_)
   refine blockK (fun B35 hx36 hn37 hr38 ho39 hp40 => ?_)
   refine wp_seq_k fun K42 hK43 => rl ?_
   refine seqL2 kr ?_
   refine nl (hK43 _ _ ?_)
   refine wp_seq_k fun K44 hK45 => rl ?_
   have hq_ := guard_some h; clear h; obtain ⟨c46, h⟩ := hq_
   have c46 : 0 ≤ x26 := c46
   obtain ⟨b50, of51, cs47, hA52, hr48, hc49⟩ := (HR4.mono L22).at (i := x26) c46 c32
   obtain rfl := hr48
   refine seqL3 kr ?_
   refine seqK rfl (does_run (run_indexE hA52 (sz := 1) rfl Tryz.underlying22 kr (kv (.slice A2 s1.length c3)) (kv (.int .i64 x26)) c46 c32 W23) ?_)
   refine seqK rfl (does_run (run_load rfl Tryz.underlying3 rfl (kv (.pointer (some ⟨b50, of51 + (x26 : Int).toNat * 1, none⟩))) ((hc49 fL HS24) 0 (by decide))) ?_)
   have hq_ := bind_some h; clear h; obtain ⟨vt53, hc54, h⟩ := hq_
   refine seqK rfl (does_call (f := 22) (args := #[.int .i64 (rd s1 x26)]) kr (squeeze_Load_1.calls k (rd s1 x26) HS24 vt53 hc54) ?_)
   rintro _ W57 ⟨f55, rfl, L56, HS58⟩
   refine ⟨_, rfl, ?_⟩
   refine nl (hK45 _ _ ?_)
   have hq_ := ite_some h; clear h; rcases hq_ with ⟨c60, h⟩ | ⟨c60, h⟩
   · have c60 : vt53 = true := c60
     refine wpRwI 16 kr c60 ?_
     refine condT kr ?_
     refine wp_seq_k fun K61 hK62 => rl ?_
     refine seqL2 kr ?_
     refine nl (hK62 _ _ ?_)
     refine wp_ret ?_
     refine hr38 _ _ ?_
     refine hr14 _ _ ?_
     refine hret _ _ ?_
     refine ends_still (v := Value.int .i64 x26) kr kr ?_
     replace h := JR70 _ h
     injection h with h
     subst h
     exact ⟨f55, rfl, (L22.trans L56), HS58⟩
   · have c60 : ¬ (vt53 = true) := c60
     refine wpRwI 16 kr (Bool.eq_false_iff.mpr c60) ?_
     refine condF kr ?_
     refine wp_skip ?_
     refine hn37 _ _ ?_
     refine hK34 _ _ ?_
     refine rl ?_
     refine seqL2 kr ?_
     refine nl ?_
     refine hK19 n20 _ _ (Nat.lt_succ_self _) ?_
     exact ⟨f55, (w64 (x26 + 1)), (jL [(j25 0), iV x26, tV, iV x26, .func (.func 22) #[] #[], .slice A2 s1.length c3, iV x26, .pointer (some ⟨b50, of51 + (x26 : Int).toNat * 1, none⟩), iV (rd s1 x26), fV, (j25 10), iV (w64 (x26 + 1))]), (L22.trans L56), HS58, h, kr⟩
 · have c32 : ¬ (x26 < (s1.length : Int)) := c32
   refine wpRwI 9 kr (decide_eq_false c32) ?_
   refine condF kr ?_
   refine wp_exit ?_
   refine hx12 _ _ ?_
   exact J69 f21 (jL [(j25 0), (j25 1), iV x26, fV, (j25 3), (j25 4), (j25 5), (j25 6), (j25 7), (j25 8), (j25 9), (j25 10), (j25 11)]) W23 _ L22 h HS24 kr

set_option maxRecDepth 100000 in
set_option maxHeartbeats 4000000 in
theorem slices_ContainsFunc_int__squeeze_Load_1.calls (k : Nat) (A2 : Option Addr) (c3 : Nat) (s1 : List Int) {t w : World} {f : FM} {H : List Seg} (HS : St t w f (H)) (HR4 : SlR (tInt .i64) f A2 c3 s1) (rr1 : Bool) (h : slices_ContainsFunc_int__squeeze_Load_1 k s1 = some rr1) :
    Calls Tryz.prog 21 #[.slice A2 s1.length c3, .func (.func 22) #[] #[]] w (fun e w' => ∃ (g : FM), e = .returned (Value.bool rr1) ∧ FM.le f g ∧ St t w' g (H)) := by
 unfold slices_ContainsFunc_int__squeeze_Load_1 at h
 refine enter Tryz.func21 rfl (tm := #[.slice A2 s1.length c3, .func (.func 22) #[] #[], uV, uV, uV, uV, uV, uV, uV]) kr ?_
 intro B hret hnor hnp
 refine wp_seq_k fun K5 hK6 => rl ?_
 refine seqL1 kr ?_
 refine nl (hK6 _ _ ?_)
 refine wp_seq_k fun K7 hK8 => rl ?_
 have hq_ := bind_some h; clear h; obtain ⟨vt9, hc10, h⟩ := hq_
 refine seqL2 kr ?_
 refine seqK rfl (does_call (f := 43) (args := #[.slice A2 s1.length c3, .func (.func 22) #[] #[]]) kr (slices_IndexFunc_int__squeeze_Load_1.calls k A2 c3 s1 HS HR4 vt9 hc10) ?_)
 rintro _ W13 ⟨f11, rfl, L12, HS14⟩
 refine ⟨_, rfl, ?_⟩
 refine seqL2 kr ?_
 refine nl (hK8 _ _ ?_)
 refine wp_ret ?_
 refine hret _ _ ?_
 refine ends_still (v := Value.bool (decide (vt9 ≥ 0))) kr kr ?_
 injection h with h
 subst h
 exact ⟨f11, rfl, L12, HS14⟩

set_option maxRecDepth 100000 in
set_option maxHeartbeats 4000000 in
theorem squeeze_Load.calls (k : Nat) (A2 : Option Addr) (c3 : Nat) (b1 : List Int) {t w : World} {f : FM} {H : List Seg} (HS : St t w f (H)) (HR4 : SlR (tInt .u8) f A2 c3 b1) (HA : TabF Tryz.prog "strings.asciiSpace" .u8 Go.Lib.asciiSpaceTab f) (HM : VarI 3 f) (HT : TabF Tryz.prog "internal/strconv.uint64pow10" .u64 Go.Lib.pow10Tab f) (rr1 : S_Frame) (rr2 : Int) (h : squeeze_Load k b1 = some (rr1, rr2)) :
    Calls Tryz.prog 6 #[.slice A2 b1.length c3] w (fun e w' => ∃ (g : FM) (A223 : Option Addr) (c224 : Nat) (A225 : Option Addr) (c226 : Nat) (s227 : Seg), e = .returned (Value.tuple #[.agg #[.int .i64 rr1.W, .int .i64 rr1.H, .slice A223 rr1.Cards.length c224, .slice A225 rr1.Counts.length c226], .int .i64 rr2]) ∧ FM.le f g ∧ St t w' g (s227 :: H) ∧ SlR ty_Card g A223 c224 rr1.Cards ∧ Own (tInt .i64) 3 g A225 c226 s227 rr1.Counts) := by
 unfold squeeze_Load at h
 refine enter Tryz.func6 rfl (tm := #[.slice A2 b1.length c3, uV, uV, uV, uV, uV, uV, uV, uV, uV, uV, uV, uV, uV, uV, uV, uV, uV, uV, uV, uV, uV, uV, uV, uV, uV, uV, uV, uV, uV, uV, uV, uV, uV, uV, uV, uV, uV, uV, uV, uV, uV, uV, uV, uV, uV, uV, uV, uV, uV, uV, uV, uV, uV, uV, uV, uV, uV, uV, uV, uV, uV, uV, uV, uV, uV, uV, uV, uV, uV, uV, uV, uV, uV, uV, uV, uV, uV, uV, uV, uV, uV, uV, uV]) kr ?_
 intro B hret hnor hnp
 refine wp_seq_k fun K5 hK6 => rl ?_
 refine seqK rfl (does_alloc (z := Value.agg #[.int .i64 0, .int .i64 0, .slice none 0 0, .slice none 0 0]) (cs := #[.int .i64 0, .int .i64 0, .slice none 0 0, .slice none 0 0]) rfl kr rfl HS ?_)
 intro b7 W8 HS9
 refine seqL1 kr ?_
 refine nl (hK6 _ _ ?_)
 refine wp_seq_k (fun K11 hK12 => ?_)
 refine wp_seq_k (fun K13 hK14 => ?_)
 refine heldG (S := Sg t f ([(b7, .cells #[.int .i64 0, .int .i64 0, .slice none 0 0, .slice none 0 0] 25 (0, 0))] :: H) []) (n := 19) kr rfl HS9 ?_
 intro W15 HS16
 refine takeGL [0, 1, 2, 3] (n := 19) (fuel := 15) #[true, true, true, true, false, false, false, false, false, false, false, false, false, false, false, false, false, false, false] rfl kr kr kr hnp (Sg.g0 (Sx.of [] fL HS16)) ?_
 have hq_ := ite_some h; clear h; rcases hq_ with ⟨c17, h⟩ | ⟨c17, h⟩
 · have c17 : (b1.length : Int) < 2 := c17
   refine gateRwI 12 (x := (decide ((b1.length : Int) < 2))) (v := true) kr (decide_eq_true c17) ?_
   refine gateRwI 13 (x := (decide ((b1.length : Int) < 2))) (v := true) kr (decide_eq_true c17) ?_
   refine takeGL [4, 5, 6, 7, 8, 9, 10, 11, 12, 13, 14, 15, 16, 17, 18] (n := 15) (fuel := 0) #[true, true, true, true, true, true, true, true, true, true, true, true, true, true, true, true, true, true, true] rfl kr kr kr hnp (Sg.g0 (Sx.of [] fL HS16)) ?_
   refine doneG kr ?_ _
   refine hK14 _ _ ?_
   refine condT kr ?_
   refine wp_seq_k fun K18 hK19 => rl ?_
   refine seqL1 kr ?_
   refine seqK rfl (does_storeA (vs := [.int .i64 0, .int .i64 0, .slice none 0 0, .slice none 0 0]) rfl kr kr kr rfl (ones rfl) HS16 kr ?_)
   intro W20 HS21
   refine seqL1 kr ?_
   refine nl (hK19 _ _ ?_)
   refine wp_ret ?_
   refine hret _ _ ?_
   have HS164 := HS21.cons_nil
   refine ends (v := Value.tuple #[.agg #[.int .i64 0, .int .i64 0, .slice none 0 0, .slice none 0 0], .int .i64 14]) (results2 (q1 := .cell 2 25) (q2 := .tmp 3) kr (resN (n := 4) (cs := [.int .i64 0, .int .i64 0, .slice none 0 0, .slice none 0 0]) (kv (.pointer (some ⟨b7, 0, none⟩))) Tryz.underlying25 rfl kr rfl (HS164.u1.cells 0 4 _ rfl)) (resT (kv (.int .i64 14)))) kr ?_
   have HS166 := HS164.u1
   have HS167 := HS166.drop
   injection h with h
   injection h with h0_ h
   subst h0_ h
   exact ⟨f, none, 0, none, 0, [], rfl, FM.le.refl _, HS167, (SlR.nil _ _), (Own.nil _)⟩
 · have c17 : ¬ ((b1.length : Int) < 2) := c17
   refine gateRwI 12 (x := (decide ((b1.length : Int) < 2))) (v := false) kr (decide_eq_false c17) ?_
   refine gateRwI 13 (x := (decide ((b1.length : Int) < 2))) (v := false) kr (decide_eq_false c17) ?_
   have hq_ := guard_some h; clear h; obtain ⟨c22, h⟩ := hq_
   have c22 : 0 < (b1.length : Int) := c22
   obtain ⟨b26, of27, cs23, hA28, hr24, hc25⟩ := HR4.at (i := 0) (by decide) c22
   obtain rfl := hr24
   refine takeGL [4, 5, 6, 7] (n := 15) (fuel := 11) #[true, true, true, true, true, true, true, true, false, false, false, false, false, false, false, false, false, false, false] rfl kr kr kr hnp (Sg.g0 (Sx.of [] fL HS16)) ?_
   refine takeGQ 8 [] rfl kr kr kr kr kr kr hnp (Sg.g0 (Sx.of [] fL HS16)) (fun w_ hw_ => by obtain ⟨g_, hl_, hS_⟩ := hw_.st; exact run_indexE hA28 (sz := 1) rfl Tryz.underlying30 kr (kv (.slice A2 b1.length c3)) (kv (.int .i64 0)) (by decide) c22 w_) ?_
   refine takeGQ 9 [] rfl kr kr kr kr kr kr hnp (Sg.g0 (Sx.of [] fL HS16)) (fun w_ hw_ => by obtain ⟨g_, hl_, hS_⟩ := hw_.st; exact run_load rfl Tryz.underlying5 rfl (kv (.pointer (some ⟨b26, of27 + (0 : Int).toNat * 1, none⟩))) ((hc25 hl_ hS_) 0 (by decide))) ?_
   have hq_ := guard_some h; clear h; obtain ⟨c29, h⟩ := hq_
   have c29 : 1 < (b1.length : Int) := c29
   obtain ⟨b33, of34, cs30, hA35, hr31, hc32⟩ := HR4.at (i := 1) (by decide) c29
   obtain rfl := hr31
   refine takeGL [10, 11, 12] (n := 9) (fuel := 6) #[true, true, true, true, true, true, true, true, true, true, true, true, true, false, false, false, false, false, false] rfl kr kr kr hnp (Sg.g0 (Sx.of [] fL HS16)) ?_
   refine takeGQ 13 [] rfl kr kr kr kr kr kr hnp (Sg.g0 (Sx.of [] fL HS16)) (fun w_ hw_ => by obtain ⟨g_, hl_, hS_⟩ := hw_.st; exact run_indexE hA35 (sz := 1) rfl Tryz.underlying30 kr (kv (.slice A2 b1.length c3)) (kv (.int .i64 1)) (by decide) c29 w_) ?_
   refine takeGQ 14 [] rfl kr kr kr kr kr kr hnp (Sg.g0 (Sx.of [] fL HS16)) (fun w_ hw_ => by obtain ⟨g_, hl_, hS_⟩ := hw_.st; exact run_load rfl Tryz.underlying5 rfl (kv (.pointer (some ⟨b33, of34 + (1 : Int).toNat * 1, none⟩))) ((hc32 hl_ hS_) 0 (by decide))) ?_
   refine takeGL [15, 16, 17, 18] (n := 4) (fuel := 0) #[true, true, true, true, true, true, true, true, true, true, true, true, true, true, true, true, true, true, true] rfl kr kr kr hnp (Sg.g0 (Sx.of [] fL HS16)) ?_
   refine doneG kr ?_ _
   refine hK14 _ _ ?_
   have hq_ := ite_some h; clear h; rcases hq_ with ⟨c37, h⟩ | ⟨c37, h⟩
   · have c37 : (w64 ((b1.length : Int) - 2)) < (Go.bits .or .i64 (w64 ((w64 ((rd b1 0))) * 2 ^ 8)) (w64 ((rd b1 1)))) := c37
     refine wpRwI 27 kr (decide_eq_true c37) ?_
     refine wpRwI 28 kr (decide_eq_true c37) ?_
     refine condT kr ?_
     refine wp_seq_k fun K38 hK39 => rl ?_
     refine seqL1 kr ?_
     refine seqK rfl (does_storeA (vs := [.int .i64 0, .int .i64 0, .slice none 0 0, .slice none 0 0]) rfl kr kr kr rfl (ones rfl) HS16 kr ?_)
     intro W40 HS41
     refine seqL1 kr ?_
     refine nl (hK39 _ _ ?_)
     refine wp_ret ?_
     refine hret _ _ ?_
     have HS168 := HS41.cons_nil
     refine ends (v := Value.tuple #[.agg #[.int .i64 0, .int .i64 0, .slice none 0 0, .slice none 0 0], .int .i64 14]) (results2 (q1 := .cell 2 25) (q2 := .tmp 3) kr (resN (n := 4) (cs := [.int .i64 0, .int .i64 0, .slice none 0 0, .slice none 0 0]) (kv (.pointer (some ⟨b7, 0, none⟩))) Tryz.underlying25 rfl kr rfl (HS168.u1.cells 0 4 _ rfl)) (resT (kv (.int .i64 14)))) kr ?_
     have HS170 := HS168.u1
     have HS171 := HS170.drop
     injection h with h
     injection h with h0_ h
     subst h0_ h
     exact ⟨f, none, 0, none, 0, [], rfl, FM.le.refl _, HS171, (SlR.nil _ _), (Own.nil _)⟩
   · have c37 : ¬ ((w64 ((b1.length : Int) - 2)) < (Go.bits .or .i64 (w64 ((w64 ((rd b1 0))) * 2 ^ 8)) (w64 ((rd b1 1))))) := c37
     refine wpRwI 27 kr (decide_eq_false c37) ?_
     refine wpRwI 28 kr (decide_eq_false c37) ?_
     refine condF kr ?_
     refine wp_skip ?_
     refine hK12 _ _ ?_
     refine wp_seq_k (fun K42 hK43 => ?_)
     refine heldG (S := Sg t f ([(b7, .cells #[.int .i64 0, .int .i64 0, .slice none 0 0, .slice none 0 0] 25 (0, 0))] :: H) []) (n := 12) kr rfl HS16 ?_
     intro W44 HS45
     refine takeGL [0] (n := 12) (fuel := 11) #[true, false, false, false, false, false, false, false, false, false, false, false] rfl kr kr kr hnp (Sg.g0 (Sx.of [] fL HS45)) ?_
     refine takeGQ 1 [] rfl kr kr kr kr kr kr hnp (Sg.g0 (Sx.of [] fL HS45)) (fun w_ hw_ => by obtain ⟨g_, hl_, hS_⟩ := hw_.st; exact run_indexE hA28 (sz := 1) rfl Tryz.underlying30 kr (kv (.slice A2 b1.length c3)) (kv (.int .i64 0)) (by decide) c22 w_) ?_
     refine takeGQ 2 [] rfl kr kr kr kr kr kr hnp (Sg.g0 (Sx.of [] fL HS45)) (fun w_ hw_ => by obtain ⟨g_, hl_, hS_⟩ := hw_.st; exact run_load rfl Tryz.underlying5 rfl (kv (.pointer (some ⟨b26, of27 + (0 : Int).toNat * 1, none⟩))) ((hc25 hl_ hS_) 0 (by decide))) ?_
     refine takeGL [3, 4, 5] (n := 9) (fuel := 6) #[true, true, true, true, true, true, false, false, false, false, false, false] rfl kr kr kr hnp (Sg.g0 (Sx.of [] fL HS45)) ?_
     refine takeGQ 6 [] rfl kr kr kr kr kr kr hnp (Sg.g0 (Sx.of [] fL HS45)) (fun w_ hw_ => by obtain ⟨g_, hl_, hS_⟩ := hw_.st; exact run_indexE hA35 (sz := 1) rfl Tryz.underlying30 kr (kv (.slice A2 b1.length c3)) (kv (.int .i64 1)) (by decide) c29 w_) ?_
     refine takeGQ 7 [] rfl kr kr kr kr kr kr hnp (Sg.g0 (Sx.of [] fL HS45)) (fun w_ hw_ => by obtain ⟨g_, hl_, hS_⟩ := hw_.st; exact run_load rfl Tryz.underlying5 rfl (kv (.pointer (some ⟨b33, of34 + (1 : Int).toNat * 1, none⟩))) ((hc32 hl_ hS_) 0 (by decide))) ?_
     refine takeGL [8, 9, 10, 11] (n := 4) (fuel := 0) #[true, true, true, true, true, true, true, true, true, true, true, true] rfl kr kr kr hnp (Sg.g0 (Sx.of [] fL HS45)) ?_
     refine doneG kr ?_ _
     refine hK43 _ _ ?_
     refine wp_seq_k fun K46 hK47 => rl ?_
     have hq_ := guard_some h; clear h; obtain ⟨c48, h⟩ := hq_
     have c48 : 2 ≤ (w64 (2 + (Go.bits .or .i64 (w64 ((w64 ((rd b1 0))) * 2 ^ 8)) (w64 ((rd b1 1)))))) := c48
     have hq_ := guard_some h; clear h; obtain ⟨c49, h⟩ := hq_
     have c49 : (w64 (2 + (Go.bits .or .i64 (w64 ((w64 ((rd b1 0))) * 2 ^ 8)) (w64 ((rd b1 1)))))) ≤ (b1.length : Int) := c49
     refine seqL2 kr ?_
     refine seqK rfl (does_cutLH (e := (tInt .u8)) (xs := b1) rfl Tryz.underlying30 kr (kv (.slice A2 b1.length c3)) (kv (.int .i64 2)) (kv (.int .i64 (w64 (2 + (Go.bits .or .i64 (w64 ((w64 ((rd b1 0))) * 2 ^ 8)) (w64 ((rd b1 1))))))))  (by decide) c48 c49 HR4 ?_)
     intro A50 c51 HR52
     have hq_ := bind_some h; clear h; obtain ⟨⟨vt53, vt54⟩, hc55, h⟩ := hq_
     refine seqK rfl (does_call (f := 19) (args := #[.slice A50 ((b1.take (w64 (2 + (Go.bits .or .i64 (w64 ((w64 ((rd b1 0))) * 2 ^ 8)) (w64 ((rd b1 1)))))).toNat).drop (2 : Int).toNat).length c51]) kr (frame_Decode.calls k A50 c51 ((b1.take (w64 (2 + (Go.bits .or .i64 (w64 ((w64 ((rd b1 0))) * 2 ^ 8)) (w64 ((rd b1 1)))))).toNat).drop (2 : Int).toNat) HS45 HR52 HA HM HT vt53 vt54 hc55) ?_)
     rintro _ W58 ⟨f56, A60, c61, A63, c64, s65, rfl, L57, HS59, HR62, HO66⟩
     refine ⟨_, rfl, ?_⟩
     refine seqL3 kr ?_
     refine seqK rfl (does_alloc (z := Value.agg #[.int .i64 0, .int .i64 0, .slice none 0 0, .slice none 0 0]) (cs := #[.int .i64 0, .int .i64 0, .slice none 0 0, .slice none 0 0]) rfl kr rfl HS59 ?_)
     intro b68 W69 HS70
     refine seqK rfl (does_storeA (vs := [.int .i64 vt53.W, .int .i64 vt53.H, .slice A60 vt53.Cards.length c61, .slice A63 vt53.Counts.length c64]) rfl kr kr kr rfl (ones rfl) HS70 kr ?_)
     intro W72 HS73
     refine seqL1 kr ?_
     refine nl (hK47 _ _ ?_)
     refine wp_seq_k (fun K74 hK75 => ?_)
     refine wp_seq_k fun K76 hK77 => rl ?_
     refine seqL2 kr ?_
     refine nl (hK77 _ _ ?_)
     have hq_ := ite_some h; clear h; rcases hq_ with ⟨c79, h⟩ | ⟨c79, h⟩
     · have c79 : vt54 ≠ 0 := c79
       refine wpRwI 49 kr (bne_iff_ne.mpr c79) ?_
       refine condT kr ?_
       refine wp_seq_k fun K80 hK81 => rl ?_
       have HS82 := HS73.u2
       refine seqL2 kr ?_
       refine seqK rfl (does_storeA (vs := [.int .i64 0, .int .i64 0, .slice none 0 0, .slice none 0 0]) rfl kr kr kr rfl (ones rfl) HS82 kr ?_)
       intro W83 HS84
       refine seqL1 kr ?_
       refine nl (hK81 _ _ ?_)
       refine wp_ret ?_
       refine hret _ _ ?_
       have HS172 := HS84.cons_nil
       refine ends (v := Value.tuple #[.agg #[.int .i64 0, .int .i64 0, .slice none 0 0, .slice none 0 0], .int .i64 vt54]) (results2 (q1 := .cell 2 25) (q2 := .tmp 3) kr (resN (n := 4) (cs := [.int .i64 0, .int .i64 0, .slice none 0 0, .slice none 0 0]) (kv (.pointer (some ⟨b7, 0, none⟩))) Tryz.underlying25 rfl kr rfl (HS172.u1.cells 0 4 _ rfl)) (resT (kv (.int .i64 vt54)))) kr ?_
       have HS176 := HS172.u3.u3.u3
       have HS177 := HS176.drop
       have HS178 := HS177.drop
       have HS179 := HS178.drop
       injection h with h
       injection h with h0_ h
       subst h0_ h
       exact ⟨f56, none, 0, none, 0, [], rfl, L57, HS179, (SlR.nil _ _), (Own.nil _)⟩
     · have c79 : ¬ (vt54 ≠ 0) := c79
       refine wpRwI 49 (x := (vt54 != 0)) (v := false) kr (bne_eq_false_iff_eq.mpr (Decidable.of_not_not c79)) ?_
       refine condF kr ?_
       refine wp_skip ?_
       refine hK75 _ _ ?_
       refine wp_seq_k fun K85 hK86 => rl ?_
       have hq_ := guard_some h; clear h; obtain ⟨c87, h⟩ := hq_
       have c87 : 0 ≤ (w64 (2 + (Go.bits .or .i64 (w64 ((w64 ((rd b1 0))) * 2 ^ 8)) (w64 ((rd b1 1)))))) := c87
       refine seqL2 kr ?_
       refine seqK rfl (does_cutL (e := (tInt .u8)) (xs := b1) rfl Tryz.underlying30 kr (kv (.slice A2 b1.length c3)) (kv (.int .i64 (w64 (2 + (Go.bits .or .i64 (w64 ((w64 ((rd b1 0))) * 2 ^ 8)) (w64 ((rd b1 1)))))))) c87 c49 HR4 ?_)
       intro A88 c89 HR90
       have hq_ := bind_some h; clear h; obtain ⟨⟨vt91, vt92, vt93, vt94⟩, hc95, h⟩ := hq_
       refine seqK rfl (does_call (f := 20) (args := #[.slice A88 (b1.drop (w64 (2 + (Go.bits .or .i64 (w64 ((w64 ((rd b1 0))) * 2 ^ 8)) (w64 ((rd b1 1)))))).toNat).length c89]) kr (squeeze_Unpack.calls k A88 c89 (b1.drop (w64 (2 + (Go.bits .or .i64 (w64 ((w64 ((rd b1 0))) * 2 ^ 8)) (w64 ((rd b1 1)))))).toNat) HS73 (HR90.mono L57) vt91 vt92 vt93 vt94 hc95) ?_)
       rintro _ W98 ⟨f96, A100, c101, s102, rfl, L97, HS99, HO103⟩
       refine ⟨_, rfl, ?_⟩
       refine seqL9 kr ?_
       refine nl (hK86 _ _ ?_)
       refine wp_seq_k (fun K105 hK106 => ?_)
       refine wp_seq_k fun K107 hK108 => rl ?_
       refine seqL2 kr ?_
       refine nl (hK108 _ _ ?_)
       have hq_ := ite_some h; clear h; rcases hq_ with ⟨c110, h⟩ | ⟨c110, h⟩
       · have c110 : vt94 ≠ 0 := c110
         refine wpRwI 62 kr (bne_iff_ne.mpr c110) ?_
         refine condT kr ?_
         refine wp_seq_k fun K111 hK112 => rl ?_
         have HS113 := HS99.u3
         refine seqL2 kr ?_
         refine seqK rfl (does_storeA (vs := [.int .i64 0, .int .i64 0, .slice none 0 0, .slice none 0 0]) rfl kr kr kr rfl (ones rfl) HS113 kr ?_)
         intro W114 HS115
         refine seqL1 kr ?_
         refine nl (hK112 _ _ ?_)
         refine wp_ret ?_
         refine hret _ _ ?_
         have HS180 := HS115.cons_nil
         refine ends (v := Value.tuple #[.agg #[.int .i64 0, .int .i64 0, .slice none 0 0, .slice none 0 0], .int .i64 vt94]) (results2 (q1 := .cell 2 25) (q2 := .tmp 3) kr (resN (n := 4) (cs := [.int .i64 0, .int .i64 0, .slice none 0 0, .slice none 0 0]) (kv (.pointer (some ⟨b7, 0, none⟩))) Tryz.underlying25 rfl kr rfl (HS180.u1.cells 0 4 _ rfl)) (resT (kv (.int .i64 vt94)))) kr ?_
         have HS185 := HS180.u4.u4.u4.u4
         have HS186 := HS185.drop
         have HS187 := HS186.drop
         have HS188 := HS187.drop
         have HS189 := HS188.drop
         injection h with h
         injection h with h0_ h
         subst h0_ h
         exact ⟨f96, none, 0, none, 0, [], rfl, (L57.trans L97), HS189, (SlR.nil _ _), (Own.nil _)⟩
       · have c110 : ¬ (vt94 ≠ 0) := c110
         refine wpRwI 62 (x := (vt94 != 0)) (v := false) kr (bne_eq_false_iff_eq.mpr (Decidable.of_not_not c110)) ?_
         refine condF kr ?_
         refine wp_skip ?_
         refine hK106 _ _ ?_
         refine wp_seq_k (fun K116 hK117 => ?_)
         refine wp_seq_k fun K118 hK119 => rl ?_
         refine seqL2 kr ?_
         refine seqK rfl (does_run (run_load rfl Tryz.underlying3 rfl (kv (.pointer (some ⟨b68, 0, none⟩))) (HS99.u1.cell 0)) ?_)
         refine seqL2 kr ?_
         have hq_ := ite_some h; clear h; rcases hq_ with ⟨c120, h⟩ | ⟨c120, h⟩
         · have c120 : vt91 ≠ vt53.W := c120
           refine seqRwI 68 kr (bne_iff_ne.mpr c120) ?_
           refine seqRwI 69 kr (bne_iff_ne.mpr c120) ?_
           refine seqL10 kr ?_
           refine nl (hK119 _ _ ?_)
           refine condT kr ?_
           refine wp_seq_k fun K121 hK122 => rl ?_
           have HS123 := HS99.u3
           refine seqL1 kr ?_
           refine seqK rfl (does_storeA (vs := [.int .i64 0, .int .i64 0, .slice none 0 0, .slice none 0 0]) rfl kr kr kr rfl (ones rfl) HS123 kr ?_)
           intro W124 HS125
           refine seqS1 (a' := ⟨#[.slice A2 b1.length c3, uV, pV b7 0, iV 3, iV (w64 (2 + (Go.bits .or .i64 (w64 ((w64 ((rd b1 0))) * 2 ^ 8)) (w64 ((rd b1 1)))))), pV b68 0, iV vt94, iV vt91, iV vt92, .slice A100 vt93.length c101, .slice A2 b1.length c3, iV (b1.length : Int), fV, fV, .slice A2 b1.length c3, iV (b1.length : Int), iV (w64 ((b1.length : Int) - 2)), .slice A2 b1.length c3, pV b26 (of27 + (0 : Int).toNat * 1), .int .u8 (rd b1 0), iV (w64 ((rd b1 0))), iV (w64 ((w64 ((rd b1 0))) * 2 ^ 8)), .slice A2 b1.length c3, pV b33 (of34 + (1 : Int).toNat * 1), .int .u8 (rd b1 1), iV (w64 ((rd b1 1))), iV (Go.bits .or .i64 (w64 ((w64 ((rd b1 0))) * 2 ^ 8)) (w64 ((rd b1 1)))), fV, fV, uV, .slice A2 b1.length c3, pV b26 (of27 + (0 : Int).toNat * 1), .int .u8 (rd b1 0), iV (w64 ((rd b1 0))), iV (w64 ((w64 ((rd b1 0))) * 2 ^ 8)), .slice A2 b1.length c3, pV b33 (of34 + (1 : Int).toNat * 1), .int .u8 (rd b1 1), iV (w64 ((rd b1 1))), iV (Go.bits .or .i64 (w64 ((w64 ((rd b1 0))) * 2 ^ 8)) (w64 ((rd b1 1)))), iV (w64 (2 + (Go.bits .or .i64 (w64 ((w64 ((rd b1 0))) * 2 ^ 8)) (w64 ((rd b1 1)))))), .tuple #[(ag_Frame vt53 A60 c61 A63 c64), iV vt54], .slice A2 b1.length c3, iV (w64 (2 + (Go.bits .or .i64 (w64 ((w64 ((rd b1 0))) * 2 ^ 8)) (w64 ((rd b1 1)))))), .slice A50 ((b1.take (w64 (2 + (Go.bits .or .i64 (w64 ((w64 ((rd b1 0))) * 2 ^ 8)) (w64 ((rd b1 1)))))).toNat).drop (2 : Int).toNat).length c51, .tuple #[(ag_Frame vt53 A60 c61 A63 c64), iV vt54], (ag_Frame vt53 A60 c61 A63 c64), iV vt54, iV vt54, fV, uV, uV, .tuple #[iV vt91, iV vt92, .slice A100 vt93.length c101, iV vt94], .slice A2 b1.length c3, iV (w64 (2 + (Go.bits .or .i64 (w64 ((w64 ((rd b1 0))) * 2 ^ 8)) (w64 ((rd b1 1)))))), .slice A88 (b1.drop (w64 (2 + (Go.bits .or .i64 (w64 ((w64 ((rd b1 0))) * 2 ^ 8)) (w64 ((rd b1 1)))))).toNat).length c89, .tuple #[iV vt91, iV vt92, .slice A100 vt93.length c101, iV vt94], iV vt91, iV vt92, .slice A100 vt93.length c101, iV vt94, iV vt94, fV, uV, uV, iV vt91, pV b68 0, iV vt53.W, tV, tV, uV, uV, uV, uV, tV, tV, uV, uV, uV, tV, .agg #[iV 0, iV 0, .slice none 0 0, .slice none 0 0], uV, uV, uV], []⟩) kr ?_
           refine nl (hK122 _ _ ?_)
           refine wp_ret ?_
           refine hret _ _ ?_
           have HS190 := HS125.cons_nil
           refine ends (v := Value.tuple #[.agg #[.int .i64 0, .int .i64 0, .slice none 0 0, .slice none 0 0], .int .i64 3]) (results2 (q1 := .cell 2 25) (q2 := .tmp 3) kr (resN (n := 4) (cs := [.int .i64 0, .int .i64 0, .slice none 0 0, .slice none 0 0]) (kv (.pointer (some ⟨b7, 0, none⟩))) Tryz.underlying25 rfl kr rfl (HS190.u1.cells 0 4 _ rfl)) (resT (kv (.int .i64 3)))) kr ?_
           have HS195 := HS190.u4.u4.u4.u4
           have HS196 := HS195.drop
           have HS197 := HS196.drop
           have HS198 := HS197.drop
           have HS199 := HS198.drop
           injection h with h
           injection h with h0_ h
           subst h0_ h
           exact ⟨f96, none, 0, none, 0, [], rfl, (L57.trans L97), HS199, (SlR.nil _ _), (Own.nil _)⟩
         · have c120 : ¬ (vt91 ≠ vt53.W) := c120
           refine seqRwI 68 (x := (vt91 != vt53.W)) (v := false) kr (bne_eq_false_iff_eq.mpr (Decidable.of_not_not c120)) ?_
           refine seqRwI 69 (x := (vt91 != vt53.W)) (v := false) kr (bne_eq_false_iff_eq.mpr (Decidable.of_not_not c120)) ?_
           refine seqL2 kr ?_
           refine seqG kr (does_run (run_load rfl Tryz.underlying3 rfl (kv (.pointer (some ⟨b68, 1, none⟩))) (HS99.u1.cell 1)) ?_)
           refine seqL3 kr ?_
           have hq_ := ite_some h; clear h; rcases hq_ with ⟨c126, h⟩ | ⟨c126, h⟩
           · have c126 : vt92 ≠ vt53.H := c126
             refine seqRwI 73 kr (bne_iff_ne.mpr c126) ?_
             refine seqRwI 74 kr (bne_iff_ne.mpr c126) ?_
             refine seqRwI 75 kr (bne_iff_ne.mpr c126) ?_
             refine seqL4 kr ?_
             refine nl (hK119 _ _ ?_)
             refine condT kr ?_
             refine wp_seq_k fun K127 hK128 => rl ?_
             have HS129 := HS99.u3
             refine seqL1 kr ?_
             refine seqK rfl (does_storeA (vs := [.int .i64 0, .int .i64 0, .slice none 0 0, .slice none 0 0]) rfl kr kr kr rfl (ones rfl) HS129 kr ?_)
             intro W130 HS131
             refine seqL1 kr ?_
             refine nl (hK128 _ _ ?_)
             refine wp_ret ?_
             refine hret _ _ ?_
             have HS200 := HS131.cons_nil
             refine ends (v := Value.tuple #[.agg #[.int .i64 0, .int .i64 0, .slice none 0 0, .slice none 0 0], .int .i64 3]) (results2 (q1 := .cell 2 25) (q2 := .tmp 3) kr (resN (n := 4) (cs := [.int .i64 0, .int .i64 0, .slice none 0 0, .slice none 0 0]) (kv (.pointer (some ⟨b7, 0, none⟩))) Tryz.underlying25 rfl kr rfl (HS200.u1.cells 0 4 _ rfl)) (resT (kv (.int .i64 3)))) kr ?_
             have HS205 := HS200.u4.u4.u4.u4
             have HS206 := HS205.drop
             have HS207 := HS206.drop
             have HS208 := HS207.drop
             have HS209 := HS208.drop
             injection h with h
             injection h with h0_ h
             subst h0_ h
             exact ⟨f96, none, 0, none, 0, [], rfl, (L57.trans L97), HS209, (SlR.nil _ _), (Own.nil _)⟩
           · have c126 : ¬ (vt92 ≠ vt53.H) := c126
             refine seqRwI 73 (x := (vt92 != vt53.H)) (v := false) kr (bne_eq_false_iff_eq.mpr (Decidable.of_not_not c126)) ?_
             refine seqRwI 74 (x := (vt92 != vt53.H)) (v := false) kr (bne_eq_false_iff_eq.mpr (Decidable.of_not_not c126)) ?_
             refine seqRwI 75 (x := (vt92 != vt53.H)) (v := false) kr (bne_eq_false_iff_eq.mpr (Decidable.of_not_not c126)) ?_
             refine seqL1 kr ?_
             refine seqG kr (does_run (run_load rfl Tryz.underlying22 rfl (kv (.pointer (some ⟨b68, 3, none⟩))) (HS99.u1.cell 3)) ?_)
             have HS132 := HS99.u2
             obtain ⟨f133, L134, HS135, HR136, th137⟩ := (HO66.mono L97).lend HS132
             have hq_ := bind_some h; clear h; obtain ⟨vt138, hc139, h⟩ := hq_
             refine seqG kr (does_call (f := 21) (args := #[.slice A63 vt53.Counts.length c64, .func (.func 22) #[] #[]]) kr (slices_ContainsFunc_int__squeeze_Load_1.calls k A63 c64 vt53.Counts HS135 HR136 vt138 hc139) ?_)
             rintro _ W142 ⟨f140, rfl, L141, HS143⟩
             refine ⟨_, rfl, ?_⟩
             obtain ⟨f144, L145, HS146⟩ := th137 L141 HS143
             refine seqL1 kr ?_
             refine nl (hK119 _ _ ?_)
             have hq_ := ite_some h; clear h; rcases hq_ with ⟨c148, h⟩ | ⟨c148, h⟩
             · have c148 : vt138 = true := c148
               refine wpRwI 78 kr c148 ?_
               refine wpRwI 79 kr c148 ?_
               refine condT kr ?_
               refine wp_seq_k fun K149 hK150 => rl ?_
               have HS151 := HS146.u3
               refine seqL1 kr ?_
               refine seqK rfl (does_storeA (vs := [.int .i64 0, .int .i64 0, .slice none 0 0, .slice none 0 0]) rfl kr kr kr rfl (ones rfl) HS151 kr ?_)
               intro W152 HS153
               refine seqL1 kr ?_
               refine nl (hK150 _ _ ?_)
               refine wp_ret ?_
               refine hret _ _ ?_
               have HS210 := HS153.cons_nil
               refine ends (v := Value.tuple #[.agg #[.int .i64 0, .int .i64 0, .slice none 0 0, .slice none 0 0], .int .i64 3]) (results2 (q1 := .cell 2 25) (q2 := .tmp 3) kr (resN (n := 4) (cs := [.int .i64 0, .int .i64 0, .slice none 0 0, .slice none 0 0]) (kv (.pointer (some ⟨b7, 0, none⟩))) Tryz.underlying25 rfl kr rfl (HS210.u1.cells 0 4 _ rfl)) (resT (kv (.int .i64 3)))) kr ?_
               have HS215 := HS210.u4.u4.u4.u4
               have HS216 := HS215.drop
               have HS217 := HS216.drop
               have HS218 := HS217.drop
               have HS219 := HS218.drop
               injection h with h
               injection h with h0_ h
               subst h0_ h
               exact ⟨f144, none, 0, none, 0, [], rfl, (L57.trans (L97.trans L145)), HS219, (SlR.nil _ _), (Own.nil _)⟩
             · have c148 : ¬ (vt138 = true) := c148
               refine wpRwI 78 kr (Bool.eq_false_iff.mpr c148) ?_
               refine wpRwI 79 kr (Bool.eq_false_iff.mpr c148) ?_
               refine condF kr ?_
               refine wp_skip ?_
               refine hK117 _ _ ?_
               refine wp_seq_k fun K154 hK155 => rl ?_
               have HS156 := HS146.u2
               refine seqL2 kr ?_
               refine seqK rfl (does_store (n := 1) (vs := [.slice A100 vt93.length c101]) (cs' := #[.int .i64 vt53.W, .int .i64 vt53.H, .slice A60 vt53.Cards.length c61, .slice A100 vt93.length c101]) rfl kr (kv (.pointer (some ⟨b68, 3, none⟩))) (kv (.slice A100 vt93.length c101)) rfl rfl (ones rfl) HS156 (Nat.le_of_ble_eq_true rfl) kr ?_)
               intro W157 HS158
               refine nl (hK155 _ _ ?_)
               refine wp_seq_k fun K159 hK160 => rl ?_
               refine seqK rfl (does_run (run_loadN (n := 4) rfl Tryz.underlying25 rfl kr (kv (.pointer (some ⟨b68, 0, none⟩))) (cs := [.int .i64 vt53.W, .int .i64 vt53.H, .slice A60 vt53.Cards.length c61, .slice A100 vt93.length c101]) rfl (HS158.cells 0 4 _ rfl)) ?_)
               have HS161 := HS158.u3
               refine seqK rfl (does_storeA (vs := [.int .i64 vt53.W, .int .i64 vt53.H, .slice A60 vt53.Cards.length c61, .slice A100 vt93.length c101]) rfl kr kr kr rfl (ones rfl) HS161 kr ?_)
               intro W162 HS163
               refine seqL1 kr ?_
               refine nl (hK160 _ _ ?_)
               refine wp_ret ?_
               refine hret _ _ ?_
               refine ends (v := Value.tuple #[.agg #[.int .i64 vt53.W, .int .i64 vt53.H, .slice A60 vt53.Cards.length c61, .slice A100 vt93.length c101], .int .i64 0]) (results2 (q1 := .cell 2 25) (q2 := .tmp 3) kr (resN (n := 4) (cs := [.int .i64 vt53.W, .int .i64 vt53.H, .slice A60 vt53.Cards.length c61, .slice A100 vt93.length c101]) (kv (.pointer (some ⟨b7, 0, none⟩))) Tryz.underlying25 rfl kr rfl (HS163.cells 0 4 _ rfl)) (resT (kv (.int .i64 0)))) kr ?_
               have HS220 := HS163.drop
               have HS221 := HS220.drop
               have HS222 := HS221.drop
               injection h with h
               injection h with h0_ h
               subst h0_ h
               exact ⟨f144, A60, c61, A100, c101, s102, rfl, (L57.trans (L97.trans L145)), HS222, (HR62.mono (L97.trans L145)), (HO103.mono L145)⟩

set_option maxRecDepth 100000 in
set_option maxHeartbeats 4000000 in
theorem slices_Equal_int.calls (k : Nat) (A2 : Option Addr) (c3 : Nat) (A6 : Option Addr) (c7 : Nat) (s11 : List Int) (s25 : List Int) {t w : World} {f : FM} {H : List Seg} (HS : St t w f (H)) (HR4 : SlR (tInt .i64) f A2 c3 s11) (HR8 : SlR (tInt .i64) f A6 c7 s25) (rr1 : Bool) (h : slices_Equal_int k s11 s25 = some rr1) :
    Calls Tryz.prog 24 #[.slice A2 s11.length c3, .slice A6 s25.length c7] w (fun e w' => ∃ (g : FM), e = .returned (Value.bool rr1) ∧ FM.le f g ∧ St t w' g (H)) := by
 unfold slices_Equal_int at h
 refine enter Tryz.func24 rfl (tm := #[.slice A2 s11.length c3, .slice A6 s25.length c7, uV, uV, uV, uV, uV, uV, uV, uV, uV, uV, uV, uV, uV, uV, uV, uV, uV, uV, uV, uV, uV, uV, uV, uV]) kr ?_
 intro B hret hnor hnp
 refine wp_seq_k fun K9 hK10 => rl ?_
 refine seqL1 kr ?_
 refine nl (hK10 _ _ ?_)
 refine wp_seq_k (fun K11 hK12 => ?_)
 refine wp_seq_k fun K13 hK14 => rl ?_
 refine seqL5 kr ?_
 refine nl (hK14 _ _ ?_)
 have hq_ := ite_some h; clear h; rcases hq_ with ⟨c16, h⟩ | ⟨c16, h⟩
 · have c16 : (s11.length : Int) ≠ (s25.length : Int) := c16
   refine wpRwI 10 kr (bne_iff_ne.mpr c16) ?_
   refine condT kr ?_
   refine wp_seq_k fun K17 hK18 => rl ?_
   refine seqL1 kr ?_
   refine nl (hK18 _ _ ?_)
   refine wp_ret ?_
   refine hret _ _ ?_
   refine ends_still (v := Value.bool false) kr kr ?_
   injection h with h
   subst h
   exact ⟨f, rfl, FM.le.refl _, HS⟩
 · have c16 : ¬ ((s11.length : Int) ≠ (s25.length : Int)) := c16
   refine wpRwI 10 (x := ((s11.length : Int) != (s25.length : Int))) (v := false) kr (bne_eq_false_iff_eq.mpr (Decidable.of_not_not c16)) ?_
   refine condF kr ?_
   refine wp_skip ?_
   refine hK12 _ _ ?_
   refine wp_seq_k (fun K19 hK20 => ?_)
   refine wp_seq_k fun K21 hK22 => rl ?_
   refine seqL3 kr ?_
   refine nl (hK22 _ _ ?_)
   refine blockK (fun B23 hx24 hn25 hr26 ho27 hp28 => ?_)
   have hq_ := bind_some h; clear h; obtain ⟨o29, hv83, h⟩ := hq_
   have JR85 : ∀ z_, some (Sum.inl z_) = some o29 → some z_ = some rr1 := by
    intro z_ e_; injection e_ with e_; subst e_; exact h
   have J84 : ∀ (f78 : FM) (j82 : Nat → Value) (W80 : World) (a_ : Act), FM.le f f78 → some (Sum.inr ()) = some o29 → St t W80 f78 (H) → a_ = ⟨#[.slice A2 s11.length c3, .slice A6 s25.length c7, uV, uV, (j82 0), (j82 1), .slice A2 s11.length c3, iV (s11.length : Int), .slice A6 s25.length c7, iV (s25.length : Int), fV, .slice A2 s11.length c3, iV (s11.length : Int), (j82 2), (j82 3), (j82 4), (j82 5), (j82 6), (j82 7), (j82 8), (j82 9), (j82 10), (j82 11), (j82 12), (j82 13), (j82 14)], []⟩ → K19 a_ W80 := by
    intro f78 j82 W80 a_ L79 hj86 HS81  hfr_; subst hfr_
    injection hj86 with hj86; subst hj86; try dsimp only at h
    simp only [Sum.elim_inr] at h
    refine hK20 _ _ ?_
    refine wp_seq_k fun K87 hK88 => rl ?_
    refine seqL1 kr ?_
    refine nl (hK88 _ _ ?_)
    refine wp_ret ?_
    refine hret _ _ ?_
    refine ends_still (v := Value.bool true) kr kr ?_
    injection h with h
    subst h
    exact ⟨f78, rfl, L79, HS81⟩
   clear h; have h := hv83; clear hv83
   refine loopK (fun n_ a_ w_ => ∃ (f33 : FM) (x38 : Int) (j37 : Nat → Value), FM.le f f33 ∧ St t w_ f33 (H) ∧ slices_Equal_int.l0 k s11 s25 n_ x38 = some o29 ∧ a_ = ⟨#[.slice A2 s11.length c3, .slice A6 s25.length c7, uV, uV, (j37 0), (j37 1), .slice A2 s11.length c3, iV (s11.length : Int), .slice A6 s25.length c7, iV (s25.length : Int), fV, .slice A2 s11.length c3, iV (s11.length : Int), iV x38, (j37 2), (j37 3), (j37 4), (j37 5), (j37 6), (j37 7), (j37 8), (j37 9), (j37 10), (j37 11), (j37 12), (j37 13)], []⟩) k ⟨f, 0, (jL [fV]), fL, HS, h, kr⟩ ?_
   clear h
   rintro n32 _ W35 ⟨f33, x38, j37, L34, HS36, h, rfl⟩ K30 hK31
   obtain _ | n32 := n32
   · exact nomatch h
   simp only [slices_Equal_int.l0] at h
   refine wp_seq_k fun K39 hK40 => rl ?_
   refine seqL1 kr ?_
   refine nl (hK40 _ _ ?_)
   refine wp_seq_k (fun K41 hK42 => ?_)
   have hq_ := ite_some h; clear h; rcases hq_ with ⟨c44, h⟩ | ⟨c44, h⟩
   · have c44 : x38 < (s11.length : Int) := c44
     refine wpRwI 14 kr (decide_eq_true c44) ?_
     refine condT kr ?_
     refine wp_skip ?_
     refine hK42 _ _ ?_
     refine wp_seq_k (fun K45 hK46 => ?_)
     refine blockK (fun B47 hx48 hn49 hr50 ho51 hp52 => ?_)
     refine wp_seq_k fun K54 hK55 => rl ?_
     refine seqL2 kr ?_
     refine nl (hK55 _ _ ?_)
     refine wp_seq_k (fun K56 hK57 => ?_)
     refine heldG (S := Sg t f33 (H) []) (n := 9) kr rfl HS36 ?_
     intro W58 HS59
     have hq_ := guard_some h; clear h; obtain ⟨c60, h⟩ := hq_
     have c60 : 0 ≤ x38 := c60
     obtain ⟨b64, of65, cs61, hA66, hr62, hc63⟩ := (HR4.mono L34).at (i := x38) c60 c44
     obtain rfl := hr62
     refine takeGL [0, 1] (n := 9) (fuel := 7) #[true, true, false, false, false, false, false, false, false] rfl kr kr kr (fun ch_ a_ w_ q_ => (fun ch_ a_ w_ q_ => hnp ch_ a_ w_ (hp28 ch_ a_ w_ q_)) ch_ a_ w_ (hp52 ch_ a_ w_ q_)) (Sg.g0 (Sx.of [] fL HS59)) ?_
     refine takeGQ 2 [] rfl kr kr kr kr kr kr (fun ch_ a_ w_ q_ => (fun ch_ a_ w_ q_ => hnp ch_ a_ w_ (hp28 ch_ a_ w_ q_)) ch_ a_ w_ (hp52 ch_ a_ w_ q_)) (Sg.g0 (Sx.of [] fL HS59)) (fun w_ hw_ => by obtain ⟨g_, hl_, hS_⟩ := hw_.st; exact run_indexE hA66 (sz := 1) rfl Tryz.underlying22 kr (kv (.slice A2 s11.length c3)) (kv (.int .i64 x38)) c60 c44 w_) ?_
     refine takeGQ 3 [] rfl kr kr kr kr kr kr (fun ch_ a_ w_ q_ => (fun ch_ a_ w_ q_ => hnp ch_ a_ w_ (hp28 ch_ a_ w_ q_)) ch_ a_ w_ (hp52 ch_ a_ w_ q_)) (Sg.g0 (Sx.of [] fL HS59)) (fun w_ hw_ => by obtain ⟨g_, hl_, hS_⟩ := hw_.st; exact run_load rfl Tryz.underlying3 rfl (kv (.pointer (some ⟨b64, of65 + (x38 : Int).toNat * 1, none⟩))) ((hc63 hl_ hS_) 0 (by decide))) ?_
     have hq_ := guard_some h; clear h; obtain ⟨c67, h⟩ := hq_
     have c67 : x38 < (s25.length : Int) := c67
     obtain ⟨b71, of72, cs68, hA73, hr69, hc70⟩ := (HR8.mono L34).at (i := x38) c60 c67
     obtain rfl := hr69
     refine takeGL [4, 5] (n := 5) (fuel := 3) #[true, true, true, true, true, true, false, false, false] rfl kr kr kr (fun ch_ a_ w_ q_ => (fun ch_ a_ w_ q_ => hnp ch_ a_ w_ (hp28 ch_ a_ w_ q_)) ch_ a_ w_ (hp52 ch_ a_ w_ q_)) (Sg.g0 (Sx.of [] fL HS59)) ?_
     refine takeGQ 6 [] rfl kr kr kr kr kr kr (fun ch_ a_ w_ q_ => (fun ch_ a_ w_ q_ => hnp ch_ a_ w_ (hp28 ch_ a_ w_ q_)) ch_ a_ w_ (hp52 ch_ a_ w_ q_)) (Sg.g0 (Sx.of [] fL HS59)) (fun w_ hw_ => by obtain ⟨g_, hl_, hS_⟩ := hw_.st; exact run_indexE hA73 (sz := 1) rfl Tryz.underlying22 kr (kv (.slice A6 s25.length c7)) (kv (.int .i64 x38)) c60 c67 w_) ?_
     refine takeGQ 7 [] rfl kr kr kr kr kr kr (fun ch_ a_ w_ q_ => (fun ch_ a_ w_ q_ => hnp ch_ a_ w_ (hp28 ch_ a_ w_ q_)) ch_ a_ w_ (hp52 ch_ a_ w_ q_)) (Sg.g0 (Sx.of [] fL HS59)) (fun w_ hw_ => by obtain ⟨g_, hl_, hS_⟩ := hw_.st; exact run_load rfl Tryz.underlying3 rfl (kv (.pointer (some ⟨b71, of72 + (x38 : Int).toNat * 1, none⟩))) ((hc70 hl_ hS_) 0 (by decide))) ?_
     refine takeGL [8] (n := 1) (fuel := 0) #[true, true, true, true, true, true, true, true, true] rfl kr kr kr (fun ch_ a_ w_ q_ => (fun ch_ a_ w_ q_ => hnp ch_ a_ w_ (hp28 ch_ a_ w_ q_)) ch_ a_ w_ (hp52 ch_ a_ w_ q_)) (Sg.g0 (Sx.of [] fL HS59)) ?_
     refine doneG kr ?_ _
     refine hK57 _ _ ?_
     have hq_ := ite_some h; clear h; rcases hq_ with ⟨c75, h⟩ | ⟨c75, h⟩
     · have c75 : (rd s11 x38) ≠ (rd s25 x38) := c75
       refine wpRwI 24 kr (bne_iff_ne.mpr c75) ?_
       refine condT kr ?_
       refine wp_seq_k fun K76 hK77 => rl ?_
       refine seqL1 kr ?_
       refine nl (hK77 _ _ ?_)
       refine wp_ret ?_
       refine hr50 _ _ ?_
       refine hr26 _ _ ?_
       refine hret _ _ ?_
       refine ends_still (v := Value.bool false) kr kr ?_
       replace h := JR85 _ h
       injection h with h
       subst h
       exact ⟨f33, rfl, L34, HS59⟩
     · have c75 : ¬ ((rd s11 x38) ≠ (rd s25 x38)) := c75
       refine wpRwI 24 (x := ((rd s11 x38) != (rd s25 x38))) (v := false) kr (bne_eq_false_iff_eq.mpr (Decidable.of_not_not c75)) ?_
       refine condF kr ?_
       refine wp_skip ?_
       refine hn49 _ _ ?_
       refine hK46 _ _ ?_
       refine rl ?_
       refine seqL2 kr ?_
       refine nl ?_
       refine hK31 n32 _ _ (Nat.lt_succ_self _) ?_
       exact ⟨f33, (w64 (x38 + 1)), (jL [(j37 0), iV x38, tV, iV x38, .slice A2 s11.length c3, iV x38, .pointer (some ⟨b64, of65 + (x38 : Int).toNat * 1, none⟩), iV (rd s11 x38), .slice A6 s25.length c7, iV x38, .pointer (some ⟨b71, of72 + (x38 : Int).toNat * 1, none⟩), iV (rd s25 x38), fV, iV (w64 (x38 + 1))]), L34, HS59, h, kr⟩
   · have c44 : ¬ (x38 < (s11.length : Int)) := c44
     refine wpRwI 14 kr (decide_eq_false c44) ?_
     refine condF kr ?_
     refine wp_exit ?_
     refine hx24 _ _ ?_
     exact J84 f33 (jL [(j37 0), (j37 1), iV x38, fV, (j37 3), (j37 4), (j37 5), (j37 6), (j37 7), (j37 8), (j37 9), (j37 10), (j37 11), (j37 12), (j37 13)]) W35 _ L34 h HS36 kr

set_option maxRecDepth 100000 in
set_option maxHeartbeats 4000000 in
theorem spykeep3_squeezed.calls (k : Nat)   {t w : World} {f : FM} {H : List Seg} (HS : St t w f (H)) (rr1 : Bool) (h : spykeep3_squeezed k = some rr1) :
    Calls Tryz.prog 7 #[] w (fun e w' => ∃ (g : FM), e = .returned (Value.bool rr1) ∧ FM.le f g ∧ St t w' g (H)) := by
 unfold spykeep3_squeezed at h
 refine enter Tryz.func7 rfl (tm := #[uV, uV, uV, uV, uV, uV, uV, uV, uV, uV, uV, uV, uV, uV, uV, uV, uV, uV, uV, uV, uV, uV, uV, uV, uV, uV]) kr ?_
 intro B hret hnor hnp
 refine wp_seq_k fun K1 hK2 => rl ?_
 refine seqL1 kr ?_
 refine nl (hK2 _ _ ?_)
 refine wp_seq_k fun K3 hK4 => rl ?_
 refine seqK rfl (does_lit (e := (tInt .i64)) (E := 3) (vs := #[(0, Value.int .i64 1), (1, Value.int .i64 1), (2, Value.int .i64 7), (3, Value.int .i64 8)]) (cs := #[.int .i64 1, .int .i64 1, .int .i64 7, .int .i64 8]) (xs := ([1, 1, 7, 8] : List Int)) rfl Tryz.underlying22 kr kr ⟨[.int .i64 1], _, rfl, rfl, ⟨[.int .i64 1], _, rfl, rfl, ⟨[.int .i64 7], _, rfl, rfl, ⟨[.int .i64 8], _, rfl, rfl, rfl⟩⟩⟩⟩ rfl HS ?_ (by decide))
 intro b5 W6 s7 HS8 _ HO9
 obtain ⟨f11, L12, HS13, HR14, th15⟩ := HO9.lend HS8
 have hq_ := bind_some h; clear h; obtain ⟨⟨vt16, vt17⟩, hc18, h⟩ := hq_
 refine seqK rfl (does_call (f := 17) (args := #[.int .i64 2, .int .i64 2, .slice (some ⟨b5, 0, none⟩) ([1, 1, 7, 8] : List Int).length 4]) kr (squeeze_Pack.calls k (some ⟨b5, 0, none⟩) 4 2 2 ([1, 1, 7, 8] : List Int) HS13 HR14 vt16 vt17 hc18) ?_)
 rintro _ W21 ⟨f19, A23, c24, s25, rfl, L20, HS22, HO26⟩
 refine ⟨_, rfl, ?_⟩
 obtain ⟨f28, L29, HS30⟩ := th15 L20 HS22
 replace HO26 := HO26.flat (g := f28) (fun _ _ _ _ h_ => h_)
 refine seqL5 kr ?_
 refine nl (hK4 _ _ ?_)
 refine wp_seq_k fun K31 hK32 => rl ?_
 have HS33 := HS30.u1
 obtain ⟨f34, L35, HS36, HR37, th38⟩ := HO26.lend HS33
 have hq_ := bind_some h; clear h; obtain ⟨⟨vt39, vt40⟩, hc41, h⟩ := hq_
 refine seqL1 kr ?_
 refine seqK rfl (does_call (f := 23) (args := #[.slice A23 vt16.length c24, .int .i64 1]) kr (squeeze_Row.calls k A23 c24 vt16 1 HS36 HR37 vt39 vt40 hc41) ?_)
 rintro _ W44 ⟨f42, A46, c47, s48, rfl, L43, HS45, HO49⟩
 refine ⟨_, rfl, ?_⟩
 obtain ⟨f51, L52, HS53⟩ := th38 L43 HS45
 replace HO49 := HO49.flat (g := f51) (fun _ _ _ _ h_ => h_)
 refine seqL5 kr ?_
 refine nl (hK32 _ _ ?_)
 refine wp_seq_k fun K54 hK55 => rl ?_
 refine seqL3 kr ?_
 have hq_ := ite_some h; clear h; rcases hq_ with ⟨c56, h⟩ | ⟨c56, h⟩
 · have c56 : vt17 = 0 := c56
   refine seqRwI 16 kr (beq_iff_eq.mpr c56) ?_
   refine seqRwI 17 kr (beq_iff_eq.mpr c56) ?_
   refine seqL4 kr ?_
   have hq_ := ite_some h; clear h; rcases hq_ with ⟨c57, h⟩ | ⟨c57, h⟩
   · have c57 : vt40 = 0 := c57
     refine seqRwI 19 kr (beq_iff_eq.mpr c57) ?_
     refine seqRwI 20 kr (beq_iff_eq.mpr c57) ?_
     refine seqRwI 21 kr (beq_iff_eq.mpr c57) ?_
     refine seqL1 kr ?_
     refine seqG kr (does_lit (e := (tInt .i64)) (E := 3) (vs := #[(0, Value.int .i64 7), (1, Value.int .i64 8)]) (cs := #[.int .i64 7, .int .i64 8]) (xs := ([7, 8] : List Int)) rfl Tryz.underlying22 kr kr ⟨[.int .i64 7], _, rfl, rfl, ⟨[.int .i64 8], _, rfl, rfl, rfl⟩⟩ rfl HS53 ?_ (by decide))
     intro b58 W59 s60 HS61 _ HO62
     have HS64 := HS61.u2
     obtain ⟨f65, L66, HS67, HR68, th69⟩ := HO49.lend HS64
     obtain ⟨f70, L71, HS72, HR73, th74⟩ := (HO62.mono L66).lend HS67
     have hq_ := bind_some h; clear h; obtain ⟨vt75, hc76, h⟩ := hq_
     refine seqG kr (does_call (f := 24) (args := #[.slice A46 vt39.length c47, .slice (some ⟨b58, 0, none⟩) ([7, 8] : List Int).length 2]) kr (slices_Equal_int.calls k A46 c47 (some ⟨b58, 0, none⟩) 2 vt39 ([7, 8] : List Int) HS72 (HR68.mono L71) HR73 vt75 hc76) ?_)
     rintro _ W79 ⟨f77, rfl, L78, HS80⟩
     refine ⟨_, rfl, ?_⟩
     obtain ⟨f81, L82, HS83⟩ := th74 L78 HS80
     obtain ⟨f84, L85, HS86⟩ := th69 L82 HS83
     refine seqL2 kr ?_
     refine nl (hK55 _ _ ?_)
     refine wp_ret ?_
     refine hret _ _ ?_
     refine ends_still (v := Value.bool vt75) kr kr ?_
     have HS87 := HS86.drop
     have HS88 := HS87.drop
     have HS89 := HS88.drop
     have HS90 := HS89.drop
     injection h with h
     subst h
     exact ⟨f84, rfl, (L29.trans (L52.trans L85)), HS90⟩
   · have c57 : ¬ (vt40 = 0) := c57
     refine seqRwI 19 kr (beq_eq_false_iff_ne.mpr c57) ?_
     refine seqRwI 20 kr (beq_eq_false_iff_ne.mpr c57) ?_
     refine seqRwI 21 kr (beq_eq_false_iff_ne.mpr c57) ?_
     refine seqL5 kr ?_
     refine nl (hK55 _ _ ?_)
     refine wp_ret ?_
     refine hret _ _ ?_
     refine ends_still (v := Value.bool false) kr kr ?_
     have HS91 := HS53.drop
     have HS92 := HS91.drop
     have HS93 := HS92.drop
     injection h with h
     subst h
     exact ⟨f51, rfl, (L29.trans L52), HS93⟩
 · have c56 : ¬ (vt17 = 0) := c56
   refine seqRwI 16 kr (beq_eq_false_iff_ne.mpr c56) ?_
   refine seqRwI 17 kr (beq_eq_false_iff_ne.mpr c56) ?_
   refine seqL9 kr ?_
   refine nl (hK55 _ _ ?_)
   refine wp_ret ?_
   refine hret _ _ ?_
   refine ends_still (v := Value.bool false) kr kr ?_
   have HS94 := HS53.drop
   have HS95 := HS94.drop
   have HS96 := HS95.drop
   injection h with h
   subst h
   exact ⟨f51, rfl, (L29.trans L52), HS96⟩

set_option maxRecDepth 100000 in
set_option maxHeartbeats 4000000 in
theorem slices_Equal_Card.calls (k : Nat) (A2 : Option Addr) (c3 : Nat) (A6 : Option Addr) (c7 : Nat) (s11 : List S_Card) (s25 : List S_Card) {t w : World} {f : FM} {H : List Seg} (HS : St t w f (H)) (HR4 : SlR ty_Card f A2 c3 s11) (HR8 : SlR ty_Card f A6 c7 s25) (rr1 : Bool) (h : slices_Equal_Card k s11 s25 = some rr1) :
    Calls Tryz.prog 25 #[.slice A2 s11.length c3, .slice A6 s25.length c7] w (fun e w' => ∃ (g : FM), e = .returned (Value.bool rr1) ∧ FM.le f g ∧ St t w' g (H)) := by
 unfold slices_Equal_Card at h
 refine enter Tryz.func25 rfl (tm := #[.slice A2 s11.length c3, .slice A6 s25.length c7, uV, uV, uV, uV, uV, uV, uV, uV, uV, uV, uV, uV, uV, uV, uV, uV, uV, uV, uV, uV, uV, uV, uV, uV]) kr ?_
 intro B hret hnor hnp
 refine wp_seq_k fun K9 hK10 => rl ?_
 refine seqL1 kr ?_
 refine nl (hK10 _ _ ?_)
 refine wp_seq_k (fun K11 hK12 => ?_)
 refine wp_seq_k fun K13 hK14 => rl ?_
 refine seqL5 kr ?_
 refine nl (hK14 _ _ ?_)
 have hq_ := ite_some h; clear h; rcases hq_ with ⟨c16, h⟩ | ⟨c16, h⟩
 · have c16 : (s11.length : Int) ≠ (s25.length : Int) := c16
   refine wpRwI 10 kr (bne_iff_ne.mpr c16) ?_
   refine condT kr ?_
   refine wp_seq_k fun K17 hK18 => rl ?_
   refine seqL1 kr ?_
   refine nl (hK18 _ _ ?_)
   refine wp_ret ?_
   refine hret _ _ ?_
   refine ends_still (v := Value.bool false) kr kr ?_
   injection h with h
   subst h
   exact ⟨f, rfl, FM.le.refl _, HS⟩
 · have c16 : ¬ ((s11.length : Int) ≠ (s25.length : Int)) := c16
   refine wpRwI 10 (x := ((s11.length : Int) != (s25.length : Int))) (v := false) kr (bne_eq_false_iff_eq.mpr (Decidable.of_not_not c16)) ?_
   refine condF kr ?_
   refine wp_skip ?_
   refine hK12 _ _ ?_
   refine wp_seq_k (fun K19 hK20 => ?_)
   refine wp_seq_k fun K21 hK22 => rl ?_
   refine seqL3 kr ?_
   refine nl (hK22 _ _ ?_)
   refine blockK (fun B23 hx24 hn25 hr26 ho27 hp28 => ?_)
   have hq_ := bind_some h; clear h; obtain ⟨o29, hv83, h⟩ := hq_
   have JR85 : ∀ z_, some (Sum.inl z_) = some o29 → some z_ = some rr1 := by
    intro z_ e_; injection e_ with e_; subst e_; exact h
   have J84 : ∀ (f78 : FM) (j82 : Nat → Value) (W80 : World) (a_ : Act), FM.le f f78 → some (Sum.inr ()) = some o29 → St t W80 f78 (H) → a_ = ⟨#[.slice A2 s11.length c3, .slice A6 s25.length c7, uV, uV, (j82 0), (j82 1), .slice A2 s11.length c3, iV (s11.length : Int), .slice A6 s25.length c7, iV (s25.length : Int), fV, .slice A2 s11.length c3, iV (s11.length : Int), (j82 2), (j82 3), (j82 4), (j82 5), (j82 6), (j82 7), (j82 8), (j82 9), (j82 10), (j82 11), (j82 12), (j82 13), (j82 14)], []⟩ → K19 a_ W80 := by
    intro f78 j82 W80 a_ L79 hj86 HS81  hfr_; subst hfr_
    injection hj86 with hj86; subst hj86; try dsimp only at h
    simp only [Sum.elim_inr] at h
    refine hK20 _ _ ?_
    refine wp_seq_k fun K87 hK88 => rl ?_
    refine seqL1 kr ?_
    refine nl (hK88 _ _ ?_)
    refine wp_ret ?_
    refine hret _ _ ?_
    refine ends_still (v := Value.bool true) kr kr ?_
    injection h with h
    subst h
    exact ⟨f78, rfl, L79, HS81⟩
   clear h; have h := hv83; clear hv83
   refine loopK (fun n_ a_ w_ => ∃ (f33 : FM) (x38 : Int) (j37 : Nat → Value), FM.le f f33 ∧ St t w_ f33 (H) ∧ slices_Equal_Card.l0 k s11 s25 n_ x38 = some o29 ∧ a_ = ⟨#[.slice A2 s11.length c3, .slice A6 s25.length c7, uV, uV, (j37 0), (j37 1), .slice A2 s11.length c3, iV (s11.length : Int), .slice A6 s25.length c7, iV (s25.length : Int), fV, .slice A2 s11.length c3, iV (s11.length : Int), iV x38, (j37 2), (j37 3), (j37 4), (j37 5), (j37 6), (j37 7), (j37 8), (j37 9), (j37 10), (j37 11), (j37 12), (j37 13)], []⟩) k ⟨f, 0, (jL [fV]), fL, HS, h, kr⟩ ?_
   clear h
   rintro n32 _ W35 ⟨f33, x38, j37, L34, HS36, h, rfl⟩ K30 hK31
   obtain _ | n32 := n32
   · exact nomatch h
   simp only [slices_Equal_Card.l0] at h
   refine wp_seq_k fun K39 hK40 => rl ?_
   refine seqL1 kr ?_
   refine nl (hK40 _ _ ?_)
   refine wp_seq_k (fun K41 hK42 => ?_)
   have hq_ := ite_some h; clear h; rcases hq_ with ⟨c44, h⟩ | ⟨c44, h⟩
   · have c44 : x38 < (s11.length : Int) := c44
     refine wpRwI 14 kr (decide_eq_true c44) ?_
     refine condT kr ?_
     refine wp_skip ?_
     refine hK42 _ _ ?_
     refine wp_seq_k (fun K45 hK46 => ?_)
     refine blockK (fun B47 hx48 hn49 hr50 ho51 hp52 => ?_)
     refine wp_seq_k fun K54 hK55 => rl ?_
     refine seqL2 kr ?_
     refine nl (hK55 _ _ ?_)
     refine wp_seq_k (fun K56 hK57 => ?_)
     refine heldG (S := Sg t f33 (H) []) (n := 9) kr rfl HS36 ?_
     intro W58 HS59
     have hq_ := guard_some h; clear h; obtain ⟨c60, h⟩ := hq_
     have c60 : 0 ≤ x38 := c60
     obtain ⟨b64, of65, cs61, hA66, hr62, hc63⟩ := (HR4.mono L34).at (i := x38) c60 c44
     obtain rfl := hr62
     refine takeGL [0, 1] (n := 9) (fuel := 7) #[true, true, false, false, false, false, false, false, false] rfl kr kr kr (fun ch_ a_ w_ q_ => (fun ch_ a_ w_ q_ => hnp ch_ a_ w_ (hp28 ch_ a_ w_ q_)) ch_ a_ w_ (hp52 ch_ a_ w_ q_)) (Sg.g0 (Sx.of [] fL HS59)) ?_
     refine takeGQ 2 [] rfl kr kr kr kr kr kr (fun ch_ a_ w_ q_ => (fun ch_ a_ w_ q_ => hnp ch_ a_ w_ (hp28 ch_ a_ w_ q_)) ch_ a_ w_ (hp52 ch_ a_ w_ q_)) (Sg.g0 (Sx.of [] fL HS59)) (fun w_ hw_ => by obtain ⟨g_, hl_, hS_⟩ := hw_.st; exact run_indexE hA66 (sz := 4) rfl Tryz.underlying23 kr (kv (.slice A2 s11.length c3)) (kv (.int .i64 x38)) c60 c44 w_) ?_
     refine takeGQ 3 [] rfl kr kr kr kr kr kr (fun ch_ a_ w_ q_ => (fun ch_ a_ w_ q_ => hnp ch_ a_ w_ (hp28 ch_ a_ w_ q_)) ch_ a_ w_ (hp52 ch_ a_ w_ q_)) (Sg.g0 (Sx.of [] fL HS59)) (fun w_ hw_ => by obtain ⟨g_, hl_, hS_⟩ := hw_.st; exact run_loadN (n := 4) rfl Tryz.underlying70 rfl kr (kv (.pointer (some ⟨b64, of65 + (x38 : Int).toNat * 4, none⟩))) (cs := [.string ((rd s11 x38).Key), .string ((rd s11 x38).Value), .string ((rd s11 x38).Unit), .string ((rd s11 x38).Note)]) rfl (fun j_ hj_ => ((hc63 hl_ hS_) j_ hj_))) ?_
     have hq_ := guard_some h; clear h; obtain ⟨c67, h⟩ := hq_
     have c67 : x38 < (s25.length : Int) := c67
     obtain ⟨b71, of72, cs68, hA73, hr69, hc70⟩ := (HR8.mono L34).at (i := x38) c60 c67
     obtain rfl := hr69
     refine takeGL [4, 5] (n := 5) (fuel := 3) #[true, true, true, true, true, true, false, false, false] rfl kr kr kr (fun ch_ a_ w_ q_ => (fun ch_ a_ w_ q_ => hnp ch_ a_ w_ (hp28 ch_ a_ w_ q_)) ch_ a_ w_ (hp52 ch_ a_ w_ q_)) (Sg.g0 (Sx.of [] fL HS59)) ?_
     refine takeGQ 6 [] rfl kr kr kr kr kr kr (fun ch_ a_ w_ q_ => (fun ch_ a_ w_ q_ => hnp ch_ a_ w_ (hp28 ch_ a_ w_ q_)) ch_ a_ w_ (hp52 ch_ a_ w_ q_)) (Sg.g0 (Sx.of [] fL HS59)) (fun w_ hw_ => by obtain ⟨g_, hl_, hS_⟩ := hw_.st; exact run_indexE hA73 (sz := 4) rfl Tryz.underlying23 kr (kv (.slice A6 s25.length c7)) (kv (.int .i64 x38)) c60 c67 w_) ?_
     refine takeGQ 7 [] rfl kr kr kr kr kr kr (fun ch_ a_ w_ q_ => (fun ch_ a_ w_ q_ => hnp ch_ a_ w_ (hp28 ch_ a_ w_ q_)) ch_ a_ w_ (hp52 ch_ a_ w_ q_)) (Sg.g0 (Sx.of [] fL HS59)) (fun w_ hw_ => by obtain ⟨g_, hl_, hS_⟩ := hw_.st; exact run_loadN (n := 4) rfl Tryz.underlying70 rfl kr (kv (.pointer (some ⟨b71, of72 + (x38 : Int).toNat * 4, none⟩))) (cs := [.string ((rd s25 x38).Key), .string ((rd s25 x38).Value), .string ((rd s25 x38).Unit), .string ((rd s25 x38).Note)]) rfl (fun j_ hj_ => ((hc70 hl_ hS_) j_ hj_))) ?_
     refine takeGQ 8 [] rfl kr kr kr kr kr kr (fun ch_ a_ w_ q_ => (fun ch_ a_ w_ q_ => hnp ch_ a_ w_ (hp28 ch_ a_ w_ q_)) ch_ a_ w_ (hp52 ch_ a_ w_ q_)) (Sg.g0 (Sx.of [] fL HS59)) (fun w_ hw_ => by obtain ⟨g_, hl_, hS_⟩ := hw_.st; exact run_neS (b := ((((rd s11 x38).Key).toList == ((rd s25 x38).Key).toList) && ((((rd s11 x38).Value).toList == ((rd s25 x38).Value).toList) && ((((rd s11 x38).Unit).toList == ((rd s25 x38).Unit).toList) && ((((rd s11 x38).Note).toList == ((rd s25 x38).Note).toList) && true))))) rfl (kv (.agg #[.string ((rd s11 x38).Key), .string ((rd s11 x38).Value), .string ((rd s11 x38).Unit), .string ((rd s11 x38).Note)])) (kv (.agg #[.string ((rd s25 x38).Key), .string ((rd s25 x38).Value), .string ((rd s25 x38).Unit), .string ((rd s25 x38).Note)])) kr kr w_) ?_
     refine doneG kr ?_ _
     refine hK57 _ _ ?_
     have hq_ := ite_some h; clear h; rcases hq_ with ⟨c75, h⟩ | ⟨c75, h⟩
     · have c75 : (!((((rd s11 x38).Key).toList == ((rd s25 x38).Key).toList) && ((((rd s11 x38).Value).toList == ((rd s25 x38).Value).toList) && ((((rd s11 x38).Unit).toList == ((rd s25 x38).Unit).toList) && ((((rd s11 x38).Note).toList == ((rd s25 x38).Note).toList) && true))))) = true := c75
       refine wpRwI 24 kr c75 ?_
       refine condT kr ?_
       refine wp_seq_k fun K76 hK77 => rl ?_
       refine seqL1 kr ?_
       refine nl (hK77 _ _ ?_)
       refine wp_ret ?_
       refine hr50 _ _ ?_
       refine hr26 _ _ ?_
       refine hret _ _ ?_
       refine ends_still (v := Value.bool false) kr kr ?_
       replace h := JR85 _ h
       injection h with h
       subst h
       exact ⟨f33, rfl, L34, HS59⟩
     · have c75 : ¬ ((!((((rd s11 x38).Key).toList == ((rd s25 x38).Key).toList) && ((((rd s11 x38).Value).toList == ((rd s25 x38).Value).toList) && ((((rd s11 x38).Unit).toList == ((rd s25 x38).Unit).toList) && ((((rd s11 x38).Note).toList == ((rd s25 x38).Note).toList) && true))))) = true) := c75
       refine wpRwI 24 kr (Bool.eq_false_iff.mpr c75) ?_
       refine condF kr ?_
       refine wp_skip ?_
       refine hn49 _ _ ?_
       refine hK46 _ _ ?_
       refine rl ?_
       refine seqL2 kr ?_
       refine nl ?_
       refine hK31 n32 _ _ (Nat.lt_succ_self _) ?_
       exact ⟨f33, (w64 (x38 + 1)), (jL [(j37 0), iV x38, tV, iV x38, .slice A2 s11.length c3, iV x38, .pointer (some ⟨b64, of65 + (x38 : Int).toNat * 4, none⟩), (ag_Card (rd s11 x38)), .slice A6 s25.length c7, iV x38, .pointer (some ⟨b71, of72 + (x38 : Int).toNat * 4, none⟩), (ag_Card (rd s25 x38)), fV, iV (w64 (x38 + 1))]), L34, HS59, h, kr⟩
   · have c44 : ¬ (x38 < (s11.length : Int)) := c44
     refine wpRwI 14 kr (decide_eq_false c44) ?_
     refine condF kr ?_
     refine wp_exit ?_
     refine hx24 _ _ ?_
     exact J84 f33 (jL [(j37 0), (j37 1), iV x38, fV, (j37 3), (j37 4), (j37 5), (j37 6), (j37 7), (j37 8), (j37 9), (j37 10), (j37 11), (j37 12), (j37 13)]) W35 _ L34 h HS36 kr

set_option maxRecDepth 100000 in
set_option maxHeartbeats 4000000 in
theorem spykeep3_same.calls (k : Nat) (A2 : Option Addr) (c3 : Nat) (A5 : Option Addr) (c6 : Nat) (A9 : Option Addr) (c10 : Nat) (A12 : Option Addr) (c13 : Nat) (vf1 : S_Frame) (vg8 : S_Frame) {t w : World} {f : FM} {H : List Seg} (HS : St t w f (H)) (HR4 : SlR ty_Card f A2 c3 vf1.Cards) (HR7 : SlR (tInt .i64) f A5 c6 vf1.Counts) (HR11 : SlR ty_Card f A9 c10 vg8.Cards) (HR14 : SlR (tInt .i64) f A12 c13 vg8.Counts) (rr1 : Bool) (h : spykeep3_same k vf1 vg8 = some rr1) :
    Calls Tryz.prog 8 #[.agg #[.int .i64 vf1.W, .int .i64 vf1.H, .slice A2 vf1.Cards.length c3, .slice A5 vf1.Counts.length c6], .agg #[.int .i64 vg8.W, .int .i64 vg8.H, .slice A9 vg8.Cards.length c10, .slice A12 vg8.Counts.length c13]] w (fun e w' => ∃ (g : FM), e = .returned (Value.bool rr1) ∧ FM.le f g ∧ St t w' g (H)) := by
 unfold spykeep3_same at h
 refine enter Tryz.func8 rfl (tm := #[(ag_Frame vf1 A2 c3 A5 c6), (ag_Frame vg8 A9 c10 A12 c13), uV, uV, uV, uV, uV, uV, uV, uV, uV, uV, uV, uV, uV, uV, uV, uV, uV, uV, uV, uV, uV, uV, uV, uV, uV, uV, uV, uV, uV]) kr ?_
 intro B hret hnor hnp
 refine wp_seq_k fun K15 hK16 => rl ?_
 refine seqK rfl (does_box (cs := #[.int .i64 vf1.W, .int .i64 vf1.H, .slice A2 vf1.Cards.length c3, .slice A5 vf1.Counts.length c6]) rfl (kv (.agg #[.int .i64 vf1.W, .int .i64 vf1.H, .slice A2 vf1.Cards.length c3, .slice A5 vf1.Counts.length c6])) rfl HS ?_)
 intro b17 W18 HS19
 refine seqK rfl (does_box (cs := #[.int .i64 vg8.W, .int .i64 vg8.H, .slice A9 vg8.Cards.length c10, .slice A12 vg8.Counts.length c13]) rfl (kv (.agg #[.int .i64 vg8.W, .int .i64 vg8.H, .slice A9 vg8.Cards.length c10, .slice A12 vg8.Counts.length c13])) rfl HS19 ?_)
 intro b21 W22 HS23
 refine seqL1 kr ?_
 refine nl (hK16 _ _ ?_)
 refine wp_seq_k fun K25 hK26 => rl ?_
 refine seqL1 kr ?_
 refine seqK rfl (does_run (run_load rfl Tryz.underlying3 rfl (kv (.pointer (some ⟨b17, 0, none⟩))) (HS23.u1.cell 0)) ?_)
 refine seqL1 kr ?_
 refine seqK rfl (does_run (run_load rfl Tryz.underlying3 rfl (kv (.pointer (some ⟨b21, 0, none⟩))) (HS23.cell 0)) ?_)
 refine seqL2 kr ?_
 have hq_ := ite_some h; clear h; rcases hq_ with ⟨c27, h⟩ | ⟨c27, h⟩
 · have c27 : vf1.W = vg8.W := c27
   refine seqRwI 9 kr (beq_iff_eq.mpr c27) ?_
   refine seqRwI 10 kr (beq_iff_eq.mpr c27) ?_
   refine seqL1 kr ?_
   refine seqG kr (does_run (run_load rfl Tryz.underlying3 rfl (kv (.pointer (some ⟨b17, 1, none⟩))) (HS23.u1.cell 1)) ?_)
   refine seqL1 kr ?_
   refine seqG kr (does_run (run_load rfl Tryz.underlying3 rfl (kv (.pointer (some ⟨b21, 1, none⟩))) (HS23.cell 1)) ?_)
   refine seqL3 kr ?_
   have hq_ := ite_some h; clear h; rcases hq_ with ⟨c28, h⟩ | ⟨c28, h⟩
   · have c28 : vf1.H = vg8.H := c28
     refine seqRwI 15 kr (beq_iff_eq.mpr c28) ?_
     refine seqRwI 16 kr (beq_iff_eq.mpr c28) ?_
     refine seqRwI 17 kr (beq_iff_eq.mpr c28) ?_
     refine seqL1 kr ?_
     refine seqG kr (does_run (run_load rfl Tryz.underlying23 rfl (kv (.pointer (some ⟨b17, 2, none⟩))) (HS23.u1.cell 2)) ?_)
     refine seqL1 kr ?_
     refine seqG kr (does_run (run_load rfl Tryz.underlying23 rfl (kv (.pointer (some ⟨b21, 2, none⟩))) (HS23.cell 2)) ?_)
     have hq_ := bind_some h; clear h; obtain ⟨vt29, hc30, h⟩ := hq_
     refine seqG kr (does_call (f := 25) (args := #[.slice A2 vf1.Cards.length c3, .slice A9 vg8.Cards.length c10]) kr (slices_Equal_Card.calls k A2 c3 A9 c10 vf1.Cards vg8.Cards HS23 HR4 HR11 vt29 hc30) ?_)
     rintro _ W33 ⟨f31, rfl, L32, HS34⟩
     refine ⟨_, rfl, ?_⟩
     refine seqL2 kr ?_
     have hq_ := ite_some h; clear h; rcases hq_ with ⟨c35, h⟩ | ⟨c35, h⟩
     · have c35 : vt29 = true := c35
       refine seqRwI 22 kr c35 ?_
       refine seqRwI 23 kr c35 ?_
       refine seqRwI 24 kr c35 ?_
       refine seqL1 kr ?_
       refine seqG kr (does_run (run_load rfl Tryz.underlying22 rfl (kv (.pointer (some ⟨b17, 3, none⟩))) (HS34.u1.cell 3)) ?_)
       refine seqL1 kr ?_
       refine seqG kr (does_run (run_load rfl Tryz.underlying22 rfl (kv (.pointer (some ⟨b21, 3, none⟩))) (HS34.cell 3)) ?_)
       have hq_ := bind_some h; clear h; obtain ⟨vt36, hc37, h⟩ := hq_
       refine seqG kr (does_call (f := 24) (args := #[.slice A5 vf1.Counts.length c6, .slice A12 vg8.Counts.length c13]) kr (slices_Equal_int.calls k A5 c6 A12 c13 vf1.Counts vg8.Counts HS34 (HR7.mono L32) (HR14.mono L32) vt36 hc37) ?_)
       rintro _ W40 ⟨f38, rfl, L39, HS41⟩
       refine ⟨_, rfl, ?_⟩
       refine seqL2 kr ?_
       refine nl (hK26 _ _ ?_)
       refine wp_ret ?_
       refine hret _ _ ?_
       refine ends_still (v := Value.bool vt36) kr kr ?_
       have HS42 := HS41.drop
       have HS43 := HS42.drop
       injection h with h
       subst h
       exact ⟨f38, rfl, (L32.trans L39), HS43⟩
     · have c35 : ¬ (vt29 = true) := c35
       refine seqRwI 22 kr (Bool.eq_false_iff.mpr c35) ?_
       refine seqRwI 23 kr (Bool.eq_false_iff.mpr c35) ?_
       refine seqRwI 24 kr (Bool.eq_false_iff.mpr c35) ?_
       refine seqL7 kr ?_
       refine nl (hK26 _ _ ?_)
       refine wp_ret ?_
       refine hret _ _ ?_
       refine ends_still (v := Value.bool false) kr kr ?_
       have HS44 := HS34.drop
       have HS45 := HS44.drop
       injection h with h
       subst h
       exact ⟨f31, rfl, L32, HS45⟩
   · have c28 : ¬ (vf1.H = vg8.H) := c28
     refine seqRwI 15 kr (beq_eq_false_iff_ne.mpr c28) ?_
     refine seqRwI 16 kr (beq_eq_false_iff_ne.mpr c28) ?_
     refine seqRwI 17 kr (beq_eq_false_iff_ne.mpr c28) ?_
     refine seqL14 kr ?_
     refine nl (hK26 _ _ ?_)
     refine wp_ret ?_
     refine hret _ _ ?_
     refine ends_still (v := Value.bool false) kr kr ?_
     have HS46 := HS23.drop
     have HS47 := HS46.drop
     injection h with h
     subst h
     exact ⟨f, rfl, FM.le.refl _, HS47⟩
 · have c27 : ¬ (vf1.W = vg8.W) := c27
   refine seqRwI 9 kr (beq_eq_false_iff_ne.mpr c27) ?_
   refine seqRwI 10 kr (beq_eq_false_iff_ne.mpr c27) ?_
   refine seqL21 kr ?_
   refine nl (hK26 _ _ ?_)
   refine wp_ret ?_
   refine hret _ _ ?_
   refine ends_still (v := Value.bool false) kr kr ?_
   have HS48 := HS23.drop
   have HS49 := HS48.drop
   injection h with h
   subst h
   exact ⟨f, rfl, FM.le.refl _, HS49⟩

end Go.Sp.F3
