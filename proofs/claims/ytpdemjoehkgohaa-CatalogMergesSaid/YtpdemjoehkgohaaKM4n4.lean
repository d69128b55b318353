import Derived.Test.YtpdemjoehkgohaaProg
import Derived.Test.YtpdemjoehkgohaaSpCopy
import Derived.Test.YtpdemjoehkgohaaFM4
import Derived.Test.YtpdemjoehkgohaaSpSort
import Derived.Test.YtpdemjoehkgohaaShelf
import Derived.Test.YtpdemjoehkgohaaSpMapR
import Derived.Test.YtpdemjoehkgohaaSpKeys
import Derived.Test.YtpdemjoehkgohaaSpRound
import Derived.Test.YtpdemjoehkgohaaKM4n0
import Derived.Test.YtpdemjoehkgohaaKM4n1
import Derived.Test.YtpdemjoehkgohaaKM4n2
import Derived.Test.YtpdemjoehkgohaaKM4n3
namespace Go.Sp.M4
open Go Go.Sp Go.Proofs
set_option linter.unusedVariables false
attribute [local irreducible] wpList AnyL Code.wp Calls Does Code.wpIn wpListIn CallsIn bodyPostM LeavesInM
set_option maxRecDepth 100000 in
set_option maxHeartbeats 4000000 in
theorem catalog_pairs__catalog_Merge_1.calls (k : Nat) (b1 : Nat) (A6 : Option Addr) (c7 : Nat) (s8 : Seg) (b3 : Nat) (A13 : Option Addr) (c14 : Nat) (A17 : Option Addr) (c18 : Nat) (v5 : List S_Row) (v11 : Int) (a12 : List S_Row) (b16 : List S_Row) {t w : World} {f : FM} {H : List Seg} (HS : St t w f ([(b1, .cells #[.slice A6 v5.length c7] 26 (0, 0))] :: [(b3, .cells #[.int .i64 v11] 29 (0, 0))] :: s8 :: H)) (HO9 : Own ty_Row 65 f A6 c7 s8 v5) (HR15 : SlR ty_Row f A13 c14 a12) (HR19 : SlR ty_Row f A17 c18 b16) (rr1 : List S_Row) (rr2 : Int) (h : catalog_pairs__catalog_Merge_1 k v5 v11 a12 b16 = some (rr1, rr2)) :
    Calls Try.prog 27 #[.slice A13 a12.length c14, .slice A17 b16.length c18, .func (.func 38) #[] #[.pointer (some ⟨b1, 0, none⟩), .pointer (some ⟨b3, 0, none⟩)]] w (fun e w' => ∃ (g : FM) (A719 : Option Addr) (c720 : Nat) (s721 : Seg), e = .returned (Value.tuple #[]) ∧ FM.le f g ∧ St t w' g (s721 :: [(b1, .cells #[.slice A719 rr1.length c720] 26 (0, 0))] :: [(b3, .cells #[.int .i64 rr2] 29 (0, 0))] :: H) ∧ Own ty_Row 65 g A719 c720 s721 rr1) := by
 unfold catalog_pairs__catalog_Merge_1 at h
 refine enter Try.func27 rfl (tm := #[.slice A13 a12.length c14, .slice A17 b16.length c18, .func (.func 38) #[] #[pV b1 0, pV b3 0], uV, uV, uV, uV, uV, uV, uV, uV, uV, uV, uV, uV, uV, uV, uV, uV, uV, uV, uV, uV, uV, uV, uV, uV, uV, uV, uV, uV, uV, uV, uV, uV, uV, uV, uV, uV, uV, uV, uV, uV, uV, uV, uV, uV, uV, uV, uV, uV, uV, uV, uV, uV, uV, uV, uV, uV, uV, uV, uV, uV, uV, uV, uV, uV, uV, uV, uV, uV, uV, uV, uV, uV, uV, uV, uV, uV, uV, uV, uV, uV, uV, uV, uV]) (by kernel_rfl) ?_
 intro B hret hnor hnp
 refine wp_seq_k (fun K20 hK21 => ?_)
 refine wp_region_lit ?_
 refine seqL2 (by kernel_rfl) ?_
 refine wpList_nil ?_
 refine hK21 _ _ ?_
 refine blockK (fun B22 hx23 hn24 hr25 ho26 hp27 => ?_)
 have hq_ := bind_some h; clear h; obtain ⟨o467, hv701, h⟩ := hq_
 have J702 : ∀ (f690 : FM) (A696 : Option Addr) (c697 : Nat) (s698 : Seg) (x695 : List S_Row) (x700 : Int) (j694 : Nat → Value) (W692 : World) (a_ : Act), FM.le f f690 → some ((x695, x700)) = some o467 → St t W692 f690 ([(b1, .cells #[.slice A696 x695.length c697] 26 (0, 0))] :: [(b3, .cells #[.int .i64 x700] 29 (0, 0))] :: s698 :: H) → Own ty_Row 65 f690 A696 c697 s698 x695 → a_ = ⟨#[.slice A13 a12.length c14, .slice A17 b16.length c18, .func (.func 38) #[] #[pV b1 0, pV b3 0], uV, uV, uV, (j694 0), (j694 1), (j694 2), (j694 3), (j694 4), (j694 5), (j694 6), (j694 7), (j694 8), (j694 9), (j694 10), (j694 11), (j694 12), (j694 13), (j694 14), (j694 15), (j694 16), (j694 17), (j694 18), (j694 19), (j694 20), (j694 21), (j694 22), (j694 23), (j694 24), (j694 25), (j694 26), (j694 27), (j694 28), (j694 29), (j694 30), (j694 31), (j694 32), (j694 33), (j694 34), (j694 35), (j694 36), (j694 37), (j694 38), (j694 39), (j694 40), (j694 41), (j694 42), (j694 43), (j694 44), (j694 45), (j694 46), (j694 47), (j694 48), (j694 49), (j694 50), (j694 51), (j694 52), (j694 53), (j694 54), (j694 55), (j694 56), (j694 57), (j694 58), (j694 59), (j694 60), (j694 61), (j694 62), (j694 63), (j694 64), (j694 65), (j694 66), (j694 67), (j694 68), (j694 69), (j694 70), (j694 71), (j694 72), (j694 73), (j694 74), (j694 75), (j694 76), (j694 77), (j694 78), (j694 79)], []⟩ → B Exit.normal a_ W692 := by
  intro f690 A696 c697 s698 x695 x700 j694 W692 a_ L691 hj703 HS693 HO699 hfr_; subst hfr_
  injection hj703 with hj703; subst hj703; try dsimp only at h
  refine hnor _ _ ?_
  refine ends_still (v := Value.tuple #[]) (by kernel_rfl) (by kernel_rfl) ?_
  have HS716 := HS693.u1
  have HS717 := HS716.u1
  have HS718 := HS717.u2
  injection h with h
  injection h with h0_ h
  subst h0_ h
  exact ⟨f690, A696, c697, s698, rfl, L691, HS718, HO699⟩
 clear h; have h := hv701; clear hv701
 refine loopK (fun n_ a_ w_ => ∃ (f471 : FM) (A479 : Option Addr) (c480 : Nat) (s481 : Seg) (i476 : Int) (j477 : Int) (x478 : List S_Row) (x483 : Int) (j475 : Nat → Value), FM.le f f471 ∧ St t w_ f471 ([(b1, .cells #[.slice A479 x478.length c480] 26 (0, 0))] :: [(b3, .cells #[.int .i64 x483] 29 (0, 0))] :: s481 :: H) ∧ Own ty_Row 65 f471 A479 c480 s481 x478 ∧ catalog_pairs__catalog_Merge_1.l0 k a12 b16 n_ i476 j477 x478 x483 = some o467 ∧ a_ = ⟨#[.slice A13 a12.length c14, .slice A17 b16.length c18, .func (.func 38) #[] #[pV b1 0, pV b3 0], uV, uV, uV, iV i476, iV j477, (j475 0), (j475 1), (j475 2), (j475 3), (j475 4), (j475 5), (j475 6), (j475 7), (j475 8), (j475 9), (j475 10), (j475 11), (j475 12), (j475 13), (j475 14), (j475 15), (j475 16), (j475 17), (j475 18), (j475 19), (j475 20), (j475 21), (j475 22), (j475 23), (j475 24), (j475 25), (j475 26), (j475 27), (j475 28), (j475 29), (j475 30), (j475 31), (j475 32), (j475 33), (j475 34), (j475 35), (j475 36), (j475 37), (j475 38), (j475 39), (j475 40), (j475 41), (j475 42), (j475 43), (j475 44), (j475 45), (j475 46), (j475 47), (j475 48), (j475 49), (j475 50), (j475 51), (j475 52), (j475 53), (j475 54), (j475 55), (j475 56), (j475 57), (j475 58), (j475 59), (j475 60), (j475 61), (j475 62), (j475 63), (j475 64), (j475 65), (j475 66), (j475 67), (j475 68), (j475 69), (j475 70), (j475 71), (j475 72), (j475 73), (j475 74), (j475 75), (j475 76), (j475 77)], []⟩) k ⟨f, A6, c7, s8, 0, 0, v5, v11, (fun i_ => [undef, undef, undef, undef, undef, undef, undef, undef, undef, undef, undef, undef, undef, undef, undef, undef, undef, undef, undef, undef, undef, undef, undef, undef, undef, undef, undef, undef, undef, undef, undef, undef, undef, undef, undef, undef, undef, undef, undef, undef, undef, undef, undef, undef, undef, undef, undef, undef, undef, undef, undef, undef, undef, undef, undef, undef, undef, undef, undef, undef, undef, undef, undef, undef, undef, undef, undef, undef, undef, undef, undef, undef, undef, undef, undef, undef, undef, undef].getD i_ undef), (FM.le.refl _), HS, HO9, h, (by kernel_rfl)⟩ ?_
 clear h
 rintro n470 _ W473 ⟨f471, A479, c480, s481, i476, j477, x478, x483, j475, L472, HS474, HO482, h, rfl⟩ K468 hK469
 obtain _ | n470 := n470
 · exact nomatch h
 simp only [catalog_pairs__catalog_Merge_1.l0] at h
 refine wp_seq_k (fun K484 hK485 => ?_)
 refine wp_seq_k (fun K486 hK487 => ?_)
 refine wp_region_lit ?_
 refine seqL5 (by kernel_rfl) ?_
 have hq_ := ite_some h; clear h; rcases hq_ with ⟨c488, h⟩ | ⟨c488, h⟩
 · have c488 : i476 < (a12.length : Int) := c488
   refine seqRwI 11 (x := (decide (i476 < (a12.length : Int)))) (v := true) (by kernel_rfl) (decide_eq_true c488) ?_
   refine seqRwI 12 (x := (decide (i476 < (a12.length : Int)))) (v := true) (by kernel_rfl) (decide_eq_true c488) ?_
   refine seqL5 (by kernel_rfl) ?_
   refine wpList_nil ?_
   refine hK487 _ _ ?_
   refine condT (by kernel_rfl) ?_
   refine wp_skip ?_
   refine hK485 _ _ ?_
   refine blockK (fun B489 hx490 hn491 hr492 ho493 hp494 => ?_)
   refine blockK (fun B496 hx497 hn498 hr499 ho500 hp501 => ?_)
   refine wp_seq_k (fun K503 hK504 => ?_)
   refine heldG (S := Sg t f471 ([(b1, .cells #[.slice A479 x478.length c480] 26 (0, 0))] :: [(b3, .cells #[.int .i64 x483] 29 (0, 0))] :: s481 :: H) []) (n := 24) (by kernel_rfl) rfl HS474 ?_
   intro W505 HS506
   refine takeG [0, 1, 2, 3, 4] (n := 24) (fuel := 19) (l' := #[true, true, true, true, true, false, false, false, false, false, false, false, false, false, false, false, false, false, false, false, false, false, false, false]) (a' := ⟨#[.slice A13 a12.length c14, .slice A17 b16.length c18, .func (.func 38) #[] #[pV b1 0, pV b3 0], uV, uV, uV, iV i476, iV j477, iV i476, .slice A13 a12.length c14, iV (a12.length : Int), tV, tV, uV, uV, uV, uV, tV, (j475 10), (j475 11), (j475 12), (j475 13), (j475 14), (j475 15), (j475 16), (j475 17), (j475 18), (j475 19), (j475 20), (j475 21), (j475 22), iV j477, .slice A17 b16.length c18, iV (b16.length : Int), .bool (j477 == (b16.length : Int)), .bool (j477 == (b16.length : Int)), (j475 28), (j475 29), (j475 30), (j475 31), (j475 32), (j475 33), (j475 34), (j475 35), (j475 36), (j475 37), (j475 38), (j475 39), (j475 40), (j475 41), (j475 42), (j475 43), (j475 44), (j475 45), (j475 46), (j475 47), (j475 48), (j475 49), (j475 50), (j475 51), (j475 52), (j475 53), (j475 54), (j475 55), (j475 56), (j475 57), (j475 58), (j475 59), (j475 60), (j475 61), (j475 62), (j475 63), (j475 64), (j475 65), (j475 66), (j475 67), (j475 68), (j475 69), (j475 70), (j475 71), (j475 72), (j475 73), (j475 74), (j475 75), (j475 76), (j475 77)], []⟩) rfl (by kernel_rfl) (by kernel_rfl) (by kernel_rfl) (fun ch_ a_ w_ q_ => (fun ch_ a_ w_ q_ => (fun ch_ a_ w_ q_ => hnp ch_ a_ w_ (hp27 ch_ a_ w_ q_)) ch_ a_ w_ (hp494 ch_ a_ w_ q_)) ch_ a_ w_ (hp501 ch_ a_ w_ q_)) (Sg.g0 (Sx.of [] (FM.le.refl _) HS506)) ?_
   have hq_ := ite_some h; clear h; rcases hq_ with ⟨c507, h⟩ | ⟨c507, h⟩
   · have c507 : j477 = (b16.length : Int) := c507
     refine gateRwI 34 (x := (j477 == (b16.length : Int))) (v := true) (by kernel_rfl) (beq_iff_eq.mpr c507) ?_
     refine gateRwI 35 (x := (j477 == (b16.length : Int))) (v := true) (by kernel_rfl) (beq_iff_eq.mpr c507) ?_
     refine takeG [5, 6, 7, 8, 9, 10, 11, 12, 13, 14, 15, 16, 17, 18, 19, 20, 21, 22, 23] (n := 19) (fuel := 0) (l' := #[true, true, true, true, true, true, true, true, true, true, true, true, true, true, true, true, true, true, true, true, true, true, true, true]) (a' := ⟨#[.slice A13 a12.length c14, .slice A17 b16.length c18, .func (.func 38) #[] #[pV b1 0, pV b3 0], uV, uV, uV, iV i476, iV j477, iV i476, .slice A13 a12.length c14, iV (a12.length : Int), tV, tV, uV, uV, uV, uV, tV, (j475 10), (j475 11), (j475 12), (j475 13), (j475 14), (j475 15), (j475 16), (j475 17), (j475 18), (j475 19), (j475 20), (j475 21), tV, iV j477, .slice A17 b16.length c18, iV (b16.length : Int), tV, tV, uV, uV, uV, uV, uV, uV, uV, uV, uV, uV, uV, uV, uV, uV, uV, uV, uV, tV, (j475 46), (j475 47), (j475 48), (j475 49), (j475 50), (j475 51), (j475 52), (j475 53), (j475 54), (j475 55), (j475 56), (j475 57), (j475 58), (j475 59), (j475 60), (j475 61), (j475 62), (j475 63), (j475 64), (j475 65), (j475 66), (j475 67), (j475 68), (j475 69), (j475 70), (j475 71), (j475 72), (j475 73), (j475 74), (j475 75), (j475 76), (j475 77)], []⟩) rfl (by kernel_rfl) (by kernel_rfl) (by kernel_rfl) (fun ch_ a_ w_ q_ => (fun ch_ a_ w_ q_ => (fun ch_ a_ w_ q_ => hnp ch_ a_ w_ (hp27 ch_ a_ w_ q_)) ch_ a_ w_ (hp494 ch_ a_ w_ q_)) ch_ a_ w_ (hp501 ch_ a_ w_ q_)) (Sg.g0 (Sx.of [] (FM.le.refl _) HS506)) ?_
     refine doneG (by kernel_rfl) ?_ _
     refine hK504 _ _ ?_
     refine condT (by kernel_rfl) ?_
     refine wp_seq_k (fun K508 hK509 => ?_)
     refine wp_region_lit ?_
     have hq_ := guard_some h; clear h; obtain ⟨c510, h⟩ := hq_
     have c510 : 0 ≤ i476 := c510
     obtain ⟨b514, of515, cs511, hA516, hr512, hc513⟩ := (HR15.mono L472).at (i := i476) c510 c488
     obtain ⟨A517, c517, rfl, HR517⟩ := hr512
     refine seqL3 (by kernel_rfl) ?_
     refine seqK rfl (does_run (run_indexE hA516 (sz := 18) rfl Try.underlying26 (by kernel_rfl) (by kernel_rfl : _ = Value.slice A13 a12.length c14) (by kernel_rfl : _ = Value.int .i64 i476) c510 c488 W505) ?_)
     have HS518 := HS506.u2
     have HS519 := HS518.u2
     have HS520 := HS519.u2
     have hq_ := bind_some h; clear h; obtain ⟨vt521, hc522, h⟩ := hq_
     refine seqK rfl (does_call (f := 38) (args := #[.pointer (some ⟨b514, of515 + (i476 : Int).toNat * 18, none⟩), .pointer none, .pointer (some ⟨b1, 0, none⟩), .pointer (some ⟨b3, 0, none⟩)]) (by kernel_rfl) (catalog_Merge_1.calls k b1 A479 c480 s481 b3 b514 (of515 + (i476 : Int).toNat * 18) A517 c517 x478 x483 (rd a12 i476) HS520 HO482 HR517 (fun hl_ => hc513 hl_) vt521 hc522) ?_)
     rintro _ W525 ⟨f523, A527, c528, s529, rfl, L524, HS526, HO530⟩
     refine ⟨_, rfl, ?_⟩
     refine wpList_nil ?_
     refine hK509 _ _ ?_
     refine wp_region_lit ?_
     refine seqL3 (by kernel_rfl) ?_
     refine wpList_nil ?_
     refine hn498 _ _ ?_
     refine hn491 _ _ ?_
     refine hK469 n470 _ _ (Nat.lt_succ_self _) ?_
     have HS704 := HS526.u2
     have HS705 := HS704.u2
     exact ⟨f523, A527, c528, s529, (w64 (i476 + 1)), j477, vt521, x483, (fun i_ => [Value.int .i64 i476, Value.slice A13 a12.length c14, Value.int .i64 (a12.length : Int), Value.bool true, Value.bool true, undef, undef, undef, undef, Value.bool true, (j475 10), (j475 11), (j475 12), (j475 13), (j475 14), (j475 15), (j475 16), (j475 17), (j475 18), (j475 19), (j475 20), (j475 21), Value.bool true, Value.int .i64 j477, Value.slice A17 b16.length c18, Value.int .i64 (b16.length : Int), Value.bool true, Value.bool true, undef, undef, undef, undef, undef, undef, undef, undef, undef, undef, undef, undef, undef, undef, undef, undef, undef, Value.bool true, Value.func (.func 38) #[] #[.pointer (some ⟨b1, 0, none⟩), .pointer (some ⟨b3, 0, none⟩)], Value.slice A13 a12.length c14, Value.int .i64 i476, Value.pointer (some ⟨b514, of515 + (i476 : Int).toNat * 18, none⟩), Value.tuple #[], Value.int .i64 i476, Value.int .i64 (w64 (i476 + 1)), (j475 53), (j475 54), (j475 55), (j475 56), (j475 57), (j475 58), (j475 59), (j475 60), (j475 61), (j475 62), (j475 63), (j475 64), (j475 65), (j475 66), (j475 67), (j475 68), (j475 69), (j475 70), (j475 71), (j475 72), (j475 73), (j475 74), (j475 75), (j475 76), (j475 77)].getD i_ undef), (L472.trans L524), HS705, HO530, h, (by kernel_rfl)⟩
   · have c507 : ¬ (j477 = (b16.length : Int)) := c507
     refine gateRwI 34 (x := (j477 == (b16.length : Int))) (v := false) (by kernel_rfl) (beq_eq_false_iff_ne.mpr c507) ?_
     refine gateRwI 35 (x := (j477 == (b16.length : Int))) (v := false) (by kernel_rfl) (beq_eq_false_iff_ne.mpr c507) ?_
     refine takeG [5, 6, 7, 8, 9] (n := 19) (fuel := 14) (l' := #[true, true, true, true, true, true, true, true, true, true, false, false, false, false, false, false, false, false, false, false, false, false, false, false]) (a' := ⟨#[.slice A13 a12.length c14, .slice A17 b16.length c18, .func (.func 38) #[] #[pV b1 0, pV b3 0], uV, uV, uV, iV i476, iV j477, iV i476, .slice A13 a12.length c14, iV (a12.length : Int), tV, tV, uV, uV, uV, uV, tV, (j475 10), (j475 11), (j475 12), (j475 13), (j475 14), (j475 15), (j475 16), (j475 17), (j475 18), (j475 19), (j475 20), (j475 21), (j475 22), iV j477, .slice A17 b16.length c18, iV (b16.length : Int), fV, fV, iV i476, .slice A13 a12.length c14, iV (a12.length : Int), .bool (decide (i476 < (a12.length : Int))), .bool (decide (i476 < (a12.length : Int))), (j475 33), (j475 34), (j475 35), (j475 36), (j475 37), (j475 38), (j475 39), (j475 40), (j475 41), (j475 42), (j475 43), (j475 44), (j475 45), (j475 46), (j475 47), (j475 48), (j475 49), (j475 50), (j475 51), (j475 52), (j475 53), (j475 54), (j475 55), (j475 56), (j475 57), (j475 58), (j475 59), (j475 60), (j475 61), (j475 62), (j475 63), (j475 64), (j475 65), (j475 66), (j475 67), (j475 68), (j475 69), (j475 70), (j475 71), (j475 72), (j475 73), (j475 74), (j475 75), (j475 76), (j475 77)], []⟩) rfl (by kernel_rfl) (by kernel_rfl) (by kernel_rfl) (fun ch_ a_ w_ q_ => (fun ch_ a_ w_ q_ => (fun ch_ a_ w_ q_ => hnp ch_ a_ w_ (hp27 ch_ a_ w_ q_)) ch_ a_ w_ (hp494 ch_ a_ w_ q_)) ch_ a_ w_ (hp501 ch_ a_ w_ q_)) (Sg.g0 (Sx.of [] (FM.le.refl _) HS506)) ?_
     refine gateRwI 39 (x := (decide (i476 < (a12.length : Int)))) (v := true) (by kernel_rfl) (decide_eq_true c488) ?_
     refine gateRwI 40 (x := (decide (i476 < (a12.length : Int)))) (v := true) (by kernel_rfl) (decide_eq_true c488) ?_
     have hq_ := guard_some h; clear h; obtain ⟨c532, h⟩ := hq_
     have c532 : 0 ≤ i476 := c532
     obtain ⟨b536, of537, cs533, hA538, hr534, hc535⟩ := (HR15.mono L472).at (i := i476) c532 c488
     obtain ⟨A539, c539, rfl, HR539⟩ := hr534
     refine takeG [10, 11] (n := 14) (fuel := 12) (l' := #[true, true, true, true, true, true, true, true, true, true, true, true, false, false, false, false, false, false, false, false, false, false, false, false]) (a' := ⟨#[.slice A13 a12.length c14, .slice A17 b16.length c18, .func (.func 38) #[] #[pV b1 0, pV b3 0], uV, uV, uV, iV i476, iV j477, iV i476, .slice A13 a12.length c14, iV (a12.length : Int), tV, tV, uV, uV, uV, uV, tV, (j475 10), (j475 11), (j475 12), (j475 13), (j475 14), (j475 15), (j475 16), (j475 17), (j475 18), (j475 19), (j475 20), (j475 21), (j475 22), iV j477, .slice A17 b16.length c18, iV (b16.length : Int), fV, fV, iV i476, .slice A13 a12.length c14, iV (a12.length : Int), tV, tV, .slice A13 a12.length c14, iV i476, (j475 35), (j475 36), (j475 37), (j475 38), (j475 39), (j475 40), (j475 41), (j475 42), (j475 43), (j475 44), (j475 45), (j475 46), (j475 47), (j475 48), (j475 49), (j475 50), (j475 51), (j475 52), (j475 53), (j475 54), (j475 55), (j475 56), (j475 57), (j475 58), (j475 59), (j475 60), (j475 61), (j475 62), (j475 63), (j475 64), (j475 65), (j475 66), (j475 67), (j475 68), (j475 69), (j475 70), (j475 71), (j475 72), (j475 73), (j475 74), (j475 75), (j475 76), (j475 77)], []⟩) rfl (by kernel_rfl) (by kernel_rfl) (by kernel_rfl) (fun ch_ a_ w_ q_ => (fun ch_ a_ w_ q_ => (fun ch_ a_ w_ q_ => hnp ch_ a_ w_ (hp27 ch_ a_ w_ q_)) ch_ a_ w_ (hp494 ch_ a_ w_ q_)) ch_ a_ w_ (hp501 ch_ a_ w_ q_)) (Sg.g0 (Sx.of [] (FM.le.refl _) HS506)) ?_
     refine takeGQ 12 [] rfl (by kernel_rfl) (by kernel_rfl) (by kernel_rfl) (by kernel_rfl) (by kernel_rfl) (by kernel_rfl) (fun ch_ a_ w_ q_ => (fun ch_ a_ w_ q_ => (fun ch_ a_ w_ q_ => hnp ch_ a_ w_ (hp27 ch_ a_ w_ q_)) ch_ a_ w_ (hp494 ch_ a_ w_ q_)) ch_ a_ w_ (hp501 ch_ a_ w_ q_)) (Sg.g0 (Sx.of [] (FM.le.refl _) HS506)) (fun w_ hw_ => by obtain ⟨g_, hl_, hS_⟩ := hw_.st; exact run_indexE hA538 (sz := 18) rfl Try.underlying26 (by kernel_rfl) (by kernel_rfl : _ = Value.slice A13 a12.length c14) (by kernel_rfl : _ = Value.int .i64 i476) c532 c488 w_) ?_
     refine takeG [13] (n := 11) (fuel := 10) (l' := #[true, true, true, true, true, true, true, true, true, true, true, true, true, true, false, false, false, false, false, false, false, false, false, false]) (a' := ⟨#[.slice A13 a12.length c14, .slice A17 b16.length c18, .func (.func 38) #[] #[pV b1 0, pV b3 0], uV, uV, uV, iV i476, iV j477, iV i476, .slice A13 a12.length c14, iV (a12.length : Int), tV, tV, uV, uV, uV, uV, tV, (j475 10), (j475 11), (j475 12), (j475 13), (j475 14), (j475 15), (j475 16), (j475 17), (j475 18), (j475 19), (j475 20), (j475 21), (j475 22), iV j477, .slice A17 b16.length c18, iV (b16.length : Int), fV, fV, iV i476, .slice A13 a12.length c14, iV (a12.length : Int), tV, tV, .slice A13 a12.length c14, iV i476, pV b536 (of537 + (i476 : Int).toNat * 18), pV b536 (of537 + (i476 : Int).toNat * 18), (j475 37), (j475 38), (j475 39), (j475 40), (j475 41), (j475 42), (j475 43), (j475 44), (j475 45), (j475 46), (j475 47), (j475 48), (j475 49), (j475 50), (j475 51), (j475 52), (j475 53), (j475 54), (j475 55), (j475 56), (j475 57), (j475 58), (j475 59), (j475 60), (j475 61), (j475 62), (j475 63), (j475 64), (j475 65), (j475 66), (j475 67), (j475 68), (j475 69), (j475 70), (j475 71), (j475 72), (j475 73), (j475 74), (j475 75), (j475 76), (j475 77)], []⟩) rfl (by kernel_rfl) (by kernel_rfl) (by kernel_rfl) (fun ch_ a_ w_ q_ => (fun ch_ a_ w_ q_ => (fun ch_ a_ w_ q_ => hnp ch_ a_ w_ (hp27 ch_ a_ w_ q_)) ch_ a_ w_ (hp494 ch_ a_ w_ q_)) ch_ a_ w_ (hp501 ch_ a_ w_ q_)) (Sg.g0 (Sx.of [] (FM.le.refl _) HS506)) ?_
     refine takeGQ 14 [] rfl (by kernel_rfl) (by kernel_rfl) (by kernel_rfl) (by kernel_rfl) (by kernel_rfl) (by kernel_rfl) (fun ch_ a_ w_ q_ => (fun ch_ a_ w_ q_ => (fun ch_ a_ w_ q_ => hnp ch_ a_ w_ (hp27 ch_ a_ w_ q_)) ch_ a_ w_ (hp494 ch_ a_ w_ q_)) ch_ a_ w_ (hp501 ch_ a_ w_ q_)) (Sg.g0 (Sx.of [] (FM.le.refl _) HS506)) (fun w_ hw_ => by obtain ⟨g_, hl_, hS_⟩ := hw_.st; exact run_load rfl Try.underlying3 rfl (by kernel_rfl : _ = Value.pointer (some ⟨b536, of537 + (i476 : Int).toNat * 18, none⟩)) ((hc535 hl_ hS_) 0 (by decide))) ?_
     have hq_ := guard_some h; clear h; obtain ⟨c540, h⟩ := hq_
     have c540 : 0 ≤ j477 := c540
     have hq_ := guard_some h; clear h; obtain ⟨c541, h⟩ := hq_
     have c541 : j477 < (b16.length : Int) := c541
     obtain ⟨b545, of546, cs542, hA547, hr543, hc544⟩ := (HR19.mono L472).at (i := j477) c540 c541
     obtain ⟨A548, c548, rfl, HR548⟩ := hr543
     refine takeG [15, 16] (n := 9) (fuel := 7) (l' := #[true, true, true, true, true, true, true, true, true, true, true, true, true, true, true, true, true, false, false, false, false, false, false, false]) (a' := ⟨#[.slice A13 a12.length c14, .slice A17 b16.length c18, .func (.func 38) #[] #[pV b1 0, pV b3 0], uV, uV, uV, iV i476, iV j477, iV i476, .slice A13 a12.length c14, iV (a12.length : Int), tV, tV, uV, uV, uV, uV, tV, (j475 10), (j475 11), (j475 12), (j475 13), (j475 14), (j475 15), (j475 16), (j475 17), (j475 18), (j475 19), (j475 20), (j475 21), (j475 22), iV j477, .slice A17 b16.length c18, iV (b16.length : Int), fV, fV, iV i476, .slice A13 a12.length c14, iV (a12.length : Int), tV, tV, .slice A13 a12.length c14, iV i476, pV b536 (of537 + (i476 : Int).toNat * 18), pV b536 (of537 + (i476 : Int).toNat * 18), iV ((rd a12 i476).ID), .slice A17 b16.length c18, iV j477, (j475 40), (j475 41), (j475 42), (j475 43), (j475 44), (j475 45), (j475 46), (j475 47), (j475 48), (j475 49), (j475 50), (j475 51), (j475 52), (j475 53), (j475 54), (j475 55), (j475 56), (j475 57), (j475 58), (j475 59), (j475 60), (j475 61), (j475 62), (j475 63), (j475 64), (j475 65), (j475 66), (j475 67), (j475 68), (j475 69), (j475 70), (j475 71), (j475 72), (j475 73), (j475 74), (j475 75), (j475 76), (j475 77)], []⟩) rfl (by kernel_rfl) (by kernel_rfl) (by kernel_rfl) (fun ch_ a_ w_ q_ => (fun ch_ a_ w_ q_ => (fun ch_ a_ w_ q_ => hnp ch_ a_ w_ (hp27 ch_ a_ w_ q_)) ch_ a_ w_ (hp494 ch_ a_ w_ q_)) ch_ a_ w_ (hp501 ch_ a_ w_ q_)) (Sg.g0 (Sx.of [] (FM.le.refl _) HS506)) ?_
     refine takeGQ 17 [] rfl (by kernel_rfl) (by kernel_rfl) (by kernel_rfl) (by kernel_rfl) (by kernel_rfl) (by kernel_rfl) (fun ch_ a_ w_ q_ => (fun ch_ a_ w_ q_ => (fun ch_ a_ w_ q_ => hnp ch_ a_ w_ (hp27 ch_ a_ w_ q_)) ch_ a_ w_ (hp494 ch_ a_ w_ q_)) ch_ a_ w_ (hp501 ch_ a_ w_ q_)) (Sg.g0 (Sx.of [] (FM.le.refl _) HS506)) (fun w_ hw_ => by obtain ⟨g_, hl_, hS_⟩ := hw_.st; exact run_indexE hA547 (sz := 18) rfl Try.underlying26 (by kernel_rfl) (by kernel_rfl : _ = Value.slice A17 b16.length c18) (by kernel_rfl : _ = Value.int .i64 j477) c540 c541 w_) ?_
     refine takeG [18] (n := 6) (fuel := 5) (l' := #[true, true, true, true, true, true, true, true, true, true, true, true, true, true, true, true, true, true, true, false, false, false, false, false]) (a' := ⟨#[.slice A13 a12.length c14, .slice A17 b16.length c18, .func (.func 38) #[] #[pV b1 0, pV b3 0], uV, uV, uV, iV i476, iV j477, iV i476, .slice A13 a12.length c14, iV (a12.length : Int), tV, tV, uV, uV, uV, uV, tV, (j475 10), (j475 11), (j475 12), (j475 13), (j475 14), (j475 15), (j475 16), (j475 17), (j475 18), (j475 19), (j475 20), (j475 21), (j475 22), iV j477, .slice A17 b16.length c18, iV (b16.length : Int), fV, fV, iV i476, .slice A13 a12.length c14, iV (a12.length : Int), tV, tV, .slice A13 a12.length c14, iV i476, pV b536 (of537 + (i476 : Int).toNat * 18), pV b536 (of537 + (i476 : Int).toNat * 18), iV ((rd a12 i476).ID), .slice A17 b16.length c18, iV j477, pV b545 (of546 + (j477 : Int).toNat * 18), pV b545 (of546 + (j477 : Int).toNat * 18), (j475 42), (j475 43), (j475 44), (j475 45), (j475 46), (j475 47), (j475 48), (j475 49), (j475 50), (j475 51), (j475 52), (j475 53), (j475 54), (j475 55), (j475 56), (j475 57), (j475 58), (j475 59), (j475 60), (j475 61), (j475 62), (j475 63), (j475 64), (j475 65), (j475 66), (j475 67), (j475 68), (j475 69), (j475 70), (j475 71), (j475 72), (j475 73), (j475 74), (j475 75), (j475 76), (j475 77)], []⟩) rfl (by kernel_rfl) (by kernel_rfl) (by kernel_rfl) (fun ch_ a_ w_ q_ => (fun ch_ a_ w_ q_ => (fun ch_ a_ w_ q_ => hnp ch_ a_ w_ (hp27 ch_ a_ w_ q_)) ch_ a_ w_ (hp494 ch_ a_ w_ q_)) ch_ a_ w_ (hp501 ch_ a_ w_ q_)) (Sg.g0 (Sx.of [] (FM.le.refl _) HS506)) ?_
     refine takeGQ 19 [] rfl (by kernel_rfl) (by kernel_rfl) (by kernel_rfl) (by kernel_rfl) (by kernel_rfl) (by kernel_rfl) (fun ch_ a_ w_ q_ => (fun ch_ a_ w_ q_ => (fun ch_ a_ w_ q_ => hnp ch_ a_ w_ (hp27 ch_ a_ w_ q_)) ch_ a_ w_ (hp494 ch_ a_ w_ q_)) ch_ a_ w_ (hp501 ch_ a_ w_ q_)) (Sg.g0 (Sx.of [] (FM.le.refl _) HS506)) (fun w_ hw_ => by obtain ⟨g_, hl_, hS_⟩ := hw_.st; exact run_load rfl Try.underlying3 rfl (by kernel_rfl : _ = Value.pointer (some ⟨b545, of546 + (j477 : Int).toNat * 18, none⟩)) ((hc544 hl_ hS_) 0 (by decide))) ?_
     refine takeG [20, 21, 22, 23] (n := 4) (fuel := 0) (l' := #[true, true, true, true, true, true, true, true, true, true, true, true, true, true, true, true, true, true, true, true, true, true, true, true]) (a' := ⟨#[.slice A13 a12.length c14, .slice A17 b16.length c18, .func (.func 38) #[] #[pV b1 0, pV b3 0], uV, uV, uV, iV i476, iV j477, iV i476, .slice A13 a12.length c14, iV (a12.length : Int), tV, tV, uV, uV, uV, uV, tV, (j475 10), (j475 11), (j475 12), (j475 13), (j475 14), (j475 15), (j475 16), (j475 17), (j475 18), (j475 19), (j475 20), (j475 21), .bool (decide (((rd a12 i476).ID) < ((rd b16 j477).ID))), iV j477, .slice A17 b16.length c18, iV (b16.length : Int), fV, fV, iV i476, .slice A13 a12.length c14, iV (a12.length : Int), tV, tV, .slice A13 a12.length c14, iV i476, pV b536 (of537 + (i476 : Int).toNat * 18), pV b536 (of537 + (i476 : Int).toNat * 18), iV ((rd a12 i476).ID), .slice A17 b16.length c18, iV j477, pV b545 (of546 + (j477 : Int).toNat * 18), pV b545 (of546 + (j477 : Int).toNat * 18), iV ((rd b16 j477).ID), .bool (decide (((rd a12 i476).ID) < ((rd b16 j477).ID))), .bool (decide (((rd a12 i476).ID) < ((rd b16 j477).ID))), .bool (decide (((rd a12 i476).ID) < ((rd b16 j477).ID))), (j475 46), (j475 47), (j475 48), (j475 49), (j475 50), (j475 51), (j475 52), (j475 53), (j475 54), (j475 55), (j475 56), (j475 57), (j475 58), (j475 59), (j475 60), (j475 61), (j475 62), (j475 63), (j475 64), (j475 65), (j475 66), (j475 67), (j475 68), (j475 69), (j475 70), (j475 71), (j475 72), (j475 73), (j475 74), (j475 75), (j475 76), (j475 77)], []⟩) rfl (by kernel_rfl) (by kernel_rfl) (by kernel_rfl) (fun ch_ a_ w_ q_ => (fun ch_ a_ w_ q_ => (fun ch_ a_ w_ q_ => hnp ch_ a_ w_ (hp27 ch_ a_ w_ q_)) ch_ a_ w_ (hp494 ch_ a_ w_ q_)) ch_ a_ w_ (hp501 ch_ a_ w_ q_)) (Sg.g0 (Sx.of [] (FM.le.refl _) HS506)) ?_
     refine doneG (by kernel_rfl) ?_ _
     refine hK504 _ _ ?_
     have hq_ := ite_some h; clear h; rcases hq_ with ⟨c550, h⟩ | ⟨c550, h⟩
     · have c550 : ((rd a12 i476).ID) < ((rd b16 j477).ID) := c550
       refine wpRwI 30 (x := (decide (((rd a12 i476).ID) < ((rd b16 j477).ID)))) (v := true) (by kernel_rfl) (decide_eq_true c550) ?_
       refine wpRwI 51 (x := (decide (((rd a12 i476).ID) < ((rd b16 j477).ID)))) (v := true) (by kernel_rfl) (decide_eq_true c550) ?_
       refine wpRwI 52 (x := (decide (((rd a12 i476).ID) < ((rd b16 j477).ID)))) (v := true) (by kernel_rfl) (decide_eq_true c550) ?_
       refine wpRwI 53 (x := (decide (((rd a12 i476).ID) < ((rd b16 j477).ID)))) (v := true) (by kernel_rfl) (decide_eq_true c550) ?_
       refine condT (by kernel_rfl) ?_
       refine wp_seq_k (fun K551 hK552 => ?_)
       refine wp_region_lit ?_
       refine seqL3 (by kernel_rfl) ?_
       refine seqK rfl (does_run (run_indexE hA538 (sz := 18) rfl Try.underlying26 (by kernel_rfl) (by kernel_rfl : _ = Value.slice A13 a12.length c14) (by kernel_rfl : _ = Value.int .i64 i476) c532 c488 W505) ?_)
       have HS553 := HS506.u2
       have HS554 := HS553.u2
       have HS555 := HS554.u2
       have hq_ := bind_some h; clear h; obtain ⟨vt556, hc557, h⟩ := hq_
       refine seqK rfl (does_call (f := 38) (args := #[.pointer (some ⟨b536, of537 + (i476 : Int).toNat * 18, none⟩), .pointer none, .pointer (some ⟨b1, 0, none⟩), .pointer (some ⟨b3, 0, none⟩)]) (by kernel_rfl) (catalog_Merge_1.calls k b1 A479 c480 s481 b3 b536 (of537 + (i476 : Int).toNat * 18) A539 c539 x478 x483 (rd a12 i476) HS555 HO482 HR539 (fun hl_ => hc535 hl_) vt556 hc557) ?_)
       rintro _ W560 ⟨f558, A562, c563, s564, rfl, L559, HS561, HO565⟩
       refine ⟨_, rfl, ?_⟩
       refine wpList_nil ?_
       refine hK552 _ _ ?_
       refine wp_region_lit ?_
       refine seqL3 (by kernel_rfl) ?_
       refine wpList_nil ?_
       refine hn498 _ _ ?_
       refine hn491 _ _ ?_
       refine hK469 n470 _ _ (Nat.lt_succ_self _) ?_
       have HS706 := HS561.u2
       have HS707 := HS706.u2
       exact ⟨f558, A562, c563, s564, (w64 (i476 + 1)), j477, vt556, x483, (fun i_ => [Value.int .i64 i476, Value.slice A13 a12.length c14, Value.int .i64 (a12.length : Int), Value.bool true, Value.bool true, undef, undef, undef, undef, Value.bool true, (j475 10), (j475 11), (j475 12), (j475 13), (j475 14), (j475 15), (j475 16), (j475 17), (j475 18), (j475 19), (j475 20), (j475 21), Value.bool true, Value.int .i64 j477, Value.slice A17 b16.length c18, Value.int .i64 (b16.length : Int), Value.bool false, Value.bool false, Value.int .i64 i476, Value.slice A13 a12.length c14, Value.int .i64 (a12.length : Int), Value.bool true, Value.bool true, Value.slice A13 a12.length c14, Value.int .i64 i476, Value.pointer (some ⟨b536, of537 + (i476 : Int).toNat * 18, none⟩), Value.pointer (some ⟨b536, of537 + (i476 : Int).toNat * 18, none⟩), Value.int .i64 ((rd a12 i476).ID), Value.slice A17 b16.length c18, Value.int .i64 j477, Value.pointer (some ⟨b545, of546 + (j477 : Int).toNat * 18, none⟩), Value.pointer (some ⟨b545, of546 + (j477 : Int).toNat * 18, none⟩), Value.int .i64 ((rd b16 j477).ID), Value.bool true, Value.bool true, Value.bool true, Value.func (.func 38) #[] #[.pointer (some ⟨b1, 0, none⟩), .pointer (some ⟨b3, 0, none⟩)], Value.slice A13 a12.length c14, Value.int .i64 i476, Value.pointer (some ⟨b536, of537 + (i476 : Int).toNat * 18, none⟩), Value.tuple #[], Value.int .i64 i476, Value.int .i64 (w64 (i476 + 1)), (j475 53), (j475 54), (j475 55), (j475 56), (j475 57), (j475 58), (j475 59), (j475 60), (j475 61), (j475 62), (j475 63), (j475 64), (j475 65), (j475 66), (j475 67), (j475 68), (j475 69), (j475 70), (j475 71), (j475 72), (j475 73), (j475 74), (j475 75), (j475 76), (j475 77)].getD i_ undef), (L472.trans L559), HS707, HO565, h, (by kernel_rfl)⟩
     · have c550 : ¬ (((rd a12 i476).ID) < ((rd b16 j477).ID)) := c550
       refine wpRwI 30 (x := (decide (((rd a12 i476).ID) < ((rd b16 j477).ID)))) (v := false) (by kernel_rfl) (decide_eq_false c550) ?_
       refine wpRwI 51 (x := (decide (((rd a12 i476).ID) < ((rd b16 j477).ID)))) (v := false) (by kernel_rfl) (decide_eq_false c550) ?_
       refine wpRwI 52 (x := (decide (((rd a12 i476).ID) < ((rd b16 j477).ID)))) (v := false) (by kernel_rfl) (decide_eq_false c550) ?_
       refine wpRwI 53 (x := (decide (((rd a12 i476).ID) < ((rd b16 j477).ID)))) (v := false) (by kernel_rfl) (decide_eq_false c550) ?_
       refine condF (by kernel_rfl) ?_
       refine wp_seq_k (fun K567 hK568 => ?_)
       refine heldG (S := Sg t f471 ([(b1, .cells #[.slice A479 x478.length c480] 26 (0, 0))] :: [(b3, .cells #[.int .i64 x483] 29 (0, 0))] :: s481 :: H) []) (n := 18) (by kernel_rfl) rfl HS506 ?_
       intro W569 HS570
       refine takeG [0, 1, 2, 3, 4] (n := 18) (fuel := 13) (l' := #[true, true, true, true, true, false, false, false, false, false, false, false, false, false, false, false, false, false]) (a' := ⟨#[.slice A13 a12.length c14, .slice A17 b16.length c18, .func (.func 38) #[] #[pV b1 0, pV b3 0], uV, uV, uV, iV i476, iV j477, iV i476, .slice A13 a12.length c14, iV (a12.length : Int), tV, tV, uV, uV, uV, uV, tV, (j475 10), (j475 11), (j475 12), (j475 13), (j475 14), (j475 15), (j475 16), (j475 17), (j475 18), (j475 19), (j475 20), (j475 21), fV, iV j477, .slice A17 b16.length c18, iV (b16.length : Int), fV, fV, iV i476, .slice A13 a12.length c14, iV (a12.length : Int), tV, tV, .slice A13 a12.length c14, iV i476, pV b536 (of537 + (i476 : Int).toNat * 18), pV b536 (of537 + (i476 : Int).toNat * 18), iV ((rd a12 i476).ID), .slice A17 b16.length c18, iV j477, pV b545 (of546 + (j477 : Int).toNat * 18), pV b545 (of546 + (j477 : Int).toNat * 18), iV ((rd b16 j477).ID), fV, fV, fV, (j475 46), (j475 47), (j475 48), (j475 49), (j475 50), (j475 51), (j475 52), (j475 53), iV i476, .slice A13 a12.length c14, iV (a12.length : Int), .bool (i476 == (a12.length : Int)), .bool (i476 == (a12.length : Int)), (j475 59), (j475 60), (j475 61), (j475 62), (j475 63), (j475 64), (j475 65), (j475 66), (j475 67), (j475 68), (j475 69), (j475 70), (j475 71), (j475 72), (j475 73), (j475 74), (j475 75), (j475 76), (j475 77)], []⟩) rfl (by kernel_rfl) (by kernel_rfl) (by kernel_rfl) (fun ch_ a_ w_ q_ => (fun ch_ a_ w_ q_ => (fun ch_ a_ w_ q_ => hnp ch_ a_ w_ (hp27 ch_ a_ w_ q_)) ch_ a_ w_ (hp494 ch_ a_ w_ q_)) ch_ a_ w_ (hp501 ch_ a_ w_ q_)) (Sg.g0 (Sx.of [] (FM.le.refl _) HS570)) ?_
       have hq_ := ite_some h; clear h; rcases hq_ with ⟨c571, h⟩ | ⟨c571, h⟩
       · have c571 : i476 = (a12.length : Int) := c571
         refine gateRwI 65 (x := (i476 == (a12.length : Int))) (v := true) (by kernel_rfl) (beq_iff_eq.mpr c571) ?_
         refine gateRwI 66 (x := (i476 == (a12.length : Int))) (v := true) (by kernel_rfl) (beq_iff_eq.mpr c571) ?_
         refine takeG [5, 6, 7, 8, 9, 10, 11, 12, 13, 14, 15, 16, 17] (n := 13) (fuel := 0) (l' := #[true, true, true, true, true, true, true, true, true, true, true, true, true, true, true, true, true, true]) (a' := ⟨#[.slice A13 a12.length c14, .slice A17 b16.length c18, .func (.func 38) #[] #[pV b1 0, pV b3 0], uV, uV, uV, iV i476, iV j477, iV i476, .slice A13 a12.length c14, iV (a12.length : Int), tV, tV, uV, uV, uV, uV, tV, (j475 10), (j475 11), (j475 12), (j475 13), (j475 14), (j475 15), (j475 16), (j475 17), (j475 18), (j475 19), (j475 20), (j475 21), fV, iV j477, .slice A17 b16.length c18, iV (b16.length : Int), fV, fV, iV i476, .slice A13 a12.length c14, iV (a12.length : Int), tV, tV, .slice A13 a12.length c14, iV i476, pV b536 (of537 + (i476 : Int).toNat * 18), pV b536 (of537 + (i476 : Int).toNat * 18), iV ((rd a12 i476).ID), .slice A17 b16.length c18, iV j477, pV b545 (of546 + (j477 : Int).toNat * 18), pV b545 (of546 + (j477 : Int).toNat * 18), iV ((rd b16 j477).ID), fV, fV, fV, (j475 46), (j475 47), (j475 48), (j475 49), (j475 50), (j475 51), (j475 52), tV, iV i476, .slice A13 a12.length c14, iV (a12.length : Int), tV, tV, uV, uV, uV, uV, uV, uV, uV, uV, uV, uV, uV, tV, (j475 71), (j475 72), (j475 73), (j475 74), (j475 75), (j475 76), (j475 77)], []⟩) rfl (by kernel_rfl) (by kernel_rfl) (by kernel_rfl) (fun ch_ a_ w_ q_ => (fun ch_ a_ w_ q_ => (fun ch_ a_ w_ q_ => hnp ch_ a_ w_ (hp27 ch_ a_ w_ q_)) ch_ a_ w_ (hp494 ch_ a_ w_ q_)) ch_ a_ w_ (hp501 ch_ a_ w_ q_)) (Sg.g0 (Sx.of [] (FM.le.refl _) HS570)) ?_
         refine doneG (by kernel_rfl) ?_ _
         refine hK568 _ _ ?_
         refine condT (by kernel_rfl) ?_
         refine wp_seq_k (fun K572 hK573 => ?_)
         refine wp_region_lit ?_
         refine seqL3 (by kernel_rfl) ?_
         refine seqK rfl (does_run (run_indexE hA547 (sz := 18) rfl Try.underlying26 (by kernel_rfl) (by kernel_rfl : _ = Value.slice A17 b16.length c18) (by kernel_rfl : _ = Value.int .i64 j477) c540 c541 W569) ?_)
         have HS574 := HS570.u2
         have HS575 := HS574.u2
         have HS576 := HS575.u2
         have hq_ := bind_some h; clear h; obtain ⟨vt577, hc578, h⟩ := hq_
         refine seqK rfl (does_call (f := 38) (args := #[.pointer none, .pointer (some ⟨b545, of546 + (j477 : Int).toNat * 18, none⟩), .pointer (some ⟨b1, 0, none⟩), .pointer (some ⟨b3, 0, none⟩)]) (by kernel_rfl) (catalog_Merge_1_2.calls k b1 A479 c480 s481 b3 b545 (of546 + (j477 : Int).toNat * 18) A548 c548 x478 x483 (rd b16 j477) HS576 HO482 HR548 (fun hl_ => hc544 hl_) vt577 hc578) ?_)
         rintro _ W581 ⟨f579, A583, c584, s585, rfl, L580, HS582, HO586⟩
         refine ⟨_, rfl, ?_⟩
         refine wpList_nil ?_
         refine hK573 _ _ ?_
         refine wp_region_lit ?_
         refine seqL3 (by kernel_rfl) ?_
         refine wpList_nil ?_
         refine hn498 _ _ ?_
         refine hn491 _ _ ?_
         refine hK469 n470 _ _ (Nat.lt_succ_self _) ?_
         have HS708 := HS582.u2
         have HS709 := HS708.u2
         exact ⟨f579, A583, c584, s585, i476, (w64 (j477 + 1)), vt577, x483, (fun i_ => [Value.int .i64 i476, Value.slice A13 a12.length c14, Value.int .i64 (a12.length : Int), Value.bool true, Value.bool true, undef, undef, undef, undef, Value.bool true, (j475 10), (j475 11), (j475 12), (j475 13), (j475 14), (j475 15), (j475 16), (j475 17), (j475 18), (j475 19), (j475 20), (j475 21), Value.bool false, Value.int .i64 j477, Value.slice A17 b16.length c18, Value.int .i64 (b16.length : Int), Value.bool false, Value.bool false, Value.int .i64 i476, Value.slice A13 a12.length c14, Value.int .i64 (a12.length : Int), Value.bool true, Value.bool true, Value.slice A13 a12.length c14, Value.int .i64 i476, Value.pointer (some ⟨b536, of537 + (i476 : Int).toNat * 18, none⟩), Value.pointer (some ⟨b536, of537 + (i476 : Int).toNat * 18, none⟩), Value.int .i64 ((rd a12 i476).ID), Value.slice A17 b16.length c18, Value.int .i64 j477, Value.pointer (some ⟨b545, of546 + (j477 : Int).toNat * 18, none⟩), Value.pointer (some ⟨b545, of546 + (j477 : Int).toNat * 18, none⟩), Value.int .i64 ((rd b16 j477).ID), Value.bool false, Value.bool false, Value.bool false, (j475 46), (j475 47), (j475 48), (j475 49), (j475 50), (j475 51), (j475 52), Value.bool true, Value.int .i64 i476, Value.slice A13 a12.length c14, Value.int .i64 (a12.length : Int), Value.bool true, Value.bool true, undef, undef, undef, undef, undef, undef, undef, undef, undef, undef, undef, Value.bool true, Value.func (.func 38) #[] #[.pointer (some ⟨b1, 0, none⟩), .pointer (some ⟨b3, 0, none⟩)], Value.slice A17 b16.length c18, Value.int .i64 j477, Value.pointer (some ⟨b545, of546 + (j477 : Int).toNat * 18, none⟩), Value.tuple #[], Value.int .i64 j477, Value.int .i64 (w64 (j477 + 1))].getD i_ undef), (L472.trans L580), HS709, HO586, h, (by kernel_rfl)⟩
       · have c571 : ¬ (i476 = (a12.length : Int)) := c571
         refine gateRwI 65 (x := (i476 == (a12.length : Int))) (v := false) (by kernel_rfl) (beq_eq_false_iff_ne.mpr c571) ?_
         refine gateRwI 66 (x := (i476 == (a12.length : Int))) (v := false) (by kernel_rfl) (beq_eq_false_iff_ne.mpr c571) ?_
         refine takeG [5, 6] (n := 13) (fuel := 11) (l' := #[true, true, true, true, true, true, true, false, false, false, false, false, false, false, false, false, false, false]) (a' := ⟨#[.slice A13 a12.length c14, .slice A17 b16.length c18, .func (.func 38) #[] #[pV b1 0, pV b3 0], uV, uV, uV, iV i476, iV j477, iV i476, .slice A13 a12.length c14, iV (a12.length : Int), tV, tV, uV, uV, uV, uV, tV, (j475 10), (j475 11), (j475 12), (j475 13), (j475 14), (j475 15), (j475 16), (j475 17), (j475 18), (j475 19), (j475 20), (j475 21), fV, iV j477, .slice A17 b16.length c18, iV (b16.length : Int), fV, fV, iV i476, .slice A13 a12.length c14, iV (a12.length : Int), tV, tV, .slice A13 a12.length c14, iV i476, pV b536 (of537 + (i476 : Int).toNat * 18), pV b536 (of537 + (i476 : Int).toNat * 18), iV ((rd a12 i476).ID), .slice A17 b16.length c18, iV j477, pV b545 (of546 + (j477 : Int).toNat * 18), pV b545 (of546 + (j477 : Int).toNat * 18), iV ((rd b16 j477).ID), fV, fV, fV, (j475 46), (j475 47), (j475 48), (j475 49), (j475 50), (j475 51), (j475 52), (j475 53), iV i476, .slice A13 a12.length c14, iV (a12.length : Int), fV, fV, .slice A17 b16.length c18, iV j477, (j475 61), (j475 62), (j475 63), (j475 64), (j475 65), (j475 66), (j475 67), (j475 68), (j475 69), (j475 70), (j475 71), (j475 72), (j475 73), (j475 74), (j475 75), (j475 76), (j475 77)], []⟩) rfl (by kernel_rfl) (by kernel_rfl) (by kernel_rfl) (fun ch_ a_ w_ q_ => (fun ch_ a_ w_ q_ => (fun ch_ a_ w_ q_ => hnp ch_ a_ w_ (hp27 ch_ a_ w_ q_)) ch_ a_ w_ (hp494 ch_ a_ w_ q_)) ch_ a_ w_ (hp501 ch_ a_ w_ q_)) (Sg.g0 (Sx.of [] (FM.le.refl _) HS570)) ?_
         refine takeGQ 7 [] rfl (by kernel_rfl) (by kernel_rfl) (by kernel_rfl) (by kernel_rfl) (by kernel_rfl) (by kernel_rfl) (fun ch_ a_ w_ q_ => (fun ch_ a_ w_ q_ => (fun ch_ a_ w_ q_ => hnp ch_ a_ w_ (hp27 ch_ a_ w_ q_)) ch_ a_ w_ (hp494 ch_ a_ w_ q_)) ch_ a_ w_ (hp501 ch_ a_ w_ q_)) (Sg.g0 (Sx.of [] (FM.le.refl _) HS570)) (fun w_ hw_ => by obtain ⟨g_, hl_, hS_⟩ := hw_.st; exact run_indexE hA547 (sz := 18) rfl Try.underlying26 (by kernel_rfl) (by kernel_rfl : _ = Value.slice A17 b16.length c18) (by kernel_rfl : _ = Value.int .i64 j477) c540 c541 w_) ?_
         refine takeG [8] (n := 10) (fuel := 9) (l' := #[true, true, true, true, true, true, true, true, true, false, false, false, false, false, false, false, false, false]) (a' := ⟨#[.slice A13 a12.length c14, .slice A17 b16.length c18, .func (.func 38) #[] #[pV b1 0, pV b3 0], uV, uV, uV, iV i476, iV j477, iV i476, .slice A13 a12.length c14, iV (a12.length : Int), tV, tV, uV, uV, uV, uV, tV, (j475 10), (j475 11), (j475 12), (j475 13), (j475 14), (j475 15), (j475 16), (j475 17), (j475 18), (j475 19), (j475 20), (j475 21), fV, iV j477, .slice A17 b16.length c18, iV (b16.length : Int), fV, fV, iV i476, .slice A13 a12.length c14, iV (a12.length : Int), tV, tV, .slice A13 a12.length c14, iV i476, pV b536 (of537 + (i476 : Int).toNat * 18), pV b536 (of537 + (i476 : Int).toNat * 18), iV ((rd a12 i476).ID), .slice A17 b16.length c18, iV j477, pV b545 (of546 + (j477 : Int).toNat * 18), pV b545 (of546 + (j477 : Int).toNat * 18), iV ((rd b16 j477).ID), fV, fV, fV, (j475 46), (j475 47), (j475 48), (j475 49), (j475 50), (j475 51), (j475 52), (j475 53), iV i476, .slice A13 a12.length c14, iV (a12.length : Int), fV, fV, .slice A17 b16.length c18, iV j477, pV b545 (of546 + (j477 : Int).toNat * 18), pV b545 (of546 + (j477 : Int).toNat * 18), (j475 63), (j475 64), (j475 65), (j475 66), (j475 67), (j475 68), (j475 69), (j475 70), (j475 71), (j475 72), (j475 73), (j475 74), (j475 75), (j475 76), (j475 77)], []⟩) rfl (by kernel_rfl) (by kernel_rfl) (by kernel_rfl) (fun ch_ a_ w_ q_ => (fun ch_ a_ w_ q_ => (fun ch_ a_ w_ q_ => hnp ch_ a_ w_ (hp27 ch_ a_ w_ q_)) ch_ a_ w_ (hp494 ch_ a_ w_ q_)) ch_ a_ w_ (hp501 ch_ a_ w_ q_)) (Sg.g0 (Sx.of [] (FM.le.refl _) HS570)) ?_
         refine takeGQ 9 [] rfl (by kernel_rfl) (by kernel_rfl) (by kernel_rfl) (by kernel_rfl) (by kernel_rfl) (by kernel_rfl) (fun ch_ a_ w_ q_ => (fun ch_ a_ w_ q_ => (fun ch_ a_ w_ q_ => hnp ch_ a_ w_ (hp27 ch_ a_ w_ q_)) ch_ a_ w_ (hp494 ch_ a_ w_ q_)) ch_ a_ w_ (hp501 ch_ a_ w_ q_)) (Sg.g0 (Sx.of [] (FM.le.refl _) HS570)) (fun w_ hw_ => by obtain ⟨g_, hl_, hS_⟩ := hw_.st; exact run_load rfl Try.underlying3 rfl (by kernel_rfl : _ = Value.pointer (some ⟨b545, of546 + (j477 : Int).toNat * 18, none⟩)) ((hc544 hl_ hS_) 0 (by decide))) ?_
         refine takeG [10, 11] (n := 8) (fuel := 6) (l' := #[true, true, true, true, true, true, true, true, true, true, true, true, false, false, false, false, false, false]) (a' := ⟨#[.slice A13 a12.length c14, .slice A17 b16.length c18, .func (.func 38) #[] #[pV b1 0, pV b3 0], uV, uV, uV, iV i476, iV j477, iV i476, .slice A13 a12.length c14, iV (a12.length : Int), tV, tV, uV, uV, uV, uV, tV, (j475 10), (j475 11), (j475 12), (j475 13), (j475 14), (j475 15), (j475 16), (j475 17), (j475 18), (j475 19), (j475 20), (j475 21), fV, iV j477, .slice A17 b16.length c18, iV (b16.length : Int), fV, fV, iV i476, .slice A13 a12.length c14, iV (a12.length : Int), tV, tV, .slice A13 a12.length c14, iV i476, pV b536 (of537 + (i476 : Int).toNat * 18), pV b536 (of537 + (i476 : Int).toNat * 18), iV ((rd a12 i476).ID), .slice A17 b16.length c18, iV j477, pV b545 (of546 + (j477 : Int).toNat * 18), pV b545 (of546 + (j477 : Int).toNat * 18), iV ((rd b16 j477).ID), fV, fV, fV, (j475 46), (j475 47), (j475 48), (j475 49), (j475 50), (j475 51), (j475 52), (j475 53), iV i476, .slice A13 a12.length c14, iV (a12.length : Int), fV, fV, .slice A17 b16.length c18, iV j477, pV b545 (of546 + (j477 : Int).toNat * 18), pV b545 (of546 + (j477 : Int).toNat * 18), iV ((rd b16 j477).ID), .slice A13 a12.length c14, iV i476, (j475 66), (j475 67), (j475 68), (j475 69), (j475 70), (j475 71), (j475 72), (j475 73), (j475 74), (j475 75), (j475 76), (j475 77)], []⟩) rfl (by kernel_rfl) (by kernel_rfl) (by kernel_rfl) (fun ch_ a_ w_ q_ => (fun ch_ a_ w_ q_ => (fun ch_ a_ w_ q_ => hnp ch_ a_ w_ (hp27 ch_ a_ w_ q_)) ch_ a_ w_ (hp494 ch_ a_ w_ q_)) ch_ a_ w_ (hp501 ch_ a_ w_ q_)) (Sg.g0 (Sx.of [] (FM.le.refl _) HS570)) ?_
         refine takeGQ 12 [] rfl (by kernel_rfl) (by kernel_rfl) (by kernel_rfl) (by kernel_rfl) (by kernel_rfl) (by kernel_rfl) (fun ch_ a_ w_ q_ => (fun ch_ a_ w_ q_ => (fun ch_ a_ w_ q_ => hnp ch_ a_ w_ (hp27 ch_ a_ w_ q_)) ch_ a_ w_ (hp494 ch_ a_ w_ q_)) ch_ a_ w_ (hp501 ch_ a_ w_ q_)) (Sg.g0 (Sx.of [] (FM.le.refl _) HS570)) (fun w_ hw_ => by obtain ⟨g_, hl_, hS_⟩ := hw_.st; exact run_indexE hA538 (sz := 18) rfl Try.underlying26 (by kernel_rfl) (by kernel_rfl : _ = Value.slice A13 a12.length c14) (by kernel_rfl : _ = Value.int .i64 i476) c532 c488 w_) ?_
         refine takeG [13] (n := 5) (fuel := 4) (l' := #[true, true, true, true, true, true, true, true, true, true, true, true, true, true, false, false, false, false]) (a' := ⟨#[.slice A13 a12.length c14, .slice A17 b16.length c18, .func (.func 38) #[] #[pV b1 0, pV b3 0], uV, uV, uV, iV i476, iV j477, iV i476, .slice A13 a12.length c14, iV (a12.length : Int), tV, tV, uV, uV, uV, uV, tV, (j475 10), (j475 11), (j475 12), (j475 13), (j475 14), (j475 15), (j475 16), (j475 17), (j475 18), (j475 19), (j475 20), (j475 21), fV, iV j477, .slice A17 b16.length c18, iV (b16.length : Int), fV, fV, iV i476, .slice A13 a12.length c14, iV (a12.length : Int), tV, tV, .slice A13 a12.length c14, iV i476, pV b536 (of537 + (i476 : Int).toNat * 18), pV b536 (of537 + (i476 : Int).toNat * 18), iV ((rd a12 i476).ID), .slice A17 b16.length c18, iV j477, pV b545 (of546 + (j477 : Int).toNat * 18), pV b545 (of546 + (j477 : Int).toNat * 18), iV ((rd b16 j477).ID), fV, fV, fV, (j475 46), (j475 47), (j475 48), (j475 49), (j475 50), (j475 51), (j475 52), (j475 53), iV i476, .slice A13 a12.length c14, iV (a12.length : Int), fV, fV, .slice A17 b16.length c18, iV j477, pV b545 (of546 + (j477 : Int).toNat * 18), pV b545 (of546 + (j477 : Int).toNat * 18), iV ((rd b16 j477).ID), .slice A13 a12.length c14, iV i476, pV b536 (of537 + (i476 : Int).toNat * 18), pV b536 (of537 + (i476 : Int).toNat * 18), (j475 68), (j475 69), (j475 70), (j475 71), (j475 72), (j475 73), (j475 74), (j475 75), (j475 76), (j475 77)], []⟩) rfl (by kernel_rfl) (by kernel_rfl) (by kernel_rfl) (fun ch_ a_ w_ q_ => (fun ch_ a_ w_ q_ => (fun ch_ a_ w_ q_ => hnp ch_ a_ w_ (hp27 ch_ a_ w_ q_)) ch_ a_ w_ (hp494 ch_ a_ w_ q_)) ch_ a_ w_ (hp501 ch_ a_ w_ q_)) (Sg.g0 (Sx.of [] (FM.le.refl _) HS570)) ?_
         refine takeGQ 14 [] rfl (by kernel_rfl) (by kernel_rfl) (by kernel_rfl) (by kernel_rfl) (by kernel_rfl) (by kernel_rfl) (fun ch_ a_ w_ q_ => (fun ch_ a_ w_ q_ => (fun ch_ a_ w_ q_ => hnp ch_ a_ w_ (hp27 ch_ a_ w_ q_)) ch_ a_ w_ (hp494 ch_ a_ w_ q_)) ch_ a_ w_ (hp501 ch_ a_ w_ q_)) (Sg.g0 (Sx.of [] (FM.le.refl _) HS570)) (fun w_ hw_ => by obtain ⟨g_, hl_, hS_⟩ := hw_.st; exact run_load rfl Try.underlying3 rfl (by kernel_rfl : _ = Value.pointer (some ⟨b536, of537 + (i476 : Int).toNat * 18, none⟩)) ((hc535 hl_ hS_) 0 (by decide))) ?_
         refine takeG [15, 16, 17] (n := 3) (fuel := 0) (l' := #[true, true, true, true, true, true, true, true, true, true, true, true, true, true, true, true, true, true]) (a' := ⟨#[.slice A13 a12.length c14, .slice A17 b16.length c18, .func (.func 38) #[] #[pV b1 0, pV b3 0], uV, uV, uV, iV i476, iV j477, iV i476, .slice A13 a12.length c14, iV (a12.length : Int), tV, tV, uV, uV, uV, uV, tV, (j475 10), (j475 11), (j475 12), (j475 13), (j475 14), (j475 15), (j475 16), (j475 17), (j475 18), (j475 19), (j475 20), (j475 21), fV, iV j477, .slice A17 b16.length c18, iV (b16.length : Int), fV, fV, iV i476, .slice A13 a12.length c14, iV (a12.length : Int), tV, tV, .slice A13 a12.length c14, iV i476, pV b536 (of537 + (i476 : Int).toNat * 18), pV b536 (of537 + (i476 : Int).toNat * 18), iV ((rd a12 i476).ID), .slice A17 b16.length c18, iV j477, pV b545 (of546 + (j477 : Int).toNat * 18), pV b545 (of546 + (j477 : Int).toNat * 18), iV ((rd b16 j477).ID), fV, fV, fV, (j475 46), (j475 47), (j475 48), (j475 49), (j475 50), (j475 51), (j475 52), .bool (decide (((rd b16 j477).ID) < ((rd a12 i476).ID))), iV i476, .slice A13 a12.length c14, iV (a12.length : Int), fV, fV, .slice A17 b16.length c18, iV j477, pV b545 (of546 + (j477 : Int).toNat * 18), pV b545 (of546 + (j477 : Int).toNat * 18), iV ((rd b16 j477).ID), .slice A13 a12.length c14, iV i476, pV b536 (of537 + (i476 : Int).toNat * 18), pV b536 (of537 + (i476 : Int).toNat * 18), iV ((rd a12 i476).ID), .bool (decide (((rd b16 j477).ID) < ((rd a12 i476).ID))), .bool (decide (((rd b16 j477).ID) < ((rd a12 i476).ID))), (j475 71), (j475 72), (j475 73), (j475 74), (j475 75), (j475 76), (j475 77)], []⟩) rfl (by kernel_rfl) (by kernel_rfl) (by kernel_rfl) (fun ch_ a_ w_ q_ => (fun ch_ a_ w_ q_ => (fun ch_ a_ w_ q_ => hnp ch_ a_ w_ (hp27 ch_ a_ w_ q_)) ch_ a_ w_ (hp494 ch_ a_ w_ q_)) ch_ a_ w_ (hp501 ch_ a_ w_ q_)) (Sg.g0 (Sx.of [] (FM.le.refl _) HS570)) ?_
         refine doneG (by kernel_rfl) ?_ _
         refine hK568 _ _ ?_
         have hq_ := ite_some h; clear h; rcases hq_ with ⟨c589, h⟩ | ⟨c589, h⟩
         · have c589 : ((rd b16 j477).ID) < ((rd a12 i476).ID) := c589
           refine wpRwI 61 (x := (decide (((rd b16 j477).ID) < ((rd a12 i476).ID)))) (v := true) (by kernel_rfl) (decide_eq_true c589) ?_
           refine wpRwI 77 (x := (decide (((rd b16 j477).ID) < ((rd a12 i476).ID)))) (v := true) (by kernel_rfl) (decide_eq_true c589) ?_
           refine wpRwI 78 (x := (decide (((rd b16 j477).ID) < ((rd a12 i476).ID)))) (v := true) (by kernel_rfl) (decide_eq_true c589) ?_
           refine condT (by kernel_rfl) ?_
           refine wp_seq_k (fun K590 hK591 => ?_)
           refine wp_region_lit ?_
           refine seqL3 (by kernel_rfl) ?_
           refine seqK rfl (does_run (run_indexE hA547 (sz := 18) rfl Try.underlying26 (by kernel_rfl) (by kernel_rfl : _ = Value.slice A17 b16.length c18) (by kernel_rfl : _ = Value.int .i64 j477) c540 c541 W569) ?_)
           have HS592 := HS570.u2
           have HS593 := HS592.u2
           have HS594 := HS593.u2
           have hq_ := bind_some h; clear h; obtain ⟨vt595, hc596, h⟩ := hq_
           refine seqK rfl (does_call (f := 38) (args := #[.pointer none, .pointer (some ⟨b545, of546 + (j477 : Int).toNat * 18, none⟩), .pointer (some ⟨b1, 0, none⟩), .pointer (some ⟨b3, 0, none⟩)]) (by kernel_rfl) (catalog_Merge_1_2.calls k b1 A479 c480 s481 b3 b545 (of546 + (j477 : Int).toNat * 18) A548 c548 x478 x483 (rd b16 j477) HS594 HO482 HR548 (fun hl_ => hc544 hl_) vt595 hc596) ?_)
           rintro _ W599 ⟨f597, A601, c602, s603, rfl, L598, HS600, HO604⟩
           refine ⟨_, rfl, ?_⟩
           refine wpList_nil ?_
           refine hK591 _ _ ?_
           refine wp_region_lit ?_
           refine seqL3 (by kernel_rfl) ?_
           refine wpList_nil ?_
           refine hn498 _ _ ?_
           refine hn491 _ _ ?_
           refine hK469 n470 _ _ (Nat.lt_succ_self _) ?_
           have HS710 := HS600.u2
           have HS711 := HS710.u2
           exact ⟨f597, A601, c602, s603, i476, (w64 (j477 + 1)), vt595, x483, (fun i_ => [Value.int .i64 i476, Value.slice A13 a12.length c14, Value.int .i64 (a12.length : Int), Value.bool true, Value.bool true, undef, undef, undef, undef, Value.bool true, (j475 10), (j475 11), (j475 12), (j475 13), (j475 14), (j475 15), (j475 16), (j475 17), (j475 18), (j475 19), (j475 20), (j475 21), Value.bool false, Value.int .i64 j477, Value.slice A17 b16.length c18, Value.int .i64 (b16.length : Int), Value.bool false, Value.bool false, Value.int .i64 i476, Value.slice A13 a12.length c14, Value.int .i64 (a12.length : Int), Value.bool true, Value.bool true, Value.slice A13 a12.length c14, Value.int .i64 i476, Value.pointer (some ⟨b536, of537 + (i476 : Int).toNat * 18, none⟩), Value.pointer (some ⟨b536, of537 + (i476 : Int).toNat * 18, none⟩), Value.int .i64 ((rd a12 i476).ID), Value.slice A17 b16.length c18, Value.int .i64 j477, Value.pointer (some ⟨b545, of546 + (j477 : Int).toNat * 18, none⟩), Value.pointer (some ⟨b545, of546 + (j477 : Int).toNat * 18, none⟩), Value.int .i64 ((rd b16 j477).ID), Value.bool false, Value.bool false, Value.bool false, (j475 46), (j475 47), (j475 48), (j475 49), (j475 50), (j475 51), (j475 52), Value.bool true, Value.int .i64 i476, Value.slice A13 a12.length c14, Value.int .i64 (a12.length : Int), Value.bool false, Value.bool false, Value.slice A17 b16.length c18, Value.int .i64 j477, Value.pointer (some ⟨b545, of546 + (j477 : Int).toNat * 18, none⟩), Value.pointer (some ⟨b545, of546 + (j477 : Int).toNat * 18, none⟩), Value.int .i64 ((rd b16 j477).ID), Value.slice A13 a12.length c14, Value.int .i64 i476, Value.pointer (some ⟨b536, of537 + (i476 : Int).toNat * 18, none⟩), Value.pointer (some ⟨b536, of537 + (i476 : Int).toNat * 18, none⟩), Value.int .i64 ((rd a12 i476).ID), Value.bool true, Value.bool true, Value.func (.func 38) #[] #[.pointer (some ⟨b1, 0, none⟩), .pointer (some ⟨b3, 0, none⟩)], Value.slice A17 b16.length c18, Value.int .i64 j477, Value.pointer (some ⟨b545, of546 + (j477 : Int).toNat * 18, none⟩), Value.tuple #[], Value.int .i64 j477, Value.int .i64 (w64 (j477 + 1))].getD i_ undef), (L472.trans L598), HS711, HO604, h, (by kernel_rfl)⟩
         · have c589 : ¬ (((rd b16 j477).ID) < ((rd a12 i476).ID)) := c589
           refine wpRwI 61 (x := (decide (((rd b16 j477).ID) < ((rd a12 i476).ID)))) (v := false) (by kernel_rfl) (decide_eq_false c589) ?_
           refine wpRwI 77 (x := (decide (((rd b16 j477).ID) < ((rd a12 i476).ID)))) (v := false) (by kernel_rfl) (decide_eq_false c589) ?_
           refine wpRwI 78 (x := (decide (((rd b16 j477).ID) < ((rd a12 i476).ID)))) (v := false) (by kernel_rfl) (decide_eq_false c589) ?_
           refine condF (by kernel_rfl) ?_
           refine wp_seq_k (fun K606 hK607 => ?_)
           have HS608 := HS570.u2
           have HS609 := HS608.u2
           have HS610 := HS609.u2
           refine heldG (S := Sg t f471 (H) [(7, [(b1, .cells #[.slice A479 x478.length c480] 26 (0, 0))]), (7, [(b3, .cells #[.int .i64 x483] 29 (0, 0))]), (7, s481)]) (n := 8) (by kernel_rfl) rfl HS610 ?_
           intro W611 HS612
           refine takeG [0, 1, 2] (n := 8) (fuel := 5) (l' := #[true, true, true, false, false, false, false, false]) (a' := ⟨#[.slice A13 a12.length c14, .slice A17 b16.length c18, .func (.func 38) #[] #[pV b1 0, pV b3 0], uV, uV, uV, iV i476, iV j477, iV i476, .slice A13 a12.length c14, iV (a12.length : Int), tV, tV, uV, uV, uV, uV, tV, .func (.func 38) #[] #[pV b1 0, pV b3 0], .slice A13 a12.length c14, iV i476, (j475 13), (j475 14), (j475 15), (j475 16), (j475 17), (j475 18), (j475 19), (j475 20), (j475 21), fV, iV j477, .slice A17 b16.length c18, iV (b16.length : Int), fV, fV, iV i476, .slice A13 a12.length c14, iV (a12.length : Int), tV, tV, .slice A13 a12.length c14, iV i476, pV b536 (of537 + (i476 : Int).toNat * 18), pV b536 (of537 + (i476 : Int).toNat * 18), iV ((rd a12 i476).ID), .slice A17 b16.length c18, iV j477, pV b545 (of546 + (j477 : Int).toNat * 18), pV b545 (of546 + (j477 : Int).toNat * 18), iV ((rd b16 j477).ID), fV, fV, fV, (j475 46), (j475 47), (j475 48), (j475 49), (j475 50), (j475 51), (j475 52), fV, iV i476, .slice A13 a12.length c14, iV (a12.length : Int), fV, fV, .slice A17 b16.length c18, iV j477, pV b545 (of546 + (j477 : Int).toNat * 18), pV b545 (of546 + (j477 : Int).toNat * 18), iV ((rd b16 j477).ID), .slice A13 a12.length c14, iV i476, pV b536 (of537 + (i476 : Int).toNat * 18), pV b536 (of537 + (i476 : Int).toNat * 18), iV ((rd a12 i476).ID), fV, fV, (j475 71), (j475 72), (j475 73), (j475 74), (j475 75), (j475 76), (j475 77)], []⟩) rfl (by kernel_rfl) (by kernel_rfl) (by kernel_rfl) (fun ch_ a_ w_ q_ => (fun ch_ a_ w_ q_ => (fun ch_ a_ w_ q_ => hnp ch_ a_ w_ (hp27 ch_ a_ w_ q_)) ch_ a_ w_ (hp494 ch_ a_ w_ q_)) ch_ a_ w_ (hp501 ch_ a_ w_ q_)) (Sg.g3 (Sx.of [[(b1, .cells #[.slice A479 x478.length c480] 26 (0, 0))], [(b3, .cells #[.int .i64 x483] 29 (0, 0))], s481] (FM.le.refl _) HS612) (fun _ => St.only [] HS612 (FM.le.refl _)) (fun _ => St.only [[(b1, .cells #[.slice A479 x478.length c480] 26 (0, 0))]] HS612 (FM.le.refl _)) (fun _ => St.only [[(b1, .cells #[.slice A479 x478.length c480] 26 (0, 0))], [(b3, .cells #[.int .i64 x483] 29 (0, 0))]] HS612 (FM.le.refl _))) ?_
           refine takeGQ 3 [] rfl (by kernel_rfl) (by kernel_rfl) (by kernel_rfl) (by kernel_rfl) (by kernel_rfl) (by kernel_rfl) (fun ch_ a_ w_ q_ => (fun ch_ a_ w_ q_ => (fun ch_ a_ w_ q_ => hnp ch_ a_ w_ (hp27 ch_ a_ w_ q_)) ch_ a_ w_ (hp494 ch_ a_ w_ q_)) ch_ a_ w_ (hp501 ch_ a_ w_ q_)) (Sg.g3 (Sx.of [[(b1, .cells #[.slice A479 x478.length c480] 26 (0, 0))], [(b3, .cells #[.int .i64 x483] 29 (0, 0))], s481] (FM.le.refl _) HS612) (fun _ => St.only [] HS612 (FM.le.refl _)) (fun _ => St.only [[(b1, .cells #[.slice A479 x478.length c480] 26 (0, 0))]] HS612 (FM.le.refl _)) (fun _ => St.only [[(b1, .cells #[.slice A479 x478.length c480] 26 (0, 0))], [(b3, .cells #[.int .i64 x483] 29 (0, 0))]] HS612 (FM.le.refl _))) (fun w_ hw_ => by obtain ⟨g_, hl_, hS_⟩ := hw_.st; exact run_indexE hA538 (sz := 18) rfl Try.underlying26 (by kernel_rfl) (by kernel_rfl : _ = Value.slice A13 a12.length c14) (by kernel_rfl : _ = Value.int .i64 i476) c532 c488 w_) ?_
           refine takeG [4, 5] (n := 4) (fuel := 2) (l' := #[true, true, true, true, true, true, false, false]) (a' := ⟨#[.slice A13 a12.length c14, .slice A17 b16.length c18, .func (.func 38) #[] #[pV b1 0, pV b3 0], uV, uV, uV, iV i476, iV j477, iV i476, .slice A13 a12.length c14, iV (a12.length : Int), tV, tV, uV, uV, uV, uV, tV, .func (.func 38) #[] #[pV b1 0, pV b3 0], .slice A13 a12.length c14, iV i476, pV b536 (of537 + (i476 : Int).toNat * 18), .slice A17 b16.length c18, iV j477, (j475 16), (j475 17), (j475 18), (j475 19), (j475 20), (j475 21), fV, iV j477, .slice A17 b16.length c18, iV (b16.length : Int), fV, fV, iV i476, .slice A13 a12.length c14, iV (a12.length : Int), tV, tV, .slice A13 a12.length c14, iV i476, pV b536 (of537 + (i476 : Int).toNat * 18), pV b536 (of537 + (i476 : Int).toNat * 18), iV ((rd a12 i476).ID), .slice A17 b16.length c18, iV j477, pV b545 (of546 + (j477 : Int).toNat * 18), pV b545 (of546 + (j477 : Int).toNat * 18), iV ((rd b16 j477).ID), fV, fV, fV, (j475 46), (j475 47), (j475 48), (j475 49), (j475 50), (j475 51), (j475 52), fV, iV i476, .slice A13 a12.length c14, iV (a12.length : Int), fV, fV, .slice A17 b16.length c18, iV j477, pV b545 (of546 + (j477 : Int).toNat * 18), pV b545 (of546 + (j477 : Int).toNat * 18), iV ((rd b16 j477).ID), .slice A13 a12.length c14, iV i476, pV b536 (of537 + (i476 : Int).toNat * 18), pV b536 (of537 + (i476 : Int).toNat * 18), iV ((rd a12 i476).ID), fV, fV, (j475 71), (j475 72), (j475 73), (j475 74), (j475 75), (j475 76), (j475 77)], []⟩) rfl (by kernel_rfl) (by kernel_rfl) (by kernel_rfl) (fun ch_ a_ w_ q_ => (fun ch_ a_ w_ q_ => (fun ch_ a_ w_ q_ => hnp ch_ a_ w_ (hp27 ch_ a_ w_ q_)) ch_ a_ w_ (hp494 ch_ a_ w_ q_)) ch_ a_ w_ (hp501 ch_ a_ w_ q_)) (Sg.g3 (Sx.of [[(b1, .cells #[.slice A479 x478.length c480] 26 (0, 0))], [(b3, .cells #[.int .i64 x483] 29 (0, 0))], s481] (FM.le.refl _) HS612) (fun _ => St.only [] HS612 (FM.le.refl _)) (fun _ => St.only [[(b1, .cells #[.slice A479 x478.length c480] 26 (0, 0))]] HS612 (FM.le.refl _)) (fun _ => St.only [[(b1, .cells #[.slice A479 x478.length c480] 26 (0, 0))], [(b3, .cells #[.int .i64 x483] 29 (0, 0))]] HS612 (FM.le.refl _))) ?_
           refine takeGQ 6 [] rfl (by kernel_rfl) (by kernel_rfl) (by kernel_rfl) (by kernel_rfl) (by kernel_rfl) (by kernel_rfl) (fun ch_ a_ w_ q_ => (fun ch_ a_ w_ q_ => (fun ch_ a_ w_ q_ => hnp ch_ a_ w_ (hp27 ch_ a_ w_ q_)) ch_ a_ w_ (hp494 ch_ a_ w_ q_)) ch_ a_ w_ (hp501 ch_ a_ w_ q_)) (Sg.g3 (Sx.of [[(b1, .cells #[.slice A479 x478.length c480] 26 (0, 0))], [(b3, .cells #[.int .i64 x483] 29 (0, 0))], s481] (FM.le.refl _) HS612) (fun _ => St.only [] HS612 (FM.le.refl _)) (fun _ => St.only [[(b1, .cells #[.slice A479 x478.length c480] 26 (0, 0))]] HS612 (FM.le.refl _)) (fun _ => St.only [[(b1, .cells #[.slice A479 x478.length c480] 26 (0, 0))], [(b3, .cells #[.int .i64 x483] 29 (0, 0))]] HS612 (FM.le.refl _))) (fun w_ hw_ => by obtain ⟨g_, hl_, hS_⟩ := hw_.st; exact run_indexE hA547 (sz := 18) rfl Try.underlying26 (by kernel_rfl) (by kernel_rfl : _ = Value.slice A17 b16.length c18) (by kernel_rfl : _ = Value.int .i64 j477) c540 c541 w_) ?_
           have HS613 := HS612.u2
           have HS614 := HS613.u2
           have HS615 := HS614.u2
           have hq_ := bind_some h; clear h; obtain ⟨⟨vt616, vt617⟩, hc618, h⟩ := hq_
           refine takeGE 7 (by kernel_rfl) rfl (by kernel_rfl) (does_call (f := 38) (args := #[.pointer (some ⟨b536, of537 + (i476 : Int).toNat * 18, none⟩), .pointer (some ⟨b545, of546 + (j477 : Int).toNat * 18, none⟩), .pointer (some ⟨b1, 0, none⟩), .pointer (some ⟨b3, 0, none⟩)]) (by kernel_rfl) (catalog_Merge_1_3.calls k b1 A479 c480 s481 b3 b536 (of537 + (i476 : Int).toNat * 18) A539 c539 b545 (of546 + (j477 : Int).toNat * 18) A548 c548 x478 x483 (rd a12 i476) (rd b16 j477) HS615 HO482 HR539 (fun hl_ => hc535 hl_) HR548 (fun hl_ => hc544 hl_) vt616 vt617 hc618) ?_)
           rintro _ W621 ⟨f619, A623, c624, s625, rfl, L620, HS622, HO626⟩
           refine ⟨_, rfl, ?_⟩
           refine ⟨(Sg.g3 (Sx.of [s625, [(b1, .cells #[.slice A623 vt616.length c624] 26 (0, 0))], [(b3, .cells #[.int .i64 vt617] 29 (0, 0))]] L620 HS622) (fun hl_ => Bool.noConfusion (show true = false from hl_)) (fun hl_ => Bool.noConfusion (show true = false from hl_)) (fun hl_ => Bool.noConfusion (show true = false from hl_))), ?_⟩
           refine doneG (by kernel_rfl) ?_ _
           refine hK607 _ _ ?_
           refine wp_region_lit ?_
           refine seqL6 (by kernel_rfl) ?_
           refine wpList_nil ?_
           refine hn498 _ _ ?_
           refine hn491 _ _ ?_
           refine hK469 n470 _ _ (Nat.lt_succ_self _) ?_
           have HS712 := HS622.u2
           have HS713 := HS712.u2
           exact ⟨f619, A623, c624, s625, (w64 (i476 + 1)), (w64 (j477 + 1)), vt616, vt617, (fun i_ => [Value.int .i64 i476, Value.slice A13 a12.length c14, Value.int .i64 (a12.length : Int), Value.bool true, Value.bool true, undef, undef, undef, undef, Value.bool true, Value.func (.func 38) #[] #[.pointer (some ⟨b1, 0, none⟩), .pointer (some ⟨b3, 0, none⟩)], Value.slice A13 a12.length c14, Value.int .i64 i476, Value.pointer (some ⟨b536, of537 + (i476 : Int).toNat * 18, none⟩), Value.slice A17 b16.length c18, Value.int .i64 j477, Value.pointer (some ⟨b545, of546 + (j477 : Int).toNat * 18, none⟩), Value.tuple #[], Value.int .i64 i476, Value.int .i64 (w64 (i476 + 1)), Value.int .i64 j477, Value.int .i64 (w64 (j477 + 1)), Value.bool false, Value.int .i64 j477, Value.slice A17 b16.length c18, Value.int .i64 (b16.length : Int), Value.bool false, Value.bool false, Value.int .i64 i476, Value.slice A13 a12.length c14, Value.int .i64 (a12.length : Int), Value.bool true, Value.bool true, Value.slice A13 a12.length c14, Value.int .i64 i476, Value.pointer (some ⟨b536, of537 + (i476 : Int).toNat * 18, none⟩), Value.pointer (some ⟨b536, of537 + (i476 : Int).toNat * 18, none⟩), Value.int .i64 ((rd a12 i476).ID), Value.slice A17 b16.length c18, Value.int .i64 j477, Value.pointer (some ⟨b545, of546 + (j477 : Int).toNat * 18, none⟩), Value.pointer (some ⟨b545, of546 + (j477 : Int).toNat * 18, none⟩), Value.int .i64 ((rd b16 j477).ID), Value.bool false, Value.bool false, Value.bool false, (j475 46), (j475 47), (j475 48), (j475 49), (j475 50), (j475 51), (j475 52), Value.bool false, Value.int .i64 i476, Value.slice A13 a12.length c14, Value.int .i64 (a12.length : Int), Value.bool false, Value.bool false, Value.slice A17 b16.length c18, Value.int .i64 j477, Value.pointer (some ⟨b545, of546 + (j477 : Int).toNat * 18, none⟩), Value.pointer (some ⟨b545, of546 + (j477 : Int).toNat * 18, none⟩), Value.int .i64 ((rd b16 j477).ID), Value.slice A13 a12.length c14, Value.int .i64 i476, Value.pointer (some ⟨b536, of537 + (i476 : Int).toNat * 18, none⟩), Value.pointer (some ⟨b536, of537 + (i476 : Int).toNat * 18, none⟩), Value.int .i64 ((rd a12 i476).ID), Value.bool false, Value.bool false, (j475 71), (j475 72), (j475 73), (j475 74), (j475 75), (j475 76), (j475 77)].getD i_ undef), (L472.trans L620), HS713, HO626, h, (by kernel_rfl)⟩
 · have c488 : ¬ (i476 < (a12.length : Int)) := c488
   refine seqRwI 11 (x := (decide (i476 < (a12.length : Int)))) (v := false) (by kernel_rfl) (decide_eq_false c488) ?_
   refine seqRwI 12 (x := (decide (i476 < (a12.length : Int)))) (v := false) (by kernel_rfl) (decide_eq_false c488) ?_
   refine seqL5 (by kernel_rfl) ?_
   refine wpList_nil ?_
   refine hK487 _ _ ?_
   have hq_ := ite_some h; clear h; rcases hq_ with ⟨c629, h⟩ | ⟨c629, h⟩
   · have c629 : j477 < (b16.length : Int) := c629
     refine wpRwI 16 (x := (decide (j477 < (b16.length : Int)))) (v := true) (by kernel_rfl) (decide_eq_true c629) ?_
     refine wpRwI 17 (x := (decide (j477 < (b16.length : Int)))) (v := true) (by kernel_rfl) (decide_eq_true c629) ?_
     refine condT (by kernel_rfl) ?_
     refine wp_skip ?_
     refine hK485 _ _ ?_
     refine blockK (fun B630 hx631 hn632 hr633 ho634 hp635 => ?_)
     refine blockK (fun B637 hx638 hn639 hr640 ho641 hp642 => ?_)
     refine wp_seq_k (fun K644 hK645 => ?_)
     refine heldG (S := Sg t f471 ([(b1, .cells #[.slice A479 x478.length c480] 26 (0, 0))] :: [(b3, .cells #[.int .i64 x483] 29 (0, 0))] :: s481 :: H) []) (n := 24) (by kernel_rfl) rfl HS474 ?_
     intro W646 HS647
     refine takeG [0, 1, 2, 3, 4] (n := 24) (fuel := 19) (l' := #[true, true, true, true, true, false, false, false, false, false, false, false, false, false, false, false, false, false, false, false, false, false, false, false]) (a' := ⟨#[.slice A13 a12.length c14, .slice A17 b16.length c18, .func (.func 38) #[] #[pV b1 0, pV b3 0], uV, uV, uV, iV i476, iV j477, iV i476, .slice A13 a12.length c14, iV (a12.length : Int), fV, fV, iV j477, .slice A17 b16.length c18, iV (b16.length : Int), tV, tV, (j475 10), (j475 11), (j475 12), (j475 13), (j475 14), (j475 15), (j475 16), (j475 17), (j475 18), (j475 19), (j475 20), (j475 21), (j475 22), iV j477, .slice A17 b16.length c18, iV (b16.length : Int), .bool (j477 == (b16.length : Int)), .bool (j477 == (b16.length : Int)), (j475 28), (j475 29), (j475 30), (j475 31), (j475 32), (j475 33), (j475 34), (j475 35), (j475 36), (j475 37), (j475 38), (j475 39), (j475 40), (j475 41), (j475 42), (j475 43), (j475 44), (j475 45), (j475 46), (j475 47), (j475 48), (j475 49), (j475 50), (j475 51), (j475 52), (j475 53), (j475 54), (j475 55), (j475 56), (j475 57), (j475 58), (j475 59), (j475 60), (j475 61), (j475 62), (j475 63), (j475 64), (j475 65), (j475 66), (j475 67), (j475 68), (j475 69), (j475 70), (j475 71), (j475 72), (j475 73), (j475 74), (j475 75), (j475 76), (j475 77)], []⟩) rfl (by kernel_rfl) (by kernel_rfl) (by kernel_rfl) (fun ch_ a_ w_ q_ => (fun ch_ a_ w_ q_ => (fun ch_ a_ w_ q_ => hnp ch_ a_ w_ (hp27 ch_ a_ w_ q_)) ch_ a_ w_ (hp635 ch_ a_ w_ q_)) ch_ a_ w_ (hp642 ch_ a_ w_ q_)) (Sg.g0 (Sx.of [] (FM.le.refl _) HS647)) ?_
     have hq_ := ite_some h; clear h; rcases hq_ with ⟨c648, h⟩ | ⟨c648, h⟩
     · have c648 : j477 = (b16.length : Int) := c648
       refine gateRwI 34 (x := (j477 == (b16.length : Int))) (v := true) (by kernel_rfl) (beq_iff_eq.mpr c648) ?_
       refine gateRwI 35 (x := (j477 == (b16.length : Int))) (v := true) (by kernel_rfl) (beq_iff_eq.mpr c648) ?_
       refine takeG [5, 6, 7, 8, 9, 10, 11, 12, 13, 14, 15, 16, 17, 18, 19, 20, 21, 22, 23] (n := 19) (fuel := 0) (l' := #[true, true, true, true, true, true, true, true, true, true, true, true, true, true, true, true, true, true, true, true, true, true, true, true]) (a' := ⟨#[.slice A13 a12.length c14, .slice A17 b16.length c18, .func (.func 38) #[] #[pV b1 0, pV b3 0], uV, uV, uV, iV i476, iV j477, iV i476, .slice A13 a12.length c14, iV (a12.length : Int), fV, fV, iV j477, .slice A17 b16.length c18, iV (b16.length : Int), tV, tV, (j475 10), (j475 11), (j475 12), (j475 13), (j475 14), (j475 15), (j475 16), (j475 17), (j475 18), (j475 19), (j475 20), (j475 21), tV, iV j477, .slice A17 b16.length c18, iV (b16.length : Int), tV, tV, uV, uV, uV, uV, uV, uV, uV, uV, uV, uV, uV, uV, uV, uV, uV, uV, uV, tV, (j475 46), (j475 47), (j475 48), (j475 49), (j475 50), (j475 51), (j475 52), (j475 53), (j475 54), (j475 55), (j475 56), (j475 57), (j475 58), (j475 59), (j475 60), (j475 61), (j475 62), (j475 63), (j475 64), (j475 65), (j475 66), (j475 67), (j475 68), (j475 69), (j475 70), (j475 71), (j475 72), (j475 73), (j475 74), (j475 75), (j475 76), (j475 77)], []⟩) rfl (by kernel_rfl) (by kernel_rfl) (by kernel_rfl) (fun ch_ a_ w_ q_ => (fun ch_ a_ w_ q_ => (fun ch_ a_ w_ q_ => hnp ch_ a_ w_ (hp27 ch_ a_ w_ q_)) ch_ a_ w_ (hp635 ch_ a_ w_ q_)) ch_ a_ w_ (hp642 ch_ a_ w_ q_)) (Sg.g0 (Sx.of [] (FM.le.refl _) HS647)) ?_
       refine doneG (by kernel_rfl) ?_ _
       refine hK645 _ _ ?_
       refine condT (by kernel_rfl) ?_
       refine wp_seq_k (fun K649 hK650 => ?_)
       refine wp_region_lit ?_
       have hq_ := guard_some h; clear h; obtain ⟨c651, h⟩ := hq_
       have c651 : 0 ≤ i476 := c651
       have hq_ := guard_some h; clear h; obtain ⟨hq2_, h⟩ := hq_
       exact absurd hq2_ c488
     · have c648 : ¬ (j477 = (b16.length : Int)) := c648
       refine gateRwI 34 (x := (j477 == (b16.length : Int))) (v := false) (by kernel_rfl) (beq_eq_false_iff_ne.mpr c648) ?_
       refine gateRwI 35 (x := (j477 == (b16.length : Int))) (v := false) (by kernel_rfl) (beq_eq_false_iff_ne.mpr c648) ?_
       refine takeG [5, 6, 7, 8, 9] (n := 19) (fuel := 14) (l' := #[true, true, true, true, true, true, true, true, true, true, false, false, false, false, false, false, false, false, false, false, false, false, false, false]) (a' := ⟨#[.slice A13 a12.length c14, .slice A17 b16.length c18, .func (.func 38) #[] #[pV b1 0, pV b3 0], uV, uV, uV, iV i476, iV j477, iV i476, .slice A13 a12.length c14, iV (a12.length : Int), fV, fV, iV j477, .slice A17 b16.length c18, iV (b16.length : Int), tV, tV, (j475 10), (j475 11), (j475 12), (j475 13), (j475 14), (j475 15), (j475 16), (j475 17), (j475 18), (j475 19), (j475 20), (j475 21), (j475 22), iV j477, .slice A17 b16.length c18, iV (b16.length : Int), fV, fV, iV i476, .slice A13 a12.length c14, iV (a12.length : Int), .bool (decide (i476 < (a12.length : Int))), .bool (decide (i476 < (a12.length : Int))), (j475 33), (j475 34), (j475 35), (j475 36), (j475 37), (j475 38), (j475 39), (j475 40), (j475 41), (j475 42), (j475 43), (j475 44), (j475 45), (j475 46), (j475 47), (j475 48), (j475 49), (j475 50), (j475 51), (j475 52), (j475 53), (j475 54), (j475 55), (j475 56), (j475 57), (j475 58), (j475 59), (j475 60), (j475 61), (j475 62), (j475 63), (j475 64), (j475 65), (j475 66), (j475 67), (j475 68), (j475 69), (j475 70), (j475 71), (j475 72), (j475 73), (j475 74), (j475 75), (j475 76), (j475 77)], []⟩) rfl (by kernel_rfl) (by kernel_rfl) (by kernel_rfl) (fun ch_ a_ w_ q_ => (fun ch_ a_ w_ q_ => (fun ch_ a_ w_ q_ => hnp ch_ a_ w_ (hp27 ch_ a_ w_ q_)) ch_ a_ w_ (hp635 ch_ a_ w_ q_)) ch_ a_ w_ (hp642 ch_ a_ w_ q_)) (Sg.g0 (Sx.of [] (FM.le.refl _) HS647)) ?_
       refine gateRwI 39 (x := (decide (i476 < (a12.length : Int)))) (v := false) (by kernel_rfl) (decide_eq_false c488) ?_
       refine gateRwI 40 (x := (decide (i476 < (a12.length : Int)))) (v := false) (by kernel_rfl) (decide_eq_false c488) ?_
       refine takeG [10, 11, 12, 13, 14, 15, 16, 17, 18, 19, 20, 21, 22, 23] (n := 14) (fuel := 0) (l' := #[true, true, true, true, true, true, true, true, true, true, true, true, true, true, true, true, true, true, true, true, true, true, true, true]) (a' := ⟨#[.slice A13 a12.length c14, .slice A17 b16.length c18, .func (.func 38) #[] #[pV b1 0, pV b3 0], uV, uV, uV, iV i476, iV j477, iV i476, .slice A13 a12.length c14, iV (a12.length : Int), fV, fV, iV j477, .slice A17 b16.length c18, iV (b16.length : Int), tV, tV, (j475 10), (j475 11), (j475 12), (j475 13), (j475 14), (j475 15), (j475 16), (j475 17), (j475 18), (j475 19), (j475 20), (j475 21), fV, iV j477, .slice A17 b16.length c18, iV (b16.length : Int), fV, fV, iV i476, .slice A13 a12.length c14, iV (a12.length : Int), fV, fV, uV, uV, uV, uV, uV, uV, uV, uV, uV, uV, uV, fV, fV, (j475 46), (j475 47), (j475 48), (j475 49), (j475 50), (j475 51), (j475 52), (j475 53), (j475 54), (j475 55), (j475 56), (j475 57), (j475 58), (j475 59), (j475 60), (j475 61), (j475 62), (j475 63), (j475 64), (j475 65), (j475 66), (j475 67), (j475 68), (j475 69), (j475 70), (j475 71), (j475 72), (j475 73), (j475 74), (j475 75), (j475 76), (j475 77)], []⟩) rfl (by kernel_rfl) (by kernel_rfl) (by kernel_rfl) (fun ch_ a_ w_ q_ => (fun ch_ a_ w_ q_ => (fun ch_ a_ w_ q_ => hnp ch_ a_ w_ (hp27 ch_ a_ w_ q_)) ch_ a_ w_ (hp635 ch_ a_ w_ q_)) ch_ a_ w_ (hp642 ch_ a_ w_ q_)) (Sg.g0 (Sx.of [] (FM.le.refl _) HS647)) ?_
       refine doneG (by kernel_rfl) ?_ _
       refine hK645 _ _ ?_
       refine condF (by kernel_rfl) ?_
       refine wp_seq_k (fun K652 hK653 => ?_)
       refine heldG (S := Sg t f471 ([(b1, .cells #[.slice A479 x478.length c480] 26 (0, 0))] :: [(b3, .cells #[.int .i64 x483] 29 (0, 0))] :: s481 :: H) []) (n := 18) (by kernel_rfl) rfl HS647 ?_
       intro W654 HS655
       refine takeG [0, 1, 2, 3, 4] (n := 18) (fuel := 13) (l' := #[true, true, true, true, true, false, false, false, false, false, false, false, false, false, false, false, false, false]) (a' := ⟨#[.slice A13 a12.length c14, .slice A17 b16.length c18, .func (.func 38) #[] #[pV b1 0, pV b3 0], uV, uV, uV, iV i476, iV j477, iV i476, .slice A13 a12.length c14, iV (a12.length : Int), fV, fV, iV j477, .slice A17 b16.length c18, iV (b16.length : Int), tV, tV, (j475 10), (j475 11), (j475 12), (j475 13), (j475 14), (j475 15), (j475 16), (j475 17), (j475 18), (j475 19), (j475 20), (j475 21), fV, iV j477, .slice A17 b16.length c18, iV (b16.length : Int), fV, fV, iV i476, .slice A13 a12.length c14, iV (a12.length : Int), fV, fV, uV, uV, uV, uV, uV, uV, uV, uV, uV, uV, uV, fV, fV, (j475 46), (j475 47), (j475 48), (j475 49), (j475 50), (j475 51), (j475 52), (j475 53), iV i476, .slice A13 a12.length c14, iV (a12.length : Int), .bool (i476 == (a12.length : Int)), .bool (i476 == (a12.length : Int)), (j475 59), (j475 60), (j475 61), (j475 62), (j475 63), (j475 64), (j475 65), (j475 66), (j475 67), (j475 68), (j475 69), (j475 70), (j475 71), (j475 72), (j475 73), (j475 74), (j475 75), (j475 76), (j475 77)], []⟩) rfl (by kernel_rfl) (by kernel_rfl) (by kernel_rfl) (fun ch_ a_ w_ q_ => (fun ch_ a_ w_ q_ => (fun ch_ a_ w_ q_ => hnp ch_ a_ w_ (hp27 ch_ a_ w_ q_)) ch_ a_ w_ (hp635 ch_ a_ w_ q_)) ch_ a_ w_ (hp642 ch_ a_ w_ q_)) (Sg.g0 (Sx.of [] (FM.le.refl _) HS655)) ?_
       have hq_ := ite_some h; clear h; rcases hq_ with ⟨c656, h⟩ | ⟨c656, h⟩
       · have c656 : i476 = (a12.length : Int) := c656
         refine gateRwI 65 (x := (i476 == (a12.length : Int))) (v := true) (by kernel_rfl) (beq_iff_eq.mpr c656) ?_
         refine gateRwI 66 (x := (i476 == (a12.length : Int))) (v := true) (by kernel_rfl) (beq_iff_eq.mpr c656) ?_
         refine takeG [5, 6, 7, 8, 9, 10, 11, 12, 13, 14, 15, 16, 17] (n := 13) (fuel := 0) (l' := #[true, true, true, true, true, true, true, true, true, true, true, true, true, true, true, true, true, true]) (a' := ⟨#[.slice A13 a12.length c14, .slice A17 b16.length c18, .func (.func 38) #[] #[pV b1 0, pV b3 0], uV, uV, uV, iV i476, iV j477, iV i476, .slice A13 a12.length c14, iV (a12.length : Int), fV, fV, iV j477, .slice A17 b16.length c18, iV (b16.length : Int), tV, tV, (j475 10), (j475 11), (j475 12), (j475 13), (j475 14), (j475 15), (j475 16), (j475 17), (j475 18), (j475 19), (j475 20), (j475 21), fV, iV j477, .slice A17 b16.length c18, iV (b16.length : Int), fV, fV, iV i476, .slice A13 a12.length c14, iV (a12.length : Int), fV, fV, uV, uV, uV, uV, uV, uV, uV, uV, uV, uV, uV, fV, fV, (j475 46), (j475 47), (j475 48), (j475 49), (j475 50), (j475 51), (j475 52), tV, iV i476, .slice A13 a12.length c14, iV (a12.length : Int), tV, tV, uV, uV, uV, uV, uV, uV, uV, uV, uV, uV, uV, tV, (j475 71), (j475 72), (j475 73), (j475 74), (j475 75), (j475 76), (j475 77)], []⟩) rfl (by kernel_rfl) (by kernel_rfl) (by kernel_rfl) (fun ch_ a_ w_ q_ => (fun ch_ a_ w_ q_ => (fun ch_ a_ w_ q_ => hnp ch_ a_ w_ (hp27 ch_ a_ w_ q_)) ch_ a_ w_ (hp635 ch_ a_ w_ q_)) ch_ a_ w_ (hp642 ch_ a_ w_ q_)) (Sg.g0 (Sx.of [] (FM.le.refl _) HS655)) ?_
         refine doneG (by kernel_rfl) ?_ _
         refine hK653 _ _ ?_
         refine condT (by kernel_rfl) ?_
         refine wp_seq_k (fun K657 hK658 => ?_)
         refine wp_region_lit ?_
         have hq_ := guard_some h; clear h; obtain ⟨c659, h⟩ := hq_
         have c659 : 0 ≤ j477 := c659
         obtain ⟨b663, of664, cs660, hA665, hr661, hc662⟩ := (HR19.mono L472).at (i := j477) c659 c629
         obtain ⟨A666, c666, rfl, HR666⟩ := hr661
         refine seqL3 (by kernel_rfl) ?_
         refine seqK rfl (does_run (run_indexE hA665 (sz := 18) rfl Try.underlying26 (by kernel_rfl) (by kernel_rfl : _ = Value.slice A17 b16.length c18) (by kernel_rfl : _ = Value.int .i64 j477) c659 c629 W654) ?_)
         have HS667 := HS655.u2
         have HS668 := HS667.u2
         have HS669 := HS668.u2
         have hq_ := bind_some h; clear h; obtain ⟨vt670, hc671, h⟩ := hq_
         refine seqK rfl (does_call (f := 38) (args := #[.pointer none, .pointer (some ⟨b663, of664 + (j477 : Int).toNat * 18, none⟩), .pointer (some ⟨b1, 0, none⟩), .pointer (some ⟨b3, 0, none⟩)]) (by kernel_rfl) (catalog_Merge_1_2.calls k b1 A479 c480 s481 b3 b663 (of664 + (j477 : Int).toNat * 18) A666 c666 x478 x483 (rd b16 j477) HS669 HO482 HR666 (fun hl_ => hc662 hl_) vt670 hc671) ?_)
         rintro _ W674 ⟨f672, A676, c677, s678, rfl, L673, HS675, HO679⟩
         refine ⟨_, rfl, ?_⟩
         refine wpList_nil ?_
         refine hK658 _ _ ?_
         refine wp_region_lit ?_
         refine seqL3 (by kernel_rfl) ?_
         refine wpList_nil ?_
         refine hn639 _ _ ?_
         refine hn632 _ _ ?_
         refine hK469 n470 _ _ (Nat.lt_succ_self _) ?_
         have HS714 := HS675.u2
         have HS715 := HS714.u2
         exact ⟨f672, A676, c677, s678, i476, (w64 (j477 + 1)), vt670, x483, (fun i_ => [Value.int .i64 i476, Value.slice A13 a12.length c14, Value.int .i64 (a12.length : Int), Value.bool false, Value.bool false, Value.int .i64 j477, Value.slice A17 b16.length c18, Value.int .i64 (b16.length : Int), Value.bool true, Value.bool true, (j475 10), (j475 11), (j475 12), (j475 13), (j475 14), (j475 15), (j475 16), (j475 17), (j475 18), (j475 19), (j475 20), (j475 21), Value.bool false, Value.int .i64 j477, Value.slice A17 b16.length c18, Value.int .i64 (b16.length : Int), Value.bool false, Value.bool false, Value.int .i64 i476, Value.slice A13 a12.length c14, Value.int .i64 (a12.length : Int), Value.bool false, Value.bool false, undef, undef, undef, undef, undef, undef, undef, undef, undef, undef, undef, Value.bool false, Value.bool false, (j475 46), (j475 47), (j475 48), (j475 49), (j475 50), (j475 51), (j475 52), Value.bool true, Value.int .i64 i476, Value.slice A13 a12.length c14, Value.int .i64 (a12.length : Int), Value.bool true, Value.bool true, undef, undef, undef, undef, undef, undef, undef, undef, undef, undef, undef, Value.bool true, Value.func (.func 38) #[] #[.pointer (some ⟨b1, 0, none⟩), .pointer (some ⟨b3, 0, none⟩)], Value.slice A17 b16.length c18, Value.int .i64 j477, Value.pointer (some ⟨b663, of664 + (j477 : Int).toNat * 18, none⟩), Value.tuple #[], Value.int .i64 j477, Value.int .i64 (w64 (j477 + 1))].getD i_ undef), (L472.trans L673), HS715, HO679, h, (by kernel_rfl)⟩
       · have c656 : ¬ (i476 = (a12.length : Int)) := c656
         refine gateRwI 65 (x := (i476 == (a12.length : Int))) (v := false) (by kernel_rfl) (beq_eq_false_iff_ne.mpr c656) ?_
         refine gateRwI 66 (x := (i476 == (a12.length : Int))) (v := false) (by kernel_rfl) (beq_eq_false_iff_ne.mpr c656) ?_
         have hq_ := guard_some h; clear h; obtain ⟨c681, h⟩ := hq_
         have c681 : 0 ≤ j477 := c681
         obtain ⟨b685, of686, cs682, hA687, hr683, hc684⟩ := (HR19.mono L472).at (i := j477) c681 c629
         obtain ⟨A688, c688, rfl, HR688⟩ := hr683
         refine takeG [5, 6] (n := 13) (fuel := 11) (l' := #[true, true, true, true, true, true, true, false, false, false, false, false, false, false, false, false, false, false]) (a' := ⟨#[.slice A13 a12.length c14, .slice A17 b16.length c18, .func (.func 38) #[] #[pV b1 0, pV b3 0], uV, uV, uV, iV i476, iV j477, iV i476, .slice A13 a12.length c14, iV (a12.length : Int), fV, fV, iV j477, .slice A17 b16.length c18, iV (b16.length : Int), tV, tV, (j475 10), (j475 11), (j475 12), (j475 13), (j475 14), (j475 15), (j475 16), (j475 17), (j475 18), (j475 19), (j475 20), (j475 21), fV, iV j477, .slice A17 b16.length c18, iV (b16.length : Int), fV, fV, iV i476, .slice A13 a12.length c14, iV (a12.length : Int), fV, fV, uV, uV, uV, uV, uV, uV, uV, uV, uV, uV, uV, fV, fV, (j475 46), (j475 47), (j475 48), (j475 49), (j475 50), (j475 51), (j475 52), (j475 53), iV i476, .slice A13 a12.length c14, iV (a12.length : Int), fV, fV, .slice A17 b16.length c18, iV j477, (j475 61), (j475 62), (j475 63), (j475 64), (j475 65), (j475 66), (j475 67), (j475 68), (j475 69), (j475 70), (j475 71), (j475 72), (j475 73), (j475 74), (j475 75), (j475 76), (j475 77)], []⟩) rfl (by kernel_rfl) (by kernel_rfl) (by kernel_rfl) (fun ch_ a_ w_ q_ => (fun ch_ a_ w_ q_ => (fun ch_ a_ w_ q_ => hnp ch_ a_ w_ (hp27 ch_ a_ w_ q_)) ch_ a_ w_ (hp635 ch_ a_ w_ q_)) ch_ a_ w_ (hp642 ch_ a_ w_ q_)) (Sg.g0 (Sx.of [] (FM.le.refl _) HS655)) ?_
         refine takeGQ 7 [] rfl (by kernel_rfl) (by kernel_rfl) (by kernel_rfl) (by kernel_rfl) (by kernel_rfl) (by kernel_rfl) (fun ch_ a_ w_ q_ => (fun ch_ a_ w_ q_ => (fun ch_ a_ w_ q_ => hnp ch_ a_ w_ (hp27 ch_ a_ w_ q_)) ch_ a_ w_ (hp635 ch_ a_ w_ q_)) ch_ a_ w_ (hp642 ch_ a_ w_ q_)) (Sg.g0 (Sx.of [] (FM.le.refl _) HS655)) (fun w_ hw_ => by obtain ⟨g_, hl_, hS_⟩ := hw_.st; exact run_indexE hA687 (sz := 18) rfl Try.underlying26 (by kernel_rfl) (by kernel_rfl : _ = Value.slice A17 b16.length c18) (by kernel_rfl : _ = Value.int .i64 j477) c681 c629 w_) ?_
         refine takeG [8] (n := 10) (fuel := 9) (l' := #[true, true, true, true, true, true, true, true, true, false, false, false, false, false, false, false, false, false]) (a' := ⟨#[.slice A13 a12.length c14, .slice A17 b16.length c18, .func (.func 38) #[] #[pV b1 0, pV b3 0], uV, uV, uV, iV i476, iV j477, iV i476, .slice A13 a12.length c14, iV (a12.length : Int), fV, fV, iV j477, .slice A17 b16.length c18, iV (b16.length : Int), tV, tV, (j475 10), (j475 11), (j475 12), (j475 13), (j475 14), (j475 15), (j475 16), (j475 17), (j475 18), (j475 19), (j475 20), (j475 21), fV, iV j477, .slice A17 b16.length c18, iV (b16.length : Int), fV, fV, iV i476, .slice A13 a12.length c14, iV (a12.length : Int), fV, fV, uV, uV, uV, uV, uV, uV, uV, uV, uV, uV, uV, fV, fV, (j475 46), (j475 47), (j475 48), (j475 49), (j475 50), (j475 51), (j475 52), (j475 53), iV i476, .slice A13 a12.length c14, iV (a12.length : Int), fV, fV, .slice A17 b16.length c18, iV j477, pV b685 (of686 + (j477 : Int).toNat * 18), pV b685 (of686 + (j477 : Int).toNat * 18), (j475 63), (j475 64), (j475 65), (j475 66), (j475 67), (j475 68), (j475 69), (j475 70), (j475 71), (j475 72), (j475 73), (j475 74), (j475 75), (j475 76), (j475 77)], []⟩) rfl (by kernel_rfl) (by kernel_rfl) (by kernel_rfl) (fun ch_ a_ w_ q_ => (fun ch_ a_ w_ q_ => (fun ch_ a_ w_ q_ => hnp ch_ a_ w_ (hp27 ch_ a_ w_ q_)) ch_ a_ w_ (hp635 ch_ a_ w_ q_)) ch_ a_ w_ (hp642 ch_ a_ w_ q_)) (Sg.g0 (Sx.of [] (FM.le.refl _) HS655)) ?_
         refine takeGQ 9 [] rfl (by kernel_rfl) (by kernel_rfl) (by kernel_rfl) (by kernel_rfl) (by kernel_rfl) (by kernel_rfl) (fun ch_ a_ w_ q_ => (fun ch_ a_ w_ q_ => (fun ch_ a_ w_ q_ => hnp ch_ a_ w_ (hp27 ch_ a_ w_ q_)) ch_ a_ w_ (hp635 ch_ a_ w_ q_)) ch_ a_ w_ (hp642 ch_ a_ w_ q_)) (Sg.g0 (Sx.of [] (FM.le.refl _) HS655)) (fun w_ hw_ => by obtain ⟨g_, hl_, hS_⟩ := hw_.st; exact run_load rfl Try.underlying3 rfl (by kernel_rfl : _ = Value.pointer (some ⟨b685, of686 + (j477 : Int).toNat * 18, none⟩)) ((hc684 hl_ hS_) 0 (by decide))) ?_
         have hq_ := guard_some h; clear h; obtain ⟨c689, h⟩ := hq_
         have c689 : 0 ≤ i476 := c689
         have hq_ := guard_some h; clear h; obtain ⟨hq2_, h⟩ := hq_
         exact absurd hq2_ c488
   · have c629 : ¬ (j477 < (b16.length : Int)) := c629
     refine wpRwI 16 (x := (decide (j477 < (b16.length : Int)))) (v := false) (by kernel_rfl) (decide_eq_false c629) ?_
     refine wpRwI 17 (x := (decide (j477 < (b16.length : Int)))) (v := false) (by kernel_rfl) (decide_eq_false c629) ?_
     refine condF (by kernel_rfl) ?_
     refine wp_exit ?_
     refine hx23 _ _ ?_
     exact J702 f471 A479 c480 s481 x478 x483 (fun i_ => [Value.int .i64 i476, Value.int .i64 j477, Value.int .i64 i476, Value.slice A13 a12.length c14, Value.int .i64 (a12.length : Int), Value.bool false, Value.bool false, Value.int .i64 j477, Value.slice A17 b16.length c18, Value.int .i64 (b16.length : Int), Value.bool false, Value.bool false, (j475 10), (j475 11), (j475 12), (j475 13), (j475 14), (j475 15), (j475 16), (j475 17), (j475 18), (j475 19), (j475 20), (j475 21), (j475 22), (j475 23), (j475 24), (j475 25), (j475 26), (j475 27), (j475 28), (j475 29), (j475 30), (j475 31), (j475 32), (j475 33), (j475 34), (j475 35), (j475 36), (j475 37), (j475 38), (j475 39), (j475 40), (j475 41), (j475 42), (j475 43), (j475 44), (j475 45), (j475 46), (j475 47), (j475 48), (j475 49), (j475 50), (j475 51), (j475 52), (j475 53), (j475 54), (j475 55), (j475 56), (j475 57), (j475 58), (j475 59), (j475 60), (j475 61), (j475 62), (j475 63), (j475 64), (j475 65), (j475 66), (j475 67), (j475 68), (j475 69), (j475 70), (j475 71), (j475 72), (j475 73), (j475 74), (j475 75), (j475 76), (j475 77)].getD i_ undef) W473 _ L472 h HS474 HO482 (by kernel_rfl)

set_option maxRecDepth 100000 in
set_option maxHeartbeats 4000000 in
theorem slices_Clone_Row.calls (k : Nat) (A2 : Option Addr) (c3 : Nat) (s1 : List S_Row) {t w : World} {f : FM} {H : List Seg} (HS : St t w f (H)) (HR4 : SlR ty_Row f A2 c3 s1) (rr1 : List S_Row) (h : slices_Clone_Row k s1 = some rr1) :
    Calls Try.prog 51 #[.slice A2 s1.length c3] w (fun e w' => ∃ (g : FM) (A31 : Option Addr) (c32 : Nat) (s33 : Seg), e = .returned (Value.slice A31 rr1.length c32) ∧ FM.le f g ∧ St t w' g (s33 :: H) ∧ Own ty_Row 65 g A31 c32 s33 rr1) := by
 unfold slices_Clone_Row at h
 refine enter Try.func51 rfl (tm := #[.slice A2 s1.length c3, uV, uV, uV, uV, uV, uV, uV]) (by kernel_rfl) ?_
 intro B hret hnor hnp
 refine wp_seq_k (fun K5 hK6 => ?_)
 refine wp_region_lit ?_
 refine seqL1 (by kernel_rfl) ?_
 refine wpList_nil ?_
 refine hK6 _ _ ?_
 refine wp_seq_k (fun K7 hK8 => ?_)
 refine wp_seq_k (fun K9 hK10 => ?_)
 refine wp_region_lit ?_
 refine seqL1 (by kernel_rfl) ?_
 obtain _ | ad11 := A2
 · obtain rfl := HR4.nil_eq
   have hq_ := guard_some h; clear h; obtain ⟨_, h⟩ := hq_
   refine seqL1 (by kernel_rfl) ?_
   refine wpList_nil ?_
   refine hK10 _ _ ?_
   refine condT (by kernel_rfl) ?_
   refine wp_seq_k (fun K27 hK28 => ?_)
   refine wp_region_lit ?_
   refine seqL1 (by kernel_rfl) ?_
   refine wpList_nil ?_
   refine hK28 _ _ ?_
   refine wp_ret ?_
   refine hret _ _ ?_
   have HS29 := HS.cons_nil
   refine ends_still (v := Value.slice none 0 0) (by kernel_rfl) (by kernel_rfl) ?_
   injection h with h
   subst h
   exact ⟨f, none, 0, [], rfl, FM.le.refl _, HS29, (Own.nil _)⟩
 · refine seqL1 (by kernel_rfl) ?_
   refine wpList_nil ?_
   refine hK10 _ _ ?_
   refine condF (by kernel_rfl) ?_
   refine wp_skip ?_
   refine hK8 _ _ ?_
   refine wp_seq_k (fun K12 hK13 => ?_)
   refine wp_region_lit ?_
   refine seqK rfl (does_lit (e := ty_Row) (E := 65) (vs := #[]) (cs := #[]) (xs := ([] : List S_Row)) rfl Try.underlying26 (by kernel_rfl) (by kernel_rfl) rfl rfl HS ?_ (by decide))
   intro b14 W15 s16 HS17 _ HO18
   have hq_ := guard_some h; clear h; obtain ⟨c20, h⟩ := hq_
   have c20 : (([] : List S_Row).length + s1.length) * 160 ≤ 140737488355328 := c20
   refine seqL1 (by kernel_rfl) ?_
   refine seqK rfl (does_append (e := ty_Row) (E := 65) (xs := ([] : List S_Row)) (ys := s1) rfl (by kernel_rfl : _ = Value.slice (some ⟨b14, 0, none⟩) ([] : List S_Row).length 0) (by kernel_rfl : _ = Value.slice (some ad11) s1.length c3) Try.underlying26 inf65 HO18 HS17 (HR4.rc HS17) c20 (lim63 c20 (by decide)) ?_)
   intro A21 c22 s23 W24 HS25 HO26
   refine seqL1 (by kernel_rfl) ?_
   refine wpList_nil ?_
   refine hK13 _ _ ?_
   refine wp_ret ?_
   refine hret _ _ ?_
   refine ends_still (v := Value.slice A21 (([] : List S_Row) ++ s1).length c22) (by kernel_rfl) (by kernel_rfl) ?_
   injection h with h
   subst h
   exact ⟨f, A21, c22, s23, rfl, FM.le.refl _, HS25, HO26⟩

set_option maxRecDepth 100000 in
set_option maxHeartbeats 4000000 in
theorem slices_Clone_int.calls (k : Nat) (A2 : Option Addr) (c3 : Nat) (s1 : List Int) {t w : World} {f : FM} {H : List Seg} (HS : St t w f (H)) (HR4 : SlR (tInt .i64) f A2 c3 s1) (rr1 : List Int) (h : slices_Clone_int k s1 = some rr1) :
    Calls Try.prog 46 #[.slice A2 s1.length c3] w (fun e w' => ∃ (g : FM) (A31 : Option Addr) (c32 : Nat) (s33 : Seg), e = .returned (Value.slice A31 rr1.length c32) ∧ FM.le f g ∧ St t w' g (s33 :: H) ∧ Own (tInt .i64) 3 g A31 c32 s33 rr1) := by
 unfold slices_Clone_int at h
 refine enter Try.func46 rfl (tm := #[.slice A2 s1.length c3, uV, uV, uV, uV, uV, uV, uV]) (by kernel_rfl) ?_
 intro B hret hnor hnp
 refine wp_seq_k (fun K5 hK6 => ?_)
 refine wp_region_lit ?_
 refine seqL1 (by kernel_rfl) ?_
 refine wpList_nil ?_
 refine hK6 _ _ ?_
 refine wp_seq_k (fun K7 hK8 => ?_)
 refine wp_seq_k (fun K9 hK10 => ?_)
 refine wp_region_lit ?_
 refine seqL1 (by kernel_rfl) ?_
 obtain _ | ad11 := A2
 · obtain rfl := HR4.nil_eq
   have hq_ := guard_some h; clear h; obtain ⟨_, h⟩ := hq_
   refine seqL1 (by kernel_rfl) ?_
   refine wpList_nil ?_
   refine hK10 _ _ ?_
   refine condT (by kernel_rfl) ?_
   refine wp_seq_k (fun K27 hK28 => ?_)
   refine wp_region_lit ?_
   refine seqL1 (by kernel_rfl) ?_
   refine wpList_nil ?_
   refine hK28 _ _ ?_
   refine wp_ret ?_
   refine hret _ _ ?_
   have HS29 := HS.cons_nil
   refine ends_still (v := Value.slice none 0 0) (by kernel_rfl) (by kernel_rfl) ?_
   injection h with h
   subst h
   exact ⟨f, none, 0, [], rfl, FM.le.refl _, HS29, (Own.nil _)⟩
 · refine seqL1 (by kernel_rfl) ?_
   refine wpList_nil ?_
   refine hK10 _ _ ?_
   refine condF (by kernel_rfl) ?_
   refine wp_skip ?_
   refine hK8 _ _ ?_
   refine wp_seq_k (fun K12 hK13 => ?_)
   refine wp_region_lit ?_
   refine seqK rfl (does_lit (e := (tInt .i64)) (E := 3) (vs := #[]) (cs := #[]) (xs := ([] : List Int)) rfl Try.underlying22 (by kernel_rfl) (by kernel_rfl) rfl rfl HS ?_ (by decide))
   intro b14 W15 s16 HS17 _ HO18
   have hq_ := guard_some h; clear h; obtain ⟨c20, h⟩ := hq_
   have c20 : (([] : List Int).length + s1.length) * 8 ≤ 140737488355328 := c20
   refine seqL1 (by kernel_rfl) ?_
   refine seqK rfl (does_append (e := (tInt .i64)) (E := 3) (xs := ([] : List Int)) (ys := s1) rfl (by kernel_rfl : _ = Value.slice (some ⟨b14, 0, none⟩) ([] : List Int).length 0) (by kernel_rfl : _ = Value.slice (some ad11) s1.length c3) Try.underlying22 inf3 HO18 HS17 (HR4.rc HS17) c20 (lim63 c20 (by decide)) ?_)
   intro A21 c22 s23 W24 HS25 HO26
   refine seqL1 (by kernel_rfl) ?_
   refine wpList_nil ?_
   refine hK13 _ _ ?_
   refine wp_ret ?_
   refine hret _ _ ?_
   refine ends_still (v := Value.slice A21 (([] : List Int) ++ s1).length c22) (by kernel_rfl) (by kernel_rfl) ?_
   injection h with h
   subst h
   exact ⟨f, A21, c22, s23, rfl, FM.le.refl _, HS25, HO26⟩

set_option maxRecDepth 100000 in
set_option maxHeartbeats 4000000 in
theorem catalog_Copy.calls (k : Nat) (A2 : Option Addr) (c3 : Nat) (l1 : List S_Row) {t w : World} {f : FM} {H : List Seg} (HS : St t w f (H)) (HR4 : SlR ty_Row f A2 c3 l1) (rr1 : List S_Row) (h : catalog_Copy k l1 = some rr1) :
    Calls Try.prog 35 #[.slice A2 l1.length c3] w (fun e w' => ∃ (g : FM) (A157 : Option Addr) (c158 : Nat) (s159 : Seg), e = .returned (Value.slice A157 rr1.length c158) ∧ FM.le f g ∧ St t w' g (s159 :: H) ∧ Own ty_Row 65 g A157 c158 s159 rr1) := by
 unfold catalog_Copy at h
 refine enter Try.func35 rfl (tm := #[.slice A2 l1.length c3, uV, uV, uV, uV, uV, uV, uV, uV, uV, uV, uV, uV, uV, uV, uV, uV, uV, uV, uV, uV, uV, uV, uV]) (by kernel_rfl) ?_
 intro B hret hnor hnp
 refine wp_seq_k (fun K5 hK6 => ?_)
 refine wp_region_lit ?_
 refine seqL1 (by kernel_rfl) ?_
 refine wpList_nil ?_
 refine hK6 _ _ ?_
 refine wp_seq_k (fun K7 hK8 => ?_)
 refine wp_region_lit ?_
 have hq_ := bind_some h; clear h; obtain ⟨vt9, hc10, h⟩ := hq_
 refine seqL1 (by kernel_rfl) ?_
 refine seqK rfl (does_call (f := 51) (args := #[.slice A2 l1.length c3]) (by kernel_rfl) (slices_Clone_Row.calls k A2 c3 l1 HS HR4 vt9 hc10) ?_)
 rintro _ W13 ⟨f11, A15, c16, s17, rfl, L12, HS14, HO18⟩
 refine ⟨_, rfl, ?_⟩
 refine seqL1 (by kernel_rfl) ?_
 refine wpList_nil ?_
 refine hK8 _ _ ?_
 refine wp_seq_k (fun K20 hK21 => ?_)
 refine wp_seq_k (fun K22 hK23 => ?_)
 refine wp_region_lit ?_
 refine seqL3 (by kernel_rfl) ?_
 refine wpList_nil ?_
 refine hK23 _ _ ?_
 refine blockK (fun B24 hx25 hn26 hr27 ho28 hp29 => ?_)
 have hq_ := bind_some h; clear h; obtain ⟨o84, hv152, h⟩ := hq_
 have J153 : ∀ (f143 : FM) (s149 : Seg) (out148 : List S_Row) (j147 : Nat → Value) (W145 : World) (a_ : Act), FM.le f11 f143 → some (out148) = some o84 → St t W145 f143 (s149 :: H) → Own ty_Row 65 f143 A15 c16 s149 out148 → out148.length = vt9.length → a_ = ⟨#[.slice A2 l1.length c3, uV, .slice none 0 0, .slice A15 out148.length c16, (j147 0), .slice A2 l1.length c3, (j147 1), (j147 2), iV (vt9.length : Int), (j147 3), (j147 4), (j147 5), (j147 6), (j147 7), (j147 8), (j147 9), (j147 10), (j147 11), (j147 12), (j147 13), (j147 14), (j147 15), (j147 16), uV], []⟩ → K20 a_ W145 := by
  intro f143 s149 out148 j147 W145 a_ L144 hj154 HS146 HO150 HL151 hfr_; subst hfr_
  injection hj154 with hj154; subst hj154; try dsimp only at h
  refine hK21 _ _ ?_
  refine wp_seq_k (fun K155 hK156 => ?_)
  refine wp_region_lit ?_
  refine seqL2 (by kernel_rfl) ?_
  refine wpList_nil ?_
  refine hK156 _ _ ?_
  refine wp_ret ?_
  refine hret _ _ ?_
  refine ends_still (v := Value.slice A15 out148.length c16) (by kernel_rfl) (by kernel_rfl) ?_
  injection h with h
  subst h
  exact ⟨f143, A15, c16, s149, rfl, (L12.trans L144), HS146, HO150⟩
 clear h; have h := hv152; clear hv152
 refine loopK (fun n_ a_ w_ => ∃ (f88 : FM) (s94 : Seg) (out93 : List S_Row) (x97 : Int) (j92 : Nat → Value), FM.le f11 f88 ∧ St t w_ f88 (s94 :: H) ∧ Own ty_Row 65 f88 A15 c16 s94 out93 ∧ out93.length = vt9.length ∧ catalog_Copy.l0 k vt9 n_ out93 x97 = some o84 ∧ a_ = ⟨#[.slice A2 l1.length c3, uV, .slice none 0 0, .slice A15 out93.length c16, (j92 0), .slice A2 l1.length c3, .slice A15 vt9.length c16, .slice A15 vt9.length c16, iV (vt9.length : Int), iV x97, (j92 1), (j92 2), (j92 3), (j92 4), (j92 5), (j92 6), (j92 7), (j92 8), (j92 9), (j92 10), (j92 11), (j92 12), (j92 13), uV], []⟩) k ⟨f11, s17, vt9, 0, (fun i_ => [undef, undef, undef, undef, undef, undef, undef, undef, undef, undef, undef, undef, undef, undef].getD i_ undef), (FM.le.refl _), HS14, HO18, rfl, h, (by kernel_rfl)⟩ ?_
 clear h
 rintro n87 _ W90 ⟨f88, s94, out93, x97, j92, L89, HS91, HO95, HL96, h, rfl⟩ K85 hK86
 obtain _ | n87 := n87
 · exact nomatch h
 simp only [catalog_Copy.l0] at h
 refine wp_seq_k (fun K98 hK99 => ?_)
 refine wp_region_lit ?_
 refine seqL1 (by kernel_rfl) ?_
 refine wpList_nil ?_
 refine hK99 _ _ ?_
 refine wp_seq_k (fun K100 hK101 => ?_)
 have hq_ := ite_some h; clear h; rcases hq_ with ⟨c103, h⟩ | ⟨c103, h⟩
 · have c103 : x97 < (vt9.length : Int) := c103
   refine wpRwI 10 (x := (decide (x97 < (vt9.length : Int)))) (v := true) (by kernel_rfl) (decide_eq_true c103) ?_
   refine condT (by kernel_rfl) ?_
   refine wp_skip ?_
   refine hK101 _ _ ?_
   refine wp_seq_k (fun K104 hK105 => ?_)
   refine blockK (fun B106 hx107 hn108 hr109 ho110 hp111 => ?_)
   refine wp_seq_k (fun K113 hK114 => ?_)
   refine wp_region_lit ?_
   refine seqL2 (by kernel_rfl) ?_
   refine wpList_nil ?_
   refine hK114 _ _ ?_
   refine wp_region_lit ?_
   have hq_ := guard_some h; clear h; obtain ⟨c115, h⟩ := hq_
   have c115 : 0 ≤ x97 := c115
   have hq_ := guard_some h; clear h; obtain ⟨c116, h⟩ := hq_
   have c116 : x97 < (out93.length : Int) := c116
   obtain ⟨b120, of121, cs117, hA122, hr118, hc119⟩ := HO95.at (i := x97) c115 c116
   obtain ⟨A123, c123, rfl, HR123⟩ := hr118
   refine seqL4 (by kernel_rfl) ?_
   refine seqK rfl (does_run (run_indexE hA122 (sz := 18) rfl Try.underlying26 (by kernel_rfl) (by kernel_rfl : _ = Value.slice A15 out93.length c16) (by kernel_rfl : _ = Value.int .i64 x97) c115 c116 W90) ?_)
   refine seqL1 (by kernel_rfl) ?_
   refine seqK rfl (does_run (run_load rfl Try.underlying22 rfl (by kernel_rfl : _ = Value.pointer (some ⟨b120, of121 + (x97 : Int).toNat * 18 + 16, none⟩)) ((hc119 HS91) 16 (by decide))) ?_)
   have hq_ := bind_some h; clear h; obtain ⟨vt124, hc125, h⟩ := hq_
   refine seqK rfl (does_call (f := 46) (args := #[.slice A123 ((rd out93 x97).Frames).length c123]) (by kernel_rfl) (slices_Clone_int.calls k A123 c123 ((rd out93 x97).Frames) HS91 HR123 vt124 hc125) ?_)
   rintro _ W128 ⟨f126, A130, c131, s132, rfl, L127, HS129, HO133⟩
   refine ⟨_, rfl, ?_⟩
   refine seqK rfl (does_run (run_indexE hA122 (sz := 18) rfl Try.underlying26 (by kernel_rfl) (by kernel_rfl : _ = Value.slice A15 out93.length c16) (by kernel_rfl : _ = Value.int .i64 x97) c115 c116 W128) ?_)
   obtain ⟨f135, L136, HS137, HR138⟩ := HO133.freeze HS129
   refine seqL1 (by kernel_rfl) ?_
   refine seqK rfl (does_putP (e := ty_Row) (E := 65) (fo := 16) (vs := [.slice A130 vt124.length c131]) (u := (⟨(rd out93 x97).ID, ((rd out93 x97).Box), ((rd out93 x97).Flux), ((rd out93 x97).When), vt124, (rd out93 x97).Marks⟩ : S_Row)) (i := x97) rfl (by kernel_rfl) (HO95.mono (L127.trans L136)) HS137 hA122 (by kernel_rfl : _ = Value.pointer (some ⟨b120, of121 + (x97 : Int).toNat * 18 + 16, none⟩)) (by kernel_rfl : _ = Value.slice A130 vt124.length c131) rfl rfl (by intro u_ hu_; simp only [List.mem_cons, List.not_mem_nil, or_false] at hu_; subst hu_; rfl) (u0 := (rd out93 x97)) ⟨A123, c123, rfl, (HR123.mono (L127.trans L136))⟩ rfl ⟨A130, c131, rfl, HR138⟩ (Nat.le_of_ble_eq_true rfl) (hc119 HS137) c115 c116 ?_)
   intro W139 s140 HS141 HO142
   refine seqRwS 3 (A := A15) (m := out93.length) (n := (out93.set (x97).toNat (⟨(rd out93 x97).ID, ((rd out93 x97).Box), ((rd out93 x97).Flux), ((rd out93 x97).When), vt124, (rd out93 x97).Marks⟩ : S_Row)).length) (c := c16) (by kernel_rfl) (List.length_set).symm ?_
   refine seqRwS 12 (A := A15) (m := out93.length) (n := (out93.set (x97).toNat (⟨(rd out93 x97).ID, ((rd out93 x97).Box), ((rd out93 x97).Flux), ((rd out93 x97).When), vt124, (rd out93 x97).Marks⟩ : S_Row)).length) (c := c16) (by kernel_rfl) (List.length_set).symm ?_
   refine seqRwS 14 (A := A15) (m := out93.length) (n := (out93.set (x97).toNat (⟨(rd out93 x97).ID, ((rd out93 x97).Box), ((rd out93 x97).Flux), ((rd out93 x97).When), vt124, (rd out93 x97).Marks⟩ : S_Row)).length) (c := c16) (by kernel_rfl) (List.length_set).symm ?_
   refine wpList_nil ?_
   refine hn108 _ _ ?_
   refine hK105 _ _ ?_
   refine wp_region_lit ?_
   refine seqL2 (by kernel_rfl) ?_
   refine wpList_nil ?_
   refine hK86 n87 _ _ (Nat.lt_succ_self _) ?_
   exact ⟨f135, s140, (out93.set (x97).toNat (⟨(rd out93 x97).ID, ((rd out93 x97).Box), ((rd out93 x97).Flux), ((rd out93 x97).When), vt124, (rd out93 x97).Marks⟩ : S_Row)), (w64 (x97 + 1)), (fun i_ => [Value.int .i64 x97, Value.bool true, Value.int .i64 x97, Value.slice A15 (out93.set (x97).toNat (⟨(rd out93 x97).ID, ((rd out93 x97).Box), ((rd out93 x97).Flux), ((rd out93 x97).When), vt124, (rd out93 x97).Marks⟩ : S_Row)).length c16, Value.int .i64 x97, Value.slice A15 (out93.set (x97).toNat (⟨(rd out93 x97).ID, ((rd out93 x97).Box), ((rd out93 x97).Flux), ((rd out93 x97).When), vt124, (rd out93 x97).Marks⟩ : S_Row)).length c16, Value.int .i64 x97, Value.pointer (some ⟨b120, of121 + (x97 : Int).toNat * 18, none⟩), Value.pointer (some ⟨b120, of121 + (x97 : Int).toNat * 18 + 16, none⟩), Value.slice A123 ((rd out93 x97).Frames).length c123, Value.slice A130 vt124.length c131, Value.pointer (some ⟨b120, of121 + (x97 : Int).toNat * 18, none⟩), Value.pointer (some ⟨b120, of121 + (x97 : Int).toNat * 18 + 16, none⟩), Value.int .i64 (w64 (x97 + 1))].getD i_ undef), (L89.trans (L127.trans L136)), HS141, HO142, (List.length_set.trans HL96), h, (by kernel_rfl)⟩
 · have c103 : ¬ (x97 < (vt9.length : Int)) := c103
   refine wpRwI 10 (x := (decide (x97 < (vt9.length : Int)))) (v := false) (by kernel_rfl) (decide_eq_false c103) ?_
   refine condF (by kernel_rfl) ?_
   refine wp_exit ?_
   refine hx25 _ _ ?_
   exact J153 f88 s94 out93 (fun i_ => [(j92 0), Value.slice A15 vt9.length c16, Value.slice A15 vt9.length c16, Value.int .i64 x97, Value.bool false, (j92 2), (j92 3), (j92 4), (j92 5), (j92 6), (j92 7), (j92 8), (j92 9), (j92 10), (j92 11), (j92 12), (j92 13)].getD i_ undef) W90 _ L89 h HS91 HO95 HL96 (by kernel_rfl)

set_option maxRecDepth 100000 in
set_option maxHeartbeats 4000000 in
theorem catalog_Merge.calls (k : Nat) (A2 : Option Addr) (c3 : Nat) (A6 : Option Addr) (c7 : Nat) (a1 : List S_Row) (b5 : List S_Row) {t w : World} {f : FM} {H : List Seg} (HS : St t w f (H)) (HR4 : SlR ty_Row f A2 c3 a1) (HR8 : SlR ty_Row f A6 c7 b5) (rr1 : List S_Row) (rr2 : Int) (h : catalog_Merge k a1 b5 = some (rr1, rr2)) :
    Calls Try.prog 15 #[.slice A2 a1.length c3, .slice A6 b5.length c7] w (fun e w' => ∃ (g : FM) (A200 : Option Addr) (c201 : Nat) (s202 : Seg), e = .returned (Value.tuple #[.slice A200 rr1.length c201, .int .i64 rr2]) ∧ FM.le f g ∧ St t w' g (s202 :: H) ∧ Own ty_Row 65 g A200 c201 s202 rr1) := by
 unfold catalog_Merge at h
 refine enter Try.func15 rfl (tm := #[.slice A2 a1.length c3, .slice A6 b5.length c7, uV, uV, uV, uV, uV, uV, uV, uV, uV, uV, uV, uV, uV, uV, uV, uV, uV, uV, uV, uV, uV, uV, uV, uV, uV, uV, uV, uV, uV, uV, uV, uV]) (by kernel_rfl) ?_
 intro B hret hnor hnp
 refine wp_seq_k (fun K9 hK10 => ?_)
 refine wp_region_lit ?_
 refine seqL2 (by kernel_rfl) ?_
 refine wpList_nil ?_
 refine hK10 _ _ ?_
 refine wp_seq_k (fun K11 hK12 => ?_)
 refine wp_seq_k (fun K13 hK14 => ?_)
 refine wp_region_lit ?_
 have hq_ := bind_some h; clear h; obtain ⟨vt15, hc16, h⟩ := hq_
 refine seqL1 (by kernel_rfl) ?_
 refine seqK rfl (does_call (f := 26) (args := #[.slice A2 a1.length c3]) (by kernel_rfl) (catalog_Check.calls k A2 c3 a1 HS HR4 vt15 hc16) ?_)
 rintro _ W19 ⟨f17, rfl, L18, HS20⟩
 refine ⟨_, rfl, ?_⟩
 have hq_ := bind_some h; clear h; obtain ⟨vt21, hc22, h⟩ := hq_
 refine seqL1 (by kernel_rfl) ?_
 refine seqK rfl (does_call (f := 26) (args := #[.slice A6 b5.length c7]) (by kernel_rfl) (catalog_Check.calls k A6 c7 b5 HS20 (HR8.mono L18) vt21 hc22) ?_)
 rintro _ W25 ⟨f23, rfl, L24, HS26⟩
 refine ⟨_, rfl, ?_⟩
 refine seqK rfl (does_lit (e := (tInt .i64)) (E := 29) (vs := #[(0, Value.int .i64 vt15), (1, Value.int .i64 vt21)]) (cs := #[.int .i64 vt15, .int .i64 vt21]) (xs := ([vt15, vt21] : List Int)) rfl Try.underlying102 (by kernel_rfl) (by kernel_rfl) ⟨[.int .i64 vt15], _, rfl, rfl, ⟨[.int .i64 vt21], _, rfl, rfl, rfl⟩⟩ rfl HS26 ?_ (by decide))
 intro b27 W28 s29 HS30 _ HO31
 obtain ⟨f33, L34, HS35, HR36, th37⟩ := HO31.lend HS30
 have hq_ := bind_some h; clear h; obtain ⟨vt38, hc39, h⟩ := hq_
 refine seqK rfl (does_call (f := 25) (args := #[.slice (some ⟨b27, 0, none⟩) ([vt15, vt21] : List Int).length 2]) (by kernel_rfl) (cmp_Or_Errno.calls k (some ⟨b27, 0, none⟩) 2 ([vt15, vt21] : List Int) HS35 HR36 vt38 hc39) ?_)
 rintro _ W42 ⟨f40, rfl, L41, HS43⟩
 refine ⟨_, rfl, ?_⟩
 obtain ⟨f44, L45, HS46⟩ := th37 L41 HS43
 refine seqL1 (by kernel_rfl) ?_
 refine wpList_nil ?_
 refine hK14 _ _ ?_
 refine wp_seq_k (fun K47 hK48 => ?_)
 refine wp_region_lit ?_
 refine seqL2 (by kernel_rfl) ?_
 refine wpList_nil ?_
 refine hK48 _ _ ?_
 have hq_ := ite_some h; clear h; rcases hq_ with ⟨c50, h⟩ | ⟨c50, h⟩
 · have c50 : vt38 ≠ 0 := c50
   refine wpRwI 16 (x := (vt38 != 0)) (v := true) (by kernel_rfl) (bne_iff_ne.mpr c50) ?_
   refine condT (by kernel_rfl) ?_
   refine wp_seq_k (fun K51 hK52 => ?_)
   refine wp_region_lit ?_
   refine seqL3 (by kernel_rfl) ?_
   refine wpList_nil ?_
   refine hK52 _ _ ?_
   refine wp_ret ?_
   refine hret _ _ ?_
   have HS164 := HS46.cons_nil
   refine ends_still (v := Value.tuple #[.slice none 0 0, .int .i64 vt38]) (by kernel_rfl) (by kernel_rfl) ?_
   have HS166 := HS164.u1
   have HS167 := HS166.drop
   injection h with h
   injection h with h0_ h
   subst h0_ h
   exact ⟨f44, none, 0, [], rfl, (L18.trans (L24.trans L45)), HS167, (Own.nil _)⟩
 · have c50 : ¬ (vt38 ≠ 0) := c50
   refine wpRwI 16 (x := (vt38 != 0)) (v := false) (by kernel_rfl) (bne_eq_false_iff_eq.mpr (Decidable.of_not_not c50)) ?_
   refine condF (by kernel_rfl) ?_
   refine wp_skip ?_
   refine hK12 _ _ ?_
   refine wp_seq_k (fun K53 hK54 => ?_)
   refine wp_region_lit ?_
   refine seqK rfl (does_alloc (z := Value.slice none 0 0) (cs := #[.slice none 0 0]) rfl (by kernel_rfl) rfl HS46 ?_)
   intro b55 W56 HS57
   refine wpList_nil ?_
   refine hK54 _ _ ?_
   refine wp_seq_k (fun K59 hK60 => ?_)
   refine wp_region_lit ?_
   refine seqK rfl (does_alloc (z := Value.int .i64 0) (cs := #[.int .i64 0]) rfl (by kernel_rfl) rfl HS57 ?_)
   intro b61 W62 HS63
   refine seqK rfl (does_store (n := 1) (vs := [.int .i64 0]) (cs' := #[.int .i64 0]) rfl (by kernel_rfl) (by kernel_rfl : _ = Value.pointer (some ⟨b61, 0, none⟩)) (by kernel_rfl : _ = Value.int .i64 0) rfl rfl (by intro u_ hu_; simp only [List.mem_cons, List.not_mem_nil, or_false] at hu_; subst hu_; rfl) HS63 (Nat.le_of_ble_eq_true rfl) (by kernel_rfl) ?_)
   intro W65 HS66
   refine wpList_nil ?_
   refine hK60 _ _ ?_
   refine wp_seq_k (fun K67 hK68 => ?_)
   refine wp_region_lit ?_
   have HS70 := HS66.cons_nil
   have HO71 : Own ty_Row 65 f44 none 0 [] ([] : List S_Row) := Own.nil _
   have HS72 : St t W65 f44 (([] : Seg) :: [(b61, .cells #[.int .i64 0] 29 (0, 0))] :: [(b55, .cells #[.slice none ([] : List S_Row).length 0] 26 (0, 0))] :: s29 :: H) := HS70
   have HS73 := HS72.u1
   have HS74 := HS73.u2
   have hq_ := bind_some h; clear h; obtain ⟨⟨vt75, vt76⟩, hc77, h⟩ := hq_
   refine seqL3 (by kernel_rfl) ?_
   refine seqK rfl (does_call (f := 27) (args := #[.slice A2 a1.length c3, .slice A6 b5.length c7, .func (.func 38) #[] #[.pointer (some ⟨b55, 0, none⟩), .pointer (some ⟨b61, 0, none⟩)]]) (by kernel_rfl) (catalog_pairs__catalog_Merge_1.calls k b55 none 0 ([] : Seg) b61 A2 c3 A6 c7 ([] : List S_Row) 0 a1 b5 HS74 HO71 (HR4.mono (L18.trans (L24.trans L45))) (HR8.mono (L18.trans (L24.trans L45))) vt75 vt76 hc77) ?_)
   rintro _ W80 ⟨f78, A82, c83, s84, rfl, L79, HS81, HO85⟩
   refine ⟨_, rfl, ?_⟩
   refine wpList_nil ?_
   refine hK68 _ _ ?_
   refine wp_seq_k (fun K87 hK88 => ?_)
   refine wp_seq_k (fun K89 hK90 => ?_)
   refine wp_region_lit ?_
   refine seqK rfl (does_run (run_load rfl Try.underlying29 rfl (by kernel_rfl : _ = Value.pointer (some ⟨b61, 0, none⟩)) (HS81.u2.cell 0)) ?_)
   refine seqL2 (by kernel_rfl) ?_
   have hq_ := ite_some h; clear h; rcases hq_ with ⟨c91, h⟩ | ⟨c91, h⟩
   · have c91 : vt76 = 0 := c91
     refine seqRwI 23 (x := (vt76 == 0)) (v := true) (by kernel_rfl) (beq_iff_eq.mpr c91) ?_
     refine seqRwI 24 (x := (vt76 == 0)) (v := true) (by kernel_rfl) (beq_iff_eq.mpr c91) ?_
     refine seqG (by kernel_rfl) (does_run (run_load rfl Try.underlying26 rfl (by kernel_rfl : _ = Value.pointer (some ⟨b55, 0, none⟩)) (HS81.u1.cell 0)) ?_)
     refine seqS3 (a' := ⟨#[.slice A2 a1.length c3, .slice A6 b5.length c7, uV, uV, .slice none 0 0, iV 0, iV vt38, pV b55 0, pV b61 0, .slice A2 a1.length c3, iV vt15, .slice A6 b5.length c7, iV vt21, .slice (some ⟨b27, 0, none⟩) ([vt15, vt21] : List Int).length 2, iV vt38, iV vt38, fV, uV, .slice A2 a1.length c3, .slice A6 b5.length c7, .func (.func 38) #[] #[pV b55 0, pV b61 0], .tuple #[], iV vt76, tV, tV, .slice A82 vt75.length c83, iV (vt75.length : Int), .bool (decide ((vt75.length : Int) > 200)), .bool (decide ((vt75.length : Int) > 200)), uV, uV, uV, uV, uV], []⟩) (by kernel_rfl) ?_
     refine wpList_nil ?_
     refine hK90 _ _ ?_
     have hq_ := bind_some h; clear h; obtain ⟨v92, hv103, h⟩ := hq_
     have J104 : ∀ (f97 : FM) (x102 : Int) (W99 : World) (a_ : Act), FM.le f78 f97 → some (x102) = some v92 → St t W99 f97 (s84 :: [(b55, .cells #[.slice A82 vt75.length c83] 26 (0, 0))] :: [(b61, .cells #[.int .i64 x102] 29 (0, 0))] :: s29 :: H) → a_ = ⟨#[.slice A2 a1.length c3, .slice A6 b5.length c7, uV, uV, .slice none 0 0, iV 0, iV vt38, pV b55 0, pV b61 0, .slice A2 a1.length c3, iV vt15, .slice A6 b5.length c7, iV vt21, .slice (some ⟨b27, 0, none⟩) ([vt15, vt21] : List Int).length 2, iV vt38, iV vt38, fV, uV, .slice A2 a1.length c3, .slice A6 b5.length c7, .func (.func 38) #[] #[pV b55 0, pV b61 0], .tuple #[], iV vt76, tV, tV, .slice A82 vt75.length c83, iV (vt75.length : Int), .bool (decide ((vt75.length : Int) > 200)), .bool (decide ((vt75.length : Int) > 200)), uV, uV, uV, uV, uV], []⟩ → K87 a_ W99 := by
      intro f97 x102 W99 a_ L98 hj105 HS100  hfr_; subst hfr_
      injection hj105 with hj105; subst hj105; try dsimp only at h
      refine hK88 _ _ ?_
      refine wp_seq_k (fun K110 hK111 => ?_)
      refine wp_seq_k (fun K112 hK113 => ?_)
      refine wp_region_lit ?_
      refine seqK rfl (does_run (run_load rfl Try.underlying29 rfl (by kernel_rfl : _ = Value.pointer (some ⟨b61, 0, none⟩)) (HS100.u2.cell 0)) ?_)
      refine seqL1 (by kernel_rfl) ?_
      refine wpList_nil ?_
      refine hK113 _ _ ?_
      have hq_ := ite_some h; clear h; rcases hq_ with ⟨c115, h⟩ | ⟨c115, h⟩
      · have c115 : x102 ≠ 0 := c115
        refine wpRwI 30 (x := (x102 != 0)) (v := true) (by kernel_rfl) (bne_iff_ne.mpr c115) ?_
        refine condT (by kernel_rfl) ?_
        refine wp_seq_k (fun K116 hK117 => ?_)
        refine heldG (S := Sg t f97 (s84 :: [(b55, .cells #[.slice A82 vt75.length c83] 26 (0, 0))] :: [(b61, .cells #[.int .i64 x102] 29 (0, 0))] :: s29 :: H) []) (n := 3) (by kernel_rfl) rfl HS100 ?_
        intro W118 HS119
        refine takeGQ 0 [] rfl (by kernel_rfl) (by kernel_rfl) (by kernel_rfl) (by kernel_rfl) (by kernel_rfl) (by kernel_rfl) hnp (Sg.g0 (Sx.of [] (FM.le.refl _) HS119)) (fun w_ hw_ => by obtain ⟨g_, hl_, hS_⟩ := hw_.st; exact run_load rfl Try.underlying29 rfl (by kernel_rfl : _ = Value.pointer (some ⟨b61, 0, none⟩)) (hS_.u2.cell 0)) ?_
        refine takeG [1, 2] (n := 2) (fuel := 0) (l' := #[true, true, true]) (a' := ⟨#[.slice A2 a1.length c3, .slice A6 b5.length c7, uV, uV, .slice none 0 0, iV x102, iV vt38, pV b55 0, pV b61 0, .slice A2 a1.length c3, iV vt15, .slice A6 b5.length c7, iV vt21, .slice (some ⟨b27, 0, none⟩) ([vt15, vt21] : List Int).length 2, iV vt38, iV vt38, fV, uV, .slice A2 a1.length c3, .slice A6 b5.length c7, .func (.func 38) #[] #[pV b55 0, pV b61 0], .tuple #[], iV vt76, tV, tV, .slice A82 vt75.length c83, iV (vt75.length : Int), .bool (decide ((vt75.length : Int) > 200)), .bool (decide ((vt75.length : Int) > 200)), iV x102, tV, iV x102, uV, uV], []⟩) rfl (by kernel_rfl) (by kernel_rfl) (by kernel_rfl) hnp (Sg.g0 (Sx.of [] (FM.le.refl _) HS119)) ?_
        refine doneG (by kernel_rfl) ?_ _
        refine hK117 _ _ ?_
        refine wp_ret ?_
        refine hret _ _ ?_
        have HS168 := HS119.cons_nil
        refine ends_still (v := Value.tuple #[.slice none 0 0, .int .i64 x102]) (by kernel_rfl) (by kernel_rfl) ?_
        have HS170 := HS168.u4
        have HS171 := HS170.u4
        have HS172 := HS171.u4
        have HS173 := HS172.u4
        have HS174 := HS173.drop
        have HS175 := HS174.drop
        have HS176 := HS175.drop
        have HS177 := HS176.drop
        injection h with h
        injection h with h0_ h
        subst h0_ h
        exact ⟨f97, none, 0, [], rfl, (L18.trans (L24.trans (L45.trans (L79.trans L98)))), HS177, (Own.nil _)⟩
      · have c115 : ¬ (x102 ≠ 0) := c115
        refine wpRwI 30 (x := (x102 != 0)) (v := false) (by kernel_rfl) (bne_eq_false_iff_eq.mpr (Decidable.of_not_not c115)) ?_
        refine condF (by kernel_rfl) ?_
        refine wp_skip ?_
        refine hK111 _ _ ?_
        refine wp_seq_k (fun K120 hK121 => ?_)
        refine wp_region_lit ?_
        refine seqK rfl (does_run (run_load rfl Try.underlying26 rfl (by kernel_rfl : _ = Value.pointer (some ⟨b55, 0, none⟩)) (HS100.u1.cell 0)) ?_)
        obtain ⟨f122, L123, HS124, HR125⟩ := (HO85.mono L98).freeze HS100
        have hq_ := bind_some h; clear h; obtain ⟨vt126, hc127, h⟩ := hq_
        refine seqK rfl (does_call (f := 35) (args := #[.slice A82 vt75.length c83]) (by kernel_rfl) (catalog_Copy.calls k A82 c83 vt75 HS124 HR125 vt126 hc127) ?_)
        rintro _ W130 ⟨f128, A132, c133, s134, rfl, L129, HS131, HO135⟩
        refine ⟨_, rfl, ?_⟩
        refine seqL2 (by kernel_rfl) ?_
        refine wpList_nil ?_
        refine hK121 _ _ ?_
        refine wp_ret ?_
        refine hret _ _ ?_
        refine ends_still (v := Value.tuple #[.slice A132 vt126.length c133, .int .i64 0]) (by kernel_rfl) (by kernel_rfl) ?_
        have HS178 := HS131.u3
        have HS179 := HS178.u3
        have HS180 := HS179.u3
        have HS181 := HS180.drop
        have HS182 := HS181.drop
        have HS183 := HS182.drop
        injection h with h
        injection h with h0_ h
        subst h0_ h
        exact ⟨f128, A132, c133, s134, rfl, (L18.trans (L24.trans (L45.trans (L79.trans (L98.trans (L123.trans L129)))))), HS183, HO135⟩
     clear h; have h := hv103; clear hv103
     have hq_ := ite_some h; clear h; rcases hq_ with ⟨c93, h⟩ | ⟨c93, h⟩
     · have c93 : (vt75.length : Int) > 200 := c93
       refine wpRwI 27 (x := (decide ((vt75.length : Int) > 200))) (v := true) (by kernel_rfl) (decide_eq_true c93) ?_
       refine wpRwI 28 (x := (decide ((vt75.length : Int) > 200))) (v := true) (by kernel_rfl) (decide_eq_true c93) ?_
       refine condT (by kernel_rfl) ?_
       refine wp_region_lit ?_
       have HS94 := HS81.u2
       refine seqK rfl (does_store (n := 1) (vs := [.int .i64 2]) (cs' := #[.int .i64 2]) rfl (by kernel_rfl) (by kernel_rfl : _ = Value.pointer (some ⟨b61, 0, none⟩)) (by kernel_rfl : _ = Value.int .i64 2) rfl rfl (by intro u_ hu_; simp only [List.mem_cons, List.not_mem_nil, or_false] at hu_; subst hu_; rfl) HS94 (Nat.le_of_ble_eq_true rfl) (by kernel_rfl) ?_)
       intro W95 HS96
       refine wpList_nil ?_
       refine fnRwI (F := K87) 27 (x := true) (v := (decide ((vt75.length : Int) > 200))) (by kernel_rfl) (Eq.symm (decide_eq_true c93)) ?_
       refine fnRwI (F := K87) 28 (x := true) (v := (decide ((vt75.length : Int) > 200))) (by kernel_rfl) (Eq.symm (decide_eq_true c93)) ?_
       have HS106 := HS96.u3
       have HS107 := HS106.u1
       have HS108 := HS107.u3
       have HS109 := HS108.u3
       exact J104 f78 2 W95 _ (FM.le.refl _) h HS109 (by kernel_rfl)
     · have c93 : ¬ ((vt75.length : Int) > 200) := c93
       refine wpRwI 27 (x := (decide ((vt75.length : Int) > 200))) (v := false) (by kernel_rfl) (decide_eq_false c93) ?_
       refine wpRwI 28 (x := (decide ((vt75.length : Int) > 200))) (v := false) (by kernel_rfl) (decide_eq_false c93) ?_
       refine condF (by kernel_rfl) ?_
       refine wp_skip ?_
       refine fnRwI (F := K87) 27 (x := false) (v := (decide ((vt75.length : Int) > 200))) (by kernel_rfl) (Eq.symm (decide_eq_false c93)) ?_
       refine fnRwI (F := K87) 28 (x := false) (v := (decide ((vt75.length : Int) > 200))) (by kernel_rfl) (Eq.symm (decide_eq_false c93)) ?_
       exact J104 f78 vt76 W80 _ (FM.le.refl _) h HS81 (by kernel_rfl)
   · have c91 : ¬ (vt76 = 0) := c91
     refine seqRwI 23 (x := (vt76 == 0)) (v := false) (by kernel_rfl) (beq_eq_false_iff_ne.mpr c91) ?_
     refine seqRwI 24 (x := (vt76 == 0)) (v := false) (by kernel_rfl) (beq_eq_false_iff_ne.mpr c91) ?_
     refine seqS4 (a' := ⟨#[.slice A2 a1.length c3, .slice A6 b5.length c7, uV, uV, .slice none 0 0, iV 0, iV vt38, pV b55 0, pV b61 0, .slice A2 a1.length c3, iV vt15, .slice A6 b5.length c7, iV vt21, .slice (some ⟨b27, 0, none⟩) ([vt15, vt21] : List Int).length 2, iV vt38, iV vt38, fV, uV, .slice A2 a1.length c3, .slice A6 b5.length c7, .func (.func 38) #[] #[pV b55 0, pV b61 0], .tuple #[], iV vt76, fV, fV, uV, uV, uV, fV, uV, uV, uV, uV, uV], []⟩) (by kernel_rfl) ?_
     refine wpList_nil ?_
     refine hK90 _ _ ?_
     refine condF (by kernel_rfl) ?_
     refine wp_skip ?_
     refine hK88 _ _ ?_
     refine wp_seq_k (fun K137 hK138 => ?_)
     refine wp_seq_k (fun K139 hK140 => ?_)
     refine wp_region_lit ?_
     refine seqK rfl (does_run (run_load rfl Try.underlying29 rfl (by kernel_rfl : _ = Value.pointer (some ⟨b61, 0, none⟩)) (HS81.u2.cell 0)) ?_)
     refine seqL1 (by kernel_rfl) ?_
     refine wpList_nil ?_
     refine hK140 _ _ ?_
     have hq_ := ite_some h; clear h; rcases hq_ with ⟨c142, h⟩ | ⟨c142, h⟩
     · have c142 : vt76 ≠ 0 := c142
       refine wpRwI 30 (x := (vt76 != 0)) (v := true) (by kernel_rfl) (bne_iff_ne.mpr c142) ?_
       refine condT (by kernel_rfl) ?_
       refine wp_seq_k (fun K143 hK144 => ?_)
       refine heldG (S := Sg t f78 (s84 :: [(b55, .cells #[.slice A82 vt75.length c83] 26 (0, 0))] :: [(b61, .cells #[.int .i64 vt76] 29 (0, 0))] :: s29 :: H) []) (n := 3) (by kernel_rfl) rfl HS81 ?_
       intro W145 HS146
       refine takeGQ 0 [] rfl (by kernel_rfl) (by kernel_rfl) (by kernel_rfl) (by kernel_rfl) (by kernel_rfl) (by kernel_rfl) hnp (Sg.g0 (Sx.of [] (FM.le.refl _) HS146)) (fun w_ hw_ => by obtain ⟨g_, hl_, hS_⟩ := hw_.st; exact run_load rfl Try.underlying29 rfl (by kernel_rfl : _ = Value.pointer (some ⟨b61, 0, none⟩)) (hS_.u2.cell 0)) ?_
       refine takeG [1, 2] (n := 2) (fuel := 0) (l' := #[true, true, true]) (a' := ⟨#[.slice A2 a1.length c3, .slice A6 b5.length c7, uV, uV, .slice none 0 0, iV vt76, iV vt38, pV b55 0, pV b61 0, .slice A2 a1.length c3, iV vt15, .slice A6 b5.length c7, iV vt21, .slice (some ⟨b27, 0, none⟩) ([vt15, vt21] : List Int).length 2, iV vt38, iV vt38, fV, uV, .slice A2 a1.length c3, .slice A6 b5.length c7, .func (.func 38) #[] #[pV b55 0, pV b61 0], .tuple #[], iV vt76, fV, fV, uV, uV, uV, fV, iV vt76, tV, iV vt76, uV, uV], []⟩) rfl (by kernel_rfl) (by kernel_rfl) (by kernel_rfl) hnp (Sg.g0 (Sx.of [] (FM.le.refl _) HS146)) ?_
       refine doneG (by kernel_rfl) ?_ _
       refine hK144 _ _ ?_
       refine wp_ret ?_
       refine hret _ _ ?_
       have HS184 := HS146.cons_nil
       refine ends_still (v := Value.tuple #[.slice none 0 0, .int .i64 vt76]) (by kernel_rfl) (by kernel_rfl) ?_
       have HS186 := HS184.u4
       have HS187 := HS186.u4
       have HS188 := HS187.u4
       have HS189 := HS188.u4
       have HS190 := HS189.drop
       have HS191 := HS190.drop
       have HS192 := HS191.drop
       have HS193 := HS192.drop
       injection h with h
       injection h with h0_ h
       subst h0_ h
       exact ⟨f78, none, 0, [], rfl, (L18.trans (L24.trans (L45.trans L79))), HS193, (Own.nil _)⟩
     · have c142 : ¬ (vt76 ≠ 0) := c142
       refine wpRwI 30 (x := (vt76 != 0)) (v := false) (by kernel_rfl) (bne_eq_false_iff_eq.mpr (Decidable.of_not_not c142)) ?_
       refine condF (by kernel_rfl) ?_
       refine wp_skip ?_
       refine hK138 _ _ ?_
       refine wp_seq_k (fun K147 hK148 => ?_)
       refine wp_region_lit ?_
       refine seqK rfl (does_run (run_load rfl Try.underlying26 rfl (by kernel_rfl : _ = Value.pointer (some ⟨b55, 0, none⟩)) (HS81.u1.cell 0)) ?_)
       obtain ⟨f149, L150, HS151, HR152⟩ := HO85.freeze HS81
       have hq_ := bind_some h; clear h; obtain ⟨vt153, hc154, h⟩ := hq_
       refine seqK rfl (does_call (f := 35) (args := #[.slice A82 vt75.length c83]) (by kernel_rfl) (catalog_Copy.calls k A82 c83 vt75 HS151 HR152 vt153 hc154) ?_)
       rintro _ W157 ⟨f155, A159, c160, s161, rfl, L156, HS158, HO162⟩
       refine ⟨_, rfl, ?_⟩
       refine seqL2 (by kernel_rfl) ?_
       refine wpList_nil ?_
       refine hK148 _ _ ?_
       refine wp_ret ?_
       refine hret _ _ ?_
       refine ends_still (v := Value.tuple #[.slice A159 vt153.length c160, .int .i64 0]) (by kernel_rfl) (by kernel_rfl) ?_
       have HS194 := HS158.u3
       have HS195 := HS194.u3
       have HS196 := HS195.u3
       have HS197 := HS196.drop
       have HS198 := HS197.drop
       have HS199 := HS198.drop
       injection h with h
       injection h with h0_ h
       subst h0_ h
       exact ⟨f155, A159, c160, s161, rfl, (L18.trans (L24.trans (L45.trans (L79.trans (L150.trans L156))))), HS199, HO162⟩

set_option maxRecDepth 100000 in
set_option maxHeartbeats 4000000 in
theorem spykeep3_CatalogMerges_1.calls (k : Nat) (A2 : Option Addr) (c3 : Nat) (A6 : Option Addr) (c7 : Nat) (x1 : List S_Row) (y5 : List S_Row) (e9 : Int) {t w : World} {f : FM} {H : List Seg} (HS : St t w f (H)) (HR4 : SlR ty_Row f A2 c3 x1) (HR8 : SlR ty_Row f A6 c7 y5) (rr1 : List S_Row) (rr2 : Int) (h : spykeep3_CatalogMerges_1 k x1 y5 e9 = some (rr1, rr2)) :
    Calls Try.prog 14 #[.slice A2 x1.length c3, .slice A6 y5.length c7, .int .i64 e9] w (fun e w' => ∃ (g : FM) (A36 : Option Addr) (c37 : Nat) (s38 : Seg), e = .returned (Value.tuple #[.slice A36 rr1.length c37, .int .i64 rr2]) ∧ FM.le f g ∧ St t w' g (s38 :: H) ∧ Own ty_Row 65 g A36 c37 s38 rr1) := by
 unfold spykeep3_CatalogMerges_1 at h
 refine enter Try.func14 rfl (tm := #[.slice A2 x1.length c3, .slice A6 y5.length c7, iV e9, uV, uV, uV, uV, uV, uV, uV, uV, uV, uV, uV, uV, uV]) (by kernel_rfl) ?_
 intro B hret hnor hnp
 refine wp_seq_k (fun K10 hK11 => ?_)
 refine wp_region_lit ?_
 refine seqL2 (by kernel_rfl) ?_
 refine wpList_nil ?_
 refine hK11 _ _ ?_
 refine wp_seq_k (fun K12 hK13 => ?_)
 refine wp_seq_k (fun K14 hK15 => ?_)
 refine wp_region_lit ?_
 refine seqL2 (by kernel_rfl) ?_
 refine wpList_nil ?_
 refine hK15 _ _ ?_
 have hq_ := ite_some h; clear h; rcases hq_ with ⟨c17, h⟩ | ⟨c17, h⟩
 · have c17 : e9 ≠ 0 := c17
   refine wpRwI 9 (x := (e9 != 0)) (v := true) (by kernel_rfl) (bne_iff_ne.mpr c17) ?_
   refine condT (by kernel_rfl) ?_
   refine wp_seq_k (fun K18 hK19 => ?_)
   refine wp_region_lit ?_
   refine seqL3 (by kernel_rfl) ?_
   refine wpList_nil ?_
   refine hK19 _ _ ?_
   refine wp_ret ?_
   refine hret _ _ ?_
   have HS34 := HS.cons_nil
   refine ends_still (v := Value.tuple #[.slice none 0 0, .int .i64 e9]) (by kernel_rfl) (by kernel_rfl) ?_
   injection h with h
   injection h with h0_ h
   subst h0_ h
   exact ⟨f, none, 0, [], rfl, FM.le.refl _, HS34, (Own.nil _)⟩
 · have c17 : ¬ (e9 ≠ 0) := c17
   refine wpRwI 9 (x := (e9 != 0)) (v := false) (by kernel_rfl) (bne_eq_false_iff_eq.mpr (Decidable.of_not_not c17)) ?_
   refine condF (by kernel_rfl) ?_
   refine wp_skip ?_
   refine hK13 _ _ ?_
   refine wp_seq_k (fun K20 hK21 => ?_)
   refine wp_region_lit ?_
   have hq_ := bind_some h; clear h; obtain ⟨⟨vt22, vt23⟩, hc24, h⟩ := hq_
   refine seqL2 (by kernel_rfl) ?_
   refine seqK rfl (does_call (f := 15) (args := #[.slice A2 x1.length c3, .slice A6 y5.length c7]) (by kernel_rfl) (catalog_Merge.calls k A2 c3 A6 c7 x1 y5 HS HR4 HR8 vt22 vt23 hc24) ?_)
   rintro _ W27 ⟨f25, A29, c30, s31, rfl, L26, HS28, HO32⟩
   refine ⟨_, rfl, ?_⟩
   refine seqL4 (by kernel_rfl) ?_
   refine wpList_nil ?_
   refine hK21 _ _ ?_
   refine wp_ret ?_
   refine hret _ _ ?_
   refine ends_still (v := Value.tuple #[.slice A29 vt22.length c30, .int .i64 vt23]) (by kernel_rfl) (by kernel_rfl) ?_
   injection h with h
   injection h with h0_ h
   subst h0_ h
   exact ⟨f25, A29, c30, s31, rfl, L26, HS28, HO32⟩

set_option maxRecDepth 100000 in
set_option maxHeartbeats 4000000 in
theorem spykeep3_single.calls (k : Nat)  (vid1 : Int) {t w : World} {f : FM} {H : List Seg} (HS : St t w f (H)) (rr1 : S_Row) (h : spykeep3_single k vid1 = some rr1) :
    Calls Try.prog 36 #[.int .i64 vid1] w (fun e w' => ∃ (g : FM) (A20 : Option Addr) (c21 : Nat) (s22 : Seg), e = .returned (Value.agg #[.int .i64 rr1.ID, .int .i64 rr1.Box.X.Lo, .int .i64 rr1.Box.X.Hi, .bool rr1.Box.X.Unknown, .int .i64 rr1.Box.Y.Lo, .int .i64 rr1.Box.Y.Hi, .bool rr1.Box.Y.Unknown, .int .i64 rr1.Box.Z.Lo, .int .i64 rr1.Box.Z.Hi, .bool rr1.Box.Z.Unknown, .int .i64 rr1.Flux.Lo, .int .i64 rr1.Flux.Hi, .bool rr1.Flux.Unknown, .int .i64 rr1.When.Lo, .int .i64 rr1.When.Hi, .bool rr1.When.Unknown, .slice A20 rr1.Frames.length c21, .int .i64 rr1.Marks]) ∧ FM.le f g ∧ St t w' g (s22 :: H) ∧ Own (tInt .i64) 3 g A20 c21 s22 rr1.Frames) := by
 unfold spykeep3_single at h
 refine enter Try.func36 rfl (tm := #[iV vid1, uV, uV, uV, uV, uV]) (by kernel_rfl) ?_
 intro B hret hnor hnp
 refine wp_seq_k (fun K2 hK3 => ?_)
 refine wp_region_lit ?_
 refine seqK rfl (does_alloc (z := Value.agg #[.int .i64 0, .int .i64 0, .int .i64 0, .bool false, .int .i64 0, .int .i64 0, .bool false, .int .i64 0, .int .i64 0, .bool false, .int .i64 0, .int .i64 0, .bool false, .int .i64 0, .int .i64 0, .bool false, .slice none 0 0, .int .i64 0]) (cs := #[.int .i64 0, .int .i64 0, .int .i64 0, .bool false, .int .i64 0, .int .i64 0, .bool false, .int .i64 0, .int .i64 0, .bool false, .int .i64 0, .int .i64 0, .bool false, .int .i64 0, .int .i64 0, .bool false, .slice none 0 0, .int .i64 0]) rfl (by kernel_rfl) rfl HS ?_)
 intro b4 W5 HS6
 refine wpList_nil ?_
 refine hK3 _ _ ?_
 refine wp_seq_k (fun K8 hK9 => ?_)
 refine wp_region_lit ?_
 refine seqL1 (by kernel_rfl) ?_
 refine seqK rfl (does_lit (e := (tInt .i64)) (E := 3) (vs := #[(0, Value.int .i64 1)]) (cs := #[.int .i64 1]) (xs := ([1] : List Int)) rfl Try.underlying22 (by kernel_rfl) (by kernel_rfl) ⟨[.int .i64 1], _, rfl, rfl, rfl⟩ rfl HS6 ?_ (by decide))
 intro b10 W11 s12 HS13 _ HO14
 have HS16 := HS13.u1
 refine seqL1 (by kernel_rfl) ?_
 refine seqK rfl (does_store (n := 18) (vs := [.int .i64 vid1, .int .i64 0, .int .i64 0, .bool false, .int .i64 0, .int .i64 0, .bool false, .int .i64 0, .int .i64 0, .bool false, .int .i64 0, .int .i64 0, .bool false, .int .i64 0, .int .i64 0, .bool false, .slice (some ⟨b10, 0, none⟩) ([1] : List Int).length 1, .int .i64 0]) (cs' := #[.int .i64 vid1, .int .i64 0, .int .i64 0, .bool false, .int .i64 0, .int .i64 0, .bool false, .int .i64 0, .int .i64 0, .bool false, .int .i64 0, .int .i64 0, .bool false, .int .i64 0, .int .i64 0, .bool false, .slice (some ⟨b10, 0, none⟩) ([1] : List Int).length 1, .int .i64 0]) rfl (by kernel_rfl) (by kernel_rfl : _ = Value.pointer (some ⟨b4, 0, none⟩)) (by kernel_rfl : _ = Value.agg #[.int .i64 vid1, .int .i64 0, .int .i64 0, .bool false, .int .i64 0, .int .i64 0, .bool false, .int .i64 0, .int .i64 0, .bool false, .int .i64 0, .int .i64 0, .bool false, .int .i64 0, .int .i64 0, .bool false, .slice (some ⟨b10, 0, none⟩) ([1] : List Int).length 1, .int .i64 0]) rfl rfl (by intro u_ hu_; simp only [List.mem_cons, List.not_mem_nil, or_false] at hu_; rcases hu_ with rfl | rfl | rfl | rfl | rfl | rfl | rfl | rfl | rfl | rfl | rfl | rfl | rfl | rfl | rfl | rfl | rfl | rfl <;> rfl) HS16 (Nat.le_of_ble_eq_true rfl) (by kernel_rfl) ?_)
 intro W17 HS18
 refine wpList_nil ?_
 refine hK9 _ _ ?_
 refine wp_ret ?_
 refine hret _ _ ?_
 refine ends (v := Value.agg #[.int .i64 vid1, .int .i64 0, .int .i64 0, .bool false, .int .i64 0, .int .i64 0, .bool false, .int .i64 0, .int .i64 0, .bool false, .int .i64 0, .int .i64 0, .bool false, .int .i64 0, .int .i64 0, .bool false, .slice (some ⟨b10, 0, none⟩) ([1] : List Int).length 1, .int .i64 0]) (results1 (q1 := .cell 2 65) (by kernel_rfl) (resN (n := 18) (cs := [.int .i64 vid1, .int .i64 0, .int .i64 0, .bool false, .int .i64 0, .int .i64 0, .bool false, .int .i64 0, .int .i64 0, .bool false, .int .i64 0, .int .i64 0, .bool false, .int .i64 0, .int .i64 0, .bool false, .slice (some ⟨b10, 0, none⟩) ([1] : List Int).length 1, .int .i64 0]) (by kernel_rfl : _ = Value.pointer (some ⟨b4, 0, none⟩)) Try.underlying65 rfl (by kernel_rfl) rfl (HS18.cells 0 18 _ rfl))) (by kernel_rfl) ?_
 have HS19 := HS18.drop
 injection h with h
 subst h
 exact ⟨f, (some ⟨b10, 0, none⟩), 1, s12, rfl, FM.le.refl _, HS19, HO14⟩

set_option maxRecDepth 100000 in
set_option maxHeartbeats 4000000 in
theorem catalog_shape.calls (k : Nat) (A2 : Option Addr) (c3 : Nat) (c1 : S_Change) {t w : World} {f : FM} {H : List Seg} (HS : St t w f (H)) (HR4 : SlR (tInt .i64) f A2 c3 c1.Row.Frames) (rr1 : Int) (h : catalog_shape k c1 = some rr1) :
    Calls Try.prog 47 #[.agg #[.int .i64 c1.Kind, .int .i64 c1.Row.ID, .int .i64 c1.Row.Box.X.Lo, .int .i64 c1.Row.Box.X.Hi, .bool c1.Row.Box.X.Unknown, .int .i64 c1.Row.Box.Y.Lo, .int .i64 c1.Row.Box.Y.Hi, .bool c1.Row.Box.Y.Unknown, .int .i64 c1.Row.Box.Z.Lo, .int .i64 c1.Row.Box.Z.Hi, .bool c1.Row.Box.Z.Unknown, .int .i64 c1.Row.Flux.Lo, .int .i64 c1.Row.Flux.Hi, .bool c1.Row.Flux.Unknown, .int .i64 c1.Row.When.Lo, .int .i64 c1.Row.When.Hi, .bool c1.Row.When.Unknown, .slice A2 c1.Row.Frames.length c3, .int .i64 c1.Row.Marks]] w (fun e w' => ∃ (g : FM), e = .returned (Value.int .i64 rr1) ∧ FM.le f g ∧ St t w' g (H)) := by
 unfold catalog_shape at h
 refine enter Try.func47 rfl (tm := #[(ag_Change c1 A2 c3), uV, uV, uV, uV, uV, uV, uV, uV, uV, uV, uV, uV, uV, uV, uV, uV, uV, uV, uV, uV, uV, uV, uV, uV, uV, uV, uV, uV, uV, uV]) (by kernel_rfl) ?_
 intro B hret hnor hnp
 refine wp_seq_k (fun K5 hK6 => ?_)
 refine wp_region_lit ?_
 refine seqK rfl (does_box (cs := #[.int .i64 c1.Kind, .int .i64 c1.Row.ID, .int .i64 c1.Row.Box.X.Lo, .int .i64 c1.Row.Box.X.Hi, .bool c1.Row.Box.X.Unknown, .int .i64 c1.Row.Box.Y.Lo, .int .i64 c1.Row.Box.Y.Hi, .bool c1.Row.Box.Y.Unknown, .int .i64 c1.Row.Box.Z.Lo, .int .i64 c1.Row.Box.Z.Hi, .bool c1.Row.Box.Z.Unknown, .int .i64 c1.Row.Flux.Lo, .int .i64 c1.Row.Flux.Hi, .bool c1.Row.Flux.Unknown, .int .i64 c1.Row.When.Lo, .int .i64 c1.Row.When.Hi, .bool c1.Row.When.Unknown, .slice A2 c1.Row.Frames.length c3, .int .i64 c1.Row.Marks]) rfl (by kernel_rfl : _ = Value.agg #[.int .i64 c1.Kind, .int .i64 c1.Row.ID, .int .i64 c1.Row.Box.X.Lo, .int .i64 c1.Row.Box.X.Hi, .bool c1.Row.Box.X.Unknown, .int .i64 c1.Row.Box.Y.Lo, .int .i64 c1.Row.Box.Y.Hi, .bool c1.Row.Box.Y.Unknown, .int .i64 c1.Row.Box.Z.Lo, .int .i64 c1.Row.Box.Z.Hi, .bool c1.Row.Box.Z.Unknown, .int .i64 c1.Row.Flux.Lo, .int .i64 c1.Row.Flux.Hi, .bool c1.Row.Flux.Unknown, .int .i64 c1.Row.When.Lo, .int .i64 c1.Row.When.Hi, .bool c1.Row.When.Unknown, .slice A2 c1.Row.Frames.length c3, .int .i64 c1.Row.Marks]) rfl HS ?_)
 intro b7 W8 HS9
 refine seqL1 (by kernel_rfl) ?_
 refine wpList_nil ?_
 refine hK6 _ _ ?_
 refine wp_seq_k (fun K11 hK12 => ?_)
 refine wp_seq_k (fun K13 hK14 => ?_)
 refine wp_region_lit ?_
 refine seqL1 (by kernel_rfl) ?_
 refine seqK rfl (does_run (run_load rfl Try.underlying3 rfl (by kernel_rfl : _ = Value.pointer (some ⟨b7, 0, none⟩)) (HS9.cell 0)) ?_)
 refine wpList_nil ?_
 refine hK14 _ _ ?_
 refine blockK (fun B15 hx16 hn17 hr18 ho19 hp20 => ?_)
 refine wp_seq_k (fun K22 hK23 => ?_)
 refine wp_seq_k (fun K24 hK25 => ?_)
 refine wp_region_lit ?_
 refine seqL2 (by kernel_rfl) ?_
 refine wpList_nil ?_
 refine hK25 _ _ ?_
 have hq_ := bind_some h; clear h; obtain ⟨v26, hv34, h⟩ := hq_
 have J35 : ∀ (f28 : FM) (x33 : Bool) (j32 : Nat → Value) (W30 : World) (a_ : Act), FM.le f f28 → some (x33) = some v26 → St t W30 f28 ([(b7, .cells #[.int .i64 c1.Kind, .int .i64 c1.Row.ID, .int .i64 c1.Row.Box.X.Lo, .int .i64 c1.Row.Box.X.Hi, .bool c1.Row.Box.X.Unknown, .int .i64 c1.Row.Box.Y.Lo, .int .i64 c1.Row.Box.Y.Hi, .bool c1.Row.Box.Y.Unknown, .int .i64 c1.Row.Box.Z.Lo, .int .i64 c1.Row.Box.Z.Hi, .bool c1.Row.Box.Z.Unknown, .int .i64 c1.Row.Flux.Lo, .int .i64 c1.Row.Flux.Hi, .bool c1.Row.Flux.Unknown, .int .i64 c1.Row.When.Lo, .int .i64 c1.Row.When.Hi, .bool c1.Row.When.Unknown, .slice A2 c1.Row.Frames.length c3, .int .i64 c1.Row.Marks] 71 (0, 0))] :: H) → a_ = ⟨#[(ag_Change c1 A2 c3), pV b7 0, iV 0, pV b7 0, iV c1.Kind, .bool x33, .bool (c1.Kind == 1), (j32 0), uV, uV, uV, uV, uV, uV, uV, uV, uV, uV, uV, uV, uV, uV, uV, uV, uV, uV, uV, uV, uV, uV, uV], []⟩ → K22 a_ W30 := by
  intro f28 x33 j32 W30 a_ L29 hj36 HS31  hfr_; subst hfr_
  injection hj36 with hj36; subst hj36; try dsimp only at h
  refine hK23 _ _ ?_
  have hq_ := ite_some h; clear h; rcases hq_ with ⟨c38, h⟩ | ⟨c38, h⟩
  · have c38 : x33 = true := c38
    refine wpRwI 5 (x := x33) (v := true) (by kernel_rfl) c38 ?_
    refine condT (by kernel_rfl) ?_
    refine wp_seq_k (fun K39 hK40 => ?_)
    refine wp_region_lit ?_
    refine seqL1 (by kernel_rfl) ?_
    refine seqK rfl (does_run (run_loadN (n := 18) rfl Try.underlying65 rfl (by kernel_rfl) (by kernel_rfl : _ = Value.pointer (some ⟨b7, 1, none⟩)) (cs := [.int .i64 c1.Row.ID, .int .i64 c1.Row.Box.X.Lo, .int .i64 c1.Row.Box.X.Hi, .bool c1.Row.Box.X.Unknown, .int .i64 c1.Row.Box.Y.Lo, .int .i64 c1.Row.Box.Y.Hi, .bool c1.Row.Box.Y.Unknown, .int .i64 c1.Row.Box.Z.Lo, .int .i64 c1.Row.Box.Z.Hi, .bool c1.Row.Box.Z.Unknown, .int .i64 c1.Row.Flux.Lo, .int .i64 c1.Row.Flux.Hi, .bool c1.Row.Flux.Unknown, .int .i64 c1.Row.When.Lo, .int .i64 c1.Row.When.Hi, .bool c1.Row.When.Unknown, .slice A2 c1.Row.Frames.length c3, .int .i64 c1.Row.Marks]) rfl (HS31.cells 1 18 _ rfl)) ?_)
    have hq_ := bind_some h; clear h; obtain ⟨vt41, hc42, h⟩ := hq_
    refine seqK rfl (does_call (f := 44) (args := #[.agg #[.int .i64 c1.Row.ID, .int .i64 c1.Row.Box.X.Lo, .int .i64 c1.Row.Box.X.Hi, .bool c1.Row.Box.X.Unknown, .int .i64 c1.Row.Box.Y.Lo, .int .i64 c1.Row.Box.Y.Hi, .bool c1.Row.Box.Y.Unknown, .int .i64 c1.Row.Box.Z.Lo, .int .i64 c1.Row.Box.Z.Hi, .bool c1.Row.Box.Z.Unknown, .int .i64 c1.Row.Flux.Lo, .int .i64 c1.Row.Flux.Hi, .bool c1.Row.Flux.Unknown, .int .i64 c1.Row.When.Lo, .int .i64 c1.Row.When.Hi, .bool c1.Row.When.Unknown, .slice A2 c1.Row.Frames.length c3, .int .i64 c1.Row.Marks]]) (by kernel_rfl) (catalog_CheckRow.calls k A2 c3 c1.Row HS31 (HR4.mono L29) vt41 hc42) ?_)
    rintro _ W45 ⟨f43, rfl, L44, HS46⟩
    refine ⟨_, rfl, ?_⟩
    refine seqL1 (by kernel_rfl) ?_
    refine wpList_nil ?_
    refine hK40 _ _ ?_
    refine wp_ret ?_
    refine hr18 _ _ ?_
    refine hret _ _ ?_
    refine ends_still (v := Value.int .i64 vt41) (by kernel_rfl) (by kernel_rfl) ?_
    have HS80 := HS46.drop
    injection h with h
    subst h
    exact ⟨f43, rfl, (L29.trans L44), HS80⟩
  · have c38 : ¬ (x33 = true) := c38
    refine wpRwI 5 (x := x33) (v := false) (by kernel_rfl) (Bool.eq_false_iff.mpr c38) ?_
    refine condF (by kernel_rfl) ?_
    refine wp_seq_k (fun K47 hK48 => ?_)
    refine wp_region_lit ?_
    refine seqL2 (by kernel_rfl) ?_
    refine wpList_nil ?_
    refine hK48 _ _ ?_
    have hq_ := ite_some h; clear h; rcases hq_ with ⟨c50, h⟩ | ⟨c50, h⟩
    · have c50 : c1.Kind = 3 := c50
      refine wpRwI 11 (x := (c1.Kind == 3)) (v := true) (by kernel_rfl) (beq_iff_eq.mpr c50) ?_
      refine wpRwI 12 (x := (c1.Kind == 3)) (v := true) (by kernel_rfl) (beq_iff_eq.mpr c50) ?_
      refine condT (by kernel_rfl) ?_
      refine wp_seq_k (fun K51 hK52 => ?_)
      refine wp_seq_k (fun K53 hK54 => ?_)
      refine wp_region_lit ?_
      refine seqL2 (by kernel_rfl) ?_
      refine seqK rfl (does_run (run_load rfl Try.underlying3 rfl (by kernel_rfl : _ = Value.pointer (some ⟨b7, 1, none⟩)) (HS31.cell 1)) ?_)
      refine seqL2 (by kernel_rfl) ?_
      have hq_ := ite_some h; clear h; rcases hq_ with ⟨c55, h⟩ | ⟨c55, h⟩
      · have c55 : c1.Row.ID < 1 := c55
        refine seqRwI 16 (x := (decide (c1.Row.ID < 1))) (v := true) (by kernel_rfl) (decide_eq_true c55) ?_
        refine seqRwI 17 (x := (decide (c1.Row.ID < 1))) (v := true) (by kernel_rfl) (decide_eq_true c55) ?_
        refine seqL5 (by kernel_rfl) ?_
        refine wpList_nil ?_
        refine hK54 _ _ ?_
        refine condT (by kernel_rfl) ?_
        refine wp_seq_k (fun K56 hK57 => ?_)
        refine wp_region_lit ?_
        refine seqL1 (by kernel_rfl) ?_
        refine wpList_nil ?_
        refine hK57 _ _ ?_
        refine wp_ret ?_
        refine hr18 _ _ ?_
        refine hret _ _ ?_
        refine ends_still (v := Value.int .i64 4) (by kernel_rfl) (by kernel_rfl) ?_
        have HS81 := HS31.drop
        injection h with h
        subst h
        exact ⟨f28, rfl, L29, HS81⟩
      · have c55 : ¬ (c1.Row.ID < 1) := c55
        refine seqRwI 16 (x := (decide (c1.Row.ID < 1))) (v := false) (by kernel_rfl) (decide_eq_false c55) ?_
        refine seqRwI 17 (x := (decide (c1.Row.ID < 1))) (v := false) (by kernel_rfl) (decide_eq_false c55) ?_
        refine seqL2 (by kernel_rfl) ?_
        refine seqG (by kernel_rfl) (does_run (run_load rfl Try.underlying3 rfl (by kernel_rfl : _ = Value.pointer (some ⟨b7, 1, none⟩)) (HS31.cell 1)) ?_)
        refine seqL2 (by kernel_rfl) ?_
        refine wpList_nil ?_
        refine hK54 _ _ ?_
        have hq_ := ite_some h; clear h; rcases hq_ with ⟨c59, h⟩ | ⟨c59, h⟩
        · have c59 : c1.Row.ID > 2147483647 := c59
          refine wpRwI 21 (x := (decide (c1.Row.ID > 2147483647))) (v := true) (by kernel_rfl) (decide_eq_true c59) ?_
          refine wpRwI 22 (x := (decide (c1.Row.ID > 2147483647))) (v := true) (by kernel_rfl) (decide_eq_true c59) ?_
          refine condT (by kernel_rfl) ?_
          refine wp_seq_k (fun K60 hK61 => ?_)
          refine wp_region_lit ?_
          refine seqL1 (by kernel_rfl) ?_
          refine wpList_nil ?_
          refine hK61 _ _ ?_
          refine wp_ret ?_
          refine hr18 _ _ ?_
          refine hret _ _ ?_
          refine ends_still (v := Value.int .i64 4) (by kernel_rfl) (by kernel_rfl) ?_
          have HS82 := HS31.drop
          injection h with h
          subst h
          exact ⟨f28, rfl, L29, HS82⟩
        · have c59 : ¬ (c1.Row.ID > 2147483647) := c59
          refine wpRwI 21 (x := (decide (c1.Row.ID > 2147483647))) (v := false) (by kernel_rfl) (decide_eq_false c59) ?_
          refine wpRwI 22 (x := (decide (c1.Row.ID > 2147483647))) (v := false) (by kernel_rfl) (decide_eq_false c59) ?_
          refine condF (by kernel_rfl) ?_
          refine wp_skip ?_
          refine hK52 _ _ ?_
          refine wp_seq_k (fun K62 hK63 => ?_)
          refine wp_seq_k (fun K64 hK65 => ?_)
          refine wp_region_lit ?_
          refine seqL1 (by kernel_rfl) ?_
          refine seqK rfl (does_run (run_loadN (n := 18) rfl Try.underlying65 rfl (by kernel_rfl) (by kernel_rfl : _ = Value.pointer (some ⟨b7, 1, none⟩)) (cs := [.int .i64 c1.Row.ID, .int .i64 c1.Row.Box.X.Lo, .int .i64 c1.Row.Box.X.Hi, .bool c1.Row.Box.X.Unknown, .int .i64 c1.Row.Box.Y.Lo, .int .i64 c1.Row.Box.Y.Hi, .bool c1.Row.Box.Y.Unknown, .int .i64 c1.Row.Box.Z.Lo, .int .i64 c1.Row.Box.Z.Hi, .bool c1.Row.Box.Z.Unknown, .int .i64 c1.Row.Flux.Lo, .int .i64 c1.Row.Flux.Hi, .bool c1.Row.Flux.Unknown, .int .i64 c1.Row.When.Lo, .int .i64 c1.Row.When.Hi, .bool c1.Row.When.Unknown, .slice A2 c1.Row.Frames.length c3, .int .i64 c1.Row.Marks]) rfl (HS31.cells 1 18 _ rfl)) ?_)
          refine seqL2 (by kernel_rfl) ?_
          refine seqK rfl (does_run (run_load rfl Try.underlying3 rfl (by kernel_rfl : _ = Value.pointer (some ⟨b7, 1, none⟩)) (HS31.cell 1)) ?_)
          have hq_ := bind_some h; clear h; obtain ⟨vt66, hc67, h⟩ := hq_
          refine seqL1 (by kernel_rfl) ?_
          refine seqK rfl (does_call (f := 21) (args := #[.agg #[.int .i64 c1.Row.ID, .int .i64 c1.Row.Box.X.Lo, .int .i64 c1.Row.Box.X.Hi, .bool c1.Row.Box.X.Unknown, .int .i64 c1.Row.Box.Y.Lo, .int .i64 c1.Row.Box.Y.Hi, .bool c1.Row.Box.Y.Unknown, .int .i64 c1.Row.Box.Z.Lo, .int .i64 c1.Row.Box.Z.Hi, .bool c1.Row.Box.Z.Unknown, .int .i64 c1.Row.Flux.Lo, .int .i64 c1.Row.Flux.Hi, .bool c1.Row.Flux.Unknown, .int .i64 c1.Row.When.Lo, .int .i64 c1.Row.When.Hi, .bool c1.Row.When.Unknown, .slice A2 c1.Row.Frames.length c3, .int .i64 c1.Row.Marks], .agg #[.int .i64 c1.Row.ID, .int .i64 0, .int .i64 0, .bool false, .int .i64 0, .int .i64 0, .bool false, .int .i64 0, .int .i64 0, .bool false, .int .i64 0, .int .i64 0, .bool false, .int .i64 0, .int .i64 0, .bool false, .slice none 0 0, .int .i64 0]]) (by kernel_rfl) (catalog_Same.calls k A2 c3 none 0 c1.Row (⟨c1.Row.ID, (⟨(⟨0, 0, false⟩ : S_Bound), (⟨0, 0, false⟩ : S_Bound), (⟨0, 0, false⟩ : S_Bound)⟩ : S_Box), (⟨0, 0, false⟩ : S_Bound), (⟨0, 0, false⟩ : S_Bound), ([] : List Int), 0⟩ : S_Row) HS31 (HR4.mono L29) (SlR.nil _ _) vt66 hc67) ?_)
          rintro _ W70 ⟨f68, rfl, L69, HS71⟩
          refine ⟨_, rfl, ?_⟩
          refine seqS1 (a' := ⟨#[(ag_Change c1 A2 c3), pV b7 0, iV 0, pV b7 0, iV c1.Kind, fV, .bool (c1.Kind == 1), (j32 0), uV, uV, uV, tV, tV, pV b7 1, pV b7 1, iV c1.Row.ID, fV, fV, pV b7 1, pV b7 1, iV c1.Row.ID, fV, fV, pV b7 1, (ag_Row c1.Row A2 c3), pV b7 1, pV b7 1, iV c1.Row.ID, .agg #[iV c1.Row.ID, iV 0, iV 0, fV, iV 0, iV 0, fV, iV 0, iV 0, fV, iV 0, iV 0, fV, iV 0, iV 0, fV, .slice none 0 0, iV 0], .bool vt66, .bool (!vt66)], []⟩) (by kernel_rfl) ?_
          refine wpList_nil ?_
          refine hK65 _ _ ?_
          have hq_ := ite_some h; clear h; rcases hq_ with ⟨c73, h⟩ | ⟨c73, h⟩
          · have c73 : ¬ (vt66 = true) := c73
            refine wpRwI 30 (x := (!vt66)) (v := true) (by kernel_rfl) (congrArg (fun b_ => !b_) (show vt66 = false from (Bool.eq_false_iff.mpr c73)) : (!vt66) = true) ?_
            refine condT (by kernel_rfl) ?_
            refine wp_seq_k (fun K74 hK75 => ?_)
            refine wp_region_lit ?_
            refine seqL1 (by kernel_rfl) ?_
            refine wpList_nil ?_
            refine hK75 _ _ ?_
            refine wp_ret ?_
            refine hr18 _ _ ?_
            refine hret _ _ ?_
            refine ends_still (v := Value.int .i64 3) (by kernel_rfl) (by kernel_rfl) ?_
            have HS83 := HS71.drop
            injection h with h
            subst h
            exact ⟨f68, rfl, (L29.trans L69), HS83⟩
          · have c73 : ¬ (¬ (vt66 = true)) := c73
            refine wpRwI 30 (x := (!vt66)) (v := false) (by kernel_rfl) (congrArg (fun b_ => !b_) (show vt66 = true from (Decidable.of_not_not c73)) : (!vt66) = false) ?_
            refine condF (by kernel_rfl) ?_
            refine wp_skip ?_
            refine hK63 _ _ ?_
            refine wp_seq_k (fun K76 hK77 => ?_)
            refine wp_region_lit ?_
            refine seqL1 (by kernel_rfl) ?_
            refine wpList_nil ?_
            refine hK77 _ _ ?_
            refine wp_ret ?_
            refine hr18 _ _ ?_
            refine hret _ _ ?_
            refine ends_still (v := Value.int .i64 0) (by kernel_rfl) (by kernel_rfl) ?_
            have HS84 := HS71.drop
            injection h with h
            subst h
            exact ⟨f68, rfl, (L29.trans L69), HS84⟩
    · have c50 : ¬ (c1.Kind = 3) := c50
      refine wpRwI 11 (x := (c1.Kind == 3)) (v := false) (by kernel_rfl) (beq_eq_false_iff_ne.mpr c50) ?_
      refine wpRwI 12 (x := (c1.Kind == 3)) (v := false) (by kernel_rfl) (beq_eq_false_iff_ne.mpr c50) ?_
      refine condF (by kernel_rfl) ?_
      refine wp_skip ?_
      refine hn17 _ _ ?_
      refine hK12 _ _ ?_
      refine wp_seq_k (fun K78 hK79 => ?_)
      refine wp_region_lit ?_
      refine seqL1 (by kernel_rfl) ?_
      refine wpList_nil ?_
      refine hK79 _ _ ?_
      refine wp_ret ?_
      refine hret _ _ ?_
      refine ends_still (v := Value.int .i64 12) (by kernel_rfl) (by kernel_rfl) ?_
      have HS85 := HS31.drop
      injection h with h
      subst h
      exact ⟨f28, rfl, L29, HS85⟩
 clear h; have h := hv34; clear hv34
 have hq_ := ite_some h; clear h; rcases hq_ with ⟨c27, h⟩ | ⟨c27, h⟩
 · have c27 : c1.Kind = 1 := c27
   refine wpRwI 5 (x := (c1.Kind == 1)) (v := true) (by kernel_rfl) (beq_iff_eq.mpr c27) ?_
   refine wpRwI 6 (x := (c1.Kind == 1)) (v := true) (by kernel_rfl) (beq_iff_eq.mpr c27) ?_
   refine condT (by kernel_rfl) ?_
   refine wp_skip ?_
   refine fnRwI (F := K22) 6 (x := true) (v := (c1.Kind == 1)) (by kernel_rfl) (Eq.symm (beq_iff_eq.mpr c27)) ?_
   refine fnRwI (F := K22) 5 (x := true) (v := (c1.Kind == 1)) (by kernel_rfl) (Eq.symm (beq_iff_eq.mpr c27)) ?_
   exact J35 f (c1.Kind == 1) (fun i_ => [undef].getD i_ undef) W8 _ (FM.le.refl _) h HS9 (by kernel_rfl)
 · have c27 : ¬ (c1.Kind = 1) := c27
   refine wpRwI 5 (x := (c1.Kind == 1)) (v := false) (by kernel_rfl) (beq_eq_false_iff_ne.mpr c27) ?_
   refine wpRwI 6 (x := (c1.Kind == 1)) (v := false) (by kernel_rfl) (beq_eq_false_iff_ne.mpr c27) ?_
   refine condF (by kernel_rfl) ?_
   refine wp_region_lit ?_
   refine seqL2 (by kernel_rfl) ?_
   refine wpList_nil ?_
   refine fnRwI (F := K22) 6 (x := false) (v := (c1.Kind == 1)) (by kernel_rfl) (Eq.symm (beq_eq_false_iff_ne.mpr c27)) ?_
   exact J35 f (c1.Kind == 2) (fun i_ => [Value.bool (c1.Kind == 2)].getD i_ undef) W8 _ (FM.le.refl _) h HS9 (by kernel_rfl)

end Go.Sp.M4
