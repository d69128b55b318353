import Derived.Test.YtpdemjoehkgohaaProg
import Derived.Test.YtpdemjoehkgohaaSpCopy
import Derived.Test.YtpdemjoehkgohaaFK5
import Derived.Test.YtpdemjoehkgohaaSpSort
import Derived.Test.YtpdemjoehkgohaaShelf
import Derived.Test.YtpdemjoehkgohaaSpMapR
import Derived.Test.YtpdemjoehkgohaaSpKeys
import Derived.Test.YtpdemjoehkgohaaKK5n0
import Derived.Test.YtpdemjoehkgohaaKK5n1
import Derived.Test.YtpdemjoehkgohaaKK5n2
namespace Go.Sp.K5
open Go Go.Sp Go.Proofs
set_option linter.unusedVariables false
attribute [local irreducible] wpList AnyL Code.wp Calls Does
set_option maxRecDepth 100000 in
set_option maxHeartbeats 4000000 in
theorem catalog_pairs__catalog_Diff_1.calls (k : Nat) (b1 : Nat) (A4 : Option Addr) (c5 : Nat) (s6 : Seg) (A10 : Option Addr) (c11 : Nat) (A14 : Option Addr) (c15 : Nat) (v3 : List S_Change) (a9 : List S_Row) (b13 : List S_Row) {t w : World} {f : FM} {H : List Seg} (HS : St t w f ([(b1, .cells #[.slice A4 v3.length c5] 28 (0, 0))] :: s6 :: H)) (HO7 : Own ty_Change 71 f A4 c5 s6 v3) (HR12 : SlR ty_Row f A10 c11 a9) (HR16 : SlR ty_Row f A14 c15 b13) (rr1 : List S_Change) (h : catalog_pairs__catalog_Diff_1 k v3 a9 b13 = some rr1) :
    Calls Try.prog 27 #[.slice A10 a9.length c11, .slice A14 b13.length c15, .func (.func 28) #[] #[.pointer (some ⟨b1, 0, none⟩)]] w (fun e w' => ∃ (g : FM) (A681 : Option Addr) (c682 : Nat) (s683 : Seg), e = .returned (Value.tuple #[]) ∧ FM.le f g ∧ St t w' g (s683 :: [(b1, .cells #[.slice A681 rr1.length c682] 28 (0, 0))] :: H) ∧ Own ty_Change 71 g A681 c682 s683 rr1) := by
 unfold catalog_pairs__catalog_Diff_1 at h
 refine enter Try.func27 rfl (tm := #[.slice A10 a9.length c11, .slice A14 b13.length c15, .func (.func 28) #[] #[pV b1 0], uV, uV, uV, uV, uV, uV, uV, uV, uV, uV, uV, uV, uV, uV, uV, uV, uV, uV, uV, uV, uV, uV, uV, uV, uV, uV, uV, uV, uV, uV, uV, uV, uV, uV, uV, uV, uV, uV, uV, uV, uV, uV, uV, uV, uV, uV, uV, uV, uV, uV, uV, uV, uV, uV, uV, uV, uV, uV, uV, uV, uV, uV, uV, uV, uV, uV, uV, uV, uV, uV, uV, uV, uV, uV, uV, uV, uV, uV, uV, uV, uV, uV, uV]) (by kernel_rfl) ?_
 intro B hret hnor hnp
 refine wp_seq_k (fun K17 hK18 => ?_)
 refine wp_region_lit ?_
 refine seqL2 (by kernel_rfl) ?_
 refine wpList_nil ?_
 refine hK18 _ _ ?_
 refine blockK (fun B19 hx20 hn21 hr22 ho23 hp24 => ?_)
 have hq_ := bind_some h; clear h; obtain ⟨o447, hv671, h⟩ := hq_
 have J672 : ∀ (f661 : FM) (A667 : Option Addr) (c668 : Nat) (s669 : Seg) (x666 : List S_Change) (j665 : Nat → Value) (W663 : World) (a_ : Act), FM.le f f661 → some (x666) = some o447 → St t W663 f661 ([(b1, .cells #[.slice A667 x666.length c668] 28 (0, 0))] :: s669 :: H) → Own ty_Change 71 f661 A667 c668 s669 x666 → a_ = ⟨#[.slice A10 a9.length c11, .slice A14 b13.length c15, .func (.func 28) #[] #[pV b1 0], uV, uV, uV, (j665 0), (j665 1), (j665 2), (j665 3), (j665 4), (j665 5), (j665 6), (j665 7), (j665 8), (j665 9), (j665 10), (j665 11), (j665 12), (j665 13), (j665 14), (j665 15), (j665 16), (j665 17), (j665 18), (j665 19), (j665 20), (j665 21), (j665 22), (j665 23), (j665 24), (j665 25), (j665 26), (j665 27), (j665 28), (j665 29), (j665 30), (j665 31), (j665 32), (j665 33), (j665 34), (j665 35), (j665 36), (j665 37), (j665 38), (j665 39), (j665 40), (j665 41), (j665 42), (j665 43), (j665 44), (j665 45), (j665 46), (j665 47), (j665 48), (j665 49), (j665 50), (j665 51), (j665 52), (j665 53), (j665 54), (j665 55), (j665 56), (j665 57), (j665 58), (j665 59), (j665 60), (j665 61), (j665 62), (j665 63), (j665 64), (j665 65), (j665 66), (j665 67), (j665 68), (j665 69), (j665 70), (j665 71), (j665 72), (j665 73), (j665 74), (j665 75), (j665 76), (j665 77), (j665 78), (j665 79)], []⟩ → B Exit.normal a_ W663 := by
  intro f661 A667 c668 s669 x666 j665 W663 a_ L662 hj673 HS664 HO670 hfr_; subst hfr_
  injection hj673 with hj673; subst hj673; try dsimp only at h
  refine hnor _ _ ?_
  refine ends_still (v := Value.tuple #[]) (by kernel_rfl) (by kernel_rfl) ?_
  have HS680 := HS664.u1
  injection h with h
  subst h
  exact ⟨f661, A667, c668, s669, rfl, L662, HS680, HO670⟩
 clear h; have h := hv671; clear hv671
 refine loopK (fun n_ a_ w_ => ∃ (f451 : FM) (A459 : Option Addr) (c460 : Nat) (s461 : Seg) (i456 : Int) (j457 : Int) (x458 : List S_Change) (j455 : Nat → Value), FM.le f f451 ∧ St t w_ f451 ([(b1, .cells #[.slice A459 x458.length c460] 28 (0, 0))] :: s461 :: H) ∧ Own ty_Change 71 f451 A459 c460 s461 x458 ∧ catalog_pairs__catalog_Diff_1.l0 k a9 b13 n_ i456 j457 x458 = some o447 ∧ a_ = ⟨#[.slice A10 a9.length c11, .slice A14 b13.length c15, .func (.func 28) #[] #[pV b1 0], uV, uV, uV, iV i456, iV j457, (j455 0), (j455 1), (j455 2), (j455 3), (j455 4), (j455 5), (j455 6), (j455 7), (j455 8), (j455 9), (j455 10), (j455 11), (j455 12), (j455 13), (j455 14), (j455 15), (j455 16), (j455 17), (j455 18), (j455 19), (j455 20), (j455 21), (j455 22), (j455 23), (j455 24), (j455 25), (j455 26), (j455 27), (j455 28), (j455 29), (j455 30), (j455 31), (j455 32), (j455 33), (j455 34), (j455 35), (j455 36), (j455 37), (j455 38), (j455 39), (j455 40), (j455 41), (j455 42), (j455 43), (j455 44), (j455 45), (j455 46), (j455 47), (j455 48), (j455 49), (j455 50), (j455 51), (j455 52), (j455 53), (j455 54), (j455 55), (j455 56), (j455 57), (j455 58), (j455 59), (j455 60), (j455 61), (j455 62), (j455 63), (j455 64), (j455 65), (j455 66), (j455 67), (j455 68), (j455 69), (j455 70), (j455 71), (j455 72), (j455 73), (j455 74), (j455 75), (j455 76), (j455 77)], []⟩) k ⟨f, A4, c5, s6, 0, 0, v3, (fun i_ => [undef, undef, undef, undef, undef, undef, undef, undef, undef, undef, undef, undef, undef, undef, undef, undef, undef, undef, undef, undef, undef, undef, undef, undef, undef, undef, undef, undef, undef, undef, undef, undef, undef, undef, undef, undef, undef, undef, undef, undef, undef, undef, undef, undef, undef, undef, undef, undef, undef, undef, undef, undef, undef, undef, undef, undef, undef, undef, undef, undef, undef, undef, undef, undef, undef, undef, undef, undef, undef, undef, undef, undef, undef, undef, undef, undef, undef, undef].getD i_ undef), (FM.le.refl _), HS, HO7, h, (by kernel_rfl)⟩ ?_
 clear h
 rintro n450 _ W453 ⟨f451, A459, c460, s461, i456, j457, x458, j455, L452, HS454, HO462, h, rfl⟩ K448 hK449
 obtain _ | n450 := n450
 · exact nomatch h
 simp only [catalog_pairs__catalog_Diff_1.l0] at h
 refine wp_seq_k (fun K463 hK464 => ?_)
 refine wp_seq_k (fun K465 hK466 => ?_)
 refine wp_region_lit ?_
 refine seqL5 (by kernel_rfl) ?_
 have hq_ := ite_some h; clear h; rcases hq_ with ⟨c467, h⟩ | ⟨c467, h⟩
 · have c467 : i456 < (a9.length : Int) := c467
   refine seqRwI 11 (x := (decide (i456 < (a9.length : Int)))) (v := true) (by kernel_rfl) (decide_eq_true c467) ?_
   refine seqRwI 12 (x := (decide (i456 < (a9.length : Int)))) (v := true) (by kernel_rfl) (decide_eq_true c467) ?_
   refine seqL5 (by kernel_rfl) ?_
   refine wpList_nil ?_
   refine hK466 _ _ ?_
   refine condT (by kernel_rfl) ?_
   refine wp_skip ?_
   refine hK464 _ _ ?_
   refine blockK (fun B468 hx469 hn470 hr471 ho472 hp473 => ?_)
   refine blockK (fun B475 hx476 hn477 hr478 ho479 hp480 => ?_)
   refine wp_seq_k (fun K482 hK483 => ?_)
   refine heldG (S := Sg t f451 ([(b1, .cells #[.slice A459 x458.length c460] 28 (0, 0))] :: s461 :: H) []) (n := 24) (by kernel_rfl) rfl HS454 ?_
   intro W484 HS485
   refine takeG [0, 1, 2, 3, 4] (n := 24) (fuel := 19) (l' := #[true, true, true, true, true, false, false, false, false, false, false, false, false, false, false, false, false, false, false, false, false, false, false, false]) (a' := ⟨#[.slice A10 a9.length c11, .slice A14 b13.length c15, .func (.func 28) #[] #[pV b1 0], uV, uV, uV, iV i456, iV j457, iV i456, .slice A10 a9.length c11, iV (a9.length : Int), tV, tV, uV, uV, uV, uV, tV, (j455 10), (j455 11), (j455 12), (j455 13), (j455 14), (j455 15), (j455 16), (j455 17), (j455 18), (j455 19), (j455 20), (j455 21), (j455 22), iV j457, .slice A14 b13.length c15, iV (b13.length : Int), .bool (j457 == (b13.length : Int)), .bool (j457 == (b13.length : Int)), (j455 28), (j455 29), (j455 30), (j455 31), (j455 32), (j455 33), (j455 34), (j455 35), (j455 36), (j455 37), (j455 38), (j455 39), (j455 40), (j455 41), (j455 42), (j455 43), (j455 44), (j455 45), (j455 46), (j455 47), (j455 48), (j455 49), (j455 50), (j455 51), (j455 52), (j455 53), (j455 54), (j455 55), (j455 56), (j455 57), (j455 58), (j455 59), (j455 60), (j455 61), (j455 62), (j455 63), (j455 64), (j455 65), (j455 66), (j455 67), (j455 68), (j455 69), (j455 70), (j455 71), (j455 72), (j455 73), (j455 74), (j455 75), (j455 76), (j455 77)], []⟩) rfl (by kernel_rfl) (by kernel_rfl) (by kernel_rfl) (fun ch_ a_ w_ q_ => (fun ch_ a_ w_ q_ => (fun ch_ a_ w_ q_ => hnp ch_ a_ w_ (hp24 ch_ a_ w_ q_)) ch_ a_ w_ (hp473 ch_ a_ w_ q_)) ch_ a_ w_ (hp480 ch_ a_ w_ q_)) (Sg.g0 (Sx.of [] (FM.le.refl _) HS485)) ?_
   have hq_ := ite_some h; clear h; rcases hq_ with ⟨c486, h⟩ | ⟨c486, h⟩
   · have c486 : j457 = (b13.length : Int) := c486
     refine gateRwI 34 (x := (j457 == (b13.length : Int))) (v := true) (by kernel_rfl) (beq_iff_eq.mpr c486) ?_
     refine gateRwI 35 (x := (j457 == (b13.length : Int))) (v := true) (by kernel_rfl) (beq_iff_eq.mpr c486) ?_
     refine takeG [5, 6, 7, 8, 9, 10, 11, 12, 13, 14, 15, 16, 17, 18, 19, 20, 21, 22, 23] (n := 19) (fuel := 0) (l' := #[true, true, true, true, true, true, true, true, true, true, true, true, true, true, true, true, true, true, true, true, true, true, true, true]) (a' := ⟨#[.slice A10 a9.length c11, .slice A14 b13.length c15, .func (.func 28) #[] #[pV b1 0], uV, uV, uV, iV i456, iV j457, iV i456, .slice A10 a9.length c11, iV (a9.length : Int), tV, tV, uV, uV, uV, uV, tV, (j455 10), (j455 11), (j455 12), (j455 13), (j455 14), (j455 15), (j455 16), (j455 17), (j455 18), (j455 19), (j455 20), (j455 21), tV, iV j457, .slice A14 b13.length c15, iV (b13.length : Int), tV, tV, uV, uV, uV, uV, uV, uV, uV, uV, uV, uV, uV, uV, uV, uV, uV, uV, uV, tV, (j455 46), (j455 47), (j455 48), (j455 49), (j455 50), (j455 51), (j455 52), (j455 53), (j455 54), (j455 55), (j455 56), (j455 57), (j455 58), (j455 59), (j455 60), (j455 61), (j455 62), (j455 63), (j455 64), (j455 65), (j455 66), (j455 67), (j455 68), (j455 69), (j455 70), (j455 71), (j455 72), (j455 73), (j455 74), (j455 75), (j455 76), (j455 77)], []⟩) rfl (by kernel_rfl) (by kernel_rfl) (by kernel_rfl) (fun ch_ a_ w_ q_ => (fun ch_ a_ w_ q_ => (fun ch_ a_ w_ q_ => hnp ch_ a_ w_ (hp24 ch_ a_ w_ q_)) ch_ a_ w_ (hp473 ch_ a_ w_ q_)) ch_ a_ w_ (hp480 ch_ a_ w_ q_)) (Sg.g0 (Sx.of [] (FM.le.refl _) HS485)) ?_
     refine doneG (by kernel_rfl) ?_ _
     refine hK483 _ _ ?_
     refine condT (by kernel_rfl) ?_
     refine wp_seq_k (fun K487 hK488 => ?_)
     refine wp_region_lit ?_
     have hq_ := guard_some h; clear h; obtain ⟨c489, h⟩ := hq_
     have c489 : 0 ≤ i456 := c489
     obtain ⟨b493, of494, cs490, hA495, hr491, hc492⟩ := (HR12.mono L452).at (i := i456) c489 c467
     obtain ⟨A496, c496, rfl, HR496⟩ := hr491
     refine seqL3 (by kernel_rfl) ?_
     refine seqK rfl (does_run (run_indexE hA495 (sz := 18) rfl Try.underlying26 (by kernel_rfl) (by kernel_rfl : _ = Value.slice A10 a9.length c11) (by kernel_rfl : _ = Value.int .i64 i456) c489 c467 W484) ?_)
     have HS497 := HS485.u1
     have HS498 := HS497.u1
     have hq_ := bind_some h; clear h; obtain ⟨vt499, hc500, h⟩ := hq_
     refine seqK rfl (does_call (f := 28) (args := #[.pointer (some ⟨b493, of494 + (i456 : Int).toNat * 18, none⟩), .pointer none, .pointer (some ⟨b1, 0, none⟩)]) (by kernel_rfl) (catalog_Diff_1.calls k b1 A459 c460 s461 b493 (of494 + (i456 : Int).toNat * 18) A496 c496 x458 (rd a9 i456) HS498 HO462 HR496 (fun hl_ => hc492 hl_) vt499 hc500) ?_)
     rintro _ W503 ⟨f501, A505, c506, s507, rfl, L502, HS504, HO508⟩
     refine ⟨_, rfl, ?_⟩
     refine wpList_nil ?_
     refine hK488 _ _ ?_
     refine wp_region_lit ?_
     refine seqL3 (by kernel_rfl) ?_
     refine wpList_nil ?_
     refine hn477 _ _ ?_
     refine hn470 _ _ ?_
     refine hK449 n450 _ _ (Nat.lt_succ_self _) ?_
     have HS674 := HS504.u1
     exact ⟨f501, A505, c506, s507, (w64 (i456 + 1)), j457, vt499, (fun i_ => [Value.int .i64 i456, Value.slice A10 a9.length c11, Value.int .i64 (a9.length : Int), Value.bool true, Value.bool true, undef, undef, undef, undef, Value.bool true, (j455 10), (j455 11), (j455 12), (j455 13), (j455 14), (j455 15), (j455 16), (j455 17), (j455 18), (j455 19), (j455 20), (j455 21), Value.bool true, Value.int .i64 j457, Value.slice A14 b13.length c15, Value.int .i64 (b13.length : Int), Value.bool true, Value.bool true, undef, undef, undef, undef, undef, undef, undef, undef, undef, undef, undef, undef, undef, undef, undef, undef, undef, Value.bool true, Value.func (.func 28) #[] #[.pointer (some ⟨b1, 0, none⟩)], Value.slice A10 a9.length c11, Value.int .i64 i456, Value.pointer (some ⟨b493, of494 + (i456 : Int).toNat * 18, none⟩), Value.tuple #[], Value.int .i64 i456, Value.int .i64 (w64 (i456 + 1)), (j455 53), (j455 54), (j455 55), (j455 56), (j455 57), (j455 58), (j455 59), (j455 60), (j455 61), (j455 62), (j455 63), (j455 64), (j455 65), (j455 66), (j455 67), (j455 68), (j455 69), (j455 70), (j455 71), (j455 72), (j455 73), (j455 74), (j455 75), (j455 76), (j455 77)].getD i_ undef), (L452.trans L502), HS674, HO508, h, (by kernel_rfl)⟩
   · have c486 : ¬ (j457 = (b13.length : Int)) := c486
     refine gateRwI 34 (x := (j457 == (b13.length : Int))) (v := false) (by kernel_rfl) (beq_eq_false_iff_ne.mpr c486) ?_
     refine gateRwI 35 (x := (j457 == (b13.length : Int))) (v := false) (by kernel_rfl) (beq_eq_false_iff_ne.mpr c486) ?_
     refine takeG [5, 6, 7, 8, 9] (n := 19) (fuel := 14) (l' := #[true, true, true, true, true, true, true, true, true, true, false, false, false, false, false, false, false, false, false, false, false, false, false, false]) (a' := ⟨#[.slice A10 a9.length c11, .slice A14 b13.length c15, .func (.func 28) #[] #[pV b1 0], uV, uV, uV, iV i456, iV j457, iV i456, .slice A10 a9.length c11, iV (a9.length : Int), tV, tV, uV, uV, uV, uV, tV, (j455 10), (j455 11), (j455 12), (j455 13), (j455 14), (j455 15), (j455 16), (j455 17), (j455 18), (j455 19), (j455 20), (j455 21), (j455 22), iV j457, .slice A14 b13.length c15, iV (b13.length : Int), fV, fV, iV i456, .slice A10 a9.length c11, iV (a9.length : Int), .bool (decide (i456 < (a9.length : Int))), .bool (decide (i456 < (a9.length : Int))), (j455 33), (j455 34), (j455 35), (j455 36), (j455 37), (j455 38), (j455 39), (j455 40), (j455 41), (j455 42), (j455 43), (j455 44), (j455 45), (j455 46), (j455 47), (j455 48), (j455 49), (j455 50), (j455 51), (j455 52), (j455 53), (j455 54), (j455 55), (j455 56), (j455 57), (j455 58), (j455 59), (j455 60), (j455 61), (j455 62), (j455 63), (j455 64), (j455 65), (j455 66), (j455 67), (j455 68), (j455 69), (j455 70), (j455 71), (j455 72), (j455 73), (j455 74), (j455 75), (j455 76), (j455 77)], []⟩) rfl (by kernel_rfl) (by kernel_rfl) (by kernel_rfl) (fun ch_ a_ w_ q_ => (fun ch_ a_ w_ q_ => (fun ch_ a_ w_ q_ => hnp ch_ a_ w_ (hp24 ch_ a_ w_ q_)) ch_ a_ w_ (hp473 ch_ a_ w_ q_)) ch_ a_ w_ (hp480 ch_ a_ w_ q_)) (Sg.g0 (Sx.of [] (FM.le.refl _) HS485)) ?_
     refine gateRwI 39 (x := (decide (i456 < (a9.length : Int)))) (v := true) (by kernel_rfl) (decide_eq_true c467) ?_
     refine gateRwI 40 (x := (decide (i456 < (a9.length : Int)))) (v := true) (by kernel_rfl) (decide_eq_true c467) ?_
     have hq_ := guard_some h; clear h; obtain ⟨c510, h⟩ := hq_
     have c510 : 0 ≤ i456 := c510
     obtain ⟨b514, of515, cs511, hA516, hr512, hc513⟩ := (HR12.mono L452).at (i := i456) c510 c467
     obtain ⟨A517, c517, rfl, HR517⟩ := hr512
     refine takeG [10, 11] (n := 14) (fuel := 12) (l' := #[true, true, true, true, true, true, true, true, true, true, true, true, false, false, false, false, false, false, false, false, false, false, false, false]) (a' := ⟨#[.slice A10 a9.length c11, .slice A14 b13.length c15, .func (.func 28) #[] #[pV b1 0], uV, uV, uV, iV i456, iV j457, iV i456, .slice A10 a9.length c11, iV (a9.length : Int), tV, tV, uV, uV, uV, uV, tV, (j455 10), (j455 11), (j455 12), (j455 13), (j455 14), (j455 15), (j455 16), (j455 17), (j455 18), (j455 19), (j455 20), (j455 21), (j455 22), iV j457, .slice A14 b13.length c15, iV (b13.length : Int), fV, fV, iV i456, .slice A10 a9.length c11, iV (a9.length : Int), tV, tV, .slice A10 a9.length c11, iV i456, (j455 35), (j455 36), (j455 37), (j455 38), (j455 39), (j455 40), (j455 41), (j455 42), (j455 43), (j455 44), (j455 45), (j455 46), (j455 47), (j455 48), (j455 49), (j455 50), (j455 51), (j455 52), (j455 53), (j455 54), (j455 55), (j455 56), (j455 57), (j455 58), (j455 59), (j455 60), (j455 61), (j455 62), (j455 63), (j455 64), (j455 65), (j455 66), (j455 67), (j455 68), (j455 69), (j455 70), (j455 71), (j455 72), (j455 73), (j455 74), (j455 75), (j455 76), (j455 77)], []⟩) rfl (by kernel_rfl) (by kernel_rfl) (by kernel_rfl) (fun ch_ a_ w_ q_ => (fun ch_ a_ w_ q_ => (fun ch_ a_ w_ q_ => hnp ch_ a_ w_ (hp24 ch_ a_ w_ q_)) ch_ a_ w_ (hp473 ch_ a_ w_ q_)) ch_ a_ w_ (hp480 ch_ a_ w_ q_)) (Sg.g0 (Sx.of [] (FM.le.refl _) HS485)) ?_
     refine takeGQ 12 [] rfl (by kernel_rfl) (by kernel_rfl) (by kernel_rfl) (by kernel_rfl) (by kernel_rfl) (by kernel_rfl) (fun ch_ a_ w_ q_ => (fun ch_ a_ w_ q_ => (fun ch_ a_ w_ q_ => hnp ch_ a_ w_ (hp24 ch_ a_ w_ q_)) ch_ a_ w_ (hp473 ch_ a_ w_ q_)) ch_ a_ w_ (hp480 ch_ a_ w_ q_)) (Sg.g0 (Sx.of [] (FM.le.refl _) HS485)) (fun w_ hw_ => by obtain ⟨g_, hl_, hS_⟩ := hw_.st; exact run_indexE hA516 (sz := 18) rfl Try.underlying26 (by kernel_rfl) (by kernel_rfl : _ = Value.slice A10 a9.length c11) (by kernel_rfl : _ = Value.int .i64 i456) c510 c467 w_) ?_
     refine takeG [13] (n := 11) (fuel := 10) (l' := #[true, true, true, true, true, true, true, true, true, true, true, true, true, true, false, false, false, false, false, false, false, false, false, false]) (a' := ⟨#[.slice A10 a9.length c11, .slice A14 b13.length c15, .func (.func 28) #[] #[pV b1 0], uV, uV, uV, iV i456, iV j457, iV i456, .slice A10 a9.length c11, iV (a9.length : Int), tV, tV, uV, uV, uV, uV, tV, (j455 10), (j455 11), (j455 12), (j455 13), (j455 14), (j455 15), (j455 16), (j455 17), (j455 18), (j455 19), (j455 20), (j455 21), (j455 22), iV j457, .slice A14 b13.length c15, iV (b13.length : Int), fV, fV, iV i456, .slice A10 a9.length c11, iV (a9.length : Int), tV, tV, .slice A10 a9.length c11, iV i456, pV b514 (of515 + (i456 : Int).toNat * 18), pV b514 (of515 + (i456 : Int).toNat * 18), (j455 37), (j455 38), (j455 39), (j455 40), (j455 41), (j455 42), (j455 43), (j455 44), (j455 45), (j455 46), (j455 47), (j455 48), (j455 49), (j455 50), (j455 51), (j455 52), (j455 53), (j455 54), (j455 55), (j455 56), (j455 57), (j455 58), (j455 59), (j455 60), (j455 61), (j455 62), (j455 63), (j455 64), (j455 65), (j455 66), (j455 67), (j455 68), (j455 69), (j455 70), (j455 71), (j455 72), (j455 73), (j455 74), (j455 75), (j455 76), (j455 77)], []⟩) rfl (by kernel_rfl) (by kernel_rfl) (by kernel_rfl) (fun ch_ a_ w_ q_ => (fun ch_ a_ w_ q_ => (fun ch_ a_ w_ q_ => hnp ch_ a_ w_ (hp24 ch_ a_ w_ q_)) ch_ a_ w_ (hp473 ch_ a_ w_ q_)) ch_ a_ w_ (hp480 ch_ a_ w_ q_)) (Sg.g0 (Sx.of [] (FM.le.refl _) HS485)) ?_
     refine takeGQ 14 [] rfl (by kernel_rfl) (by kernel_rfl) (by kernel_rfl) (by kernel_rfl) (by kernel_rfl) (by kernel_rfl) (fun ch_ a_ w_ q_ => (fun ch_ a_ w_ q_ => (fun ch_ a_ w_ q_ => hnp ch_ a_ w_ (hp24 ch_ a_ w_ q_)) ch_ a_ w_ (hp473 ch_ a_ w_ q_)) ch_ a_ w_ (hp480 ch_ a_ w_ q_)) (Sg.g0 (Sx.of [] (FM.le.refl _) HS485)) (fun w_ hw_ => by obtain ⟨g_, hl_, hS_⟩ := hw_.st; exact run_load rfl Try.underlying3 rfl (by kernel_rfl : _ = Value.pointer (some ⟨b514, of515 + (i456 : Int).toNat * 18, none⟩)) ((hc513 hl_ hS_) 0 (by decide))) ?_
     have hq_ := guard_some h; clear h; obtain ⟨c518, h⟩ := hq_
     have c518 : 0 ≤ j457 := c518
     have hq_ := guard_some h; clear h; obtain ⟨c519, h⟩ := hq_
     have c519 : j457 < (b13.length : Int) := c519
     obtain ⟨b523, of524, cs520, hA525, hr521, hc522⟩ := (HR16.mono L452).at (i := j457) c518 c519
     obtain ⟨A526, c526, rfl, HR526⟩ := hr521
     refine takeG [15, 16] (n := 9) (fuel := 7) (l' := #[true, true, true, true, true, true, true, true, true, true, true, true, true, true, true, true, true, false, false, false, false, false, false, false]) (a' := ⟨#[.slice A10 a9.length c11, .slice A14 b13.length c15, .func (.func 28) #[] #[pV b1 0], uV, uV, uV, iV i456, iV j457, iV i456, .slice A10 a9.length c11, iV (a9.length : Int), tV, tV, uV, uV, uV, uV, tV, (j455 10), (j455 11), (j455 12), (j455 13), (j455 14), (j455 15), (j455 16), (j455 17), (j455 18), (j455 19), (j455 20), (j455 21), (j455 22), iV j457, .slice A14 b13.length c15, iV (b13.length : Int), fV, fV, iV i456, .slice A10 a9.length c11, iV (a9.length : Int), tV, tV, .slice A10 a9.length c11, iV i456, pV b514 (of515 + (i456 : Int).toNat * 18), pV b514 (of515 + (i456 : Int).toNat * 18), iV ((rd a9 i456).ID), .slice A14 b13.length c15, iV j457, (j455 40), (j455 41), (j455 42), (j455 43), (j455 44), (j455 45), (j455 46), (j455 47), (j455 48), (j455 49), (j455 50), (j455 51), (j455 52), (j455 53), (j455 54), (j455 55), (j455 56), (j455 57), (j455 58), (j455 59), (j455 60), (j455 61), (j455 62), (j455 63), (j455 64), (j455 65), (j455 66), (j455 67), (j455 68), (j455 69), (j455 70), (j455 71), (j455 72), (j455 73), (j455 74), (j455 75), (j455 76), (j455 77)], []⟩) rfl (by kernel_rfl) (by kernel_rfl) (by kernel_rfl) (fun ch_ a_ w_ q_ => (fun ch_ a_ w_ q_ => (fun ch_ a_ w_ q_ => hnp ch_ a_ w_ (hp24 ch_ a_ w_ q_)) ch_ a_ w_ (hp473 ch_ a_ w_ q_)) ch_ a_ w_ (hp480 ch_ a_ w_ q_)) (Sg.g0 (Sx.of [] (FM.le.refl _) HS485)) ?_
     refine takeGQ 17 [] rfl (by kernel_rfl) (by kernel_rfl) (by kernel_rfl) (by kernel_rfl) (by kernel_rfl) (by kernel_rfl) (fun ch_ a_ w_ q_ => (fun ch_ a_ w_ q_ => (fun ch_ a_ w_ q_ => hnp ch_ a_ w_ (hp24 ch_ a_ w_ q_)) ch_ a_ w_ (hp473 ch_ a_ w_ q_)) ch_ a_ w_ (hp480 ch_ a_ w_ q_)) (Sg.g0 (Sx.of [] (FM.le.refl _) HS485)) (fun w_ hw_ => by obtain ⟨g_, hl_, hS_⟩ := hw_.st; exact run_indexE hA525 (sz := 18) rfl Try.underlying26 (by kernel_rfl) (by kernel_rfl : _ = Value.slice A14 b13.length c15) (by kernel_rfl : _ = Value.int .i64 j457) c518 c519 w_) ?_
     refine takeG [18] (n := 6) (fuel := 5) (l' := #[true, true, true, true, true, true, true, true, true, true, true, true, true, true, true, true, true, true, true, false, false, false, false, false]) (a' := ⟨#[.slice A10 a9.length c11, .slice A14 b13.length c15, .func (.func 28) #[] #[pV b1 0], uV, uV, uV, iV i456, iV j457, iV i456, .slice A10 a9.length c11, iV (a9.length : Int), tV, tV, uV, uV, uV, uV, tV, (j455 10), (j455 11), (j455 12), (j455 13), (j455 14), (j455 15), (j455 16), (j455 17), (j455 18), (j455 19), (j455 20), (j455 21), (j455 22), iV j457, .slice A14 b13.length c15, iV (b13.length : Int), fV, fV, iV i456, .slice A10 a9.length c11, iV (a9.length : Int), tV, tV, .slice A10 a9.length c11, iV i456, pV b514 (of515 + (i456 : Int).toNat * 18), pV b514 (of515 + (i456 : Int).toNat * 18), iV ((rd a9 i456).ID), .slice A14 b13.length c15, iV j457, pV b523 (of524 + (j457 : Int).toNat * 18), pV b523 (of524 + (j457 : Int).toNat * 18), (j455 42), (j455 43), (j455 44), (j455 45), (j455 46), (j455 47), (j455 48), (j455 49), (j455 50), (j455 51), (j455 52), (j455 53), (j455 54), (j455 55), (j455 56), (j455 57), (j455 58), (j455 59), (j455 60), (j455 61), (j455 62), (j455 63), (j455 64), (j455 65), (j455 66), (j455 67), (j455 68), (j455 69), (j455 70), (j455 71), (j455 72), (j455 73), (j455 74), (j455 75), (j455 76), (j455 77)], []⟩) rfl (by kernel_rfl) (by kernel_rfl) (by kernel_rfl) (fun ch_ a_ w_ q_ => (fun ch_ a_ w_ q_ => (fun ch_ a_ w_ q_ => hnp ch_ a_ w_ (hp24 ch_ a_ w_ q_)) ch_ a_ w_ (hp473 ch_ a_ w_ q_)) ch_ a_ w_ (hp480 ch_ a_ w_ q_)) (Sg.g0 (Sx.of [] (FM.le.refl _) HS485)) ?_
     refine takeGQ 19 [] rfl (by kernel_rfl) (by kernel_rfl) (by kernel_rfl) (by kernel_rfl) (by kernel_rfl) (by kernel_rfl) (fun ch_ a_ w_ q_ => (fun ch_ a_ w_ q_ => (fun ch_ a_ w_ q_ => hnp ch_ a_ w_ (hp24 ch_ a_ w_ q_)) ch_ a_ w_ (hp473 ch_ a_ w_ q_)) ch_ a_ w_ (hp480 ch_ a_ w_ q_)) (Sg.g0 (Sx.of [] (FM.le.refl _) HS485)) (fun w_ hw_ => by obtain ⟨g_, hl_, hS_⟩ := hw_.st; exact run_load rfl Try.underlying3 rfl (by kernel_rfl : _ = Value.pointer (some ⟨b523, of524 + (j457 : Int).toNat * 18, none⟩)) ((hc522 hl_ hS_) 0 (by decide))) ?_
     refine takeG [20, 21, 22, 23] (n := 4) (fuel := 0) (l' := #[true, true, true, true, true, true, true, true, true, true, true, true, true, true, true, true, true, true, true, true, true, true, true, true]) (a' := ⟨#[.slice A10 a9.length c11, .slice A14 b13.length c15, .func (.func 28) #[] #[pV b1 0], uV, uV, uV, iV i456, iV j457, iV i456, .slice A10 a9.length c11, iV (a9.length : Int), tV, tV, uV, uV, uV, uV, tV, (j455 10), (j455 11), (j455 12), (j455 13), (j455 14), (j455 15), (j455 16), (j455 17), (j455 18), (j455 19), (j455 20), (j455 21), .bool (decide (((rd a9 i456).ID) < ((rd b13 j457).ID))), iV j457, .slice A14 b13.length c15, iV (b13.length : Int), fV, fV, iV i456, .slice A10 a9.length c11, iV (a9.length : Int), tV, tV, .slice A10 a9.length c11, iV i456, pV b514 (of515 + (i456 : Int).toNat * 18), pV b514 (of515 + (i456 : Int).toNat * 18), iV ((rd a9 i456).ID), .slice A14 b13.length c15, iV j457, pV b523 (of524 + (j457 : Int).toNat * 18), pV b523 (of524 + (j457 : Int).toNat * 18), iV ((rd b13 j457).ID), .bool (decide (((rd a9 i456).ID) < ((rd b13 j457).ID))), .bool (decide (((rd a9 i456).ID) < ((rd b13 j457).ID))), .bool (decide (((rd a9 i456).ID) < ((rd b13 j457).ID))), (j455 46), (j455 47), (j455 48), (j455 49), (j455 50), (j455 51), (j455 52), (j455 53), (j455 54), (j455 55), (j455 56), (j455 57), (j455 58), (j455 59), (j455 60), (j455 61), (j455 62), (j455 63), (j455 64), (j455 65), (j455 66), (j455 67), (j455 68), (j455 69), (j455 70), (j455 71), (j455 72), (j455 73), (j455 74), (j455 75), (j455 76), (j455 77)], []⟩) rfl (by kernel_rfl) (by kernel_rfl) (by kernel_rfl) (fun ch_ a_ w_ q_ => (fun ch_ a_ w_ q_ => (fun ch_ a_ w_ q_ => hnp ch_ a_ w_ (hp24 ch_ a_ w_ q_)) ch_ a_ w_ (hp473 ch_ a_ w_ q_)) ch_ a_ w_ (hp480 ch_ a_ w_ q_)) (Sg.g0 (Sx.of [] (FM.le.refl _) HS485)) ?_
     refine doneG (by kernel_rfl) ?_ _
     refine hK483 _ _ ?_
     have hq_ := ite_some h; clear h; rcases hq_ with ⟨c528, h⟩ | ⟨c528, h⟩
     · have c528 : ((rd a9 i456).ID) < ((rd b13 j457).ID) := c528
       refine wpRwI 30 (x := (decide (((rd a9 i456).ID) < ((rd b13 j457).ID)))) (v := true) (by kernel_rfl) (decide_eq_true c528) ?_
       refine wpRwI 51 (x := (decide (((rd a9 i456).ID) < ((rd b13 j457).ID)))) (v := true) (by kernel_rfl) (decide_eq_true c528) ?_
       refine wpRwI 52 (x := (decide (((rd a9 i456).ID) < ((rd b13 j457).ID)))) (v := true) (by kernel_rfl) (decide_eq_true c528) ?_
       refine wpRwI 53 (x := (decide (((rd a9 i456).ID) < ((rd b13 j457).ID)))) (v := true) (by kernel_rfl) (decide_eq_true c528) ?_
       refine condT (by kernel_rfl) ?_
       refine wp_seq_k (fun K529 hK530 => ?_)
       refine wp_region_lit ?_
       refine seqL3 (by kernel_rfl) ?_
       refine seqK rfl (does_run (run_indexE hA516 (sz := 18) rfl Try.underlying26 (by kernel_rfl) (by kernel_rfl : _ = Value.slice A10 a9.length c11) (by kernel_rfl : _ = Value.int .i64 i456) c510 c467 W484) ?_)
       have HS531 := HS485.u1
       have HS532 := HS531.u1
       have hq_ := bind_some h; clear h; obtain ⟨vt533, hc534, h⟩ := hq_
       refine seqK rfl (does_call (f := 28) (args := #[.pointer (some ⟨b514, of515 + (i456 : Int).toNat * 18, none⟩), .pointer none, .pointer (some ⟨b1, 0, none⟩)]) (by kernel_rfl) (catalog_Diff_1.calls k b1 A459 c460 s461 b514 (of515 + (i456 : Int).toNat * 18) A517 c517 x458 (rd a9 i456) HS532 HO462 HR517 (fun hl_ => hc513 hl_) vt533 hc534) ?_)
       rintro _ W537 ⟨f535, A539, c540, s541, rfl, L536, HS538, HO542⟩
       refine ⟨_, rfl, ?_⟩
       refine wpList_nil ?_
       refine hK530 _ _ ?_
       refine wp_region_lit ?_
       refine seqL3 (by kernel_rfl) ?_
       refine wpList_nil ?_
       refine hn477 _ _ ?_
       refine hn470 _ _ ?_
       refine hK449 n450 _ _ (Nat.lt_succ_self _) ?_
       have HS675 := HS538.u1
       exact ⟨f535, A539, c540, s541, (w64 (i456 + 1)), j457, vt533, (fun i_ => [Value.int .i64 i456, Value.slice A10 a9.length c11, Value.int .i64 (a9.length : Int), Value.bool true, Value.bool true, undef, undef, undef, undef, Value.bool true, (j455 10), (j455 11), (j455 12), (j455 13), (j455 14), (j455 15), (j455 16), (j455 17), (j455 18), (j455 19), (j455 20), (j455 21), Value.bool true, Value.int .i64 j457, Value.slice A14 b13.length c15, Value.int .i64 (b13.length : Int), Value.bool false, Value.bool false, Value.int .i64 i456, Value.slice A10 a9.length c11, Value.int .i64 (a9.length : Int), Value.bool true, Value.bool true, Value.slice A10 a9.length c11, Value.int .i64 i456, Value.pointer (some ⟨b514, of515 + (i456 : Int).toNat * 18, none⟩), Value.pointer (some ⟨b514, of515 + (i456 : Int).toNat * 18, none⟩), Value.int .i64 ((rd a9 i456).ID), Value.slice A14 b13.length c15, Value.int .i64 j457, Value.pointer (some ⟨b523, of524 + (j457 : Int).toNat * 18, none⟩), Value.pointer (some ⟨b523, of524 + (j457 : Int).toNat * 18, none⟩), Value.int .i64 ((rd b13 j457).ID), Value.bool true, Value.bool true, Value.bool true, Value.func (.func 28) #[] #[.pointer (some ⟨b1, 0, none⟩)], Value.slice A10 a9.length c11, Value.int .i64 i456, Value.pointer (some ⟨b514, of515 + (i456 : Int).toNat * 18, none⟩), Value.tuple #[], Value.int .i64 i456, Value.int .i64 (w64 (i456 + 1)), (j455 53), (j455 54), (j455 55), (j455 56), (j455 57), (j455 58), (j455 59), (j455 60), (j455 61), (j455 62), (j455 63), (j455 64), (j455 65), (j455 66), (j455 67), (j455 68), (j455 69), (j455 70), (j455 71), (j455 72), (j455 73), (j455 74), (j455 75), (j455 76), (j455 77)].getD i_ undef), (L452.trans L536), HS675, HO542, h, (by kernel_rfl)⟩
     · have c528 : ¬ (((rd a9 i456).ID) < ((rd b13 j457).ID)) := c528
       refine wpRwI 30 (x := (decide (((rd a9 i456).ID) < ((rd b13 j457).ID)))) (v := false) (by kernel_rfl) (decide_eq_false c528) ?_
       refine wpRwI 51 (x := (decide (((rd a9 i456).ID) < ((rd b13 j457).ID)))) (v := false) (by kernel_rfl) (decide_eq_false c528) ?_
       refine wpRwI 52 (x := (decide (((rd a9 i456).ID) < ((rd b13 j457).ID)))) (v := false) (by kernel_rfl) (decide_eq_false c528) ?_
       refine wpRwI 53 (x := (decide (((rd a9 i456).ID) < ((rd b13 j457).ID)))) (v := false) (by kernel_rfl) (decide_eq_false c528) ?_
       refine condF (by kernel_rfl) ?_
       refine wp_seq_k (fun K544 hK545 => ?_)
       refine heldG (S := Sg t f451 ([(b1, .cells #[.slice A459 x458.length c460] 28 (0, 0))] :: s461 :: H) []) (n := 18) (by kernel_rfl) rfl HS485 ?_
       intro W546 HS547
       refine takeG [0, 1, 2, 3, 4] (n := 18) (fuel := 13) (l' := #[true, true, true, true, true, false, false, false, false, false, false, false, false, false, false, false, false, false]) (a' := ⟨#[.slice A10 a9.length c11, .slice A14 b13.length c15, .func (.func 28) #[] #[pV b1 0], uV, uV, uV, iV i456, iV j457, iV i456, .slice A10 a9.length c11, iV (a9.length : Int), tV, tV, uV, uV, uV, uV, tV, (j455 10), (j455 11), (j455 12), (j455 13), (j455 14), (j455 15), (j455 16), (j455 17), (j455 18), (j455 19), (j455 20), (j455 21), fV, iV j457, .slice A14 b13.length c15, iV (b13.length : Int), fV, fV, iV i456, .slice A10 a9.length c11, iV (a9.length : Int), tV, tV, .slice A10 a9.length c11, iV i456, pV b514 (of515 + (i456 : Int).toNat * 18), pV b514 (of515 + (i456 : Int).toNat * 18), iV ((rd a9 i456).ID), .slice A14 b13.length c15, iV j457, pV b523 (of524 + (j457 : Int).toNat * 18), pV b523 (of524 + (j457 : Int).toNat * 18), iV ((rd b13 j457).ID), fV, fV, fV, (j455 46), (j455 47), (j455 48), (j455 49), (j455 50), (j455 51), (j455 52), (j455 53), iV i456, .slice A10 a9.length c11, iV (a9.length : Int), .bool (i456 == (a9.length : Int)), .bool (i456 == (a9.length : Int)), (j455 59), (j455 60), (j455 61), (j455 62), (j455 63), (j455 64), (j455 65), (j455 66), (j455 67), (j455 68), (j455 69), (j455 70), (j455 71), (j455 72), (j455 73), (j455 74), (j455 75), (j455 76), (j455 77)], []⟩) rfl (by kernel_rfl) (by kernel_rfl) (by kernel_rfl) (fun ch_ a_ w_ q_ => (fun ch_ a_ w_ q_ => (fun ch_ a_ w_ q_ => hnp ch_ a_ w_ (hp24 ch_ a_ w_ q_)) ch_ a_ w_ (hp473 ch_ a_ w_ q_)) ch_ a_ w_ (hp480 ch_ a_ w_ q_)) (Sg.g0 (Sx.of [] (FM.le.refl _) HS547)) ?_
       have hq_ := ite_some h; clear h; rcases hq_ with ⟨c548, h⟩ | ⟨c548, h⟩
       · have c548 : i456 = (a9.length : Int) := c548
         refine gateRwI 65 (x := (i456 == (a9.length : Int))) (v := true) (by kernel_rfl) (beq_iff_eq.mpr c548) ?_
         refine gateRwI 66 (x := (i456 == (a9.length : Int))) (v := true) (by kernel_rfl) (beq_iff_eq.mpr c548) ?_
         refine takeG [5, 6, 7, 8, 9, 10, 11, 12, 13, 14, 15, 16, 17] (n := 13) (fuel := 0) (l' := #[true, true, true, true, true, true, true, true, true, true, true, true, true, true, true, true, true, true]) (a' := ⟨#[.slice A10 a9.length c11, .slice A14 b13.length c15, .func (.func 28) #[] #[pV b1 0], uV, uV, uV, iV i456, iV j457, iV i456, .slice A10 a9.length c11, iV (a9.length : Int), tV, tV, uV, uV, uV, uV, tV, (j455 10), (j455 11), (j455 12), (j455 13), (j455 14), (j455 15), (j455 16), (j455 17), (j455 18), (j455 19), (j455 20), (j455 21), fV, iV j457, .slice A14 b13.length c15, iV (b13.length : Int), fV, fV, iV i456, .slice A10 a9.length c11, iV (a9.length : Int), tV, tV, .slice A10 a9.length c11, iV i456, pV b514 (of515 + (i456 : Int).toNat * 18), pV b514 (of515 + (i456 : Int).toNat * 18), iV ((rd a9 i456).ID), .slice A14 b13.length c15, iV j457, pV b523 (of524 + (j457 : Int).toNat * 18), pV b523 (of524 + (j457 : Int).toNat * 18), iV ((rd b13 j457).ID), fV, fV, fV, (j455 46), (j455 47), (j455 48), (j455 49), (j455 50), (j455 51), (j455 52), tV, iV i456, .slice A10 a9.length c11, iV (a9.length : Int), tV, tV, uV, uV, uV, uV, uV, uV, uV, uV, uV, uV, uV, tV, (j455 71), (j455 72), (j455 73), (j455 74), (j455 75), (j455 76), (j455 77)], []⟩) rfl (by kernel_rfl) (by kernel_rfl) (by kernel_rfl) (fun ch_ a_ w_ q_ => (fun ch_ a_ w_ q_ => (fun ch_ a_ w_ q_ => hnp ch_ a_ w_ (hp24 ch_ a_ w_ q_)) ch_ a_ w_ (hp473 ch_ a_ w_ q_)) ch_ a_ w_ (hp480 ch_ a_ w_ q_)) (Sg.g0 (Sx.of [] (FM.le.refl _) HS547)) ?_
         refine doneG (by kernel_rfl) ?_ _
         refine hK545 _ _ ?_
         refine condT (by kernel_rfl) ?_
         refine wp_seq_k (fun K549 hK550 => ?_)
         refine wp_region_lit ?_
         refine seqL3 (by kernel_rfl) ?_
         refine seqK rfl (does_run (run_indexE hA525 (sz := 18) rfl Try.underlying26 (by kernel_rfl) (by kernel_rfl : _ = Value.slice A14 b13.length c15) (by kernel_rfl : _ = Value.int .i64 j457) c518 c519 W546) ?_)
         have HS551 := HS547.u1
         have HS552 := HS551.u1
         have hq_ := bind_some h; clear h; obtain ⟨vt553, hc554, h⟩ := hq_
         refine seqK rfl (does_call (f := 28) (args := #[.pointer none, .pointer (some ⟨b523, of524 + (j457 : Int).toNat * 18, none⟩), .pointer (some ⟨b1, 0, none⟩)]) (by kernel_rfl) (catalog_Diff_1_2.calls k b1 A459 c460 s461 b523 (of524 + (j457 : Int).toNat * 18) A526 c526 x458 (rd b13 j457) HS552 HO462 HR526 (fun hl_ => hc522 hl_) vt553 hc554) ?_)
         rintro _ W557 ⟨f555, A559, c560, s561, rfl, L556, HS558, HO562⟩
         refine ⟨_, rfl, ?_⟩
         refine wpList_nil ?_
         refine hK550 _ _ ?_
         refine wp_region_lit ?_
         refine seqL3 (by kernel_rfl) ?_
         refine wpList_nil ?_
         refine hn477 _ _ ?_
         refine hn470 _ _ ?_
         refine hK449 n450 _ _ (Nat.lt_succ_self _) ?_
         have HS676 := HS558.u1
         exact ⟨f555, A559, c560, s561, i456, (w64 (j457 + 1)), vt553, (fun i_ => [Value.int .i64 i456, Value.slice A10 a9.length c11, Value.int .i64 (a9.length : Int), Value.bool true, Value.bool true, undef, undef, undef, undef, Value.bool true, (j455 10), (j455 11), (j455 12), (j455 13), (j455 14), (j455 15), (j455 16), (j455 17), (j455 18), (j455 19), (j455 20), (j455 21), Value.bool false, Value.int .i64 j457, Value.slice A14 b13.length c15, Value.int .i64 (b13.length : Int), Value.bool false, Value.bool false, Value.int .i64 i456, Value.slice A10 a9.length c11, Value.int .i64 (a9.length : Int), Value.bool true, Value.bool true, Value.slice A10 a9.length c11, Value.int .i64 i456, Value.pointer (some ⟨b514, of515 + (i456 : Int).toNat * 18, none⟩), Value.pointer (some ⟨b514, of515 + (i456 : Int).toNat * 18, none⟩), Value.int .i64 ((rd a9 i456).ID), Value.slice A14 b13.length c15, Value.int .i64 j457, Value.pointer (some ⟨b523, of524 + (j457 : Int).toNat * 18, none⟩), Value.pointer (some ⟨b523, of524 + (j457 : Int).toNat * 18, none⟩), Value.int .i64 ((rd b13 j457).ID), Value.bool false, Value.bool false, Value.bool false, (j455 46), (j455 47), (j455 48), (j455 49), (j455 50), (j455 51), (j455 52), Value.bool true, Value.int .i64 i456, Value.slice A10 a9.length c11, Value.int .i64 (a9.length : Int), Value.bool true, Value.bool true, undef, undef, undef, undef, undef, undef, undef, undef, undef, undef, undef, Value.bool true, Value.func (.func 28) #[] #[.pointer (some ⟨b1, 0, none⟩)], Value.slice A14 b13.length c15, Value.int .i64 j457, Value.pointer (some ⟨b523, of524 + (j457 : Int).toNat * 18, none⟩), Value.tuple #[], Value.int .i64 j457, Value.int .i64 (w64 (j457 + 1))].getD i_ undef), (L452.trans L556), HS676, HO562, h, (by kernel_rfl)⟩
       · have c548 : ¬ (i456 = (a9.length : Int)) := c548
         refine gateRwI 65 (x := (i456 == (a9.length : Int))) (v := false) (by kernel_rfl) (beq_eq_false_iff_ne.mpr c548) ?_
         refine gateRwI 66 (x := (i456 == (a9.length : Int))) (v := false) (by kernel_rfl) (beq_eq_false_iff_ne.mpr c548) ?_
         refine takeG [5, 6] (n := 13) (fuel := 11) (l' := #[true, true, true, true, true, true, true, false, false, false, false, false, false, false, false, false, false, false]) (a' := ⟨#[.slice A10 a9.length c11, .slice A14 b13.length c15, .func (.func 28) #[] #[pV b1 0], uV, uV, uV, iV i456, iV j457, iV i456, .slice A10 a9.length c11, iV (a9.length : Int), tV, tV, uV, uV, uV, uV, tV, (j455 10), (j455 11), (j455 12), (j455 13), (j455 14), (j455 15), (j455 16), (j455 17), (j455 18), (j455 19), (j455 20), (j455 21), fV, iV j457, .slice A14 b13.length c15, iV (b13.length : Int), fV, fV, iV i456, .slice A10 a9.length c11, iV (a9.length : Int), tV, tV, .slice A10 a9.length c11, iV i456, pV b514 (of515 + (i456 : Int).toNat * 18), pV b514 (of515 + (i456 : Int).toNat * 18), iV ((rd a9 i456).ID), .slice A14 b13.length c15, iV j457, pV b523 (of524 + (j457 : Int).toNat * 18), pV b523 (of524 + (j457 : Int).toNat * 18), iV ((rd b13 j457).ID), fV, fV, fV, (j455 46), (j455 47), (j455 48), (j455 49), (j455 50), (j455 51), (j455 52), (j455 53), iV i456, .slice A10 a9.length c11, iV (a9.length : Int), fV, fV, .slice A14 b13.length c15, iV j457, (j455 61), (j455 62), (j455 63), (j455 64), (j455 65), (j455 66), (j455 67), (j455 68), (j455 69), (j455 70), (j455 71), (j455 72), (j455 73), (j455 74), (j455 75), (j455 76), (j455 77)], []⟩) rfl (by kernel_rfl) (by kernel_rfl) (by kernel_rfl) (fun ch_ a_ w_ q_ => (fun ch_ a_ w_ q_ => (fun ch_ a_ w_ q_ => hnp ch_ a_ w_ (hp24 ch_ a_ w_ q_)) ch_ a_ w_ (hp473 ch_ a_ w_ q_)) ch_ a_ w_ (hp480 ch_ a_ w_ q_)) (Sg.g0 (Sx.of [] (FM.le.refl _) HS547)) ?_
         refine takeGQ 7 [] rfl (by kernel_rfl) (by kernel_rfl) (by kernel_rfl) (by kernel_rfl) (by kernel_rfl) (by kernel_rfl) (fun ch_ a_ w_ q_ => (fun ch_ a_ w_ q_ => (fun ch_ a_ w_ q_ => hnp ch_ a_ w_ (hp24 ch_ a_ w_ q_)) ch_ a_ w_ (hp473 ch_ a_ w_ q_)) ch_ a_ w_ (hp480 ch_ a_ w_ q_)) (Sg.g0 (Sx.of [] (FM.le.refl _) HS547)) (fun w_ hw_ => by obtain ⟨g_, hl_, hS_⟩ := hw_.st; exact run_indexE hA525 (sz := 18) rfl Try.underlying26 (by kernel_rfl) (by kernel_rfl : _ = Value.slice A14 b13.length c15) (by kernel_rfl : _ = Value.int .i64 j457) c518 c519 w_) ?_
         refine takeG [8] (n := 10) (fuel := 9) (l' := #[true, true, true, true, true, true, true, true, true, false, false, false, false, false, false, false, false, false]) (a' := ⟨#[.slice A10 a9.length c11, .slice A14 b13.length c15, .func (.func 28) #[] #[pV b1 0], uV, uV, uV, iV i456, iV j457, iV i456, .slice A10 a9.length c11, iV (a9.length : Int), tV, tV, uV, uV, uV, uV, tV, (j455 10), (j455 11), (j455 12), (j455 13), (j455 14), (j455 15), (j455 16), (j455 17), (j455 18), (j455 19), (j455 20), (j455 21), fV, iV j457, .slice A14 b13.length c15, iV (b13.length : Int), fV, fV, iV i456, .slice A10 a9.length c11, iV (a9.length : Int), tV, tV, .slice A10 a9.length c11, iV i456, pV b514 (of515 + (i456 : Int).toNat * 18), pV b514 (of515 + (i456 : Int).toNat * 18), iV ((rd a9 i456).ID), .slice A14 b13.length c15, iV j457, pV b523 (of524 + (j457 : Int).toNat * 18), pV b523 (of524 + (j457 : Int).toNat * 18), iV ((rd b13 j457).ID), fV, fV, fV, (j455 46), (j455 47), (j455 48), (j455 49), (j455 50), (j455 51), (j455 52), (j455 53), iV i456, .slice A10 a9.length c11, iV (a9.length : Int), fV, fV, .slice A14 b13.length c15, iV j457, pV b523 (of524 + (j457 : Int).toNat * 18), pV b523 (of524 + (j457 : Int).toNat * 18), (j455 63), (j455 64), (j455 65), (j455 66), (j455 67), (j455 68), (j455 69), (j455 70), (j455 71), (j455 72), (j455 73), (j455 74), (j455 75), (j455 76), (j455 77)], []⟩) rfl (by kernel_rfl) (by kernel_rfl) (by kernel_rfl) (fun ch_ a_ w_ q_ => (fun ch_ a_ w_ q_ => (fun ch_ a_ w_ q_ => hnp ch_ a_ w_ (hp24 ch_ a_ w_ q_)) ch_ a_ w_ (hp473 ch_ a_ w_ q_)) ch_ a_ w_ (hp480 ch_ a_ w_ q_)) (Sg.g0 (Sx.of [] (FM.le.refl _) HS547)) ?_
         refine takeGQ 9 [] rfl (by kernel_rfl) (by kernel_rfl) (by kernel_rfl) (by kernel_rfl) (by kernel_rfl) (by kernel_rfl) (fun ch_ a_ w_ q_ => (fun ch_ a_ w_ q_ => (fun ch_ a_ w_ q_ => hnp ch_ a_ w_ (hp24 ch_ a_ w_ q_)) ch_ a_ w_ (hp473 ch_ a_ w_ q_)) ch_ a_ w_ (hp480 ch_ a_ w_ q_)) (Sg.g0 (Sx.of [] (FM.le.refl _) HS547)) (fun w_ hw_ => by obtain ⟨g_, hl_, hS_⟩ := hw_.st; exact run_load rfl Try.underlying3 rfl (by kernel_rfl : _ = Value.pointer (some ⟨b523, of524 + (j457 : Int).toNat * 18, none⟩)) ((hc522 hl_ hS_) 0 (by decide))) ?_
         refine takeG [10, 11] (n := 8) (fuel := 6) (l' := #[true, true, true, true, true, true, true, true, true, true, true, true, false, false, false, false, false, false]) (a' := ⟨#[.slice A10 a9.length c11, .slice A14 b13.length c15, .func (.func 28) #[] #[pV b1 0], uV, uV, uV, iV i456, iV j457, iV i456, .slice A10 a9.length c11, iV (a9.length : Int), tV, tV, uV, uV, uV, uV, tV, (j455 10), (j455 11), (j455 12), (j455 13), (j455 14), (j455 15), (j455 16), (j455 17), (j455 18), (j455 19), (j455 20), (j455 21), fV, iV j457, .slice A14 b13.length c15, iV (b13.length : Int), fV, fV, iV i456, .slice A10 a9.length c11, iV (a9.length : Int), tV, tV, .slice A10 a9.length c11, iV i456, pV b514 (of515 + (i456 : Int).toNat * 18), pV b514 (of515 + (i456 : Int).toNat * 18), iV ((rd a9 i456).ID), .slice A14 b13.length c15, iV j457, pV b523 (of524 + (j457 : Int).toNat * 18), pV b523 (of524 + (j457 : Int).toNat * 18), iV ((rd b13 j457).ID), fV, fV, fV, (j455 46), (j455 47), (j455 48), (j455 49), (j455 50), (j455 51), (j455 52), (j455 53), iV i456, .slice A10 a9.length c11, iV (a9.length : Int), fV, fV, .slice A14 b13.length c15, iV j457, pV b523 (of524 + (j457 : Int).toNat * 18), pV b523 (of524 + (j457 : Int).toNat * 18), iV ((rd b13 j457).ID), .slice A10 a9.length c11, iV i456, (j455 66), (j455 67), (j455 68), (j455 69), (j455 70), (j455 71), (j455 72), (j455 73), (j455 74), (j455 75), (j455 76), (j455 77)], []⟩) rfl (by kernel_rfl) (by kernel_rfl) (by kernel_rfl) (fun ch_ a_ w_ q_ => (fun ch_ a_ w_ q_ => (fun ch_ a_ w_ q_ => hnp ch_ a_ w_ (hp24 ch_ a_ w_ q_)) ch_ a_ w_ (hp473 ch_ a_ w_ q_)) ch_ a_ w_ (hp480 ch_ a_ w_ q_)) (Sg.g0 (Sx.of [] (FM.le.refl _) HS547)) ?_
         refine takeGQ 12 [] rfl (by kernel_rfl) (by kernel_rfl) (by kernel_rfl) (by kernel_rfl) (by kernel_rfl) (by kernel_rfl) (fun ch_ a_ w_ q_ => (fun ch_ a_ w_ q_ => (fun ch_ a_ w_ q_ => hnp ch_ a_ w_ (hp24 ch_ a_ w_ q_)) ch_ a_ w_ (hp473 ch_ a_ w_ q_)) ch_ a_ w_ (hp480 ch_ a_ w_ q_)) (Sg.g0 (Sx.of [] (FM.le.refl _) HS547)) (fun w_ hw_ => by obtain ⟨g_, hl_, hS_⟩ := hw_.st; exact run_indexE hA516 (sz := 18) rfl Try.underlying26 (by kernel_rfl) (by kernel_rfl : _ = Value.slice A10 a9.length c11) (by kernel_rfl : _ = Value.int .i64 i456) c510 c467 w_) ?_
         refine takeG [13] (n := 5) (fuel := 4) (l' := #[true, true, true, true, true, true, true, true, true, true, true, true, true, true, false, false, false, false]) (a' := ⟨#[.slice A10 a9.length c11, .slice A14 b13.length c15, .func (.func 28) #[] #[pV b1 0], uV, uV, uV, iV i456, iV j457, iV i456, .slice A10 a9.length c11, iV (a9.length : Int), tV, tV, uV, uV, uV, uV, tV, (j455 10), (j455 11), (j455 12), (j455 13), (j455 14), (j455 15), (j455 16), (j455 17), (j455 18), (j455 19), (j455 20), (j455 21), fV, iV j457, .slice A14 b13.length c15, iV (b13.length : Int), fV, fV, iV i456, .slice A10 a9.length c11, iV (a9.length : Int), tV, tV, .slice A10 a9.length c11, iV i456, pV b514 (of515 + (i456 : Int).toNat * 18), pV b514 (of515 + (i456 : Int).toNat * 18), iV ((rd a9 i456).ID), .slice A14 b13.length c15, iV j457, pV b523 (of524 + (j457 : Int).toNat * 18), pV b523 (of524 + (j457 : Int).toNat * 18), iV ((rd b13 j457).ID), fV, fV, fV, (j455 46), (j455 47), (j455 48), (j455 49), (j455 50), (j455 51), (j455 52), (j455 53), iV i456, .slice A10 a9.length c11, iV (a9.length : Int), fV, fV, .slice A14 b13.length c15, iV j457, pV b523 (of524 + (j457 : Int).toNat * 18), pV b523 (of524 + (j457 : Int).toNat * 18), iV ((rd b13 j457).ID), .slice A10 a9.length c11, iV i456, pV b514 (of515 + (i456 : Int).toNat * 18), pV b514 (of515 + (i456 : Int).toNat * 18), (j455 68), (j455 69), (j455 70), (j455 71), (j455 72), (j455 73), (j455 74), (j455 75), (j455 76), (j455 77)], []⟩) rfl (by kernel_rfl) (by kernel_rfl) (by kernel_rfl) (fun ch_ a_ w_ q_ => (fun ch_ a_ w_ q_ => (fun ch_ a_ w_ q_ => hnp ch_ a_ w_ (hp24 ch_ a_ w_ q_)) ch_ a_ w_ (hp473 ch_ a_ w_ q_)) ch_ a_ w_ (hp480 ch_ a_ w_ q_)) (Sg.g0 (Sx.of [] (FM.le.refl _) HS547)) ?_
         refine takeGQ 14 [] rfl (by kernel_rfl) (by kernel_rfl) (by kernel_rfl) (by kernel_rfl) (by kernel_rfl) (by kernel_rfl) (fun ch_ a_ w_ q_ => (fun ch_ a_ w_ q_ => (fun ch_ a_ w_ q_ => hnp ch_ a_ w_ (hp24 ch_ a_ w_ q_)) ch_ a_ w_ (hp473 ch_ a_ w_ q_)) ch_ a_ w_ (hp480 ch_ a_ w_ q_)) (Sg.g0 (Sx.of [] (FM.le.refl _) HS547)) (fun w_ hw_ => by obtain ⟨g_, hl_, hS_⟩ := hw_.st; exact run_load rfl Try.underlying3 rfl (by kernel_rfl : _ = Value.pointer (some ⟨b514, of515 + (i456 : Int).toNat * 18, none⟩)) ((hc513 hl_ hS_) 0 (by decide))) ?_
         refine takeG [15, 16, 17] (n := 3) (fuel := 0) (l' := #[true, true, true, true, true, true, true, true, true, true, true, true, true, true, true, true, true, true]) (a' := ⟨#[.slice A10 a9.length c11, .slice A14 b13.length c15, .func (.func 28) #[] #[pV b1 0], uV, uV, uV, iV i456, iV j457, iV i456, .slice A10 a9.length c11, iV (a9.length : Int), tV, tV, uV, uV, uV, uV, tV, (j455 10), (j455 11), (j455 12), (j455 13), (j455 14), (j455 15), (j455 16), (j455 17), (j455 18), (j455 19), (j455 20), (j455 21), fV, iV j457, .slice A14 b13.length c15, iV (b13.length : Int), fV, fV, iV i456, .slice A10 a9.length c11, iV (a9.length : Int), tV, tV, .slice A10 a9.length c11, iV i456, pV b514 (of515 + (i456 : Int).toNat * 18), pV b514 (of515 + (i456 : Int).toNat * 18), iV ((rd a9 i456).ID), .slice A14 b13.length c15, iV j457, pV b523 (of524 + (j457 : Int).toNat * 18), pV b523 (of524 + (j457 : Int).toNat * 18), iV ((rd b13 j457).ID), fV, fV, fV, (j455 46), (j455 47), (j455 48), (j455 49), (j455 50), (j455 51), (j455 52), .bool (decide (((rd b13 j457).ID) < ((rd a9 i456).ID))), iV i456, .slice A10 a9.length c11, iV (a9.length : Int), fV, fV, .slice A14 b13.length c15, iV j457, pV b523 (of524 + (j457 : Int).toNat * 18), pV b523 (of524 + (j457 : Int).toNat * 18), iV ((rd b13 j457).ID), .slice A10 a9.length c11, iV i456, pV b514 (of515 + (i456 : Int).toNat * 18), pV b514 (of515 + (i456 : Int).toNat * 18), iV ((rd a9 i456).ID), .bool (decide (((rd b13 j457).ID) < ((rd a9 i456).ID))), .bool (decide (((rd b13 j457).ID) < ((rd a9 i456).ID))), (j455 71), (j455 72), (j455 73), (j455 74), (j455 75), (j455 76), (j455 77)], []⟩) rfl (by kernel_rfl) (by kernel_rfl) (by kernel_rfl) (fun ch_ a_ w_ q_ => (fun ch_ a_ w_ q_ => (fun ch_ a_ w_ q_ => hnp ch_ a_ w_ (hp24 ch_ a_ w_ q_)) ch_ a_ w_ (hp473 ch_ a_ w_ q_)) ch_ a_ w_ (hp480 ch_ a_ w_ q_)) (Sg.g0 (Sx.of [] (FM.le.refl _) HS547)) ?_
         refine doneG (by kernel_rfl) ?_ _
         refine hK545 _ _ ?_
         have hq_ := ite_some h; clear h; rcases hq_ with ⟨c565, h⟩ | ⟨c565, h⟩
         · have c565 : ((rd b13 j457).ID) < ((rd a9 i456).ID) := c565
           refine wpRwI 61 (x := (decide (((rd b13 j457).ID) < ((rd a9 i456).ID)))) (v := true) (by kernel_rfl) (decide_eq_true c565) ?_
           refine wpRwI 77 (x := (decide (((rd b13 j457).ID) < ((rd a9 i456).ID)))) (v := true) (by kernel_rfl) (decide_eq_true c565) ?_
           refine wpRwI 78 (x := (decide (((rd b13 j457).ID) < ((rd a9 i456).ID)))) (v := true) (by kernel_rfl) (decide_eq_true c565) ?_
           refine condT (by kernel_rfl) ?_
           refine wp_seq_k (fun K566 hK567 => ?_)
           refine wp_region_lit ?_
           refine seqL3 (by kernel_rfl) ?_
           refine seqK rfl (does_run (run_indexE hA525 (sz := 18) rfl Try.underlying26 (by kernel_rfl) (by kernel_rfl : _ = Value.slice A14 b13.length c15) (by kernel_rfl : _ = Value.int .i64 j457) c518 c519 W546) ?_)
           have HS568 := HS547.u1
           have HS569 := HS568.u1
           have hq_ := bind_some h; clear h; obtain ⟨vt570, hc571, h⟩ := hq_
           refine seqK rfl (does_call (f := 28) (args := #[.pointer none, .pointer (some ⟨b523, of524 + (j457 : Int).toNat * 18, none⟩), .pointer (some ⟨b1, 0, none⟩)]) (by kernel_rfl) (catalog_Diff_1_2.calls k b1 A459 c460 s461 b523 (of524 + (j457 : Int).toNat * 18) A526 c526 x458 (rd b13 j457) HS569 HO462 HR526 (fun hl_ => hc522 hl_) vt570 hc571) ?_)
           rintro _ W574 ⟨f572, A576, c577, s578, rfl, L573, HS575, HO579⟩
           refine ⟨_, rfl, ?_⟩
           refine wpList_nil ?_
           refine hK567 _ _ ?_
           refine wp_region_lit ?_
           refine seqL3 (by kernel_rfl) ?_
           refine wpList_nil ?_
           refine hn477 _ _ ?_
           refine hn470 _ _ ?_
           refine hK449 n450 _ _ (Nat.lt_succ_self _) ?_
           have HS677 := HS575.u1
           exact ⟨f572, A576, c577, s578, i456, (w64 (j457 + 1)), vt570, (fun i_ => [Value.int .i64 i456, Value.slice A10 a9.length c11, Value.int .i64 (a9.length : Int), Value.bool true, Value.bool true, undef, undef, undef, undef, Value.bool true, (j455 10), (j455 11), (j455 12), (j455 13), (j455 14), (j455 15), (j455 16), (j455 17), (j455 18), (j455 19), (j455 20), (j455 21), Value.bool false, Value.int .i64 j457, Value.slice A14 b13.length c15, Value.int .i64 (b13.length : Int), Value.bool false, Value.bool false, Value.int .i64 i456, Value.slice A10 a9.length c11, Value.int .i64 (a9.length : Int), Value.bool true, Value.bool true, Value.slice A10 a9.length c11, Value.int .i64 i456, Value.pointer (some ⟨b514, of515 + (i456 : Int).toNat * 18, none⟩), Value.pointer (some ⟨b514, of515 + (i456 : Int).toNat * 18, none⟩), Value.int .i64 ((rd a9 i456).ID), Value.slice A14 b13.length c15, Value.int .i64 j457, Value.pointer (some ⟨b523, of524 + (j457 : Int).toNat * 18, none⟩), Value.pointer (some ⟨b523, of524 + (j457 : Int).toNat * 18, none⟩), Value.int .i64 ((rd b13 j457).ID), Value.bool false, Value.bool false, Value.bool false, (j455 46), (j455 47), (j455 48), (j455 49), (j455 50), (j455 51), (j455 52), Value.bool true, Value.int .i64 i456, Value.slice A10 a9.length c11, Value.int .i64 (a9.length : Int), Value.bool false, Value.bool false, Value.slice A14 b13.length c15, Value.int .i64 j457, Value.pointer (some ⟨b523, of524 + (j457 : Int).toNat * 18, none⟩), Value.pointer (some ⟨b523, of524 + (j457 : Int).toNat * 18, none⟩), Value.int .i64 ((rd b13 j457).ID), Value.slice A10 a9.length c11, Value.int .i64 i456, Value.pointer (some ⟨b514, of515 + (i456 : Int).toNat * 18, none⟩), Value.pointer (some ⟨b514, of515 + (i456 : Int).toNat * 18, none⟩), Value.int .i64 ((rd a9 i456).ID), Value.bool true, Value.bool true, Value.func (.func 28) #[] #[.pointer (some ⟨b1, 0, none⟩)], Value.slice A14 b13.length c15, Value.int .i64 j457, Value.pointer (some ⟨b523, of524 + (j457 : Int).toNat * 18, none⟩), Value.tuple #[], Value.int .i64 j457, Value.int .i64 (w64 (j457 + 1))].getD i_ undef), (L452.trans L573), HS677, HO579, h, (by kernel_rfl)⟩
         · have c565 : ¬ (((rd b13 j457).ID) < ((rd a9 i456).ID)) := c565
           refine wpRwI 61 (x := (decide (((rd b13 j457).ID) < ((rd a9 i456).ID)))) (v := false) (by kernel_rfl) (decide_eq_false c565) ?_
           refine wpRwI 77 (x := (decide (((rd b13 j457).ID) < ((rd a9 i456).ID)))) (v := false) (by kernel_rfl) (decide_eq_false c565) ?_
           refine wpRwI 78 (x := (decide (((rd b13 j457).ID) < ((rd a9 i456).ID)))) (v := false) (by kernel_rfl) (decide_eq_false c565) ?_
           refine condF (by kernel_rfl) ?_
           refine wp_seq_k (fun K581 hK582 => ?_)
           have HS583 := HS547.u1
           have HS584 := HS583.u1
           refine heldG (S := Sg t f451 (H) [(7, [(b1, .cells #[.slice A459 x458.length c460] 28 (0, 0))]), (7, s461)]) (n := 8) (by kernel_rfl) rfl HS584 ?_
           intro W585 HS586
           refine takeG [0, 1, 2] (n := 8) (fuel := 5) (l' := #[true, true, true, false, false, false, false, false]) (a' := ⟨#[.slice A10 a9.length c11, .slice A14 b13.length c15, .func (.func 28) #[] #[pV b1 0], uV, uV, uV, iV i456, iV j457, iV i456, .slice A10 a9.length c11, iV (a9.length : Int), tV, tV, uV, uV, uV, uV, tV, .func (.func 28) #[] #[pV b1 0], .slice A10 a9.length c11, iV i456, (j455 13), (j455 14), (j455 15), (j455 16), (j455 17), (j455 18), (j455 19), (j455 20), (j455 21), fV, iV j457, .slice A14 b13.length c15, iV (b13.length : Int), fV, fV, iV i456, .slice A10 a9.length c11, iV (a9.length : Int), tV, tV, .slice A10 a9.length c11, iV i456, pV b514 (of515 + (i456 : Int).toNat * 18), pV b514 (of515 + (i456 : Int).toNat * 18), iV ((rd a9 i456).ID), .slice A14 b13.length c15, iV j457, pV b523 (of524 + (j457 : Int).toNat * 18), pV b523 (of524 + (j457 : Int).toNat * 18), iV ((rd b13 j457).ID), fV, fV, fV, (j455 46), (j455 47), (j455 48), (j455 49), (j455 50), (j455 51), (j455 52), fV, iV i456, .slice A10 a9.length c11, iV (a9.length : Int), fV, fV, .slice A14 b13.length c15, iV j457, pV b523 (of524 + (j457 : Int).toNat * 18), pV b523 (of524 + (j457 : Int).toNat * 18), iV ((rd b13 j457).ID), .slice A10 a9.length c11, iV i456, pV b514 (of515 + (i456 : Int).toNat * 18), pV b514 (of515 + (i456 : Int).toNat * 18), iV ((rd a9 i456).ID), fV, fV, (j455 71), (j455 72), (j455 73), (j455 74), (j455 75), (j455 76), (j455 77)], []⟩) rfl (by kernel_rfl) (by kernel_rfl) (by kernel_rfl) (fun ch_ a_ w_ q_ => (fun ch_ a_ w_ q_ => (fun ch_ a_ w_ q_ => hnp ch_ a_ w_ (hp24 ch_ a_ w_ q_)) ch_ a_ w_ (hp473 ch_ a_ w_ q_)) ch_ a_ w_ (hp480 ch_ a_ w_ q_)) (Sg.g2 (Sx.of [[(b1, .cells #[.slice A459 x458.length c460] 28 (0, 0))], s461] (FM.le.refl _) HS586) (fun _ => St.only [] HS586 (FM.le.refl _)) (fun _ => St.only [[(b1, .cells #[.slice A459 x458.length c460] 28 (0, 0))]] HS586 (FM.le.refl _))) ?_
           refine takeGQ 3 [] rfl (by kernel_rfl) (by kernel_rfl) (by kernel_rfl) (by kernel_rfl) (by kernel_rfl) (by kernel_rfl) (fun ch_ a_ w_ q_ => (fun ch_ a_ w_ q_ => (fun ch_ a_ w_ q_ => hnp ch_ a_ w_ (hp24 ch_ a_ w_ q_)) ch_ a_ w_ (hp473 ch_ a_ w_ q_)) ch_ a_ w_ (hp480 ch_ a_ w_ q_)) (Sg.g2 (Sx.of [[(b1, .cells #[.slice A459 x458.length c460] 28 (0, 0))], s461] (FM.le.refl _) HS586) (fun _ => St.only [] HS586 (FM.le.refl _)) (fun _ => St.only [[(b1, .cells #[.slice A459 x458.length c460] 28 (0, 0))]] HS586 (FM.le.refl _))) (fun w_ hw_ => by obtain ⟨g_, hl_, hS_⟩ := hw_.st; exact run_indexE hA516 (sz := 18) rfl Try.underlying26 (by kernel_rfl) (by kernel_rfl : _ = Value.slice A10 a9.length c11) (by kernel_rfl : _ = Value.int .i64 i456) c510 c467 w_) ?_
           refine takeG [4, 5] (n := 4) (fuel := 2) (l' := #[true, true, true, true, true, true, false, false]) (a' := ⟨#[.slice A10 a9.length c11, .slice A14 b13.length c15, .func (.func 28) #[] #[pV b1 0], uV, uV, uV, iV i456, iV j457, iV i456, .slice A10 a9.length c11, iV (a9.length : Int), tV, tV, uV, uV, uV, uV, tV, .func (.func 28) #[] #[pV b1 0], .slice A10 a9.length c11, iV i456, pV b514 (of515 + (i456 : Int).toNat * 18), .slice A14 b13.length c15, iV j457, (j455 16), (j455 17), (j455 18), (j455 19), (j455 20), (j455 21), fV, iV j457, .slice A14 b13.length c15, iV (b13.length : Int), fV, fV, iV i456, .slice A10 a9.length c11, iV (a9.length : Int), tV, tV, .slice A10 a9.length c11, iV i456, pV b514 (of515 + (i456 : Int).toNat * 18), pV b514 (of515 + (i456 : Int).toNat * 18), iV ((rd a9 i456).ID), .slice A14 b13.length c15, iV j457, pV b523 (of524 + (j457 : Int).toNat * 18), pV b523 (of524 + (j457 : Int).toNat * 18), iV ((rd b13 j457).ID), fV, fV, fV, (j455 46), (j455 47), (j455 48), (j455 49), (j455 50), (j455 51), (j455 52), fV, iV i456, .slice A10 a9.length c11, iV (a9.length : Int), fV, fV, .slice A14 b13.length c15, iV j457, pV b523 (of524 + (j457 : Int).toNat * 18), pV b523 (of524 + (j457 : Int).toNat * 18), iV ((rd b13 j457).ID), .slice A10 a9.length c11, iV i456, pV b514 (of515 + (i456 : Int).toNat * 18), pV b514 (of515 + (i456 : Int).toNat * 18), iV ((rd a9 i456).ID), fV, fV, (j455 71), (j455 72), (j455 73), (j455 74), (j455 75), (j455 76), (j455 77)], []⟩) rfl (by kernel_rfl) (by kernel_rfl) (by kernel_rfl) (fun ch_ a_ w_ q_ => (fun ch_ a_ w_ q_ => (fun ch_ a_ w_ q_ => hnp ch_ a_ w_ (hp24 ch_ a_ w_ q_)) ch_ a_ w_ (hp473 ch_ a_ w_ q_)) ch_ a_ w_ (hp480 ch_ a_ w_ q_)) (Sg.g2 (Sx.of [[(b1, .cells #[.slice A459 x458.length c460] 28 (0, 0))], s461] (FM.le.refl _) HS586) (fun _ => St.only [] HS586 (FM.le.refl _)) (fun _ => St.only [[(b1, .cells #[.slice A459 x458.length c460] 28 (0, 0))]] HS586 (FM.le.refl _))) ?_
           refine takeGQ 6 [] rfl (by kernel_rfl) (by kernel_rfl) (by kernel_rfl) (by kernel_rfl) (by kernel_rfl) (by kernel_rfl) (fun ch_ a_ w_ q_ => (fun ch_ a_ w_ q_ => (fun ch_ a_ w_ q_ => hnp ch_ a_ w_ (hp24 ch_ a_ w_ q_)) ch_ a_ w_ (hp473 ch_ a_ w_ q_)) ch_ a_ w_ (hp480 ch_ a_ w_ q_)) (Sg.g2 (Sx.of [[(b1, .cells #[.slice A459 x458.length c460] 28 (0, 0))], s461] (FM.le.refl _) HS586) (fun _ => St.only [] HS586 (FM.le.refl _)) (fun _ => St.only [[(b1, .cells #[.slice A459 x458.length c460] 28 (0, 0))]] HS586 (FM.le.refl _))) (fun w_ hw_ => by obtain ⟨g_, hl_, hS_⟩ := hw_.st; exact run_indexE hA525 (sz := 18) rfl Try.underlying26 (by kernel_rfl) (by kernel_rfl : _ = Value.slice A14 b13.length c15) (by kernel_rfl : _ = Value.int .i64 j457) c518 c519 w_) ?_
           have HS587 := HS586.u1
           have HS588 := HS587.u1
           have hq_ := bind_some h; clear h; obtain ⟨vt589, hc590, h⟩ := hq_
           refine takeGE 7 (by kernel_rfl) rfl (by kernel_rfl) (does_call (f := 28) (args := #[.pointer (some ⟨b514, of515 + (i456 : Int).toNat * 18, none⟩), .pointer (some ⟨b523, of524 + (j457 : Int).toNat * 18, none⟩), .pointer (some ⟨b1, 0, none⟩)]) (by kernel_rfl) (catalog_Diff_1_3.calls k b1 A459 c460 s461 b514 (of515 + (i456 : Int).toNat * 18) A517 c517 b523 (of524 + (j457 : Int).toNat * 18) A526 c526 x458 (rd a9 i456) (rd b13 j457) HS588 HO462 HR517 (fun hl_ => hc513 hl_) HR526 (fun hl_ => hc522 hl_) vt589 hc590) ?_)
           rintro _ W593 ⟨f591, A595, c596, s597, rfl, L592, HS594, HO598⟩
           refine ⟨_, rfl, ?_⟩
           refine ⟨(Sg.g2 (Sx.of [s597, [(b1, .cells #[.slice A595 vt589.length c596] 28 (0, 0))]] L592 HS594) (fun hl_ => Bool.noConfusion (show true = false from hl_)) (fun hl_ => Bool.noConfusion (show true = false from hl_))), ?_⟩
           refine doneG (by kernel_rfl) ?_ _
           refine hK582 _ _ ?_
           refine wp_region_lit ?_
           refine seqL6 (by kernel_rfl) ?_
           refine wpList_nil ?_
           refine hn477 _ _ ?_
           refine hn470 _ _ ?_
           refine hK449 n450 _ _ (Nat.lt_succ_self _) ?_
           have HS678 := HS594.u1
           exact ⟨f591, A595, c596, s597, (w64 (i456 + 1)), (w64 (j457 + 1)), vt589, (fun i_ => [Value.int .i64 i456, Value.slice A10 a9.length c11, Value.int .i64 (a9.length : Int), Value.bool true, Value.bool true, undef, undef, undef, undef, Value.bool true, Value.func (.func 28) #[] #[.pointer (some ⟨b1, 0, none⟩)], Value.slice A10 a9.length c11, Value.int .i64 i456, Value.pointer (some ⟨b514, of515 + (i456 : Int).toNat * 18, none⟩), Value.slice A14 b13.length c15, Value.int .i64 j457, Value.pointer (some ⟨b523, of524 + (j457 : Int).toNat * 18, none⟩), Value.tuple #[], Value.int .i64 i456, Value.int .i64 (w64 (i456 + 1)), Value.int .i64 j457, Value.int .i64 (w64 (j457 + 1)), Value.bool false, Value.int .i64 j457, Value.slice A14 b13.length c15, Value.int .i64 (b13.length : Int), Value.bool false, Value.bool false, Value.int .i64 i456, Value.slice A10 a9.length c11, Value.int .i64 (a9.length : Int), Value.bool true, Value.bool true, Value.slice A10 a9.length c11, Value.int .i64 i456, Value.pointer (some ⟨b514, of515 + (i456 : Int).toNat * 18, none⟩), Value.pointer (some ⟨b514, of515 + (i456 : Int).toNat * 18, none⟩), Value.int .i64 ((rd a9 i456).ID), Value.slice A14 b13.length c15, Value.int .i64 j457, Value.pointer (some ⟨b523, of524 + (j457 : Int).toNat * 18, none⟩), Value.pointer (some ⟨b523, of524 + (j457 : Int).toNat * 18, none⟩), Value.int .i64 ((rd b13 j457).ID), Value.bool false, Value.bool false, Value.bool false, (j455 46), (j455 47), (j455 48), (j455 49), (j455 50), (j455 51), (j455 52), Value.bool false, Value.int .i64 i456, Value.slice A10 a9.length c11, Value.int .i64 (a9.length : Int), Value.bool false, Value.bool false, Value.slice A14 b13.length c15, Value.int .i64 j457, Value.pointer (some ⟨b523, of524 + (j457 : Int).toNat * 18, none⟩), Value.pointer (some ⟨b523, of524 + (j457 : Int).toNat * 18, none⟩), Value.int .i64 ((rd b13 j457).ID), Value.slice A10 a9.length c11, Value.int .i64 i456, Value.pointer (some ⟨b514, of515 + (i456 : Int).toNat * 18, none⟩), Value.pointer (some ⟨b514, of515 + (i456 : Int).toNat * 18, none⟩), Value.int .i64 ((rd a9 i456).ID), Value.bool false, Value.bool false, (j455 71), (j455 72), (j455 73), (j455 74), (j455 75), (j455 76), (j455 77)].getD i_ undef), (L452.trans L592), HS678, HO598, h, (by kernel_rfl)⟩
 · have c467 : ¬ (i456 < (a9.length : Int)) := c467
   refine seqRwI 11 (x := (decide (i456 < (a9.length : Int)))) (v := false) (by kernel_rfl) (decide_eq_false c467) ?_
   refine seqRwI 12 (x := (decide (i456 < (a9.length : Int)))) (v := false) (by kernel_rfl) (decide_eq_false c467) ?_
   refine seqL5 (by kernel_rfl) ?_
   refine wpList_nil ?_
   refine hK466 _ _ ?_
   have hq_ := ite_some h; clear h; rcases hq_ with ⟨c601, h⟩ | ⟨c601, h⟩
   · have c601 : j457 < (b13.length : Int) := c601
     refine wpRwI 16 (x := (decide (j457 < (b13.length : Int)))) (v := true) (by kernel_rfl) (decide_eq_true c601) ?_
     refine wpRwI 17 (x := (decide (j457 < (b13.length : Int)))) (v := true) (by kernel_rfl) (decide_eq_true c601) ?_
     refine condT (by kernel_rfl) ?_
     refine wp_skip ?_
     refine hK464 _ _ ?_
     refine blockK (fun B602 hx603 hn604 hr605 ho606 hp607 => ?_)
     refine blockK (fun B609 hx610 hn611 hr612 ho613 hp614 => ?_)
     refine wp_seq_k (fun K616 hK617 => ?_)
     refine heldG (S := Sg t f451 ([(b1, .cells #[.slice A459 x458.length c460] 28 (0, 0))] :: s461 :: H) []) (n := 24) (by kernel_rfl) rfl HS454 ?_
     intro W618 HS619
     refine takeG [0, 1, 2, 3, 4] (n := 24) (fuel := 19) (l' := #[true, true, true, true, true, false, false, false, false, false, false, false, false, false, false, false, false, false, false, false, false, false, false, false]) (a' := ⟨#[.slice A10 a9.length c11, .slice A14 b13.length c15, .func (.func 28) #[] #[pV b1 0], uV, uV, uV, iV i456, iV j457, iV i456, .slice A10 a9.length c11, iV (a9.length : Int), fV, fV, iV j457, .slice A14 b13.length c15, iV (b13.length : Int), tV, tV, (j455 10), (j455 11), (j455 12), (j455 13), (j455 14), (j455 15), (j455 16), (j455 17), (j455 18), (j455 19), (j455 20), (j455 21), (j455 22), iV j457, .slice A14 b13.length c15, iV (b13.length : Int), .bool (j457 == (b13.length : Int)), .bool (j457 == (b13.length : Int)), (j455 28), (j455 29), (j455 30), (j455 31), (j455 32), (j455 33), (j455 34), (j455 35), (j455 36), (j455 37), (j455 38), (j455 39), (j455 40), (j455 41), (j455 42), (j455 43), (j455 44), (j455 45), (j455 46), (j455 47), (j455 48), (j455 49), (j455 50), (j455 51), (j455 52), (j455 53), (j455 54), (j455 55), (j455 56), (j455 57), (j455 58), (j455 59), (j455 60), (j455 61), (j455 62), (j455 63), (j455 64), (j455 65), (j455 66), (j455 67), (j455 68), (j455 69), (j455 70), (j455 71), (j455 72), (j455 73), (j455 74), (j455 75), (j455 76), (j455 77)], []⟩) rfl (by kernel_rfl) (by kernel_rfl) (by kernel_rfl) (fun ch_ a_ w_ q_ => (fun ch_ a_ w_ q_ => (fun ch_ a_ w_ q_ => hnp ch_ a_ w_ (hp24 ch_ a_ w_ q_)) ch_ a_ w_ (hp607 ch_ a_ w_ q_)) ch_ a_ w_ (hp614 ch_ a_ w_ q_)) (Sg.g0 (Sx.of [] (FM.le.refl _) HS619)) ?_
     have hq_ := ite_some h; clear h; rcases hq_ with ⟨c620, h⟩ | ⟨c620, h⟩
     · have c620 : j457 = (b13.length : Int) := c620
       refine gateRwI 34 (x := (j457 == (b13.length : Int))) (v := true) (by kernel_rfl) (beq_iff_eq.mpr c620) ?_
       refine gateRwI 35 (x := (j457 == (b13.length : Int))) (v := true) (by kernel_rfl) (beq_iff_eq.mpr c620) ?_
       refine takeG [5, 6, 7, 8, 9, 10, 11, 12, 13, 14, 15, 16, 17, 18, 19, 20, 21, 22, 23] (n := 19) (fuel := 0) (l' := #[true, true, true, true, true, true, true, true, true, true, true, true, true, true, true, true, true, true, true, true, true, true, true, true]) (a' := ⟨#[.slice A10 a9.length c11, .slice A14 b13.length c15, .func (.func 28) #[] #[pV b1 0], uV, uV, uV, iV i456, iV j457, iV i456, .slice A10 a9.length c11, iV (a9.length : Int), fV, fV, iV j457, .slice A14 b13.length c15, iV (b13.length : Int), tV, tV, (j455 10), (j455 11), (j455 12), (j455 13), (j455 14), (j455 15), (j455 16), (j455 17), (j455 18), (j455 19), (j455 20), (j455 21), tV, iV j457, .slice A14 b13.length c15, iV (b13.length : Int), tV, tV, uV, uV, uV, uV, uV, uV, uV, uV, uV, uV, uV, uV, uV, uV, uV, uV, uV, tV, (j455 46), (j455 47), (j455 48), (j455 49), (j455 50), (j455 51), (j455 52), (j455 53), (j455 54), (j455 55), (j455 56), (j455 57), (j455 58), (j455 59), (j455 60), (j455 61), (j455 62), (j455 63), (j455 64), (j455 65), (j455 66), (j455 67), (j455 68), (j455 69), (j455 70), (j455 71), (j455 72), (j455 73), (j455 74), (j455 75), (j455 76), (j455 77)], []⟩) rfl (by kernel_rfl) (by kernel_rfl) (by kernel_rfl) (fun ch_ a_ w_ q_ => (fun ch_ a_ w_ q_ => (fun ch_ a_ w_ q_ => hnp ch_ a_ w_ (hp24 ch_ a_ w_ q_)) ch_ a_ w_ (hp607 ch_ a_ w_ q_)) ch_ a_ w_ (hp614 ch_ a_ w_ q_)) (Sg.g0 (Sx.of [] (FM.le.refl _) HS619)) ?_
       refine doneG (by kernel_rfl) ?_ _
       refine hK617 _ _ ?_
       refine condT (by kernel_rfl) ?_
       refine wp_seq_k (fun K621 hK622 => ?_)
       refine wp_region_lit ?_
       have hq_ := guard_some h; clear h; obtain ⟨c623, h⟩ := hq_
       have c623 : 0 ≤ i456 := c623
       have hq_ := guard_some h; clear h; obtain ⟨hq2_, h⟩ := hq_
       exact absurd hq2_ c467
     · have c620 : ¬ (j457 = (b13.length : Int)) := c620
       refine gateRwI 34 (x := (j457 == (b13.length : Int))) (v := false) (by kernel_rfl) (beq_eq_false_iff_ne.mpr c620) ?_
       refine gateRwI 35 (x := (j457 == (b13.length : Int))) (v := false) (by kernel_rfl) (beq_eq_false_iff_ne.mpr c620) ?_
       refine takeG [5, 6, 7, 8, 9] (n := 19) (fuel := 14) (l' := #[true, true, true, true, true, true, true, true, true, true, false, false, false, false, false, false, false, false, false, false, false, false, false, false]) (a' := ⟨#[.slice A10 a9.length c11, .slice A14 b13.length c15, .func (.func 28) #[] #[pV b1 0], uV, uV, uV, iV i456, iV j457, iV i456, .slice A10 a9.length c11, iV (a9.length : Int), fV, fV, iV j457, .slice A14 b13.length c15, iV (b13.length : Int), tV, tV, (j455 10), (j455 11), (j455 12), (j455 13), (j455 14), (j455 15), (j455 16), (j455 17), (j455 18), (j455 19), (j455 20), (j455 21), (j455 22), iV j457, .slice A14 b13.length c15, iV (b13.length : Int), fV, fV, iV i456, .slice A10 a9.length c11, iV (a9.length : Int), .bool (decide (i456 < (a9.length : Int))), .bool (decide (i456 < (a9.length : Int))), (j455 33), (j455 34), (j455 35), (j455 36), (j455 37), (j455 38), (j455 39), (j455 40), (j455 41), (j455 42), (j455 43), (j455 44), (j455 45), (j455 46), (j455 47), (j455 48), (j455 49), (j455 50), (j455 51), (j455 52), (j455 53), (j455 54), (j455 55), (j455 56), (j455 57), (j455 58), (j455 59), (j455 60), (j455 61), (j455 62), (j455 63), (j455 64), (j455 65), (j455 66), (j455 67), (j455 68), (j455 69), (j455 70), (j455 71), (j455 72), (j455 73), (j455 74), (j455 75), (j455 76), (j455 77)], []⟩) rfl (by kernel_rfl) (by kernel_rfl) (by kernel_rfl) (fun ch_ a_ w_ q_ => (fun ch_ a_ w_ q_ => (fun ch_ a_ w_ q_ => hnp ch_ a_ w_ (hp24 ch_ a_ w_ q_)) ch_ a_ w_ (hp607 ch_ a_ w_ q_)) ch_ a_ w_ (hp614 ch_ a_ w_ q_)) (Sg.g0 (Sx.of [] (FM.le.refl _) HS619)) ?_
       refine gateRwI 39 (x := (decide (i456 < (a9.length : Int)))) (v := false) (by kernel_rfl) (decide_eq_false c467) ?_
       refine gateRwI 40 (x := (decide (i456 < (a9.length : Int)))) (v := false) (by kernel_rfl) (decide_eq_false c467) ?_
       refine takeG [10, 11, 12, 13, 14, 15, 16, 17, 18, 19, 20, 21, 22, 23] (n := 14) (fuel := 0) (l' := #[true, true, true, true, true, true, true, true, true, true, true, true, true, true, true, true, true, true, true, true, true, true, true, true]) (a' := ⟨#[.slice A10 a9.length c11, .slice A14 b13.length c15, .func (.func 28) #[] #[pV b1 0], uV, uV, uV, iV i456, iV j457, iV i456, .slice A10 a9.length c11, iV (a9.length : Int), fV, fV, iV j457, .slice A14 b13.length c15, iV (b13.length : Int), tV, tV, (j455 10), (j455 11), (j455 12), (j455 13), (j455 14), (j455 15), (j455 16), (j455 17), (j455 18), (j455 19), (j455 20), (j455 21), fV, iV j457, .slice A14 b13.length c15, iV (b13.length : Int), fV, fV, iV i456, .slice A10 a9.length c11, iV (a9.length : Int), fV, fV, uV, uV, uV, uV, uV, uV, uV, uV, uV, uV, uV, fV, fV, (j455 46), (j455 47), (j455 48), (j455 49), (j455 50), (j455 51), (j455 52), (j455 53), (j455 54), (j455 55), (j455 56), (j455 57), (j455 58), (j455 59), (j455 60), (j455 61), (j455 62), (j455 63), (j455 64), (j455 65), (j455 66), (j455 67), (j455 68), (j455 69), (j455 70), (j455 71), (j455 72), (j455 73), (j455 74), (j455 75), (j455 76), (j455 77)], []⟩) rfl (by kernel_rfl) (by kernel_rfl) (by kernel_rfl) (fun ch_ a_ w_ q_ => (fun ch_ a_ w_ q_ => (fun ch_ a_ w_ q_ => hnp ch_ a_ w_ (hp24 ch_ a_ w_ q_)) ch_ a_ w_ (hp607 ch_ a_ w_ q_)) ch_ a_ w_ (hp614 ch_ a_ w_ q_)) (Sg.g0 (Sx.of [] (FM.le.refl _) HS619)) ?_
       refine doneG (by kernel_rfl) ?_ _
       refine hK617 _ _ ?_
       refine condF (by kernel_rfl) ?_
       refine wp_seq_k (fun K624 hK625 => ?_)
       refine heldG (S := Sg t f451 ([(b1, .cells #[.slice A459 x458.length c460] 28 (0, 0))] :: s461 :: H) []) (n := 18) (by kernel_rfl) rfl HS619 ?_
       intro W626 HS627
       refine takeG [0, 1, 2, 3, 4] (n := 18) (fuel := 13) (l' := #[true, true, true, true, true, false, false, false, false, false, false, false, false, false, false, false, false, false]) (a' := ⟨#[.slice A10 a9.length c11, .slice A14 b13.length c15, .func (.func 28) #[] #[pV b1 0], uV, uV, uV, iV i456, iV j457, iV i456, .slice A10 a9.length c11, iV (a9.length : Int), fV, fV, iV j457, .slice A14 b13.length c15, iV (b13.length : Int), tV, tV, (j455 10), (j455 11), (j455 12), (j455 13), (j455 14), (j455 15), (j455 16), (j455 17), (j455 18), (j455 19), (j455 20), (j455 21), fV, iV j457, .slice A14 b13.length c15, iV (b13.length : Int), fV, fV, iV i456, .slice A10 a9.length c11, iV (a9.length : Int), fV, fV, uV, uV, uV, uV, uV, uV, uV, uV, uV, uV, uV, fV, fV, (j455 46), (j455 47), (j455 48), (j455 49), (j455 50), (j455 51), (j455 52), (j455 53), iV i456, .slice A10 a9.length c11, iV (a9.length : Int), .bool (i456 == (a9.length : Int)), .bool (i456 == (a9.length : Int)), (j455 59), (j455 60), (j455 61), (j455 62), (j455 63), (j455 64), (j455 65), (j455 66), (j455 67), (j455 68), (j455 69), (j455 70), (j455 71), (j455 72), (j455 73), (j455 74), (j455 75), (j455 76), (j455 77)], []⟩) rfl (by kernel_rfl) (by kernel_rfl) (by kernel_rfl) (fun ch_ a_ w_ q_ => (fun ch_ a_ w_ q_ => (fun ch_ a_ w_ q_ => hnp ch_ a_ w_ (hp24 ch_ a_ w_ q_)) ch_ a_ w_ (hp607 ch_ a_ w_ q_)) ch_ a_ w_ (hp614 ch_ a_ w_ q_)) (Sg.g0 (Sx.of [] (FM.le.refl _) HS627)) ?_
       have hq_ := ite_some h; clear h; rcases hq_ with ⟨c628, h⟩ | ⟨c628, h⟩
       · have c628 : i456 = (a9.length : Int) := c628
         refine gateRwI 65 (x := (i456 == (a9.length : Int))) (v := true) (by kernel_rfl) (beq_iff_eq.mpr c628) ?_
         refine gateRwI 66 (x := (i456 == (a9.length : Int))) (v := true) (by kernel_rfl) (beq_iff_eq.mpr c628) ?_
         refine takeG [5, 6, 7, 8, 9, 10, 11, 12, 13, 14, 15, 16, 17] (n := 13) (fuel := 0) (l' := #[true, true, true, true, true, true, true, true, true, true, true, true, true, true, true, true, true, true]) (a' := ⟨#[.slice A10 a9.length c11, .slice A14 b13.length c15, .func (.func 28) #[] #[pV b1 0], uV, uV, uV, iV i456, iV j457, iV i456, .slice A10 a9.length c11, iV (a9.length : Int), fV, fV, iV j457, .slice A14 b13.length c15, iV (b13.length : Int), tV, tV, (j455 10), (j455 11), (j455 12), (j455 13), (j455 14), (j455 15), (j455 16), (j455 17), (j455 18), (j455 19), (j455 20), (j455 21), fV, iV j457, .slice A14 b13.length c15, iV (b13.length : Int), fV, fV, iV i456, .slice A10 a9.length c11, iV (a9.length : Int), fV, fV, uV, uV, uV, uV, uV, uV, uV, uV, uV, uV, uV, fV, fV, (j455 46), (j455 47), (j455 48), (j455 49), (j455 50), (j455 51), (j455 52), tV, iV i456, .slice A10 a9.length c11, iV (a9.length : Int), tV, tV, uV, uV, uV, uV, uV, uV, uV, uV, uV, uV, uV, tV, (j455 71), (j455 72), (j455 73), (j455 74), (j455 75), (j455 76), (j455 77)], []⟩) rfl (by kernel_rfl) (by kernel_rfl) (by kernel_rfl) (fun ch_ a_ w_ q_ => (fun ch_ a_ w_ q_ => (fun ch_ a_ w_ q_ => hnp ch_ a_ w_ (hp24 ch_ a_ w_ q_)) ch_ a_ w_ (hp607 ch_ a_ w_ q_)) ch_ a_ w_ (hp614 ch_ a_ w_ q_)) (Sg.g0 (Sx.of [] (FM.le.refl _) HS627)) ?_
         refine doneG (by kernel_rfl) ?_ _
         refine hK625 _ _ ?_
         refine condT (by kernel_rfl) ?_
         refine wp_seq_k (fun K629 hK630 => ?_)
         refine wp_region_lit ?_
         have hq_ := guard_some h; clear h; obtain ⟨c631, h⟩ := hq_
         have c631 : 0 ≤ j457 := c631
         obtain ⟨b635, of636, cs632, hA637, hr633, hc634⟩ := (HR16.mono L452).at (i := j457) c631 c601
         obtain ⟨A638, c638, rfl, HR638⟩ := hr633
         refine seqL3 (by kernel_rfl) ?_
         refine seqK rfl (does_run (run_indexE hA637 (sz := 18) rfl Try.underlying26 (by kernel_rfl) (by kernel_rfl : _ = Value.slice A14 b13.length c15) (by kernel_rfl : _ = Value.int .i64 j457) c631 c601 W626) ?_)
         have HS639 := HS627.u1
         have HS640 := HS639.u1
         have hq_ := bind_some h; clear h; obtain ⟨vt641, hc642, h⟩ := hq_
         refine seqK rfl (does_call (f := 28) (args := #[.pointer none, .pointer (some ⟨b635, of636 + (j457 : Int).toNat * 18, none⟩), .pointer (some ⟨b1, 0, none⟩)]) (by kernel_rfl) (catalog_Diff_1_2.calls k b1 A459 c460 s461 b635 (of636 + (j457 : Int).toNat * 18) A638 c638 x458 (rd b13 j457) HS640 HO462 HR638 (fun hl_ => hc634 hl_) vt641 hc642) ?_)
         rintro _ W645 ⟨f643, A647, c648, s649, rfl, L644, HS646, HO650⟩
         refine ⟨_, rfl, ?_⟩
         refine wpList_nil ?_
         refine hK630 _ _ ?_
         refine wp_region_lit ?_
         refine seqL3 (by kernel_rfl) ?_
         refine wpList_nil ?_
         refine hn611 _ _ ?_
         refine hn604 _ _ ?_
         refine hK449 n450 _ _ (Nat.lt_succ_self _) ?_
         have HS679 := HS646.u1
         exact ⟨f643, A647, c648, s649, i456, (w64 (j457 + 1)), vt641, (fun i_ => [Value.int .i64 i456, Value.slice A10 a9.length c11, Value.int .i64 (a9.length : Int), Value.bool false, Value.bool false, Value.int .i64 j457, Value.slice A14 b13.length c15, Value.int .i64 (b13.length : Int), Value.bool true, Value.bool true, (j455 10), (j455 11), (j455 12), (j455 13), (j455 14), (j455 15), (j455 16), (j455 17), (j455 18), (j455 19), (j455 20), (j455 21), Value.bool false, Value.int .i64 j457, Value.slice A14 b13.length c15, Value.int .i64 (b13.length : Int), Value.bool false, Value.bool false, Value.int .i64 i456, Value.slice A10 a9.length c11, Value.int .i64 (a9.length : Int), Value.bool false, Value.bool false, undef, undef, undef, undef, undef, undef, undef, undef, undef, undef, undef, Value.bool false, Value.bool false, (j455 46), (j455 47), (j455 48), (j455 49), (j455 50), (j455 51), (j455 52), Value.bool true, Value.int .i64 i456, Value.slice A10 a9.length c11, Value.int .i64 (a9.length : Int), Value.bool true, Value.bool true, undef, undef, undef, undef, undef, undef, undef, undef, undef, undef, undef, Value.bool true, Value.func (.func 28) #[] #[.pointer (some ⟨b1, 0, none⟩)], Value.slice A14 b13.length c15, Value.int .i64 j457, Value.pointer (some ⟨b635, of636 + (j457 : Int).toNat * 18, none⟩), Value.tuple #[], Value.int .i64 j457, Value.int .i64 (w64 (j457 + 1))].getD i_ undef), (L452.trans L644), HS679, HO650, h, (by kernel_rfl)⟩
       · have c628 : ¬ (i456 = (a9.length : Int)) := c628
         refine gateRwI 65 (x := (i456 == (a9.length : Int))) (v := false) (by kernel_rfl) (beq_eq_false_iff_ne.mpr c628) ?_
         refine gateRwI 66 (x := (i456 == (a9.length : Int))) (v := false) (by kernel_rfl) (beq_eq_false_iff_ne.mpr c628) ?_
         have hq_ := guard_some h; clear h; obtain ⟨c652, h⟩ := hq_
         have c652 : 0 ≤ j457 := c652
         obtain ⟨b656, of657, cs653, hA658, hr654, hc655⟩ := (HR16.mono L452).at (i := j457) c652 c601
         obtain ⟨A659, c659, rfl, HR659⟩ := hr654
         refine takeG [5, 6] (n := 13) (fuel := 11) (l' := #[true, true, true, true, true, true, true, false, false, false, false, false, false, false, false, false, false, false]) (a' := ⟨#[.slice A10 a9.length c11, .slice A14 b13.length c15, .func (.func 28) #[] #[pV b1 0], uV, uV, uV, iV i456, iV j457, iV i456, .slice A10 a9.length c11, iV (a9.length : Int), fV, fV, iV j457, .slice A14 b13.length c15, iV (b13.length : Int), tV, tV, (j455 10), (j455 11), (j455 12), (j455 13), (j455 14), (j455 15), (j455 16), (j455 17), (j455 18), (j455 19), (j455 20), (j455 21), fV, iV j457, .slice A14 b13.length c15, iV (b13.length : Int), fV, fV, iV i456, .slice A10 a9.length c11, iV (a9.length : Int), fV, fV, uV, uV, uV, uV, uV, uV, uV, uV, uV, uV, uV, fV, fV, (j455 46), (j455 47), (j455 48), (j455 49), (j455 50), (j455 51), (j455 52), (j455 53), iV i456, .slice A10 a9.length c11, iV (a9.length : Int), fV, fV, .slice A14 b13.length c15, iV j457, (j455 61), (j455 62), (j455 63), (j455 64), (j455 65), (j455 66), (j455 67), (j455 68), (j455 69), (j455 70), (j455 71), (j455 72), (j455 73), (j455 74), (j455 75), (j455 76), (j455 77)], []⟩) rfl (by kernel_rfl) (by kernel_rfl) (by kernel_rfl) (fun ch_ a_ w_ q_ => (fun ch_ a_ w_ q_ => (fun ch_ a_ w_ q_ => hnp ch_ a_ w_ (hp24 ch_ a_ w_ q_)) ch_ a_ w_ (hp607 ch_ a_ w_ q_)) ch_ a_ w_ (hp614 ch_ a_ w_ q_)) (Sg.g0 (Sx.of [] (FM.le.refl _) HS627)) ?_
         refine takeGQ 7 [] rfl (by kernel_rfl) (by kernel_rfl) (by kernel_rfl) (by kernel_rfl) (by kernel_rfl) (by kernel_rfl) (fun ch_ a_ w_ q_ => (fun ch_ a_ w_ q_ => (fun ch_ a_ w_ q_ => hnp ch_ a_ w_ (hp24 ch_ a_ w_ q_)) ch_ a_ w_ (hp607 ch_ a_ w_ q_)) ch_ a_ w_ (hp614 ch_ a_ w_ q_)) (Sg.g0 (Sx.of [] (FM.le.refl _) HS627)) (fun w_ hw_ => by obtain ⟨g_, hl_, hS_⟩ := hw_.st; exact run_indexE hA658 (sz := 18) rfl Try.underlying26 (by kernel_rfl) (by kernel_rfl : _ = Value.slice A14 b13.length c15) (by kernel_rfl : _ = Value.int .i64 j457) c652 c601 w_) ?_
         refine takeG [8] (n := 10) (fuel := 9) (l' := #[true, true, true, true, true, true, true, true, true, false, false, false, false, false, false, false, false, false]) (a' := ⟨#[.slice A10 a9.length c11, .slice A14 b13.length c15, .func (.func 28) #[] #[pV b1 0], uV, uV, uV, iV i456, iV j457, iV i456, .slice A10 a9.length c11, iV (a9.length : Int), fV, fV, iV j457, .slice A14 b13.length c15, iV (b13.length : Int), tV, tV, (j455 10), (j455 11), (j455 12), (j455 13), (j455 14), (j455 15), (j455 16), (j455 17), (j455 18), (j455 19), (j455 20), (j455 21), fV, iV j457, .slice A14 b13.length c15, iV (b13.length : Int), fV, fV, iV i456, .slice A10 a9.length c11, iV (a9.length : Int), fV, fV, uV, uV, uV, uV, uV, uV, uV, uV, uV, uV, uV, fV, fV, (j455 46), (j455 47), (j455 48), (j455 49), (j455 50), (j455 51), (j455 52), (j455 53), iV i456, .slice A10 a9.length c11, iV (a9.length : Int), fV, fV, .slice A14 b13.length c15, iV j457, pV b656 (of657 + (j457 : Int).toNat * 18), pV b656 (of657 + (j457 : Int).toNat * 18), (j455 63), (j455 64), (j455 65), (j455 66), (j455 67), (j455 68), (j455 69), (j455 70), (j455 71), (j455 72), (j455 73), (j455 74), (j455 75), (j455 76), (j455 77)], []⟩) rfl (by kernel_rfl) (by kernel_rfl) (by kernel_rfl) (fun ch_ a_ w_ q_ => (fun ch_ a_ w_ q_ => (fun ch_ a_ w_ q_ => hnp ch_ a_ w_ (hp24 ch_ a_ w_ q_)) ch_ a_ w_ (hp607 ch_ a_ w_ q_)) ch_ a_ w_ (hp614 ch_ a_ w_ q_)) (Sg.g0 (Sx.of [] (FM.le.refl _) HS627)) ?_
         refine takeGQ 9 [] rfl (by kernel_rfl) (by kernel_rfl) (by kernel_rfl) (by kernel_rfl) (by kernel_rfl) (by kernel_rfl) (fun ch_ a_ w_ q_ => (fun ch_ a_ w_ q_ => (fun ch_ a_ w_ q_ => hnp ch_ a_ w_ (hp24 ch_ a_ w_ q_)) ch_ a_ w_ (hp607 ch_ a_ w_ q_)) ch_ a_ w_ (hp614 ch_ a_ w_ q_)) (Sg.g0 (Sx.of [] (FM.le.refl _) HS627)) (fun w_ hw_ => by obtain ⟨g_, hl_, hS_⟩ := hw_.st; exact run_load rfl Try.underlying3 rfl (by kernel_rfl : _ = Value.pointer (some ⟨b656, of657 + (j457 : Int).toNat * 18, none⟩)) ((hc655 hl_ hS_) 0 (by decide))) ?_
         have hq_ := guard_some h; clear h; obtain ⟨c660, h⟩ := hq_
         have c660 : 0 ≤ i456 := c660
         have hq_ := guard_some h; clear h; obtain ⟨hq2_, h⟩ := hq_
         exact absurd hq2_ c467
   · have c601 : ¬ (j457 < (b13.length : Int)) := c601
     refine wpRwI 16 (x := (decide (j457 < (b13.length : Int)))) (v := false) (by kernel_rfl) (decide_eq_false c601) ?_
     refine wpRwI 17 (x := (decide (j457 < (b13.length : Int)))) (v := false) (by kernel_rfl) (decide_eq_false c601) ?_
     refine condF (by kernel_rfl) ?_
     refine wp_exit ?_
     refine hx20 _ _ ?_
     exact J672 f451 A459 c460 s461 x458 (fun i_ => [Value.int .i64 i456, Value.int .i64 j457, Value.int .i64 i456, Value.slice A10 a9.length c11, Value.int .i64 (a9.length : Int), Value.bool false, Value.bool false, Value.int .i64 j457, Value.slice A14 b13.length c15, Value.int .i64 (b13.length : Int), Value.bool false, Value.bool false, (j455 10), (j455 11), (j455 12), (j455 13), (j455 14), (j455 15), (j455 16), (j455 17), (j455 18), (j455 19), (j455 20), (j455 21), (j455 22), (j455 23), (j455 24), (j455 25), (j455 26), (j455 27), (j455 28), (j455 29), (j455 30), (j455 31), (j455 32), (j455 33), (j455 34), (j455 35), (j455 36), (j455 37), (j455 38), (j455 39), (j455 40), (j455 41), (j455 42), (j455 43), (j455 44), (j455 45), (j455 46), (j455 47), (j455 48), (j455 49), (j455 50), (j455 51), (j455 52), (j455 53), (j455 54), (j455 55), (j455 56), (j455 57), (j455 58), (j455 59), (j455 60), (j455 61), (j455 62), (j455 63), (j455 64), (j455 65), (j455 66), (j455 67), (j455 68), (j455 69), (j455 70), (j455 71), (j455 72), (j455 73), (j455 74), (j455 75), (j455 76), (j455 77)].getD i_ undef) W453 _ L452 h HS454 HO462 (by kernel_rfl)

set_option maxRecDepth 100000 in
set_option maxHeartbeats 4000000 in
theorem slices_Clone_Change.calls (k : Nat) (A2 : Option Addr) (c3 : Nat) (s1 : List S_Change) {t w : World} {f : FM} {H : List Seg} (HS : St t w f (H)) (HR4 : SlR ty_Change f A2 c3 s1) (rr1 : List S_Change) (h : slices_Clone_Change k s1 = some rr1) :
    Calls Try.prog 45 #[.slice A2 s1.length c3] w (fun e w' => ∃ (g : FM) (A31 : Option Addr) (c32 : Nat) (s33 : Seg), e = .returned (Value.slice A31 rr1.length c32) ∧ FM.le f g ∧ St t w' g (s33 :: H) ∧ Own ty_Change 71 g A31 c32 s33 rr1) := by
 unfold slices_Clone_Change at h
 refine enter Try.func45 rfl (tm := #[.slice A2 s1.length c3, uV, uV, uV, uV, uV, uV, uV]) (by kernel_rfl) ?_
 intro B hret hnor hnp
 refine wp_seq_k (fun K5 hK6 => ?_)
 refine wp_region_lit ?_
 refine seqL1 (by kernel_rfl) ?_
 refine wpList_nil ?_
 refine hK6 _ _ ?_
 refine wp_seq_k (fun K7 hK8 => ?_)
 refine wp_seq_k (fun K9 hK10 => ?_)
 refine wp_region_lit ?_
 refine seqL1 (by kernel_rfl) ?_
 obtain _ | ad11 := A2
 · obtain rfl := HR4.nil_eq
   have hq_ := guard_some h; clear h; obtain ⟨_, h⟩ := hq_
   refine seqL1 (by kernel_rfl) ?_
   refine wpList_nil ?_
   refine hK10 _ _ ?_
   refine condT (by kernel_rfl) ?_
   refine wp_seq_k (fun K27 hK28 => ?_)
   refine wp_region_lit ?_
   refine seqL1 (by kernel_rfl) ?_
   refine wpList_nil ?_
   refine hK28 _ _ ?_
   refine wp_ret ?_
   refine hret _ _ ?_
   have HS29 := HS.cons_nil
   refine ends_still (v := Value.slice none 0 0) (by kernel_rfl) (by kernel_rfl) ?_
   injection h with h
   subst h
   exact ⟨f, none, 0, [], rfl, FM.le.refl _, HS29, (Own.nil _)⟩
 · refine seqL1 (by kernel_rfl) ?_
   refine wpList_nil ?_
   refine hK10 _ _ ?_
   refine condF (by kernel_rfl) ?_
   refine wp_skip ?_
   refine hK8 _ _ ?_
   refine wp_seq_k (fun K12 hK13 => ?_)
   refine wp_region_lit ?_
   refine seqK rfl (does_lit (e := ty_Change) (E := 71) (vs := #[]) (cs := #[]) (xs := ([] : List S_Change)) rfl Try.underlying28 (by kernel_rfl) (by kernel_rfl) rfl rfl HS ?_ (by decide))
   intro b14 W15 s16 HS17 _ HO18
   have hq_ := guard_some h; clear h; obtain ⟨c20, h⟩ := hq_
   have c20 : (([] : List S_Change).length + s1.length) * 168 ≤ 140737488355328 := c20
   refine seqL1 (by kernel_rfl) ?_
   refine seqK rfl (does_append (e := ty_Change) (E := 71) (xs := ([] : List S_Change)) (ys := s1) rfl (by kernel_rfl : _ = Value.slice (some ⟨b14, 0, none⟩) ([] : List S_Change).length 0) (by kernel_rfl : _ = Value.slice (some ad11) s1.length c3) Try.underlying28 inf71 HO18 HS17 (HR4.rc HS17) c20 (lim63 c20 (by decide)) ?_)
   intro A21 c22 s23 W24 HS25 HO26
   refine seqL1 (by kernel_rfl) ?_
   refine wpList_nil ?_
   refine hK13 _ _ ?_
   refine wp_ret ?_
   refine hret _ _ ?_
   refine ends_still (v := Value.slice A21 (([] : List S_Change) ++ s1).length c22) (by kernel_rfl) (by kernel_rfl) ?_
   injection h with h
   subst h
   exact ⟨f, A21, c22, s23, rfl, FM.le.refl _, HS25, HO26⟩

set_option maxRecDepth 100000 in
set_option maxHeartbeats 4000000 in
theorem slices_Clone_int.calls (k : Nat) (A2 : Option Addr) (c3 : Nat) (s1 : List Int) {t w : World} {f : FM} {H : List Seg} (HS : St t w f (H)) (HR4 : SlR (tInt .i64) f A2 c3 s1) (rr1 : List Int) (h : slices_Clone_int k s1 = some rr1) :
    Calls Try.prog 46 #[.slice A2 s1.length c3] w (fun e w' => ∃ (g : FM) (A31 : Option Addr) (c32 : Nat) (s33 : Seg), e = .returned (Value.slice A31 rr1.length c32) ∧ FM.le f g ∧ St t w' g (s33 :: H) ∧ Own (tInt .i64) 3 g A31 c32 s33 rr1) := by
 unfold slices_Clone_int at h
 refine enter Try.func46 rfl (tm := #[.slice A2 s1.length c3, uV, uV, uV, uV, uV, uV, uV]) (by kernel_rfl) ?_
 intro B hret hnor hnp
 refine wp_seq_k (fun K5 hK6 => ?_)
 refine wp_region_lit ?_
 refine seqL1 (by kernel_rfl) ?_
 refine wpList_nil ?_
 refine hK6 _ _ ?_
 refine wp_seq_k (fun K7 hK8 => ?_)
 refine wp_seq_k (fun K9 hK10 => ?_)
 refine wp_region_lit ?_
 refine seqL1 (by kernel_rfl) ?_
 obtain _ | ad11 := A2
 · obtain rfl := HR4.nil_eq
   have hq_ := guard_some h; clear h; obtain ⟨_, h⟩ := hq_
   refine seqL1 (by kernel_rfl) ?_
   refine wpList_nil ?_
   refine hK10 _ _ ?_
   refine condT (by kernel_rfl) ?_
   refine wp_seq_k (fun K27 hK28 => ?_)
   refine wp_region_lit ?_
   refine seqL1 (by kernel_rfl) ?_
   refine wpList_nil ?_
   refine hK28 _ _ ?_
   refine wp_ret ?_
   refine hret _ _ ?_
   have HS29 := HS.cons_nil
   refine ends_still (v := Value.slice none 0 0) (by kernel_rfl) (by kernel_rfl) ?_
   injection h with h
   subst h
   exact ⟨f, none, 0, [], rfl, FM.le.refl _, HS29, (Own.nil _)⟩
 · refine seqL1 (by kernel_rfl) ?_
   refine wpList_nil ?_
   refine hK10 _ _ ?_
   refine condF (by kernel_rfl) ?_
   refine wp_skip ?_
   refine hK8 _ _ ?_
   refine wp_seq_k (fun K12 hK13 => ?_)
   refine wp_region_lit ?_
   refine seqK rfl (does_lit (e := (tInt .i64)) (E := 3) (vs := #[]) (cs := #[]) (xs := ([] : List Int)) rfl Try.underlying22 (by kernel_rfl) (by kernel_rfl) rfl rfl HS ?_ (by decide))
   intro b14 W15 s16 HS17 _ HO18
   have hq_ := guard_some h; clear h; obtain ⟨c20, h⟩ := hq_
   have c20 : (([] : List Int).length + s1.length) * 8 ≤ 140737488355328 := c20
   refine seqL1 (by kernel_rfl) ?_
   refine seqK rfl (does_append (e := (tInt .i64)) (E := 3) (xs := ([] : List Int)) (ys := s1) rfl (by kernel_rfl : _ = Value.slice (some ⟨b14, 0, none⟩) ([] : List Int).length 0) (by kernel_rfl : _ = Value.slice (some ad11) s1.length c3) Try.underlying22 inf3 HO18 HS17 (HR4.rc HS17) c20 (lim63 c20 (by decide)) ?_)
   intro A21 c22 s23 W24 HS25 HO26
   refine seqL1 (by kernel_rfl) ?_
   refine wpList_nil ?_
   refine hK13 _ _ ?_
   refine wp_ret ?_
   refine hret _ _ ?_
   refine ends_still (v := Value.slice A21 (([] : List Int) ++ s1).length c22) (by kernel_rfl) (by kernel_rfl) ?_
   injection h with h
   subst h
   exact ⟨f, A21, c22, s23, rfl, FM.le.refl _, HS25, HO26⟩

set_option maxRecDepth 100000 in
set_option maxHeartbeats 4000000 in
theorem catalog_copies.calls (k : Nat) (A2 : Option Addr) (c3 : Nat) (l1 : List S_Change) {t w : World} {f : FM} {H : List Seg} (HS : St t w f (H)) (HR4 : SlR ty_Change f A2 c3 l1) (rr1 : List S_Change) (h : catalog_copies k l1 = some rr1) :
    Calls Try.prog 29 #[.slice A2 l1.length c3] w (fun e w' => ∃ (g : FM) (A157 : Option Addr) (c158 : Nat) (s159 : Seg), e = .returned (Value.slice A157 rr1.length c158) ∧ FM.le f g ∧ St t w' g (s159 :: H) ∧ Own ty_Change 71 g A157 c158 s159 rr1) := by
 unfold catalog_copies at h
 refine enter Try.func29 rfl (tm := #[.slice A2 l1.length c3, uV, uV, uV, uV, uV, uV, uV, uV, uV, uV, uV, uV, uV, uV, uV, uV, uV, uV, uV, uV, uV, uV, uV, uV, uV]) (by kernel_rfl) ?_
 intro B hret hnor hnp
 refine wp_seq_k (fun K5 hK6 => ?_)
 refine wp_region_lit ?_
 refine seqL1 (by kernel_rfl) ?_
 refine wpList_nil ?_
 refine hK6 _ _ ?_
 refine wp_seq_k (fun K7 hK8 => ?_)
 refine wp_region_lit ?_
 have hq_ := bind_some h; clear h; obtain ⟨vt9, hc10, h⟩ := hq_
 refine seqL1 (by kernel_rfl) ?_
 refine seqK rfl (does_call (f := 45) (args := #[.slice A2 l1.length c3]) (by kernel_rfl) (slices_Clone_Change.calls k A2 c3 l1 HS HR4 vt9 hc10) ?_)
 rintro _ W13 ⟨f11, A15, c16, s17, rfl, L12, HS14, HO18⟩
 refine ⟨_, rfl, ?_⟩
 refine seqL1 (by kernel_rfl) ?_
 refine wpList_nil ?_
 refine hK8 _ _ ?_
 refine wp_seq_k (fun K20 hK21 => ?_)
 refine wp_seq_k (fun K22 hK23 => ?_)
 refine wp_region_lit ?_
 refine seqL3 (by kernel_rfl) ?_
 refine wpList_nil ?_
 refine hK23 _ _ ?_
 refine blockK (fun B24 hx25 hn26 hr27 ho28 hp29 => ?_)
 have hq_ := bind_some h; clear h; obtain ⟨o84, hv152, h⟩ := hq_
 have J153 : ∀ (f143 : FM) (s149 : Seg) (out148 : List S_Change) (j147 : Nat → Value) (W145 : World) (a_ : Act), FM.le f11 f143 → some (out148) = some o84 → St t W145 f143 (s149 :: H) → Own ty_Change 71 f143 A15 c16 s149 out148 → out148.length = vt9.length → a_ = ⟨#[.slice A2 l1.length c3, uV, .slice none 0 0, .slice A15 out148.length c16, (j147 0), .slice A2 l1.length c3, (j147 1), (j147 2), iV (vt9.length : Int), (j147 3), (j147 4), (j147 5), (j147 6), (j147 7), (j147 8), (j147 9), (j147 10), (j147 11), (j147 12), (j147 13), (j147 14), (j147 15), (j147 16), (j147 17), (j147 18), uV], []⟩ → K20 a_ W145 := by
  intro f143 s149 out148 j147 W145 a_ L144 hj154 HS146 HO150 HL151 hfr_; subst hfr_
  injection hj154 with hj154; subst hj154; try dsimp only at h
  refine hK21 _ _ ?_
  refine wp_seq_k (fun K155 hK156 => ?_)
  refine wp_region_lit ?_
  refine seqL2 (by kernel_rfl) ?_
  refine wpList_nil ?_
  refine hK156 _ _ ?_
  refine wp_ret ?_
  refine hret _ _ ?_
  refine ends_still (v := Value.slice A15 out148.length c16) (by kernel_rfl) (by kernel_rfl) ?_
  injection h with h
  subst h
  exact ⟨f143, A15, c16, s149, rfl, (L12.trans L144), HS146, HO150⟩
 clear h; have h := hv152; clear hv152
 refine loopK (fun n_ a_ w_ => ∃ (f88 : FM) (s94 : Seg) (out93 : List S_Change) (x97 : Int) (j92 : Nat → Value), FM.le f11 f88 ∧ St t w_ f88 (s94 :: H) ∧ Own ty_Change 71 f88 A15 c16 s94 out93 ∧ out93.length = vt9.length ∧ catalog_copies.l0 k vt9 n_ out93 x97 = some o84 ∧ a_ = ⟨#[.slice A2 l1.length c3, uV, .slice none 0 0, .slice A15 out93.length c16, (j92 0), .slice A2 l1.length c3, .slice A15 vt9.length c16, .slice A15 vt9.length c16, iV (vt9.length : Int), iV x97, (j92 1), (j92 2), (j92 3), (j92 4), (j92 5), (j92 6), (j92 7), (j92 8), (j92 9), (j92 10), (j92 11), (j92 12), (j92 13), (j92 14), (j92 15), uV], []⟩) k ⟨f11, s17, vt9, 0, (fun i_ => [undef, undef, undef, undef, undef, undef, undef, undef, undef, undef, undef, undef, undef, undef, undef, undef].getD i_ undef), (FM.le.refl _), HS14, HO18, rfl, h, (by kernel_rfl)⟩ ?_
 clear h
 rintro n87 _ W90 ⟨f88, s94, out93, x97, j92, L89, HS91, HO95, HL96, h, rfl⟩ K85 hK86
 obtain _ | n87 := n87
 · exact nomatch h
 simp only [catalog_copies.l0] at h
 refine wp_seq_k (fun K98 hK99 => ?_)
 refine wp_region_lit ?_
 refine seqL1 (by kernel_rfl) ?_
 refine wpList_nil ?_
 refine hK99 _ _ ?_
 refine wp_seq_k (fun K100 hK101 => ?_)
 have hq_ := ite_some h; clear h; rcases hq_ with ⟨c103, h⟩ | ⟨c103, h⟩
 · have c103 : x97 < (vt9.length : Int) := c103
   refine wpRwI 10 (x := (decide (x97 < (vt9.length : Int)))) (v := true) (by kernel_rfl) (decide_eq_true c103) ?_
   refine condT (by kernel_rfl) ?_
   refine wp_skip ?_
   refine hK101 _ _ ?_
   refine wp_seq_k (fun K104 hK105 => ?_)
   refine blockK (fun B106 hx107 hn108 hr109 ho110 hp111 => ?_)
   refine wp_seq_k (fun K113 hK114 => ?_)
   refine wp_region_lit ?_
   refine seqL2 (by kernel_rfl) ?_
   refine wpList_nil ?_
   refine hK114 _ _ ?_
   refine wp_region_lit ?_
   have hq_ := guard_some h; clear h; obtain ⟨c115, h⟩ := hq_
   have c115 : 0 ≤ x97 := c115
   have hq_ := guard_some h; clear h; obtain ⟨c116, h⟩ := hq_
   have c116 : x97 < (out93.length : Int) := c116
   obtain ⟨b120, of121, cs117, hA122, hr118, hc119⟩ := HO95.at (i := x97) c115 c116
   obtain ⟨A123, c123, rfl, HR123⟩ := hr118
   refine seqL4 (by kernel_rfl) ?_
   refine seqK rfl (does_run (run_indexE hA122 (sz := 19) rfl Try.underlying28 (by kernel_rfl) (by kernel_rfl : _ = Value.slice A15 out93.length c16) (by kernel_rfl : _ = Value.int .i64 x97) c115 c116 W90) ?_)
   refine seqL2 (by kernel_rfl) ?_
   refine seqK rfl (does_run (run_load rfl Try.underlying22 rfl (by kernel_rfl : _ = Value.pointer (some ⟨b120, of121 + (x97 : Int).toNat * 19 + 1 + 16, none⟩)) ((hc119 HS91) 17 (by decide))) ?_)
   have hq_ := bind_some h; clear h; obtain ⟨vt124, hc125, h⟩ := hq_
   refine seqK rfl (does_call (f := 46) (args := #[.slice A123 (((rd out93 x97).Row).Frames).length c123]) (by kernel_rfl) (slices_Clone_int.calls k A123 c123 (((rd out93 x97).Row).Frames) HS91 HR123 vt124 hc125) ?_)
   rintro _ W128 ⟨f126, A130, c131, s132, rfl, L127, HS129, HO133⟩
   refine ⟨_, rfl, ?_⟩
   refine seqK rfl (does_run (run_indexE hA122 (sz := 19) rfl Try.underlying28 (by kernel_rfl) (by kernel_rfl : _ = Value.slice A15 out93.length c16) (by kernel_rfl : _ = Value.int .i64 x97) c115 c116 W128) ?_)
   obtain ⟨f135, L136, HS137, HR138⟩ := HO133.freeze HS129
   refine seqL2 (by kernel_rfl) ?_
   refine seqK rfl (does_putP (e := ty_Change) (E := 71) (fo := 17) (vs := [.slice A130 vt124.length c131]) (u := (⟨(rd out93 x97).Kind, (⟨((rd out93 x97).Row).ID, (((rd out93 x97).Row).Box), (((rd out93 x97).Row).Flux), (((rd out93 x97).Row).When), vt124, ((rd out93 x97).Row).Marks⟩ : S_Row)⟩ : S_Change)) (i := x97) rfl (by kernel_rfl) (HO95.mono (L127.trans L136)) HS137 hA122 (by kernel_rfl : _ = Value.pointer (some ⟨b120, of121 + (x97 : Int).toNat * 19 + 1 + 16, none⟩)) (by kernel_rfl : _ = Value.slice A130 vt124.length c131) rfl rfl (by intro u_ hu_; simp only [List.mem_cons, List.not_mem_nil, or_false] at hu_; subst hu_; rfl) (u0 := (rd out93 x97)) ⟨A123, c123, rfl, (HR123.mono (L127.trans L136))⟩ rfl ⟨A130, c131, rfl, HR138⟩ (Nat.le_of_ble_eq_true rfl) (hc119 HS137) c115 c116 ?_)
   intro W139 s140 HS141 HO142
   refine seqRwS 3 (A := A15) (m := out93.length) (n := (out93.set (x97).toNat (⟨(rd out93 x97).Kind, (⟨((rd out93 x97).Row).ID, (((rd out93 x97).Row).Box), (((rd out93 x97).Row).Flux), (((rd out93 x97).Row).When), vt124, ((rd out93 x97).Row).Marks⟩ : S_Row)⟩ : S_Change)).length) (c := c16) (by kernel_rfl) (List.length_set).symm ?_
   refine seqRwS 12 (A := A15) (m := out93.length) (n := (out93.set (x97).toNat (⟨(rd out93 x97).Kind, (⟨((rd out93 x97).Row).ID, (((rd out93 x97).Row).Box), (((rd out93 x97).Row).Flux), (((rd out93 x97).Row).When), vt124, ((rd out93 x97).Row).Marks⟩ : S_Row)⟩ : S_Change)).length) (c := c16) (by kernel_rfl) (List.length_set).symm ?_
   refine seqRwS 14 (A := A15) (m := out93.length) (n := (out93.set (x97).toNat (⟨(rd out93 x97).Kind, (⟨((rd out93 x97).Row).ID, (((rd out93 x97).Row).Box), (((rd out93 x97).Row).Flux), (((rd out93 x97).Row).When), vt124, ((rd out93 x97).Row).Marks⟩ : S_Row)⟩ : S_Change)).length) (c := c16) (by kernel_rfl) (List.length_set).symm ?_
   refine wpList_nil ?_
   refine hn108 _ _ ?_
   refine hK105 _ _ ?_
   refine wp_region_lit ?_
   refine seqL2 (by kernel_rfl) ?_
   refine wpList_nil ?_
   refine hK86 n87 _ _ (Nat.lt_succ_self _) ?_
   exact ⟨f135, s140, (out93.set (x97).toNat (⟨(rd out93 x97).Kind, (⟨((rd out93 x97).Row).ID, (((rd out93 x97).Row).Box), (((rd out93 x97).Row).Flux), (((rd out93 x97).Row).When), vt124, ((rd out93 x97).Row).Marks⟩ : S_Row)⟩ : S_Change)), (w64 (x97 + 1)), (fun i_ => [Value.int .i64 x97, Value.bool true, Value.int .i64 x97, Value.slice A15 (out93.set (x97).toNat (⟨(rd out93 x97).Kind, (⟨((rd out93 x97).Row).ID, (((rd out93 x97).Row).Box), (((rd out93 x97).Row).Flux), (((rd out93 x97).Row).When), vt124, ((rd out93 x97).Row).Marks⟩ : S_Row)⟩ : S_Change)).length c16, Value.int .i64 x97, Value.slice A15 (out93.set (x97).toNat (⟨(rd out93 x97).Kind, (⟨((rd out93 x97).Row).ID, (((rd out93 x97).Row).Box), (((rd out93 x97).Row).Flux), (((rd out93 x97).Row).When), vt124, ((rd out93 x97).Row).Marks⟩ : S_Row)⟩ : S_Change)).length c16, Value.int .i64 x97, Value.pointer (some ⟨b120, of121 + (x97 : Int).toNat * 19, none⟩), Value.pointer (some ⟨b120, of121 + (x97 : Int).toNat * 19 + 1, none⟩), Value.pointer (some ⟨b120, of121 + (x97 : Int).toNat * 19 + 1 + 16, none⟩), Value.slice A123 (((rd out93 x97).Row).Frames).length c123, Value.slice A130 vt124.length c131, Value.pointer (some ⟨b120, of121 + (x97 : Int).toNat * 19, none⟩), Value.pointer (some ⟨b120, of121 + (x97 : Int).toNat * 19 + 1, none⟩), Value.pointer (some ⟨b120, of121 + (x97 : Int).toNat * 19 + 1 + 16, none⟩), Value.int .i64 (w64 (x97 + 1))].getD i_ undef), (L89.trans (L127.trans L136)), HS141, HO142, (List.length_set.trans HL96), h, (by kernel_rfl)⟩
 · have c103 : ¬ (x97 < (vt9.length : Int)) := c103
   refine wpRwI 10 (x := (decide (x97 < (vt9.length : Int)))) (v := false) (by kernel_rfl) (decide_eq_false c103) ?_
   refine condF (by kernel_rfl) ?_
   refine wp_exit ?_
   refine hx25 _ _ ?_
   exact J153 f88 s94 out93 (fun i_ => [(j92 0), Value.slice A15 vt9.length c16, Value.slice A15 vt9.length c16, Value.int .i64 x97, Value.bool false, (j92 2), (j92 3), (j92 4), (j92 5), (j92 6), (j92 7), (j92 8), (j92 9), (j92 10), (j92 11), (j92 12), (j92 13), (j92 14), (j92 15)].getD i_ undef) W90 _ L89 h HS91 HO95 HL96 (by kernel_rfl)

set_option maxRecDepth 100000 in
set_option maxHeartbeats 4000000 in
theorem catalog_Diff.calls (k : Nat) (A2 : Option Addr) (c3 : Nat) (A6 : Option Addr) (c7 : Nat) (a1 : List S_Row) (b5 : List S_Row) {t w : World} {f : FM} {H : List Seg} (HS : St t w f (H)) (HR4 : SlR ty_Row f A2 c3 a1) (HR8 : SlR ty_Row f A6 c7 b5) (rr1 : List S_Change) (rr2 : Int) (h : catalog_Diff k a1 b5 = some (rr1, rr2)) :
    Calls Try.prog 8 #[.slice A2 a1.length c3, .slice A6 b5.length c7] w (fun e w' => ∃ (g : FM) (A102 : Option Addr) (c103 : Nat) (s104 : Seg), e = .returned (Value.tuple #[.slice A102 rr1.length c103, .int .i64 rr2]) ∧ FM.le f g ∧ St t w' g (s104 :: H) ∧ Own ty_Change 71 g A102 c103 s104 rr1) := by
 unfold catalog_Diff at h
 refine enter Try.func8 rfl (tm := #[.slice A2 a1.length c3, .slice A6 b5.length c7, uV, uV, uV, uV, uV, uV, uV, uV, uV, uV, uV, uV, uV, uV, uV, uV, uV, uV, uV, uV, uV]) (by kernel_rfl) ?_
 intro B hret hnor hnp
 refine wp_seq_k (fun K9 hK10 => ?_)
 refine wp_region_lit ?_
 refine seqL2 (by kernel_rfl) ?_
 refine wpList_nil ?_
 refine hK10 _ _ ?_
 refine wp_seq_k (fun K11 hK12 => ?_)
 refine wp_seq_k (fun K13 hK14 => ?_)
 refine wp_region_lit ?_
 have hq_ := bind_some h; clear h; obtain ⟨vt15, hc16, h⟩ := hq_
 refine seqL1 (by kernel_rfl) ?_
 refine seqK rfl (does_call (f := 26) (args := #[.slice A2 a1.length c3]) (by kernel_rfl) (catalog_Check.calls k A2 c3 a1 HS HR4 vt15 hc16) ?_)
 rintro _ W19 ⟨f17, rfl, L18, HS20⟩
 refine ⟨_, rfl, ?_⟩
 have hq_ := bind_some h; clear h; obtain ⟨vt21, hc22, h⟩ := hq_
 refine seqL1 (by kernel_rfl) ?_
 refine seqK rfl (does_call (f := 26) (args := #[.slice A6 b5.length c7]) (by kernel_rfl) (catalog_Check.calls k A6 c7 b5 HS20 (HR8.mono L18) vt21 hc22) ?_)
 rintro _ W25 ⟨f23, rfl, L24, HS26⟩
 refine ⟨_, rfl, ?_⟩
 refine seqK rfl (does_lit (e := (tInt .i64)) (E := 29) (vs := #[(0, Value.int .i64 vt15), (1, Value.int .i64 vt21)]) (cs := #[.int .i64 vt15, .int .i64 vt21]) (xs := ([vt15, vt21] : List Int)) rfl Try.underlying102 (by kernel_rfl) (by kernel_rfl) ⟨[.int .i64 vt15], _, rfl, rfl, ⟨[.int .i64 vt21], _, rfl, rfl, rfl⟩⟩ rfl HS26 ?_ (by decide))
 intro b27 W28 s29 HS30 _ HO31
 obtain ⟨f33, L34, HS35, HR36, th37⟩ := HO31.lend HS30
 have hq_ := bind_some h; clear h; obtain ⟨vt38, hc39, h⟩ := hq_
 refine seqK rfl (does_call (f := 25) (args := #[.slice (some ⟨b27, 0, none⟩) ([vt15, vt21] : List Int).length 2]) (by kernel_rfl) (cmp_Or_Errno.calls k (some ⟨b27, 0, none⟩) 2 ([vt15, vt21] : List Int) HS35 HR36 vt38 hc39) ?_)
 rintro _ W42 ⟨f40, rfl, L41, HS43⟩
 refine ⟨_, rfl, ?_⟩
 obtain ⟨f44, L45, HS46⟩ := th37 L41 HS43
 refine seqL1 (by kernel_rfl) ?_
 refine wpList_nil ?_
 refine hK14 _ _ ?_
 refine wp_seq_k (fun K47 hK48 => ?_)
 refine wp_region_lit ?_
 refine seqL2 (by kernel_rfl) ?_
 refine wpList_nil ?_
 refine hK48 _ _ ?_
 have hq_ := ite_some h; clear h; rcases hq_ with ⟨c50, h⟩ | ⟨c50, h⟩
 · have c50 : vt38 ≠ 0 := c50
   refine wpRwI 15 (x := (vt38 != 0)) (v := true) (by kernel_rfl) (bne_iff_ne.mpr c50) ?_
   refine condT (by kernel_rfl) ?_
   refine wp_seq_k (fun K51 hK52 => ?_)
   refine wp_region_lit ?_
   refine seqL3 (by kernel_rfl) ?_
   refine wpList_nil ?_
   refine hK52 _ _ ?_
   refine wp_ret ?_
   refine hret _ _ ?_
   have HS94 := HS46.cons_nil
   refine ends_still (v := Value.tuple #[.slice none 0 0, .int .i64 vt38]) (by kernel_rfl) (by kernel_rfl) ?_
   have HS96 := HS94.u1
   have HS97 := HS96.drop
   injection h with h
   injection h with h0_ h
   subst h0_ h
   exact ⟨f44, none, 0, [], rfl, (L18.trans (L24.trans L45)), HS97, (Own.nil _)⟩
 · have c50 : ¬ (vt38 ≠ 0) := c50
   refine wpRwI 15 (x := (vt38 != 0)) (v := false) (by kernel_rfl) (bne_eq_false_iff_eq.mpr (Decidable.of_not_not c50)) ?_
   refine condF (by kernel_rfl) ?_
   refine wp_skip ?_
   refine hK12 _ _ ?_
   refine wp_seq_k (fun K53 hK54 => ?_)
   refine wp_region_lit ?_
   refine seqK rfl (does_alloc (z := Value.slice none 0 0) (cs := #[.slice none 0 0]) rfl (by kernel_rfl) rfl HS46 ?_)
   intro b55 W56 HS57
   refine wpList_nil ?_
   refine hK54 _ _ ?_
   refine wp_seq_k (fun K59 hK60 => ?_)
   refine wp_region_lit ?_
   have HS62 := HS57.cons_nil
   have HO63 : Own ty_Change 71 f44 none 0 [] ([] : List S_Change) := Own.nil _
   have HS64 : St t W56 f44 (([] : Seg) :: [(b55, .cells #[.slice none ([] : List S_Change).length 0] 28 (0, 0))] :: s29 :: H) := HS62
   have HS65 := HS64.u1
   have hq_ := bind_some h; clear h; obtain ⟨vt66, hc67, h⟩ := hq_
   refine seqL3 (by kernel_rfl) ?_
   refine seqK rfl (does_call (f := 27) (args := #[.slice A2 a1.length c3, .slice A6 b5.length c7, .func (.func 28) #[] #[.pointer (some ⟨b55, 0, none⟩)]]) (by kernel_rfl) (catalog_pairs__catalog_Diff_1.calls k b55 none 0 ([] : Seg) A2 c3 A6 c7 ([] : List S_Change) a1 b5 HS65 HO63 (HR4.mono (L18.trans (L24.trans L45))) (HR8.mono (L18.trans (L24.trans L45))) vt66 hc67) ?_)
   rintro _ W70 ⟨f68, A72, c73, s74, rfl, L69, HS71, HO75⟩
   refine ⟨_, rfl, ?_⟩
   refine wpList_nil ?_
   refine hK60 _ _ ?_
   refine wp_seq_k (fun K77 hK78 => ?_)
   refine wp_region_lit ?_
   refine seqK rfl (does_run (run_load rfl Try.underlying28 rfl (by kernel_rfl : _ = Value.pointer (some ⟨b55, 0, none⟩)) (HS71.u1.cell 0)) ?_)
   obtain ⟨f79, L80, HS81, HR82⟩ := HO75.freeze HS71
   have hq_ := bind_some h; clear h; obtain ⟨vt83, hc84, h⟩ := hq_
   refine seqK rfl (does_call (f := 29) (args := #[.slice A72 vt66.length c73]) (by kernel_rfl) (catalog_copies.calls k A72 c73 vt66 HS81 HR82 vt83 hc84) ?_)
   rintro _ W87 ⟨f85, A89, c90, s91, rfl, L86, HS88, HO92⟩
   refine ⟨_, rfl, ?_⟩
   refine seqL2 (by kernel_rfl) ?_
   refine wpList_nil ?_
   refine hK78 _ _ ?_
   refine wp_ret ?_
   refine hret _ _ ?_
   refine ends_still (v := Value.tuple #[.slice A89 vt83.length c90, .int .i64 0]) (by kernel_rfl) (by kernel_rfl) ?_
   have HS98 := HS88.u2
   have HS99 := HS98.u2
   have HS100 := HS99.drop
   have HS101 := HS100.drop
   injection h with h
   injection h with h0_ h
   subst h0_ h
   exact ⟨f85, A89, c90, s91, rfl, (L18.trans (L24.trans (L45.trans (L69.trans (L80.trans L86))))), HS101, HO92⟩

set_option maxRecDepth 100000 in
set_option maxHeartbeats 4000000 in
theorem catalog_shape.calls (k : Nat) (A2 : Option Addr) (c3 : Nat) (c1 : S_Change) {t w : World} {f : FM} {H : List Seg} (HS : St t w f (H)) (HR4 : SlR (tInt .i64) f A2 c3 c1.Row.Frames) (rr1 : Int) (h : catalog_shape k c1 = some rr1) :
    Calls Try.prog 47 #[.agg #[.int .i64 c1.Kind, .int .i64 c1.Row.ID, .int .i64 c1.Row.Box.X.Lo, .int .i64 c1.Row.Box.X.Hi, .bool c1.Row.Box.X.Unknown, .int .i64 c1.Row.Box.Y.Lo, .int .i64 c1.Row.Box.Y.Hi, .bool c1.Row.Box.Y.Unknown, .int .i64 c1.Row.Box.Z.Lo, .int .i64 c1.Row.Box.Z.Hi, .bool c1.Row.Box.Z.Unknown, .int .i64 c1.Row.Flux.Lo, .int .i64 c1.Row.Flux.Hi, .bool c1.Row.Flux.Unknown, .int .i64 c1.Row.When.Lo, .int .i64 c1.Row.When.Hi, .bool c1.Row.When.Unknown, .slice A2 c1.Row.Frames.length c3, .int .i64 c1.Row.Marks]] w (fun e w' => ∃ (g : FM), e = .returned (Value.int .i64 rr1) ∧ FM.le f g ∧ St t w' g (H)) := by
 unfold catalog_shape at h
 refine enter Try.func47 rfl (tm := #[(ag_Change c1 A2 c3), uV, uV, uV, uV, uV, uV, uV, uV, uV, uV, uV, uV, uV, uV, uV, uV, uV, uV, uV, uV, uV, uV, uV, uV, uV, uV, uV, uV, uV, uV]) (by kernel_rfl) ?_
 intro B hret hnor hnp
 refine wp_seq_k (fun K5 hK6 => ?_)
 refine wp_region_lit ?_
 refine seqK rfl (does_box (cs := #[.int .i64 c1.Kind, .int .i64 c1.Row.ID, .int .i64 c1.Row.Box.X.Lo, .int .i64 c1.Row.Box.X.Hi, .bool c1.Row.Box.X.Unknown, .int .i64 c1.Row.Box.Y.Lo, .int .i64 c1.Row.Box.Y.Hi, .bool c1.Row.Box.Y.Unknown, .int .i64 c1.Row.Box.Z.Lo, .int .i64 c1.Row.Box.Z.Hi, .bool c1.Row.Box.Z.Unknown, .int .i64 c1.Row.Flux.Lo, .int .i64 c1.Row.Flux.Hi, .bool c1.Row.Flux.Unknown, .int .i64 c1.Row.When.Lo, .int .i64 c1.Row.When.Hi, .bool c1.Row.When.Unknown, .slice A2 c1.Row.Frames.length c3, .int .i64 c1.Row.Marks]) rfl (by kernel_rfl : _ = Value.agg #[.int .i64 c1.Kind, .int .i64 c1.Row.ID, .int .i64 c1.Row.Box.X.Lo, .int .i64 c1.Row.Box.X.Hi, .bool c1.Row.Box.X.Unknown, .int .i64 c1.Row.Box.Y.Lo, .int .i64 c1.Row.Box.Y.Hi, .bool c1.Row.Box.Y.Unknown, .int .i64 c1.Row.Box.Z.Lo, .int .i64 c1.Row.Box.Z.Hi, .bool c1.Row.Box.Z.Unknown, .int .i64 c1.Row.Flux.Lo, .int .i64 c1.Row.Flux.Hi, .bool c1.Row.Flux.Unknown, .int .i64 c1.Row.When.Lo, .int .i64 c1.Row.When.Hi, .bool c1.Row.When.Unknown, .slice A2 c1.Row.Frames.length c3, .int .i64 c1.Row.Marks]) rfl HS ?_)
 intro b7 W8 HS9
 refine seqL1 (by kernel_rfl) ?_
 refine wpList_nil ?_
 refine hK6 _ _ ?_
 refine wp_seq_k (fun K11 hK12 => ?_)
 refine wp_seq_k (fun K13 hK14 => ?_)
 refine wp_region_lit ?_
 refine seqL1 (by kernel_rfl) ?_
 refine seqK rfl (does_run (run_load rfl Try.underlying3 rfl (by kernel_rfl : _ = Value.pointer (some ⟨b7, 0, none⟩)) (HS9.cell 0)) ?_)
 refine wpList_nil ?_
 refine hK14 _ _ ?_
 refine blockK (fun B15 hx16 hn17 hr18 ho19 hp20 => ?_)
 refine wp_seq_k (fun K22 hK23 => ?_)
 refine wp_seq_k (fun K24 hK25 => ?_)
 refine wp_region_lit ?_
 refine seqL2 (by kernel_rfl) ?_
 refine wpList_nil ?_
 refine hK25 _ _ ?_
 have hq_ := bind_some h; clear h; obtain ⟨v26, hv34, h⟩ := hq_
 have J35 : ∀ (f28 : FM) (x33 : Bool) (j32 : Nat → Value) (W30 : World) (a_ : Act), FM.le f f28 → some (x33) = some v26 → St t W30 f28 ([(b7, .cells #[.int .i64 c1.Kind, .int .i64 c1.Row.ID, .int .i64 c1.Row.Box.X.Lo, .int .i64 c1.Row.Box.X.Hi, .bool c1.Row.Box.X.Unknown, .int .i64 c1.Row.Box.Y.Lo, .int .i64 c1.Row.Box.Y.Hi, .bool c1.Row.Box.Y.Unknown, .int .i64 c1.Row.Box.Z.Lo, .int .i64 c1.Row.Box.Z.Hi, .bool c1.Row.Box.Z.Unknown, .int .i64 c1.Row.Flux.Lo, .int .i64 c1.Row.Flux.Hi, .bool c1.Row.Flux.Unknown, .int .i64 c1.Row.When.Lo, .int .i64 c1.Row.When.Hi, .bool c1.Row.When.Unknown, .slice A2 c1.Row.Frames.length c3, .int .i64 c1.Row.Marks] 71 (0, 0))] :: H) → a_ = ⟨#[(ag_Change c1 A2 c3), pV b7 0, iV 0, pV b7 0, iV c1.Kind, .bool x33, .bool (c1.Kind == 1), (j32 0), uV, uV, uV, uV, uV, uV, uV, uV, uV, uV, uV, uV, uV, uV, uV, uV, uV, uV, uV, uV, uV, uV, uV], []⟩ → K22 a_ W30 := by
  intro f28 x33 j32 W30 a_ L29 hj36 HS31  hfr_; subst hfr_
  injection hj36 with hj36; subst hj36; try dsimp only at h
  refine hK23 _ _ ?_
  have hq_ := ite_some h; clear h; rcases hq_ with ⟨c38, h⟩ | ⟨c38, h⟩
  · have c38 : x33 = true := c38
    refine wpRwI 5 (x := x33) (v := true) (by kernel_rfl) c38 ?_
    refine condT (by kernel_rfl) ?_
    refine wp_seq_k (fun K39 hK40 => ?_)
    refine wp_region_lit ?_
    refine seqL1 (by kernel_rfl) ?_
    refine seqK rfl (does_run (run_loadN (n := 18) rfl Try.underlying65 rfl (by kernel_rfl) (by kernel_rfl : _ = Value.pointer (some ⟨b7, 1, none⟩)) (cs := [.int .i64 c1.Row.ID, .int .i64 c1.Row.Box.X.Lo, .int .i64 c1.Row.Box.X.Hi, .bool c1.Row.Box.X.Unknown, .int .i64 c1.Row.Box.Y.Lo, .int .i64 c1.Row.Box.Y.Hi, .bool c1.Row.Box.Y.Unknown, .int .i64 c1.Row.Box.Z.Lo, .int .i64 c1.Row.Box.Z.Hi, .bool c1.Row.Box.Z.Unknown, .int .i64 c1.Row.Flux.Lo, .int .i64 c1.Row.Flux.Hi, .bool c1.Row.Flux.Unknown, .int .i64 c1.Row.When.Lo, .int .i64 c1.Row.When.Hi, .bool c1.Row.When.Unknown, .slice A2 c1.Row.Frames.length c3, .int .i64 c1.Row.Marks]) rfl (HS31.cells 1 18 _ rfl)) ?_)
    have hq_ := bind_some h; clear h; obtain ⟨vt41, hc42, h⟩ := hq_
    refine seqK rfl (does_call (f := 44) (args := #[.agg #[.int .i64 c1.Row.ID, .int .i64 c1.Row.Box.X.Lo, .int .i64 c1.Row.Box.X.Hi, .bool c1.Row.Box.X.Unknown, .int .i64 c1.Row.Box.Y.Lo, .int .i64 c1.Row.Box.Y.Hi, .bool c1.Row.Box.Y.Unknown, .int .i64 c1.Row.Box.Z.Lo, .int .i64 c1.Row.Box.Z.Hi, .bool c1.Row.Box.Z.Unknown, .int .i64 c1.Row.Flux.Lo, .int .i64 c1.Row.Flux.Hi, .bool c1.Row.Flux.Unknown, .int .i64 c1.Row.When.Lo, .int .i64 c1.Row.When.Hi, .bool c1.Row.When.Unknown, .slice A2 c1.Row.Frames.length c3, .int .i64 c1.Row.Marks]]) (by kernel_rfl) (catalog_CheckRow.calls k A2 c3 c1.Row HS31 (HR4.mono L29) vt41 hc42) ?_)
    rintro _ W45 ⟨f43, rfl, L44, HS46⟩
    refine ⟨_, rfl, ?_⟩
    refine seqL1 (by kernel_rfl) ?_
    refine wpList_nil ?_
    refine hK40 _ _ ?_
    refine wp_ret ?_
    refine hr18 _ _ ?_
    refine hret _ _ ?_
    refine ends_still (v := Value.int .i64 vt41) (by kernel_rfl) (by kernel_rfl) ?_
    have HS80 := HS46.drop
    injection h with h
    subst h
    exact ⟨f43, rfl, (L29.trans L44), HS80⟩
  · have c38 : ¬ (x33 = true) := c38
    refine wpRwI 5 (x := x33) (v := false) (by kernel_rfl) (Bool.eq_false_iff.mpr c38) ?_
    refine condF (by kernel_rfl) ?_
    refine wp_seq_k (fun K47 hK48 => ?_)
    refine wp_region_lit ?_
    refine seqL2 (by kernel_rfl) ?_
    refine wpList_nil ?_
    refine hK48 _ _ ?_
    have hq_ := ite_some h; clear h; rcases hq_ with ⟨c50, h⟩ | ⟨c50, h⟩
    · have c50 : c1.Kind = 3 := c50
      refine wpRwI 11 (x := (c1.Kind == 3)) (v := true) (by kernel_rfl) (beq_iff_eq.mpr c50) ?_
      refine wpRwI 12 (x := (c1.Kind == 3)) (v := true) (by kernel_rfl) (beq_iff_eq.mpr c50) ?_
      refine condT (by kernel_rfl) ?_
      refine wp_seq_k (fun K51 hK52 => ?_)
      refine wp_seq_k (fun K53 hK54 => ?_)
      refine wp_region_lit ?_
      refine seqL2 (by kernel_rfl) ?_
      refine seqK rfl (does_run (run_load rfl Try.underlying3 rfl (by kernel_rfl : _ = Value.pointer (some ⟨b7, 1, none⟩)) (HS31.cell 1)) ?_)
      refine seqL2 (by kernel_rfl) ?_
      have hq_ := ite_some h; clear h; rcases hq_ with ⟨c55, h⟩ | ⟨c55, h⟩
      · have c55 : c1.Row.ID < 1 := c55
        refine seqRwI 16 (x := (decide (c1.Row.ID < 1))) (v := true) (by kernel_rfl) (decide_eq_true c55) ?_
        refine seqRwI 17 (x := (decide (c1.Row.ID < 1))) (v := true) (by kernel_rfl) (decide_eq_true c55) ?_
        refine seqL5 (by kernel_rfl) ?_
        refine wpList_nil ?_
        refine hK54 _ _ ?_
        refine condT (by kernel_rfl) ?_
        refine wp_seq_k (fun K56 hK57 => ?_)
        refine wp_region_lit ?_
        refine seqL1 (by kernel_rfl) ?_
        refine wpList_nil ?_
        refine hK57 _ _ ?_
        refine wp_ret ?_
        refine hr18 _ _ ?_
        refine hret _ _ ?_
        refine ends_still (v := Value.int .i64 4) (by kernel_rfl) (by kernel_rfl) ?_
        have HS81 := HS31.drop
        injection h with h
        subst h
        exact ⟨f28, rfl, L29, HS81⟩
      · have c55 : ¬ (c1.Row.ID < 1) := c55
        refine seqRwI 16 (x := (decide (c1.Row.ID < 1))) (v := false) (by kernel_rfl) (decide_eq_false c55) ?_
        refine seqRwI 17 (x := (decide (c1.Row.ID < 1))) (v := false) (by kernel_rfl) (decide_eq_false c55) ?_
        refine seqL2 (by kernel_rfl) ?_
        refine seqG (by kernel_rfl) (does_run (run_load rfl Try.underlying3 rfl (by kernel_rfl : _ = Value.pointer (some ⟨b7, 1, none⟩)) (HS31.cell 1)) ?_)
        refine seqL2 (by kernel_rfl) ?_
        refine wpList_nil ?_
        refine hK54 _ _ ?_
        have hq_ := ite_some h; clear h; rcases hq_ with ⟨c59, h⟩ | ⟨c59, h⟩
        · have c59 : c1.Row.ID > 2147483647 := c59
          refine wpRwI 21 (x := (decide (c1.Row.ID > 2147483647))) (v := true) (by kernel_rfl) (decide_eq_true c59) ?_
          refine wpRwI 22 (x := (decide (c1.Row.ID > 2147483647))) (v := true) (by kernel_rfl) (decide_eq_true c59) ?_
          refine condT (by kernel_rfl) ?_
          refine wp_seq_k (fun K60 hK61 => ?_)
          refine wp_region_lit ?_
          refine seqL1 (by kernel_rfl) ?_
          refine wpList_nil ?_
          refine hK61 _ _ ?_
          refine wp_ret ?_
          refine hr18 _ _ ?_
          refine hret _ _ ?_
          refine ends_still (v := Value.int .i64 4) (by kernel_rfl) (by kernel_rfl) ?_
          have HS82 := HS31.drop
          injection h with h
          subst h
          exact ⟨f28, rfl, L29, HS82⟩
        · have c59 : ¬ (c1.Row.ID > 2147483647) := c59
          refine wpRwI 21 (x := (decide (c1.Row.ID > 2147483647))) (v := false) (by kernel_rfl) (decide_eq_false c59) ?_
          refine wpRwI 22 (x := (decide (c1.Row.ID > 2147483647))) (v := false) (by kernel_rfl) (decide_eq_false c59) ?_
          refine condF (by kernel_rfl) ?_
          refine wp_skip ?_
          refine hK52 _ _ ?_
          refine wp_seq_k (fun K62 hK63 => ?_)
          refine wp_seq_k (fun K64 hK65 => ?_)
          refine wp_region_lit ?_
          refine seqL1 (by kernel_rfl) ?_
          refine seqK rfl (does_run (run_loadN (n := 18) rfl Try.underlying65 rfl (by kernel_rfl) (by kernel_rfl : _ = Value.pointer (some ⟨b7, 1, none⟩)) (cs := [.int .i64 c1.Row.ID, .int .i64 c1.Row.Box.X.Lo, .int .i64 c1.Row.Box.X.Hi, .bool c1.Row.Box.X.Unknown, .int .i64 c1.Row.Box.Y.Lo, .int .i64 c1.Row.Box.Y.Hi, .bool c1.Row.Box.Y.Unknown, .int .i64 c1.Row.Box.Z.Lo, .int .i64 c1.Row.Box.Z.Hi, .bool c1.Row.Box.Z.Unknown, .int .i64 c1.Row.Flux.Lo, .int .i64 c1.Row.Flux.Hi, .bool c1.Row.Flux.Unknown, .int .i64 c1.Row.When.Lo, .int .i64 c1.Row.When.Hi, .bool c1.Row.When.Unknown, .slice A2 c1.Row.Frames.length c3, .int .i64 c1.Row.Marks]) rfl (HS31.cells 1 18 _ rfl)) ?_)
          refine seqL2 (by kernel_rfl) ?_
          refine seqK rfl (does_run (run_load rfl Try.underlying3 rfl (by kernel_rfl : _ = Value.pointer (some ⟨b7, 1, none⟩)) (HS31.cell 1)) ?_)
          have hq_ := bind_some h; clear h; obtain ⟨vt66, hc67, h⟩ := hq_
          refine seqL1 (by kernel_rfl) ?_
          refine seqK rfl (does_call (f := 21) (args := #[.agg #[.int .i64 c1.Row.ID, .int .i64 c1.Row.Box.X.Lo, .int .i64 c1.Row.Box.X.Hi, .bool c1.Row.Box.X.Unknown, .int .i64 c1.Row.Box.Y.Lo, .int .i64 c1.Row.Box.Y.Hi, .bool c1.Row.Box.Y.Unknown, .int .i64 c1.Row.Box.Z.Lo, .int .i64 c1.Row.Box.Z.Hi, .bool c1.Row.Box.Z.Unknown, .int .i64 c1.Row.Flux.Lo, .int .i64 c1.Row.Flux.Hi, .bool c1.Row.Flux.Unknown, .int .i64 c1.Row.When.Lo, .int .i64 c1.Row.When.Hi, .bool c1.Row.When.Unknown, .slice A2 c1.Row.Frames.length c3, .int .i64 c1.Row.Marks], .agg #[.int .i64 c1.Row.ID, .int .i64 0, .int .i64 0, .bool false, .int .i64 0, .int .i64 0, .bool false, .int .i64 0, .int .i64 0, .bool false, .int .i64 0, .int .i64 0, .bool false, .int .i64 0, .int .i64 0, .bool false, .slice none 0 0, .int .i64 0]]) (by kernel_rfl) (catalog_Same.calls k A2 c3 none 0 c1.Row (⟨c1.Row.ID, (⟨(⟨0, 0, false⟩ : S_Bound), (⟨0, 0, false⟩ : S_Bound), (⟨0, 0, false⟩ : S_Bound)⟩ : S_Box), (⟨0, 0, false⟩ : S_Bound), (⟨0, 0, false⟩ : S_Bound), ([] : List Int), 0⟩ : S_Row) HS31 (HR4.mono L29) (SlR.nil _ _) vt66 hc67) ?_)
          rintro _ W70 ⟨f68, rfl, L69, HS71⟩
          refine ⟨_, rfl, ?_⟩
          refine seqS1 (a' := ⟨#[(ag_Change c1 A2 c3), pV b7 0, iV 0, pV b7 0, iV c1.Kind, fV, .bool (c1.Kind == 1), (j32 0), uV, uV, uV, tV, tV, pV b7 1, pV b7 1, iV c1.Row.ID, fV, fV, pV b7 1, pV b7 1, iV c1.Row.ID, fV, fV, pV b7 1, (ag_Row c1.Row A2 c3), pV b7 1, pV b7 1, iV c1.Row.ID, .agg #[iV c1.Row.ID, iV 0, iV 0, fV, iV 0, iV 0, fV, iV 0, iV 0, fV, iV 0, iV 0, fV, iV 0, iV 0, fV, .slice none 0 0, iV 0], .bool vt66, .bool (!vt66)], []⟩) (by kernel_rfl) ?_
          refine wpList_nil ?_
          refine hK65 _ _ ?_
          have hq_ := ite_some h; clear h; rcases hq_ with ⟨c73, h⟩ | ⟨c73, h⟩
          · have c73 : ¬ (vt66 = true) := c73
            refine wpRwI 30 (x := (!vt66)) (v := true) (by kernel_rfl) (congrArg (fun b_ => !b_) (show vt66 = false from (Bool.eq_false_iff.mpr c73)) : (!vt66) = true) ?_
            refine condT (by kernel_rfl) ?_
            refine wp_seq_k (fun K74 hK75 => ?_)
            refine wp_region_lit ?_
            refine seqL1 (by kernel_rfl) ?_
            refine wpList_nil ?_
            refine hK75 _ _ ?_
            refine wp_ret ?_
            refine hr18 _ _ ?_
            refine hret _ _ ?_
            refine ends_still (v := Value.int .i64 3) (by kernel_rfl) (by kernel_rfl) ?_
            have HS83 := HS71.drop
            injection h with h
            subst h
            exact ⟨f68, rfl, (L29.trans L69), HS83⟩
          · have c73 : ¬ (¬ (vt66 = true)) := c73
            refine wpRwI 30 (x := (!vt66)) (v := false) (by kernel_rfl) (congrArg (fun b_ => !b_) (show vt66 = true from (Decidable.of_not_not c73)) : (!vt66) = false) ?_
            refine condF (by kernel_rfl) ?_
            refine wp_skip ?_
            refine hK63 _ _ ?_
            refine wp_seq_k (fun K76 hK77 => ?_)
            refine wp_region_lit ?_
            refine seqL1 (by kernel_rfl) ?_
            refine wpList_nil ?_
            refine hK77 _ _ ?_
            refine wp_ret ?_
            refine hr18 _ _ ?_
            refine hret _ _ ?_
            refine ends_still (v := Value.int .i64 0) (by kernel_rfl) (by kernel_rfl) ?_
            have HS84 := HS71.drop
            injection h with h
            subst h
            exact ⟨f68, rfl, (L29.trans L69), HS84⟩
    · have c50 : ¬ (c1.Kind = 3) := c50
      refine wpRwI 11 (x := (c1.Kind == 3)) (v := false) (by kernel_rfl) (beq_eq_false_iff_ne.mpr c50) ?_
      refine wpRwI 12 (x := (c1.Kind == 3)) (v := false) (by kernel_rfl) (beq_eq_false_iff_ne.mpr c50) ?_
      refine condF (by kernel_rfl) ?_
      refine wp_skip ?_
      refine hn17 _ _ ?_
      refine hK12 _ _ ?_
      refine wp_seq_k (fun K78 hK79 => ?_)
      refine wp_region_lit ?_
      refine seqL1 (by kernel_rfl) ?_
      refine wpList_nil ?_
      refine hK79 _ _ ?_
      refine wp_ret ?_
      refine hret _ _ ?_
      refine ends_still (v := Value.int .i64 12) (by kernel_rfl) (by kernel_rfl) ?_
      have HS85 := HS31.drop
      injection h with h
      subst h
      exact ⟨f28, rfl, L29, HS85⟩
 clear h; have h := hv34; clear hv34
 have hq_ := ite_some h; clear h; rcases hq_ with ⟨c27, h⟩ | ⟨c27, h⟩
 · have c27 : c1.Kind = 1 := c27
   refine wpRwI 5 (x := (c1.Kind == 1)) (v := true) (by kernel_rfl) (beq_iff_eq.mpr c27) ?_
   refine wpRwI 6 (x := (c1.Kind == 1)) (v := true) (by kernel_rfl) (beq_iff_eq.mpr c27) ?_
   refine condT (by kernel_rfl) ?_
   refine wp_skip ?_
   refine fnRwI (F := K22) 6 (x := true) (v := (c1.Kind == 1)) (by kernel_rfl) (Eq.symm (beq_iff_eq.mpr c27)) ?_
   refine fnRwI (F := K22) 5 (x := true) (v := (c1.Kind == 1)) (by kernel_rfl) (Eq.symm (beq_iff_eq.mpr c27)) ?_
   exact J35 f (c1.Kind == 1) (fun i_ => [undef].getD i_ undef) W8 _ (FM.le.refl _) h HS9 (by kernel_rfl)
 · have c27 : ¬ (c1.Kind = 1) := c27
   refine wpRwI 5 (x := (c1.Kind == 1)) (v := false) (by kernel_rfl) (beq_eq_false_iff_ne.mpr c27) ?_
   refine wpRwI 6 (x := (c1.Kind == 1)) (v := false) (by kernel_rfl) (beq_eq_false_iff_ne.mpr c27) ?_
   refine condF (by kernel_rfl) ?_
   refine wp_region_lit ?_
   refine seqL2 (by kernel_rfl) ?_
   refine wpList_nil ?_
   refine fnRwI (F := K22) 6 (x := false) (v := (c1.Kind == 1)) (by kernel_rfl) (Eq.symm (beq_eq_false_iff_ne.mpr c27)) ?_
   exact J35 f (c1.Kind == 2) (fun i_ => [Value.bool (c1.Kind == 2)].getD i_ undef) W8 _ (FM.le.refl _) h HS9 (by kernel_rfl)

end Go.Sp.K5
