import Derived.Test.YtpdemjoehkgohaaProg
import Derived.Test.YtpdemjoehkgohaaSpCopy
import Derived.Test.YtpdemjoehkgohaaFM4
import Derived.Test.YtpdemjoehkgohaaSpSort
import Derived.Test.YtpdemjoehkgohaaShelf
import Derived.Test.YtpdemjoehkgohaaSpMapR
import Derived.Test.YtpdemjoehkgohaaSpKeys
import Derived.Test.YtpdemjoehkgohaaSpRound
import Derived.Test.YtpdemjoehkgohaaKM4n0
import Derived.Test.YtpdemjoehkgohaaKM4n1
import Derived.Test.YtpdemjoehkgohaaKM4n2
namespace Go.Sp.M4
open Go Go.Sp Go.Proofs
set_option linter.unusedVariables false
attribute [local irreducible] wpList AnyL Code.wp Calls Does Code.wpIn wpListIn CallsIn bodyPostM LeavesInM
set_option maxRecDepth 100000 in
set_option maxHeartbeats 4000000 in
theorem catalog_Check.calls (k : Nat) (A2 : Option Addr) (c3 : Nat) (l1 : List S_Row) {t w : World} {f : FM} {H : List Seg} (HS : St t w f (H)) (HR4 : SlR ty_Row f A2 c3 l1) (rr1 : Int) (h : catalog_Check k l1 = some rr1) :
    Calls Try.prog 26 #[.slice A2 l1.length c3] w (fun e w' => ∃ (g : FM), e = .returned (Value.int .i64 rr1) ∧ FM.le f g ∧ St t w' g (H)) := by
 unfold catalog_Check at h
 refine enter Try.func26 rfl (tm := #[.slice A2 l1.length c3, uV, uV, uV, uV, uV, uV, uV, uV, uV, uV, uV, uV, uV, uV, uV, uV, uV, uV, uV, uV, uV, uV, uV, uV, uV, uV, uV, uV, uV, uV, uV, uV, uV, uV]) (by kernel_rfl) ?_
 intro B hret hnor hnp
 refine wp_seq_k (fun K5 hK6 => ?_)
 refine wp_region_lit ?_
 refine seqL1 (by kernel_rfl) ?_
 refine wpList_nil ?_
 refine hK6 _ _ ?_
 refine wp_seq_k (fun K7 hK8 => ?_)
 refine wp_seq_k (fun K9 hK10 => ?_)
 refine wp_region_lit ?_
 refine seqL3 (by kernel_rfl) ?_
 refine wpList_nil ?_
 refine hK10 _ _ ?_
 have hq_ := ite_some h; clear h; rcases hq_ with ⟨c12, h⟩ | ⟨c12, h⟩
 · have c12 : (l1.length : Int) > 200 := c12
   refine wpRwI 8 (x := (decide ((l1.length : Int) > 200))) (v := true) (by kernel_rfl) (decide_eq_true c12) ?_
   refine condT (by kernel_rfl) ?_
   refine wp_seq_k (fun K13 hK14 => ?_)
   refine wp_region_lit ?_
   refine seqL1 (by kernel_rfl) ?_
   refine wpList_nil ?_
   refine hK14 _ _ ?_
   refine wp_ret ?_
   refine hret _ _ ?_
   refine ends_still (v := Value.int .i64 2) (by kernel_rfl) (by kernel_rfl) ?_
   injection h with h
   subst h
   exact ⟨f, rfl, FM.le.refl _, HS⟩
 · have c12 : ¬ ((l1.length : Int) > 200) := c12
   refine wpRwI 8 (x := (decide ((l1.length : Int) > 200))) (v := false) (by kernel_rfl) (decide_eq_false c12) ?_
   refine condF (by kernel_rfl) ?_
   refine wp_skip ?_
   refine hK8 _ _ ?_
   refine wp_seq_k (fun K15 hK16 => ?_)
   refine wp_seq_k (fun K17 hK18 => ?_)
   refine wp_region_lit ?_
   refine seqL3 (by kernel_rfl) ?_
   refine wpList_nil ?_
   refine hK18 _ _ ?_
   refine blockK (fun B19 hx20 hn21 hr22 ho23 hp24 => ?_)
   have hq_ := bind_some h; clear h; obtain ⟨o25, hv105, h⟩ := hq_
   have JR107 : ∀ z_, some (Sum.inl z_) = some o25 → some z_ = some rr1 := by
    intro z_ e_; injection e_ with e_; subst e_; exact h
   have J106 : ∀ (f100 : FM) (j104 : Nat → Value) (W102 : World) (a_ : Act), FM.le f f100 → some (Sum.inr ()) = some o25 → St t W102 f100 (H) → a_ = ⟨#[.slice A2 l1.length c3, uV, (j104 0), (j104 1), (j104 2), (j104 3), .slice A2 l1.length c3, iV (l1.length : Int), fV, .slice A2 l1.length c3, iV (l1.length : Int), (j104 4), (j104 5), (j104 6), (j104 7), (j104 8), (j104 9), (j104 10), (j104 11), (j104 12), (j104 13), (j104 14), (j104 15), (j104 16), (j104 17), (j104 18), (j104 19), (j104 20), (j104 21), (j104 22), (j104 23), (j104 24), (j104 25), (j104 26), (j104 27)], []⟩ → K15 a_ W102 := by
    intro f100 j104 W102 a_ L101 hj108 HS103  hfr_; subst hfr_
    injection hj108 with hj108; subst hj108; try dsimp only at h
    simp only [Sum.elim_inr] at h
    refine hK16 _ _ ?_
    refine wp_seq_k (fun K111 hK112 => ?_)
    refine wp_region_lit ?_
    refine seqL1 (by kernel_rfl) ?_
    refine wpList_nil ?_
    refine hK112 _ _ ?_
    refine wp_ret ?_
    refine hret _ _ ?_
    refine ends_still (v := Value.int .i64 0) (by kernel_rfl) (by kernel_rfl) ?_
    injection h with h
    subst h
    exact ⟨f100, rfl, L101, HS103⟩
   clear h; have h := hv105; clear hv105
   refine loopK (fun n_ a_ w_ => ∃ (f29 : FM) (x34 : Int) (j33 : Nat → Value), FM.le f f29 ∧ St t w_ f29 (H) ∧ catalog_Check.l0 k l1 n_ x34 = some o25 ∧ a_ = ⟨#[.slice A2 l1.length c3, uV, (j33 0), (j33 1), (j33 2), (j33 3), .slice A2 l1.length c3, iV (l1.length : Int), fV, .slice A2 l1.length c3, iV (l1.length : Int), iV x34, (j33 4), (j33 5), (j33 6), (j33 7), (j33 8), (j33 9), (j33 10), (j33 11), (j33 12), (j33 13), (j33 14), (j33 15), (j33 16), (j33 17), (j33 18), (j33 19), (j33 20), (j33 21), (j33 22), (j33 23), (j33 24), (j33 25), (j33 26)], []⟩) k ⟨f, 0, (fun i_ => [Value.int .i64 0, undef, undef, undef, undef, undef, undef, undef, undef, undef, undef, undef, undef, undef, undef, undef, undef, undef, undef, undef, undef, undef, undef, undef, undef, undef, undef].getD i_ undef), (FM.le.refl _), HS, h, (by kernel_rfl)⟩ ?_
   clear h
   rintro n28 _ W31 ⟨f29, x34, j33, L30, HS32, h, rfl⟩ K26 hK27
   obtain _ | n28 := n28
   · exact nomatch h
   simp only [catalog_Check.l0] at h
   refine wp_seq_k (fun K35 hK36 => ?_)
   refine wp_region_lit ?_
   refine seqL1 (by kernel_rfl) ?_
   refine wpList_nil ?_
   refine hK36 _ _ ?_
   refine wp_seq_k (fun K37 hK38 => ?_)
   have hq_ := ite_some h; clear h; rcases hq_ with ⟨c40, h⟩ | ⟨c40, h⟩
   · have c40 : x34 < (l1.length : Int) := c40
     refine wpRwI 12 (x := (decide (x34 < (l1.length : Int)))) (v := true) (by kernel_rfl) (decide_eq_true c40) ?_
     refine condT (by kernel_rfl) ?_
     refine wp_skip ?_
     refine hK38 _ _ ?_
     refine wp_seq_k (fun K41 hK42 => ?_)
     refine blockK (fun B43 hx44 hn45 hr46 ho47 hp48 => ?_)
     refine wp_seq_k (fun K50 hK51 => ?_)
     refine wp_region_lit ?_
     have hq_ := guard_some h; clear h; obtain ⟨c52, h⟩ := hq_
     have c52 : 0 ≤ x34 := c52
     obtain ⟨b56, of57, cs53, hA58, hr54, hc55⟩ := (HR4.mono L30).at (i := x34) c52 c40
     obtain ⟨A59, c59, rfl, HR59⟩ := hr54
     refine seqL1 (by kernel_rfl) ?_
     refine seqK rfl (does_run (run_indexE hA58 (sz := 18) rfl Try.underlying26 (by kernel_rfl) (by kernel_rfl : _ = Value.slice A2 l1.length c3) (by kernel_rfl : _ = Value.int .i64 x34) c52 c40 W31) ?_)
     refine seqK rfl (does_run (run_loadN (n := 18) rfl Try.underlying65 rfl (by kernel_rfl) (by kernel_rfl : _ = Value.pointer (some ⟨b56, of57 + (x34 : Int).toNat * 18, none⟩)) (cs := [.int .i64 ((rd l1 x34).ID), .int .i64 ((((rd l1 x34).Box).X).Lo), .int .i64 ((((rd l1 x34).Box).X).Hi), .bool ((((rd l1 x34).Box).X).Unknown), .int .i64 ((((rd l1 x34).Box).Y).Lo), .int .i64 ((((rd l1 x34).Box).Y).Hi), .bool ((((rd l1 x34).Box).Y).Unknown), .int .i64 ((((rd l1 x34).Box).Z).Lo), .int .i64 ((((rd l1 x34).Box).Z).Hi), .bool ((((rd l1 x34).Box).Z).Unknown), .int .i64 (((rd l1 x34).Flux).Lo), .int .i64 (((rd l1 x34).Flux).Hi), .bool (((rd l1 x34).Flux).Unknown), .int .i64 (((rd l1 x34).When).Lo), .int .i64 (((rd l1 x34).When).Hi), .bool (((rd l1 x34).When).Unknown), .slice A59 ((rd l1 x34).Frames).length c59, .int .i64 ((rd l1 x34).Marks)]) rfl (fun j_ hj_ => ((hc55 (FM.le.refl _) HS32) j_ hj_))) ?_)
     refine seqK rfl (does_alloc (z := Value.agg #[.int .i64 0, .int .i64 0, .int .i64 0, .bool false, .int .i64 0, .int .i64 0, .bool false, .int .i64 0, .int .i64 0, .bool false, .int .i64 0, .int .i64 0, .bool false, .int .i64 0, .int .i64 0, .bool false, .slice none 0 0, .int .i64 0]) (cs := #[.int .i64 0, .int .i64 0, .int .i64 0, .bool false, .int .i64 0, .int .i64 0, .bool false, .int .i64 0, .int .i64 0, .bool false, .int .i64 0, .int .i64 0, .bool false, .int .i64 0, .int .i64 0, .bool false, .slice none 0 0, .int .i64 0]) rfl (by kernel_rfl) rfl HS32 ?_)
     intro b60 W61 HS62
     refine seqL1 (by kernel_rfl) ?_
     refine seqK rfl (does_store (n := 18) (vs := [.int .i64 ((rd l1 x34).ID), .int .i64 ((((rd l1 x34).Box).X).Lo), .int .i64 ((((rd l1 x34).Box).X).Hi), .bool ((((rd l1 x34).Box).X).Unknown), .int .i64 ((((rd l1 x34).Box).Y).Lo), .int .i64 ((((rd l1 x34).Box).Y).Hi), .bool ((((rd l1 x34).Box).Y).Unknown), .int .i64 ((((rd l1 x34).Box).Z).Lo), .int .i64 ((((rd l1 x34).Box).Z).Hi), .bool ((((rd l1 x34).Box).Z).Unknown), .int .i64 (((rd l1 x34).Flux).Lo), .int .i64 (((rd l1 x34).Flux).Hi), .bool (((rd l1 x34).Flux).Unknown), .int .i64 (((rd l1 x34).When).Lo), .int .i64 (((rd l1 x34).When).Hi), .bool (((rd l1 x34).When).Unknown), .slice A59 ((rd l1 x34).Frames).length c59, .int .i64 ((rd l1 x34).Marks)]) (cs' := #[.int .i64 ((rd l1 x34).ID), .int .i64 ((((rd l1 x34).Box).X).Lo), .int .i64 ((((rd l1 x34).Box).X).Hi), .bool ((((rd l1 x34).Box).X).Unknown), .int .i64 ((((rd l1 x34).Box).Y).Lo), .int .i64 ((((rd l1 x34).Box).Y).Hi), .bool ((((rd l1 x34).Box).Y).Unknown), .int .i64 ((((rd l1 x34).Box).Z).Lo), .int .i64 ((((rd l1 x34).Box).Z).Hi), .bool ((((rd l1 x34).Box).Z).Unknown), .int .i64 (((rd l1 x34).Flux).Lo), .int .i64 (((rd l1 x34).Flux).Hi), .bool (((rd l1 x34).Flux).Unknown), .int .i64 (((rd l1 x34).When).Lo), .int .i64 (((rd l1 x34).When).Hi), .bool (((rd l1 x34).When).Unknown), .slice A59 ((rd l1 x34).Frames).length c59, .int .i64 ((rd l1 x34).Marks)]) rfl (by kernel_rfl) (by kernel_rfl : _ = Value.pointer (some ⟨b60, 0, none⟩)) (by kernel_rfl : _ = Value.agg #[.int .i64 ((rd l1 x34).ID), .int .i64 ((((rd l1 x34).Box).X).Lo), .int .i64 ((((rd l1 x34).Box).X).Hi), .bool ((((rd l1 x34).Box).X).Unknown), .int .i64 ((((rd l1 x34).Box).Y).Lo), .int .i64 ((((rd l1 x34).Box).Y).Hi), .bool ((((rd l1 x34).Box).Y).Unknown), .int .i64 ((((rd l1 x34).Box).Z).Lo), .int .i64 ((((rd l1 x34).Box).Z).Hi), .bool ((((rd l1 x34).Box).Z).Unknown), .int .i64 (((rd l1 x34).Flux).Lo), .int .i64 (((rd l1 x34).Flux).Hi), .bool (((rd l1 x34).Flux).Unknown), .int .i64 (((rd l1 x34).When).Lo), .int .i64 (((rd l1 x34).When).Hi), .bool (((rd l1 x34).When).Unknown), .slice A59 ((rd l1 x34).Frames).length c59, .int .i64 ((rd l1 x34).Marks)]) rfl rfl (by intro u_ hu_; simp only [List.mem_cons, List.not_mem_nil, or_false] at hu_; rcases hu_ with rfl | rfl | rfl | rfl | rfl | rfl | rfl | rfl | rfl | rfl | rfl | rfl | rfl | rfl | rfl | rfl | rfl | rfl <;> rfl) HS62 (Nat.le_of_ble_eq_true rfl) (by kernel_rfl) ?_)
     intro W64 HS65
     refine wpList_nil ?_
     refine hK51 _ _ ?_
     refine wp_seq_k (fun K66 hK67 => ?_)
     refine wp_seq_k (fun K68 hK69 => ?_)
     refine wp_region_lit ?_
     refine seqK rfl (does_run (run_loadN (n := 18) rfl Try.underlying65 rfl (by kernel_rfl) (by kernel_rfl : _ = Value.pointer (some ⟨b60, 0, none⟩)) (cs := [.int .i64 ((rd l1 x34).ID), .int .i64 ((((rd l1 x34).Box).X).Lo), .int .i64 ((((rd l1 x34).Box).X).Hi), .bool ((((rd l1 x34).Box).X).Unknown), .int .i64 ((((rd l1 x34).Box).Y).Lo), .int .i64 ((((rd l1 x34).Box).Y).Hi), .bool ((((rd l1 x34).Box).Y).Unknown), .int .i64 ((((rd l1 x34).Box).Z).Lo), .int .i64 ((((rd l1 x34).Box).Z).Hi), .bool ((((rd l1 x34).Box).Z).Unknown), .int .i64 (((rd l1 x34).Flux).Lo), .int .i64 (((rd l1 x34).Flux).Hi), .bool (((rd l1 x34).Flux).Unknown), .int .i64 (((rd l1 x34).When).Lo), .int .i64 (((rd l1 x34).When).Hi), .bool (((rd l1 x34).When).Unknown), .slice A59 ((rd l1 x34).Frames).length c59, .int .i64 ((rd l1 x34).Marks)]) rfl (HS65.cells 0 18 _ rfl)) ?_)
     have hq_ := bind_some h; clear h; obtain ⟨vt70, hc71, h⟩ := hq_
     refine seqK rfl (does_call (f := 44) (args := #[.agg #[.int .i64 ((rd l1 x34).ID), .int .i64 ((((rd l1 x34).Box).X).Lo), .int .i64 ((((rd l1 x34).Box).X).Hi), .bool ((((rd l1 x34).Box).X).Unknown), .int .i64 ((((rd l1 x34).Box).Y).Lo), .int .i64 ((((rd l1 x34).Box).Y).Hi), .bool ((((rd l1 x34).Box).Y).Unknown), .int .i64 ((((rd l1 x34).Box).Z).Lo), .int .i64 ((((rd l1 x34).Box).Z).Hi), .bool ((((rd l1 x34).Box).Z).Unknown), .int .i64 (((rd l1 x34).Flux).Lo), .int .i64 (((rd l1 x34).Flux).Hi), .bool (((rd l1 x34).Flux).Unknown), .int .i64 (((rd l1 x34).When).Lo), .int .i64 (((rd l1 x34).When).Hi), .bool (((rd l1 x34).When).Unknown), .slice A59 ((rd l1 x34).Frames).length c59, .int .i64 ((rd l1 x34).Marks)]]) (by kernel_rfl) (catalog_CheckRow.calls k A59 c59 (rd l1 x34) HS65 HR59 vt70 hc71) ?_)
     rintro _ W74 ⟨f72, rfl, L73, HS75⟩
     refine ⟨_, rfl, ?_⟩
     refine seqL1 (by kernel_rfl) ?_
     refine wpList_nil ?_
     refine hK69 _ _ ?_
     refine wp_seq_k (fun K76 hK77 => ?_)
     refine wp_region_lit ?_
     refine seqL2 (by kernel_rfl) ?_
     refine wpList_nil ?_
     refine hK77 _ _ ?_
     have hq_ := ite_some h; clear h; rcases hq_ with ⟨c79, h⟩ | ⟨c79, h⟩
     · have c79 : vt70 ≠ 0 := c79
       refine wpRwI 19 (x := (vt70 != 0)) (v := true) (by kernel_rfl) (bne_iff_ne.mpr c79) ?_
       refine condT (by kernel_rfl) ?_
       refine wp_seq_k (fun K80 hK81 => ?_)
       refine wp_region_lit ?_
       refine seqL2 (by kernel_rfl) ?_
       refine wpList_nil ?_
       refine hK81 _ _ ?_
       refine wp_ret ?_
       refine hr46 _ _ ?_
       refine hr22 _ _ ?_
       refine hret _ _ ?_
       refine ends_still (v := Value.int .i64 vt70) (by kernel_rfl) (by kernel_rfl) ?_
       have HS113 := HS75.drop
       replace h := JR107 _ h
       injection h with h
       subst h
       exact ⟨f72, rfl, (L30.trans L73), HS113⟩
     · have c79 : ¬ (vt70 ≠ 0) := c79
       refine wpRwI 19 (x := (vt70 != 0)) (v := false) (by kernel_rfl) (bne_eq_false_iff_eq.mpr (Decidable.of_not_not c79)) ?_
       refine condF (by kernel_rfl) ?_
       refine wp_skip ?_
       refine hK67 _ _ ?_
       refine wp_seq_k (fun K82 hK83 => ?_)
       refine heldG (S := Sg t f72 ([(b60, .cells #[.int .i64 ((rd l1 x34).ID), .int .i64 ((((rd l1 x34).Box).X).Lo), .int .i64 ((((rd l1 x34).Box).X).Hi), .bool ((((rd l1 x34).Box).X).Unknown), .int .i64 ((((rd l1 x34).Box).Y).Lo), .int .i64 ((((rd l1 x34).Box).Y).Hi), .bool ((((rd l1 x34).Box).Y).Unknown), .int .i64 ((((rd l1 x34).Box).Z).Lo), .int .i64 ((((rd l1 x34).Box).Z).Hi), .bool ((((rd l1 x34).Box).Z).Unknown), .int .i64 (((rd l1 x34).Flux).Lo), .int .i64 (((rd l1 x34).Flux).Hi), .bool (((rd l1 x34).Flux).Unknown), .int .i64 (((rd l1 x34).When).Lo), .int .i64 (((rd l1 x34).When).Hi), .bool (((rd l1 x34).When).Unknown), .slice A59 ((rd l1 x34).Frames).length c59, .int .i64 ((rd l1 x34).Marks)] 65 (0, 0))] :: H) []) (n := 13) (by kernel_rfl) rfl HS75 ?_
       intro W84 HS85
       refine takeG [0, 1, 2] (n := 13) (fuel := 10) (l' := #[true, true, true, false, false, false, false, false, false, false, false, false, false]) (a' := ⟨#[.slice A2 l1.length c3, uV, (j33 0), iV x34, pV b60 0, iV vt70, .slice A2 l1.length c3, iV (l1.length : Int), fV, .slice A2 l1.length c3, iV (l1.length : Int), iV x34, tV, iV x34, pV b56 (of57 + (x34 : Int).toNat * 18), (ag_Row (rd l1 x34) A59 c59), (ag_Row (rd l1 x34) A59 c59), iV vt70, iV vt70, fV, (j33 12), iV x34, .bool (decide (x34 > 0)), .bool (decide (x34 > 0)), (j33 16), (j33 17), (j33 18), (j33 19), (j33 20), (j33 21), (j33 22), (j33 23), (j33 24), (j33 25), (j33 26)], []⟩) rfl (by kernel_rfl) (by kernel_rfl) (by kernel_rfl) (fun ch_ a_ w_ q_ => (fun ch_ a_ w_ q_ => hnp ch_ a_ w_ (hp24 ch_ a_ w_ q_)) ch_ a_ w_ (hp48 ch_ a_ w_ q_)) (Sg.g0 (Sx.of [] (FM.le.refl _) HS85)) ?_
       have hq_ := ite_some h; clear h; rcases hq_ with ⟨c86, h⟩ | ⟨c86, h⟩
       · have c86 : x34 > 0 := c86
         refine gateRwI 22 (x := (decide (x34 > 0))) (v := true) (by kernel_rfl) (decide_eq_true c86) ?_
         refine gateRwI 23 (x := (decide (x34 > 0))) (v := true) (by kernel_rfl) (decide_eq_true c86) ?_
         refine takeG [3] (n := 10) (fuel := 9) (l' := #[true, true, true, true, false, false, false, false, false, false, false, false, false]) (a' := ⟨#[.slice A2 l1.length c3, uV, (j33 0), iV x34, pV b60 0, iV vt70, .slice A2 l1.length c3, iV (l1.length : Int), fV, .slice A2 l1.length c3, iV (l1.length : Int), iV x34, tV, iV x34, pV b56 (of57 + (x34 : Int).toNat * 18), (ag_Row (rd l1 x34) A59 c59), (ag_Row (rd l1 x34) A59 c59), iV vt70, iV vt70, fV, (j33 12), iV x34, tV, tV, pV b60 0, (j33 17), (j33 18), (j33 19), (j33 20), (j33 21), (j33 22), (j33 23), (j33 24), (j33 25), (j33 26)], []⟩) rfl (by kernel_rfl) (by kernel_rfl) (by kernel_rfl) (fun ch_ a_ w_ q_ => (fun ch_ a_ w_ q_ => hnp ch_ a_ w_ (hp24 ch_ a_ w_ q_)) ch_ a_ w_ (hp48 ch_ a_ w_ q_)) (Sg.g0 (Sx.of [] (FM.le.refl _) HS85)) ?_
         refine takeGQ 4 [] rfl (by kernel_rfl) (by kernel_rfl) (by kernel_rfl) (by kernel_rfl) (by kernel_rfl) (by kernel_rfl) (fun ch_ a_ w_ q_ => (fun ch_ a_ w_ q_ => hnp ch_ a_ w_ (hp24 ch_ a_ w_ q_)) ch_ a_ w_ (hp48 ch_ a_ w_ q_)) (Sg.g0 (Sx.of [] (FM.le.refl _) HS85)) (fun w_ hw_ => by obtain ⟨g_, hl_, hS_⟩ := hw_.st; exact run_load rfl Try.underlying3 rfl (by kernel_rfl : _ = Value.pointer (some ⟨b60, 0, none⟩)) (hS_.cell 0)) ?_
         have hq_ := guard_some h; clear h; obtain ⟨c87, h⟩ := hq_
         have c87 : 0 ≤ (w64 (x34 - 1)) := c87
         have hq_ := guard_some h; clear h; obtain ⟨c88, h⟩ := hq_
         have c88 : (w64 (x34 - 1)) < (l1.length : Int) := c88
         obtain ⟨b92, of93, cs89, hA94, hr90, hc91⟩ := (HR4.mono (L30.trans L73)).at (i := w64 (x34 - 1)) c87 c88
         obtain ⟨A95, c95, rfl, HR95⟩ := hr90
         refine takeG [5, 6, 7] (n := 8) (fuel := 5) (l' := #[true, true, true, true, true, true, true, true, false, false, false, false, false]) (a' := ⟨#[.slice A2 l1.length c3, uV, (j33 0), iV x34, pV b60 0, iV vt70, .slice A2 l1.length c3, iV (l1.length : Int), fV, .slice A2 l1.length c3, iV (l1.length : Int), iV x34, tV, iV x34, pV b56 (of57 + (x34 : Int).toNat * 18), (ag_Row (rd l1 x34) A59 c59), (ag_Row (rd l1 x34) A59 c59), iV vt70, iV vt70, fV, (j33 12), iV x34, tV, tV, pV b60 0, iV ((rd l1 x34).ID), .slice A2 l1.length c3, iV x34, iV (w64 (x34 - 1)), (j33 21), (j33 22), (j33 23), (j33 24), (j33 25), (j33 26)], []⟩) rfl (by kernel_rfl) (by kernel_rfl) (by kernel_rfl) (fun ch_ a_ w_ q_ => (fun ch_ a_ w_ q_ => hnp ch_ a_ w_ (hp24 ch_ a_ w_ q_)) ch_ a_ w_ (hp48 ch_ a_ w_ q_)) (Sg.g0 (Sx.of [] (FM.le.refl _) HS85)) ?_
         refine takeGQ 8 [] rfl (by kernel_rfl) (by kernel_rfl) (by kernel_rfl) (by kernel_rfl) (by kernel_rfl) (by kernel_rfl) (fun ch_ a_ w_ q_ => (fun ch_ a_ w_ q_ => hnp ch_ a_ w_ (hp24 ch_ a_ w_ q_)) ch_ a_ w_ (hp48 ch_ a_ w_ q_)) (Sg.g0 (Sx.of [] (FM.le.refl _) HS85)) (fun w_ hw_ => by obtain ⟨g_, hl_, hS_⟩ := hw_.st; exact run_indexE hA94 (sz := 18) rfl Try.underlying26 (by kernel_rfl) (by kernel_rfl : _ = Value.slice A2 l1.length c3) (by kernel_rfl : _ = Value.int .i64 (w64 (x34 - 1))) c87 c88 w_) ?_
         refine takeG [9] (n := 4) (fuel := 3) (l' := #[true, true, true, true, true, true, true, true, true, true, false, false, false]) (a' := ⟨#[.slice A2 l1.length c3, uV, (j33 0), iV x34, pV b60 0, iV vt70, .slice A2 l1.length c3, iV (l1.length : Int), fV, .slice A2 l1.length c3, iV (l1.length : Int), iV x34, tV, iV x34, pV b56 (of57 + (x34 : Int).toNat * 18), (ag_Row (rd l1 x34) A59 c59), (ag_Row (rd l1 x34) A59 c59), iV vt70, iV vt70, fV, (j33 12), iV x34, tV, tV, pV b60 0, iV ((rd l1 x34).ID), .slice A2 l1.length c3, iV x34, iV (w64 (x34 - 1)), pV b92 (of93 + (w64 (x34 - 1) : Int).toNat * 18), pV b92 (of93 + (w64 (x34 - 1) : Int).toNat * 18), (j33 23), (j33 24), (j33 25), (j33 26)], []⟩) rfl (by kernel_rfl) (by kernel_rfl) (by kernel_rfl) (fun ch_ a_ w_ q_ => (fun ch_ a_ w_ q_ => hnp ch_ a_ w_ (hp24 ch_ a_ w_ q_)) ch_ a_ w_ (hp48 ch_ a_ w_ q_)) (Sg.g0 (Sx.of [] (FM.le.refl _) HS85)) ?_
         refine takeGQ 10 [] rfl (by kernel_rfl) (by kernel_rfl) (by kernel_rfl) (by kernel_rfl) (by kernel_rfl) (by kernel_rfl) (fun ch_ a_ w_ q_ => (fun ch_ a_ w_ q_ => hnp ch_ a_ w_ (hp24 ch_ a_ w_ q_)) ch_ a_ w_ (hp48 ch_ a_ w_ q_)) (Sg.g0 (Sx.of [] (FM.le.refl _) HS85)) (fun w_ hw_ => by obtain ⟨g_, hl_, hS_⟩ := hw_.st; exact run_load rfl Try.underlying3 rfl (by kernel_rfl : _ = Value.pointer (some ⟨b92, of93 + (w64 (x34 - 1) : Int).toNat * 18, none⟩)) ((hc91 hl_ hS_) 0 (by decide))) ?_
         refine takeG [11, 12] (n := 2) (fuel := 0) (l' := #[true, true, true, true, true, true, true, true, true, true, true, true, true]) (a' := ⟨#[.slice A2 l1.length c3, uV, (j33 0), iV x34, pV b60 0, iV vt70, .slice A2 l1.length c3, iV (l1.length : Int), fV, .slice A2 l1.length c3, iV (l1.length : Int), iV x34, tV, iV x34, pV b56 (of57 + (x34 : Int).toNat * 18), (ag_Row (rd l1 x34) A59 c59), (ag_Row (rd l1 x34) A59 c59), iV vt70, iV vt70, fV, (j33 12), iV x34, tV, tV, pV b60 0, iV ((rd l1 x34).ID), .slice A2 l1.length c3, iV x34, iV (w64 (x34 - 1)), pV b92 (of93 + (w64 (x34 - 1) : Int).toNat * 18), pV b92 (of93 + (w64 (x34 - 1) : Int).toNat * 18), iV ((rd l1 (w64 (x34 - 1))).ID), .bool (decide (((rd l1 x34).ID) ≤ ((rd l1 (w64 (x34 - 1))).ID))), .bool (decide (((rd l1 x34).ID) ≤ ((rd l1 (w64 (x34 - 1))).ID))), (j33 26)], []⟩) rfl (by kernel_rfl) (by kernel_rfl) (by kernel_rfl) (fun ch_ a_ w_ q_ => (fun ch_ a_ w_ q_ => hnp ch_ a_ w_ (hp24 ch_ a_ w_ q_)) ch_ a_ w_ (hp48 ch_ a_ w_ q_)) (Sg.g0 (Sx.of [] (FM.le.refl _) HS85)) ?_
         refine doneG (by kernel_rfl) ?_ _
         refine hK83 _ _ ?_
         have hq_ := ite_some h; clear h; rcases hq_ with ⟨c97, h⟩ | ⟨c97, h⟩
         · have c97 : ((rd l1 x34).ID) ≤ ((rd l1 (w64 (x34 - 1))).ID) := c97
           refine wpRwI 32 (x := (decide (((rd l1 x34).ID) ≤ ((rd l1 (w64 (x34 - 1))).ID)))) (v := true) (by kernel_rfl) (decide_eq_true c97) ?_
           refine wpRwI 33 (x := (decide (((rd l1 x34).ID) ≤ ((rd l1 (w64 (x34 - 1))).ID)))) (v := true) (by kernel_rfl) (decide_eq_true c97) ?_
           refine condT (by kernel_rfl) ?_
           refine wp_seq_k (fun K98 hK99 => ?_)
           refine wp_region_lit ?_
           refine seqL1 (by kernel_rfl) ?_
           refine wpList_nil ?_
           refine hK99 _ _ ?_
           refine wp_ret ?_
           refine hr46 _ _ ?_
           refine hr22 _ _ ?_
           refine hret _ _ ?_
           refine ends_still (v := Value.int .i64 11) (by kernel_rfl) (by kernel_rfl) ?_
           have HS114 := HS85.drop
           replace h := JR107 _ h
           injection h with h
           subst h
           exact ⟨f72, rfl, (L30.trans L73), HS114⟩
         · have c97 : ¬ (((rd l1 x34).ID) ≤ ((rd l1 (w64 (x34 - 1))).ID)) := c97
           refine wpRwI 32 (x := (decide (((rd l1 x34).ID) ≤ ((rd l1 (w64 (x34 - 1))).ID)))) (v := false) (by kernel_rfl) (decide_eq_false c97) ?_
           refine wpRwI 33 (x := (decide (((rd l1 x34).ID) ≤ ((rd l1 (w64 (x34 - 1))).ID)))) (v := false) (by kernel_rfl) (decide_eq_false c97) ?_
           refine condF (by kernel_rfl) ?_
           refine wp_skip ?_
           refine hn45 _ _ ?_
           refine hK42 _ _ ?_
           refine wp_region_lit ?_
           refine seqL2 (by kernel_rfl) ?_
           refine wpList_nil ?_
           refine hK27 n28 _ _ (Nat.lt_succ_self _) ?_
           have HS109 := HS85.drop
           exact ⟨f72, (w64 (x34 + 1)), (fun i_ => [(j33 0), Value.int .i64 x34, Value.pointer (some ⟨b60, 0, none⟩), Value.int .i64 vt70, Value.bool true, Value.int .i64 x34, Value.pointer (some ⟨b56, of57 + (x34 : Int).toNat * 18, none⟩), (ag_Row (rd l1 x34) A59 c59), (ag_Row (rd l1 x34) A59 c59), Value.int .i64 vt70, Value.int .i64 vt70, Value.bool false, (j33 12), Value.int .i64 x34, Value.bool true, Value.bool true, Value.pointer (some ⟨b60, 0, none⟩), Value.int .i64 ((rd l1 x34).ID), Value.slice A2 l1.length c3, Value.int .i64 x34, Value.int .i64 (w64 (x34 - 1)), Value.pointer (some ⟨b92, of93 + (w64 (x34 - 1) : Int).toNat * 18, none⟩), Value.pointer (some ⟨b92, of93 + (w64 (x34 - 1) : Int).toNat * 18, none⟩), Value.int .i64 ((rd l1 (w64 (x34 - 1))).ID), Value.bool false, Value.bool false, Value.int .i64 (w64 (x34 + 1))].getD i_ undef), (L30.trans L73), HS109, h, (by kernel_rfl)⟩
       · have c86 : ¬ (x34 > 0) := c86
         refine gateRwI 22 (x := (decide (x34 > 0))) (v := false) (by kernel_rfl) (decide_eq_false c86) ?_
         refine gateRwI 23 (x := (decide (x34 > 0))) (v := false) (by kernel_rfl) (decide_eq_false c86) ?_
         refine takeG [3, 4, 5, 6, 7, 8, 9, 10, 11, 12] (n := 10) (fuel := 0) (l' := #[true, true, true, true, true, true, true, true, true, true, true, true, true]) (a' := ⟨#[.slice A2 l1.length c3, uV, (j33 0), iV x34, pV b60 0, iV vt70, .slice A2 l1.length c3, iV (l1.length : Int), fV, .slice A2 l1.length c3, iV (l1.length : Int), iV x34, tV, iV x34, pV b56 (of57 + (x34 : Int).toNat * 18), (ag_Row (rd l1 x34) A59 c59), (ag_Row (rd l1 x34) A59 c59), iV vt70, iV vt70, fV, (j33 12), iV x34, fV, fV, uV, uV, uV, uV, uV, uV, uV, uV, uV, fV, (j33 26)], []⟩) rfl (by kernel_rfl) (by kernel_rfl) (by kernel_rfl) (fun ch_ a_ w_ q_ => (fun ch_ a_ w_ q_ => hnp ch_ a_ w_ (hp24 ch_ a_ w_ q_)) ch_ a_ w_ (hp48 ch_ a_ w_ q_)) (Sg.g0 (Sx.of [] (FM.le.refl _) HS85)) ?_
         refine doneG (by kernel_rfl) ?_ _
         refine hK83 _ _ ?_
         refine condF (by kernel_rfl) ?_
         refine wp_skip ?_
         refine hn45 _ _ ?_
         refine hK42 _ _ ?_
         refine wp_region_lit ?_
         refine seqL2 (by kernel_rfl) ?_
         refine wpList_nil ?_
         refine hK27 n28 _ _ (Nat.lt_succ_self _) ?_
         have HS110 := HS85.drop
         exact ⟨f72, (w64 (x34 + 1)), (fun i_ => [(j33 0), Value.int .i64 x34, Value.pointer (some ⟨b60, 0, none⟩), Value.int .i64 vt70, Value.bool true, Value.int .i64 x34, Value.pointer (some ⟨b56, of57 + (x34 : Int).toNat * 18, none⟩), (ag_Row (rd l1 x34) A59 c59), (ag_Row (rd l1 x34) A59 c59), Value.int .i64 vt70, Value.int .i64 vt70, Value.bool false, (j33 12), Value.int .i64 x34, Value.bool false, Value.bool false, undef, undef, undef, undef, undef, undef, undef, undef, undef, Value.bool false, Value.int .i64 (w64 (x34 + 1))].getD i_ undef), (L30.trans L73), HS110, h, (by kernel_rfl)⟩
   · have c40 : ¬ (x34 < (l1.length : Int)) := c40
     refine wpRwI 12 (x := (decide (x34 < (l1.length : Int)))) (v := false) (by kernel_rfl) (decide_eq_false c40) ?_
     refine condF (by kernel_rfl) ?_
     refine wp_exit ?_
     refine hx20 _ _ ?_
     exact J106 f29 (fun i_ => [(j33 0), (j33 1), (j33 2), (j33 3), Value.int .i64 x34, Value.bool false, (j33 5), (j33 6), (j33 7), (j33 8), (j33 9), (j33 10), (j33 11), (j33 12), (j33 13), (j33 14), (j33 15), (j33 16), (j33 17), (j33 18), (j33 19), (j33 20), (j33 21), (j33 22), (j33 23), (j33 24), (j33 25), (j33 26)].getD i_ undef) W31 _ L30 h HS32 (by kernel_rfl)

set_option maxRecDepth 100000 in
set_option maxHeartbeats 4000000 in
theorem catalog_Merge_1.calls (k : Nat) (b1 : Nat) (A6 : Option Addr) (c7 : Nat) (s8 : Seg) (b3 : Nat) (b12 : Nat) (of13 : Nat) (A16 : Option Addr) (c17 : Nat) (v5 : List S_Row) (v11 : Int) (x15 : S_Row) {t w : World} {f : FM} {H : List Seg} (HS : St t w f ([(b1, .cells #[.slice A6 v5.length c7] 26 (0, 0))] :: [(b3, .cells #[.int .i64 v11] 29 (0, 0))] :: s8 :: H)) (HO9 : Own ty_Row 65 f A6 c7 s8 v5) (HR18 : SlR (tInt .i64) f A16 c17 x15.Frames) (hc14 : ∀ {t w : World} {g : FM} {H : List Seg}, FM.le f g → St t w g H → ∀ j, j < 18 → w.cell? ⟨b12, of13 + j, none⟩ = ([.int .i64 x15.ID, .int .i64 x15.Box.X.Lo, .int .i64 x15.Box.X.Hi, .bool x15.Box.X.Unknown, .int .i64 x15.Box.Y.Lo, .int .i64 x15.Box.Y.Hi, .bool x15.Box.Y.Unknown, .int .i64 x15.Box.Z.Lo, .int .i64 x15.Box.Z.Hi, .bool x15.Box.Z.Unknown, .int .i64 x15.Flux.Lo, .int .i64 x15.Flux.Hi, .bool x15.Flux.Unknown, .int .i64 x15.When.Lo, .int .i64 x15.When.Hi, .bool x15.When.Unknown, .slice A16 x15.Frames.length c17, .int .i64 x15.Marks] : List Value)[j]?) (rr1 : List S_Row) (h : catalog_Merge_1 k v5 v11 x15 = some rr1) :
    Calls Try.prog 38 #[.pointer (some ⟨b12, of13, none⟩), .pointer none, .pointer (some ⟨b1, 0, none⟩), .pointer (some ⟨b3, 0, none⟩)] w (fun e w' => ∃ (g : FM) (A60 : Option Addr) (c61 : Nat) (s62 : Seg), e = .returned (Value.tuple #[]) ∧ FM.le f g ∧ St t w' g (s62 :: [(b1, .cells #[.slice A60 rr1.length c61] 26 (0, 0))] :: [(b3, .cells #[.int .i64 v11] 29 (0, 0))] :: H) ∧ Own ty_Row 65 g A60 c61 s62 rr1) := by
 unfold catalog_Merge_1 at h
 refine enter Try.func38 rfl (tm := #[pV b12 (of13), .pointer none, pV b1 0, pV b3 0, uV, uV, uV, uV, uV, uV, uV, uV, uV, uV, uV, uV, uV, uV, uV, uV, uV, uV, uV, uV, uV, uV, uV, uV, uV, uV, uV, uV, uV, uV]) (by kernel_rfl) ?_
 intro B hret hnor hnp
 refine wp_seq_k (fun K19 hK20 => ?_)
 refine blockK (fun B21 hx22 hn23 hr24 ho25 hp26 => ?_)
 refine wp_seq_k (fun K28 hK29 => ?_)
 refine wp_region_lit ?_
 refine seqL3 (by kernel_rfl) ?_
 refine wpList_nil ?_
 refine hK29 _ _ ?_
 refine condF (by kernel_rfl) ?_
 refine wp_seq_k (fun K30 hK31 => ?_)
 refine heldG (S := Sg t f ([(b1, .cells #[.slice A6 v5.length c7] 26 (0, 0))] :: [(b3, .cells #[.int .i64 v11] 29 (0, 0))] :: s8 :: H) []) (n := 13) (by kernel_rfl) rfl HS ?_
 intro W32 HS33
 refine takeG [0, 1, 2, 3, 4, 5, 6, 7, 8, 9, 10, 11, 12] (n := 13) (fuel := 0) (l' := #[true, true, true, true, true, true, true, true, true, true, true, true, true]) (a' := ⟨#[pV b12 (of13), .pointer none, pV b1 0, pV b3 0, uV, uV, fV, pV b12 (of13), fV, uV, uV, uV, uV, uV, uV, fV, .pointer none, fV, fV, uV, uV, uV, uV, uV, uV, uV, uV, fV, uV, uV, uV, uV, uV, uV], []⟩) rfl (by kernel_rfl) (by kernel_rfl) (by kernel_rfl) (fun ch_ a_ w_ q_ => hnp ch_ a_ w_ (hp26 ch_ a_ w_ q_)) (Sg.g0 (Sx.of [] (FM.le.refl _) HS33)) ?_
 refine doneG (by kernel_rfl) ?_ _
 refine hK31 _ _ ?_
 refine condF (by kernel_rfl) ?_
 refine wp_skip ?_
 refine hn23 _ _ ?_
 refine hK20 _ _ ?_
 have HS34 := HS33.u1
 have HS35 := HS34.u2
 have HS36 := HS35.u2
 refine heldG (S := Sg t f ([(b3, .cells #[.int .i64 v11] 29 (0, 0))] :: H) [(5, [(b1, .cells #[.slice A6 v5.length c7] 26 (0, 0))]), (5, s8)]) (n := 7) (by kernel_rfl) rfl HS36 ?_
 intro W37 HS38
 refine takeGQ 0 [5] rfl (by kernel_rfl) (by kernel_rfl) (by kernel_rfl) (by kernel_rfl) (by kernel_rfl) (by kernel_rfl) hnp (Sg.g2 (Sx.of [[(b1, .cells #[.slice A6 v5.length c7] 26 (0, 0))], s8] (FM.le.refl _) HS38) (fun _ => St.only [] HS38 (FM.le.refl _)) (fun _ => St.only [[(b1, .cells #[.slice A6 v5.length c7] 26 (0, 0))]] HS38 (FM.le.refl _))) (fun w_ hw_ => by obtain ⟨g_, hl_, hS_⟩ := hw_.seg (j := 5) (s := [(b1, .cells #[.slice A6 v5.length c7] 26 (0, 0))]) (by simp) (by simp); exact run_load rfl Try.underlying26 rfl (by kernel_rfl : _ = Value.pointer (some ⟨b1, 0, none⟩)) (hS_.cell 0)) ?_
 refine takeG [1, 2] (n := 6) (fuel := 4) (l' := #[true, true, true, false, false, false, false]) (a' := ⟨#[pV b12 (of13), .pointer none, pV b1 0, pV b3 0, uV, uV, fV, pV b12 (of13), fV, uV, uV, uV, uV, uV, uV, fV, .pointer none, fV, fV, uV, uV, uV, uV, uV, uV, uV, uV, fV, .slice A6 v5.length c7, pV b12 (of13), pV b12 (of13), uV, uV, uV], []⟩) rfl (by kernel_rfl) (by kernel_rfl) (by kernel_rfl) hnp (Sg.g2 (Sx.of [[(b1, .cells #[.slice A6 v5.length c7] 26 (0, 0))], s8] (FM.le.refl _) HS38) (fun _ => St.only [] HS38 (FM.le.refl _)) (fun _ => St.only [[(b1, .cells #[.slice A6 v5.length c7] 26 (0, 0))]] HS38 (FM.le.refl _))) ?_
 refine takeGQ 3 [] rfl (by kernel_rfl) (by kernel_rfl) (by kernel_rfl) (by kernel_rfl) (by kernel_rfl) (by kernel_rfl) hnp (Sg.g2 (Sx.of [[(b1, .cells #[.slice A6 v5.length c7] 26 (0, 0))], s8] (FM.le.refl _) HS38) (fun _ => St.only [] HS38 (FM.le.refl _)) (fun _ => St.only [[(b1, .cells #[.slice A6 v5.length c7] 26 (0, 0))]] HS38 (FM.le.refl _))) (fun w_ hw_ => by obtain ⟨g_, hl_, hS_⟩ := hw_.st; exact run_loadN (n := 18) rfl Try.underlying65 rfl (by kernel_rfl) (by kernel_rfl : _ = Value.pointer (some ⟨b12, of13, none⟩)) (cs := [.int .i64 x15.ID, .int .i64 x15.Box.X.Lo, .int .i64 x15.Box.X.Hi, .bool x15.Box.X.Unknown, .int .i64 x15.Box.Y.Lo, .int .i64 x15.Box.Y.Hi, .bool x15.Box.Y.Unknown, .int .i64 x15.Box.Z.Lo, .int .i64 x15.Box.Z.Hi, .bool x15.Box.Z.Unknown, .int .i64 x15.Flux.Lo, .int .i64 x15.Flux.Hi, .bool x15.Flux.Unknown, .int .i64 x15.When.Lo, .int .i64 x15.When.Hi, .bool x15.When.Unknown, .slice A16 x15.Frames.length c17, .int .i64 x15.Marks]) rfl (fun j_ hj_ => ((hc14 hl_ hS_) j_ hj_))) ?_
 refine takeGE 4 (by kernel_rfl) rfl (by kernel_rfl) (does_lit (e := ty_Row) (E := 65) (vs := #[(0, Value.agg #[.int .i64 x15.ID, .int .i64 x15.Box.X.Lo, .int .i64 x15.Box.X.Hi, .bool x15.Box.X.Unknown, .int .i64 x15.Box.Y.Lo, .int .i64 x15.Box.Y.Hi, .bool x15.Box.Y.Unknown, .int .i64 x15.Box.Z.Lo, .int .i64 x15.Box.Z.Hi, .bool x15.Box.Z.Unknown, .int .i64 x15.Flux.Lo, .int .i64 x15.Flux.Hi, .bool x15.Flux.Unknown, .int .i64 x15.When.Lo, .int .i64 x15.When.Hi, .bool x15.When.Unknown, .slice A16 x15.Frames.length c17, .int .i64 x15.Marks])]) (cs := #[.int .i64 x15.ID, .int .i64 x15.Box.X.Lo, .int .i64 x15.Box.X.Hi, .bool x15.Box.X.Unknown, .int .i64 x15.Box.Y.Lo, .int .i64 x15.Box.Y.Hi, .bool x15.Box.Y.Unknown, .int .i64 x15.Box.Z.Lo, .int .i64 x15.Box.Z.Hi, .bool x15.Box.Z.Unknown, .int .i64 x15.Flux.Lo, .int .i64 x15.Flux.Hi, .bool x15.Flux.Unknown, .int .i64 x15.When.Lo, .int .i64 x15.When.Hi, .bool x15.When.Unknown, .slice A16 x15.Frames.length c17, .int .i64 x15.Marks]) (xs := ([x15] : List S_Row)) rfl Try.underlying26 (by kernel_rfl) (by kernel_rfl) ⟨[.int .i64 x15.ID, .int .i64 x15.Box.X.Lo, .int .i64 x15.Box.X.Hi, .bool x15.Box.X.Unknown, .int .i64 x15.Box.Y.Lo, .int .i64 x15.Box.Y.Hi, .bool x15.Box.Y.Unknown, .int .i64 x15.Box.Z.Lo, .int .i64 x15.Box.Z.Hi, .bool x15.Box.Z.Unknown, .int .i64 x15.Flux.Lo, .int .i64 x15.Flux.Hi, .bool x15.Flux.Unknown, .int .i64 x15.When.Lo, .int .i64 x15.When.Hi, .bool x15.When.Unknown, .slice A16 x15.Frames.length c17, .int .i64 x15.Marks], _, rfl, ⟨A16, c17, rfl, HR18⟩, rfl⟩ rfl HS38 ?_ (by decide))
 intro b39 W40 s41 HS42 _ HO43
 refine ⟨(Sg.g2 (Sx.of [s41, [(b1, .cells #[.slice A6 v5.length c7] 26 (0, 0))], s8] (FM.le.refl _) HS42) (fun _ => St.only [s41] HS42 (FM.le.refl _)) (fun _ => St.only [s41, [(b1, .cells #[.slice A6 v5.length c7] 26 (0, 0))]] HS42 (FM.le.refl _))), ?_⟩
 have hq_ := guard_some h; clear h; obtain ⟨c45, h⟩ := hq_
 have c45 : (v5.length + 1) * 160 ≤ 140737488355328 := c45
 have HS46 := HS42.u2
 have HS47 := HS46.u1
 refine takeGE 5 (by kernel_rfl) rfl (by kernel_rfl) (does_append1 (e := ty_Row) (E := 65) (xs := v5) (ys := ([x15] : List S_Row)) rfl (by kernel_rfl : _ = Value.slice A6 v5.length c7) (by kernel_rfl : _ = Value.slice (some ⟨b39, 0, none⟩) ([x15] : List S_Row).length 1) Try.underlying26 inf65 HO9 HO43 HS47 c45 (lim63 c45 (by decide)) ?_)
 intro A48 c49 s50 W51 HS52 HO53
 refine ⟨(Sg.g2 (Sx.of [s50, [(b1, .cells #[.slice A6 v5.length c7] 26 (0, 0))]] (FM.le.refl _) HS52) (fun hl_ => Bool.noConfusion (show true = false from hl_)) (fun hl_ => Bool.noConfusion (show true = false from hl_))), ?_⟩
 have HS54 := HS52.u1
 refine takeGE 6 (by kernel_rfl) rfl (by kernel_rfl) (does_store (n := 1) (vs := [.slice A48 (v5 ++ ([x15] : List S_Row)).length c49]) (cs' := #[.slice A48 (v5 ++ ([x15] : List S_Row)).length c49]) rfl (by kernel_rfl) (by kernel_rfl : _ = Value.pointer (some ⟨b1, 0, none⟩)) (by kernel_rfl : _ = Value.slice A48 (v5 ++ ([x15] : List S_Row)).length c49) rfl rfl (by intro u_ hu_; simp only [List.mem_cons, List.not_mem_nil, or_false] at hu_; subst hu_; rfl) HS54 (Nat.le_of_ble_eq_true rfl) (by kernel_rfl) ?_)
 intro W55 HS56
 refine ⟨(Sg.g2 (Sx.of [[(b1, .cells #[.slice A48 (v5 ++ ([x15] : List S_Row)).length c49] 26 (0, 0))], s50] (FM.le.refl _) HS56) (fun hl_ => Bool.noConfusion (show true = false from hl_)) (fun hl_ => Bool.noConfusion (show true = false from hl_))), ?_⟩
 refine doneG (by kernel_rfl) ?_ _
 refine hnor _ _ ?_
 refine ends_still (v := Value.tuple #[]) (by kernel_rfl) (by kernel_rfl) ?_
 have HS57 := HS56.u2
 have HS58 := HS57.u1
 have HS59 := HS58.u2
 injection h with h
 subst h
 exact ⟨f, A48, c49, s50, rfl, FM.le.refl _, HS59, HO53⟩

set_option maxRecDepth 100000 in
set_option maxHeartbeats 4000000 in
theorem catalog_Merge_1_2.calls (k : Nat) (b1 : Nat) (A6 : Option Addr) (c7 : Nat) (s8 : Seg) (b3 : Nat) (b12 : Nat) (of13 : Nat) (A16 : Option Addr) (c17 : Nat) (v5 : List S_Row) (v11 : Int) (y15 : S_Row) {t w : World} {f : FM} {H : List Seg} (HS : St t w f ([(b1, .cells #[.slice A6 v5.length c7] 26 (0, 0))] :: [(b3, .cells #[.int .i64 v11] 29 (0, 0))] :: s8 :: H)) (HO9 : Own ty_Row 65 f A6 c7 s8 v5) (HR18 : SlR (tInt .i64) f A16 c17 y15.Frames) (hc14 : ∀ {t w : World} {g : FM} {H : List Seg}, FM.le f g → St t w g H → ∀ j, j < 18 → w.cell? ⟨b12, of13 + j, none⟩ = ([.int .i64 y15.ID, .int .i64 y15.Box.X.Lo, .int .i64 y15.Box.X.Hi, .bool y15.Box.X.Unknown, .int .i64 y15.Box.Y.Lo, .int .i64 y15.Box.Y.Hi, .bool y15.Box.Y.Unknown, .int .i64 y15.Box.Z.Lo, .int .i64 y15.Box.Z.Hi, .bool y15.Box.Z.Unknown, .int .i64 y15.Flux.Lo, .int .i64 y15.Flux.Hi, .bool y15.Flux.Unknown, .int .i64 y15.When.Lo, .int .i64 y15.When.Hi, .bool y15.When.Unknown, .slice A16 y15.Frames.length c17, .int .i64 y15.Marks] : List Value)[j]?) (rr1 : List S_Row) (h : catalog_Merge_1_2 k v5 v11 y15 = some rr1) :
    Calls Try.prog 38 #[.pointer none, .pointer (some ⟨b12, of13, none⟩), .pointer (some ⟨b1, 0, none⟩), .pointer (some ⟨b3, 0, none⟩)] w (fun e w' => ∃ (g : FM) (A58 : Option Addr) (c59 : Nat) (s60 : Seg), e = .returned (Value.tuple #[]) ∧ FM.le f g ∧ St t w' g (s60 :: [(b1, .cells #[.slice A58 rr1.length c59] 26 (0, 0))] :: [(b3, .cells #[.int .i64 v11] 29 (0, 0))] :: H) ∧ Own ty_Row 65 g A58 c59 s60 rr1) := by
 unfold catalog_Merge_1_2 at h
 refine enter Try.func38 rfl (tm := #[.pointer none, pV b12 (of13), pV b1 0, pV b3 0, uV, uV, uV, uV, uV, uV, uV, uV, uV, uV, uV, uV, uV, uV, uV, uV, uV, uV, uV, uV, uV, uV, uV, uV, uV, uV, uV, uV, uV, uV]) (by kernel_rfl) ?_
 intro B hret hnor hnp
 refine wp_seq_k (fun K19 hK20 => ?_)
 refine blockK (fun B21 hx22 hn23 hr24 ho25 hp26 => ?_)
 refine wp_seq_k (fun K28 hK29 => ?_)
 refine wp_region_lit ?_
 refine seqL3 (by kernel_rfl) ?_
 refine wpList_nil ?_
 refine hK29 _ _ ?_
 refine condT (by kernel_rfl) ?_
 refine wp_seq_k (fun K30 hK31 => ?_)
 have HS32 := HS.u1
 have HS33 := HS32.u2
 have HS34 := HS33.u2
 refine heldG (S := Sg t f ([(b3, .cells #[.int .i64 v11] 29 (0, 0))] :: H) [(5, [(b1, .cells #[.slice A6 v5.length c7] 26 (0, 0))]), (5, s8)]) (n := 7) (by kernel_rfl) rfl HS34 ?_
 intro W35 HS36
 refine takeGQ 0 [5] rfl (by kernel_rfl) (by kernel_rfl) (by kernel_rfl) (by kernel_rfl) (by kernel_rfl) (by kernel_rfl) (fun ch_ a_ w_ q_ => hnp ch_ a_ w_ (hp26 ch_ a_ w_ q_)) (Sg.g2 (Sx.of [[(b1, .cells #[.slice A6 v5.length c7] 26 (0, 0))], s8] (FM.le.refl _) HS36) (fun _ => St.only [] HS36 (FM.le.refl _)) (fun _ => St.only [[(b1, .cells #[.slice A6 v5.length c7] 26 (0, 0))]] HS36 (FM.le.refl _))) (fun w_ hw_ => by obtain ⟨g_, hl_, hS_⟩ := hw_.seg (j := 5) (s := [(b1, .cells #[.slice A6 v5.length c7] 26 (0, 0))]) (by simp) (by simp); exact run_load rfl Try.underlying26 rfl (by kernel_rfl : _ = Value.pointer (some ⟨b1, 0, none⟩)) (hS_.cell 0)) ?_
 refine takeG [1, 2] (n := 6) (fuel := 4) (l' := #[true, true, true, false, false, false, false]) (a' := ⟨#[.pointer none, pV b12 (of13), pV b1 0, pV b3 0, uV, uV, tV, .pointer none, tV, .slice A6 v5.length c7, pV b12 (of13), pV b12 (of13), uV, uV, uV, uV, uV, uV, uV, uV, uV, uV, uV, uV, uV, uV, uV, uV, uV, uV, uV, uV, uV, uV], []⟩) rfl (by kernel_rfl) (by kernel_rfl) (by kernel_rfl) (fun ch_ a_ w_ q_ => hnp ch_ a_ w_ (hp26 ch_ a_ w_ q_)) (Sg.g2 (Sx.of [[(b1, .cells #[.slice A6 v5.length c7] 26 (0, 0))], s8] (FM.le.refl _) HS36) (fun _ => St.only [] HS36 (FM.le.refl _)) (fun _ => St.only [[(b1, .cells #[.slice A6 v5.length c7] 26 (0, 0))]] HS36 (FM.le.refl _))) ?_
 refine takeGQ 3 [] rfl (by kernel_rfl) (by kernel_rfl) (by kernel_rfl) (by kernel_rfl) (by kernel_rfl) (by kernel_rfl) (fun ch_ a_ w_ q_ => hnp ch_ a_ w_ (hp26 ch_ a_ w_ q_)) (Sg.g2 (Sx.of [[(b1, .cells #[.slice A6 v5.length c7] 26 (0, 0))], s8] (FM.le.refl _) HS36) (fun _ => St.only [] HS36 (FM.le.refl _)) (fun _ => St.only [[(b1, .cells #[.slice A6 v5.length c7] 26 (0, 0))]] HS36 (FM.le.refl _))) (fun w_ hw_ => by obtain ⟨g_, hl_, hS_⟩ := hw_.st; exact run_loadN (n := 18) rfl Try.underlying65 rfl (by kernel_rfl) (by kernel_rfl : _ = Value.pointer (some ⟨b12, of13, none⟩)) (cs := [.int .i64 y15.ID, .int .i64 y15.Box.X.Lo, .int .i64 y15.Box.X.Hi, .bool y15.Box.X.Unknown, .int .i64 y15.Box.Y.Lo, .int .i64 y15.Box.Y.Hi, .bool y15.Box.Y.Unknown, .int .i64 y15.Box.Z.Lo, .int .i64 y15.Box.Z.Hi, .bool y15.Box.Z.Unknown, .int .i64 y15.Flux.Lo, .int .i64 y15.Flux.Hi, .bool y15.Flux.Unknown, .int .i64 y15.When.Lo, .int .i64 y15.When.Hi, .bool y15.When.Unknown, .slice A16 y15.Frames.length c17, .int .i64 y15.Marks]) rfl (fun j_ hj_ => ((hc14 hl_ hS_) j_ hj_))) ?_
 refine takeGE 4 (by kernel_rfl) rfl (by kernel_rfl) (does_lit (e := ty_Row) (E := 65) (vs := #[(0, Value.agg #[.int .i64 y15.ID, .int .i64 y15.Box.X.Lo, .int .i64 y15.Box.X.Hi, .bool y15.Box.X.Unknown, .int .i64 y15.Box.Y.Lo, .int .i64 y15.Box.Y.Hi, .bool y15.Box.Y.Unknown, .int .i64 y15.Box.Z.Lo, .int .i64 y15.Box.Z.Hi, .bool y15.Box.Z.Unknown, .int .i64 y15.Flux.Lo, .int .i64 y15.Flux.Hi, .bool y15.Flux.Unknown, .int .i64 y15.When.Lo, .int .i64 y15.When.Hi, .bool y15.When.Unknown, .slice A16 y15.Frames.length c17, .int .i64 y15.Marks])]) (cs := #[.int .i64 y15.ID, .int .i64 y15.Box.X.Lo, .int .i64 y15.Box.X.Hi, .bool y15.Box.X.Unknown, .int .i64 y15.Box.Y.Lo, .int .i64 y15.Box.Y.Hi, .bool y15.Box.Y.Unknown, .int .i64 y15.Box.Z.Lo, .int .i64 y15.Box.Z.Hi, .bool y15.Box.Z.Unknown, .int .i64 y15.Flux.Lo, .int .i64 y15.Flux.Hi, .bool y15.Flux.Unknown, .int .i64 y15.When.Lo, .int .i64 y15.When.Hi, .bool y15.When.Unknown, .slice A16 y15.Frames.length c17, .int .i64 y15.Marks]) (xs := ([y15] : List S_Row)) rfl Try.underlying26 (by kernel_rfl) (by kernel_rfl) ⟨[.int .i64 y15.ID, .int .i64 y15.Box.X.Lo, .int .i64 y15.Box.X.Hi, .bool y15.Box.X.Unknown, .int .i64 y15.Box.Y.Lo, .int .i64 y15.Box.Y.Hi, .bool y15.Box.Y.Unknown, .int .i64 y15.Box.Z.Lo, .int .i64 y15.Box.Z.Hi, .bool y15.Box.Z.Unknown, .int .i64 y15.Flux.Lo, .int .i64 y15.Flux.Hi, .bool y15.Flux.Unknown, .int .i64 y15.When.Lo, .int .i64 y15.When.Hi, .bool y15.When.Unknown, .slice A16 y15.Frames.length c17, .int .i64 y15.Marks], _, rfl, ⟨A16, c17, rfl, HR18⟩, rfl⟩ rfl HS36 ?_ (by decide))
 intro b37 W38 s39 HS40 _ HO41
 refine ⟨(Sg.g2 (Sx.of [s39, [(b1, .cells #[.slice A6 v5.length c7] 26 (0, 0))], s8] (FM.le.refl _) HS40) (fun _ => St.only [s39] HS40 (FM.le.refl _)) (fun _ => St.only [s39, [(b1, .cells #[.slice A6 v5.length c7] 26 (0, 0))]] HS40 (FM.le.refl _))), ?_⟩
 have hq_ := guard_some h; clear h; obtain ⟨c43, h⟩ := hq_
 have c43 : (v5.length + 1) * 160 ≤ 140737488355328 := c43
 have HS44 := HS40.u2
 have HS45 := HS44.u1
 refine takeGE 5 (by kernel_rfl) rfl (by kernel_rfl) (does_append1 (e := ty_Row) (E := 65) (xs := v5) (ys := ([y15] : List S_Row)) rfl (by kernel_rfl : _ = Value.slice A6 v5.length c7) (by kernel_rfl : _ = Value.slice (some ⟨b37, 0, none⟩) ([y15] : List S_Row).length 1) Try.underlying26 inf65 HO9 HO41 HS45 c43 (lim63 c43 (by decide)) ?_)
 intro A46 c47 s48 W49 HS50 HO51
 refine ⟨(Sg.g2 (Sx.of [s48, [(b1, .cells #[.slice A6 v5.length c7] 26 (0, 0))]] (FM.le.refl _) HS50) (fun hl_ => Bool.noConfusion (show true = false from hl_)) (fun hl_ => Bool.noConfusion (show true = false from hl_))), ?_⟩
 have HS52 := HS50.u1
 refine takeGE 6 (by kernel_rfl) rfl (by kernel_rfl) (does_store (n := 1) (vs := [.slice A46 (v5 ++ ([y15] : List S_Row)).length c47]) (cs' := #[.slice A46 (v5 ++ ([y15] : List S_Row)).length c47]) rfl (by kernel_rfl) (by kernel_rfl : _ = Value.pointer (some ⟨b1, 0, none⟩)) (by kernel_rfl : _ = Value.slice A46 (v5 ++ ([y15] : List S_Row)).length c47) rfl rfl (by intro u_ hu_; simp only [List.mem_cons, List.not_mem_nil, or_false] at hu_; subst hu_; rfl) HS52 (Nat.le_of_ble_eq_true rfl) (by kernel_rfl) ?_)
 intro W53 HS54
 refine ⟨(Sg.g2 (Sx.of [[(b1, .cells #[.slice A46 (v5 ++ ([y15] : List S_Row)).length c47] 26 (0, 0))], s48] (FM.le.refl _) HS54) (fun hl_ => Bool.noConfusion (show true = false from hl_)) (fun hl_ => Bool.noConfusion (show true = false from hl_))), ?_⟩
 refine doneG (by kernel_rfl) ?_ _
 refine hK31 _ _ ?_
 refine wp_ret ?_
 refine hr24 _ _ ?_
 refine hret _ _ ?_
 refine ends_still (v := Value.tuple #[]) (by kernel_rfl) (by kernel_rfl) ?_
 have HS55 := HS54.u2
 have HS56 := HS55.u1
 have HS57 := HS56.u2
 injection h with h
 subst h
 exact ⟨f, A46, c47, s48, rfl, FM.le.refl _, HS57, HO51⟩

set_option maxRecDepth 100000 in
set_option maxHeartbeats 4000000 in
theorem slices_Equal_int.calls (k : Nat) (A2 : Option Addr) (c3 : Nat) (A6 : Option Addr) (c7 : Nat) (s11 : List Int) (s25 : List Int) {t w : World} {f : FM} {H : List Seg} (HS : St t w f (H)) (HR4 : SlR (tInt .i64) f A2 c3 s11) (HR8 : SlR (tInt .i64) f A6 c7 s25) (rr1 : Bool) (h : slices_Equal_int k s11 s25 = some rr1) :
    Calls Try.prog 40 #[.slice A2 s11.length c3, .slice A6 s25.length c7] w (fun e w' => ∃ (g : FM), e = .returned (Value.bool rr1) ∧ FM.le f g ∧ St t w' g (H)) := by
 unfold slices_Equal_int at h
 refine enter Try.func40 rfl (tm := #[.slice A2 s11.length c3, .slice A6 s25.length c7, uV, uV, uV, uV, uV, uV, uV, uV, uV, uV, uV, uV, uV, uV, uV, uV, uV, uV, uV, uV, uV, uV, uV, uV]) (by kernel_rfl) ?_
 intro B hret hnor hnp
 refine wp_seq_k (fun K9 hK10 => ?_)
 refine wp_region_lit ?_
 refine seqL1 (by kernel_rfl) ?_
 refine wpList_nil ?_
 refine hK10 _ _ ?_
 refine wp_seq_k (fun K11 hK12 => ?_)
 refine wp_seq_k (fun K13 hK14 => ?_)
 refine wp_region_lit ?_
 refine seqL5 (by kernel_rfl) ?_
 refine wpList_nil ?_
 refine hK14 _ _ ?_
 have hq_ := ite_some h; clear h; rcases hq_ with ⟨c16, h⟩ | ⟨c16, h⟩
 · have c16 : (s11.length : Int) ≠ (s25.length : Int) := c16
   refine wpRwI 10 (x := ((s11.length : Int) != (s25.length : Int))) (v := true) (by kernel_rfl) (bne_iff_ne.mpr c16) ?_
   refine condT (by kernel_rfl) ?_
   refine wp_seq_k (fun K17 hK18 => ?_)
   refine wp_region_lit ?_
   refine seqL1 (by kernel_rfl) ?_
   refine wpList_nil ?_
   refine hK18 _ _ ?_
   refine wp_ret ?_
   refine hret _ _ ?_
   refine ends_still (v := Value.bool false) (by kernel_rfl) (by kernel_rfl) ?_
   injection h with h
   subst h
   exact ⟨f, rfl, FM.le.refl _, HS⟩
 · have c16 : ¬ ((s11.length : Int) ≠ (s25.length : Int)) := c16
   refine wpRwI 10 (x := ((s11.length : Int) != (s25.length : Int))) (v := false) (by kernel_rfl) (bne_eq_false_iff_eq.mpr (Decidable.of_not_not c16)) ?_
   refine condF (by kernel_rfl) ?_
   refine wp_skip ?_
   refine hK12 _ _ ?_
   refine wp_seq_k (fun K19 hK20 => ?_)
   refine wp_seq_k (fun K21 hK22 => ?_)
   refine wp_region_lit ?_
   refine seqL3 (by kernel_rfl) ?_
   refine wpList_nil ?_
   refine hK22 _ _ ?_
   refine blockK (fun B23 hx24 hn25 hr26 ho27 hp28 => ?_)
   have hq_ := bind_some h; clear h; obtain ⟨o29, hv83, h⟩ := hq_
   have JR85 : ∀ z_, some (Sum.inl z_) = some o29 → some z_ = some rr1 := by
    intro z_ e_; injection e_ with e_; subst e_; exact h
   have J84 : ∀ (f78 : FM) (j82 : Nat → Value) (W80 : World) (a_ : Act), FM.le f f78 → some (Sum.inr ()) = some o29 → St t W80 f78 (H) → a_ = ⟨#[.slice A2 s11.length c3, .slice A6 s25.length c7, uV, uV, (j82 0), (j82 1), .slice A2 s11.length c3, iV (s11.length : Int), .slice A6 s25.length c7, iV (s25.length : Int), fV, .slice A2 s11.length c3, iV (s11.length : Int), (j82 2), (j82 3), (j82 4), (j82 5), (j82 6), (j82 7), (j82 8), (j82 9), (j82 10), (j82 11), (j82 12), (j82 13), (j82 14)], []⟩ → K19 a_ W80 := by
    intro f78 j82 W80 a_ L79 hj86 HS81  hfr_; subst hfr_
    injection hj86 with hj86; subst hj86; try dsimp only at h
    simp only [Sum.elim_inr] at h
    refine hK20 _ _ ?_
    refine wp_seq_k (fun K87 hK88 => ?_)
    refine wp_region_lit ?_
    refine seqL1 (by kernel_rfl) ?_
    refine wpList_nil ?_
    refine hK88 _ _ ?_
    refine wp_ret ?_
    refine hret _ _ ?_
    refine ends_still (v := Value.bool true) (by kernel_rfl) (by kernel_rfl) ?_
    injection h with h
    subst h
    exact ⟨f78, rfl, L79, HS81⟩
   clear h; have h := hv83; clear hv83
   refine loopK (fun n_ a_ w_ => ∃ (f33 : FM) (x38 : Int) (j37 : Nat → Value), FM.le f f33 ∧ St t w_ f33 (H) ∧ slices_Equal_int.l0 k s11 s25 n_ x38 = some o29 ∧ a_ = ⟨#[.slice A2 s11.length c3, .slice A6 s25.length c7, uV, uV, (j37 0), (j37 1), .slice A2 s11.length c3, iV (s11.length : Int), .slice A6 s25.length c7, iV (s25.length : Int), fV, .slice A2 s11.length c3, iV (s11.length : Int), iV x38, (j37 2), (j37 3), (j37 4), (j37 5), (j37 6), (j37 7), (j37 8), (j37 9), (j37 10), (j37 11), (j37 12), (j37 13)], []⟩) k ⟨f, 0, (fun i_ => [Value.bool false, undef, undef, undef, undef, undef, undef, undef, undef, undef, undef, undef, undef, undef].getD i_ undef), (FM.le.refl _), HS, h, (by kernel_rfl)⟩ ?_
   clear h
   rintro n32 _ W35 ⟨f33, x38, j37, L34, HS36, h, rfl⟩ K30 hK31
   obtain _ | n32 := n32
   · exact nomatch h
   simp only [slices_Equal_int.l0] at h
   refine wp_seq_k (fun K39 hK40 => ?_)
   refine wp_region_lit ?_
   refine seqL1 (by kernel_rfl) ?_
   refine wpList_nil ?_
   refine hK40 _ _ ?_
   refine wp_seq_k (fun K41 hK42 => ?_)
   have hq_ := ite_some h; clear h; rcases hq_ with ⟨c44, h⟩ | ⟨c44, h⟩
   · have c44 : x38 < (s11.length : Int) := c44
     refine wpRwI 14 (x := (decide (x38 < (s11.length : Int)))) (v := true) (by kernel_rfl) (decide_eq_true c44) ?_
     refine condT (by kernel_rfl) ?_
     refine wp_skip ?_
     refine hK42 _ _ ?_
     refine wp_seq_k (fun K45 hK46 => ?_)
     refine blockK (fun B47 hx48 hn49 hr50 ho51 hp52 => ?_)
     refine wp_seq_k (fun K54 hK55 => ?_)
     refine wp_region_lit ?_
     refine seqL2 (by kernel_rfl) ?_
     refine wpList_nil ?_
     refine hK55 _ _ ?_
     refine wp_seq_k (fun K56 hK57 => ?_)
     refine heldG (S := Sg t f33 (H) []) (n := 9) (by kernel_rfl) rfl HS36 ?_
     intro W58 HS59
     have hq_ := guard_some h; clear h; obtain ⟨c60, h⟩ := hq_
     have c60 : 0 ≤ x38 := c60
     obtain ⟨b64, of65, cs61, hA66, hr62, hc63⟩ := (HR4.mono L34).at (i := x38) c60 c44
     obtain rfl := hr62
     refine takeG [0, 1] (n := 9) (fuel := 7) (l' := #[true, true, false, false, false, false, false, false, false]) (a' := ⟨#[.slice A2 s11.length c3, .slice A6 s25.length c7, uV, uV, (j37 0), iV x38, .slice A2 s11.length c3, iV (s11.length : Int), .slice A6 s25.length c7, iV (s25.length : Int), fV, .slice A2 s11.length c3, iV (s11.length : Int), iV x38, tV, iV x38, .slice A2 s11.length c3, iV x38, (j37 6), (j37 7), (j37 8), (j37 9), (j37 10), (j37 11), (j37 12), (j37 13)], []⟩) rfl (by kernel_rfl) (by kernel_rfl) (by kernel_rfl) (fun ch_ a_ w_ q_ => (fun ch_ a_ w_ q_ => hnp ch_ a_ w_ (hp28 ch_ a_ w_ q_)) ch_ a_ w_ (hp52 ch_ a_ w_ q_)) (Sg.g0 (Sx.of [] (FM.le.refl _) HS59)) ?_
     refine takeGQ 2 [] rfl (by kernel_rfl) (by kernel_rfl) (by kernel_rfl) (by kernel_rfl) (by kernel_rfl) (by kernel_rfl) (fun ch_ a_ w_ q_ => (fun ch_ a_ w_ q_ => hnp ch_ a_ w_ (hp28 ch_ a_ w_ q_)) ch_ a_ w_ (hp52 ch_ a_ w_ q_)) (Sg.g0 (Sx.of [] (FM.le.refl _) HS59)) (fun w_ hw_ => by obtain ⟨g_, hl_, hS_⟩ := hw_.st; exact run_indexE hA66 (sz := 1) rfl Try.underlying22 (by kernel_rfl) (by kernel_rfl : _ = Value.slice A2 s11.length c3) (by kernel_rfl : _ = Value.int .i64 x38) c60 c44 w_) ?_
     refine takeGQ 3 [] rfl (by kernel_rfl) (by kernel_rfl) (by kernel_rfl) (by kernel_rfl) (by kernel_rfl) (by kernel_rfl) (fun ch_ a_ w_ q_ => (fun ch_ a_ w_ q_ => hnp ch_ a_ w_ (hp28 ch_ a_ w_ q_)) ch_ a_ w_ (hp52 ch_ a_ w_ q_)) (Sg.g0 (Sx.of [] (FM.le.refl _) HS59)) (fun w_ hw_ => by obtain ⟨g_, hl_, hS_⟩ := hw_.st; exact run_load rfl Try.underlying3 rfl (by kernel_rfl : _ = Value.pointer (some ⟨b64, of65 + (x38 : Int).toNat * 1, none⟩)) ((hc63 hl_ hS_) 0 (by decide))) ?_
     have hq_ := guard_some h; clear h; obtain ⟨c67, h⟩ := hq_
     have c67 : x38 < (s25.length : Int) := c67
     obtain ⟨b71, of72, cs68, hA73, hr69, hc70⟩ := (HR8.mono L34).at (i := x38) c60 c67
     obtain rfl := hr69
     refine takeG [4, 5] (n := 5) (fuel := 3) (l' := #[true, true, true, true, true, true, false, false, false]) (a' := ⟨#[.slice A2 s11.length c3, .slice A6 s25.length c7, uV, uV, (j37 0), iV x38, .slice A2 s11.length c3, iV (s11.length : Int), .slice A6 s25.length c7, iV (s25.length : Int), fV, .slice A2 s11.length c3, iV (s11.length : Int), iV x38, tV, iV x38, .slice A2 s11.length c3, iV x38, pV b64 (of65 + (x38 : Int).toNat * 1), iV (rd s11 x38), .slice A6 s25.length c7, iV x38, (j37 10), (j37 11), (j37 12), (j37 13)], []⟩) rfl (by kernel_rfl) (by kernel_rfl) (by kernel_rfl) (fun ch_ a_ w_ q_ => (fun ch_ a_ w_ q_ => hnp ch_ a_ w_ (hp28 ch_ a_ w_ q_)) ch_ a_ w_ (hp52 ch_ a_ w_ q_)) (Sg.g0 (Sx.of [] (FM.le.refl _) HS59)) ?_
     refine takeGQ 6 [] rfl (by kernel_rfl) (by kernel_rfl) (by kernel_rfl) (by kernel_rfl) (by kernel_rfl) (by kernel_rfl) (fun ch_ a_ w_ q_ => (fun ch_ a_ w_ q_ => hnp ch_ a_ w_ (hp28 ch_ a_ w_ q_)) ch_ a_ w_ (hp52 ch_ a_ w_ q_)) (Sg.g0 (Sx.of [] (FM.le.refl _) HS59)) (fun w_ hw_ => by obtain ⟨g_, hl_, hS_⟩ := hw_.st; exact run_indexE hA73 (sz := 1) rfl Try.underlying22 (by kernel_rfl) (by kernel_rfl : _ = Value.slice A6 s25.length c7) (by kernel_rfl : _ = Value.int .i64 x38) c60 c67 w_) ?_
     refine takeGQ 7 [] rfl (by kernel_rfl) (by kernel_rfl) (by kernel_rfl) (by kernel_rfl) (by kernel_rfl) (by kernel_rfl) (fun ch_ a_ w_ q_ => (fun ch_ a_ w_ q_ => hnp ch_ a_ w_ (hp28 ch_ a_ w_ q_)) ch_ a_ w_ (hp52 ch_ a_ w_ q_)) (Sg.g0 (Sx.of [] (FM.le.refl _) HS59)) (fun w_ hw_ => by obtain ⟨g_, hl_, hS_⟩ := hw_.st; exact run_load rfl Try.underlying3 rfl (by kernel_rfl : _ = Value.pointer (some ⟨b71, of72 + (x38 : Int).toNat * 1, none⟩)) ((hc70 hl_ hS_) 0 (by decide))) ?_
     refine takeG [8] (n := 1) (fuel := 0) (l' := #[true, true, true, true, true, true, true, true, true]) (a' := ⟨#[.slice A2 s11.length c3, .slice A6 s25.length c7, uV, uV, (j37 0), iV x38, .slice A2 s11.length c3, iV (s11.length : Int), .slice A6 s25.length c7, iV (s25.length : Int), fV, .slice A2 s11.length c3, iV (s11.length : Int), iV x38, tV, iV x38, .slice A2 s11.length c3, iV x38, pV b64 (of65 + (x38 : Int).toNat * 1), iV (rd s11 x38), .slice A6 s25.length c7, iV x38, pV b71 (of72 + (x38 : Int).toNat * 1), iV (rd s25 x38), .bool ((rd s11 x38) != (rd s25 x38)), (j37 13)], []⟩) rfl (by kernel_rfl) (by kernel_rfl) (by kernel_rfl) (fun ch_ a_ w_ q_ => (fun ch_ a_ w_ q_ => hnp ch_ a_ w_ (hp28 ch_ a_ w_ q_)) ch_ a_ w_ (hp52 ch_ a_ w_ q_)) (Sg.g0 (Sx.of [] (FM.le.refl _) HS59)) ?_
     refine doneG (by kernel_rfl) ?_ _
     refine hK57 _ _ ?_
     have hq_ := ite_some h; clear h; rcases hq_ with ⟨c75, h⟩ | ⟨c75, h⟩
     · have c75 : (rd s11 x38) ≠ (rd s25 x38) := c75
       refine wpRwI 24 (x := ((rd s11 x38) != (rd s25 x38))) (v := true) (by kernel_rfl) (bne_iff_ne.mpr c75) ?_
       refine condT (by kernel_rfl) ?_
       refine wp_seq_k (fun K76 hK77 => ?_)
       refine wp_region_lit ?_
       refine seqL1 (by kernel_rfl) ?_
       refine wpList_nil ?_
       refine hK77 _ _ ?_
       refine wp_ret ?_
       refine hr50 _ _ ?_
       refine hr26 _ _ ?_
       refine hret _ _ ?_
       refine ends_still (v := Value.bool false) (by kernel_rfl) (by kernel_rfl) ?_
       replace h := JR85 _ h
       injection h with h
       subst h
       exact ⟨f33, rfl, L34, HS59⟩
     · have c75 : ¬ ((rd s11 x38) ≠ (rd s25 x38)) := c75
       refine wpRwI 24 (x := ((rd s11 x38) != (rd s25 x38))) (v := false) (by kernel_rfl) (bne_eq_false_iff_eq.mpr (Decidable.of_not_not c75)) ?_
       refine condF (by kernel_rfl) ?_
       refine wp_skip ?_
       refine hn49 _ _ ?_
       refine hK46 _ _ ?_
       refine wp_region_lit ?_
       refine seqL2 (by kernel_rfl) ?_
       refine wpList_nil ?_
       refine hK31 n32 _ _ (Nat.lt_succ_self _) ?_
       exact ⟨f33, (w64 (x38 + 1)), (fun i_ => [(j37 0), Value.int .i64 x38, Value.bool true, Value.int .i64 x38, Value.slice A2 s11.length c3, Value.int .i64 x38, Value.pointer (some ⟨b64, of65 + (x38 : Int).toNat * 1, none⟩), Value.int .i64 (rd s11 x38), Value.slice A6 s25.length c7, Value.int .i64 x38, Value.pointer (some ⟨b71, of72 + (x38 : Int).toNat * 1, none⟩), Value.int .i64 (rd s25 x38), Value.bool false, Value.int .i64 (w64 (x38 + 1))].getD i_ undef), L34, HS59, h, (by kernel_rfl)⟩
   · have c44 : ¬ (x38 < (s11.length : Int)) := c44
     refine wpRwI 14 (x := (decide (x38 < (s11.length : Int)))) (v := false) (by kernel_rfl) (decide_eq_false c44) ?_
     refine condF (by kernel_rfl) ?_
     refine wp_exit ?_
     refine hx24 _ _ ?_
     exact J84 f33 (fun i_ => [(j37 0), (j37 1), Value.int .i64 x38, Value.bool false, (j37 3), (j37 4), (j37 5), (j37 6), (j37 7), (j37 8), (j37 9), (j37 10), (j37 11), (j37 12), (j37 13)].getD i_ undef) W35 _ L34 h HS36 (by kernel_rfl)

set_option maxRecDepth 100000 in
set_option maxHeartbeats 4000000 in
theorem catalog_Same.calls (k : Nat) (A2 : Option Addr) (c3 : Nat) (A6 : Option Addr) (c7 : Nat) (a1 : S_Row) (b5 : S_Row) {t w : World} {f : FM} {H : List Seg} (HS : St t w f (H)) (HR4 : SlR (tInt .i64) f A2 c3 a1.Frames) (HR8 : SlR (tInt .i64) f A6 c7 b5.Frames) (rr1 : Bool) (h : catalog_Same k a1 b5 = some rr1) :
    Calls Try.prog 21 #[.agg #[.int .i64 a1.ID, .int .i64 a1.Box.X.Lo, .int .i64 a1.Box.X.Hi, .bool a1.Box.X.Unknown, .int .i64 a1.Box.Y.Lo, .int .i64 a1.Box.Y.Hi, .bool a1.Box.Y.Unknown, .int .i64 a1.Box.Z.Lo, .int .i64 a1.Box.Z.Hi, .bool a1.Box.Z.Unknown, .int .i64 a1.Flux.Lo, .int .i64 a1.Flux.Hi, .bool a1.Flux.Unknown, .int .i64 a1.When.Lo, .int .i64 a1.When.Hi, .bool a1.When.Unknown, .slice A2 a1.Frames.length c3, .int .i64 a1.Marks], .agg #[.int .i64 b5.ID, .int .i64 b5.Box.X.Lo, .int .i64 b5.Box.X.Hi, .bool b5.Box.X.Unknown, .int .i64 b5.Box.Y.Lo, .int .i64 b5.Box.Y.Hi, .bool b5.Box.Y.Unknown, .int .i64 b5.Box.Z.Lo, .int .i64 b5.Box.Z.Hi, .bool b5.Box.Z.Unknown, .int .i64 b5.Flux.Lo, .int .i64 b5.Flux.Hi, .bool b5.Flux.Unknown, .int .i64 b5.When.Lo, .int .i64 b5.When.Hi, .bool b5.When.Unknown, .slice A6 b5.Frames.length c7, .int .i64 b5.Marks]] w (fun e w' => ∃ (g : FM), e = .returned (Value.bool rr1) ∧ FM.le f g ∧ St t w' g (H)) := by
 unfold catalog_Same at h
 refine enter Try.func21 rfl (tm := #[(ag_Row a1 A2 c3), (ag_Row b5 A6 c7), uV, uV, uV, uV, uV, uV, uV, uV, uV, uV, uV, uV, uV, uV, uV, uV, uV, uV, uV, uV, uV, uV, uV, uV, uV, uV, uV, uV, uV, uV, uV, uV, uV, uV, uV, uV, uV, uV, uV, uV, uV, uV, uV]) (by kernel_rfl) ?_
 intro B hret hnor hnp
 refine wp_seq_k (fun K9 hK10 => ?_)
 refine wp_region_lit ?_
 refine seqK rfl (does_box (cs := #[.int .i64 a1.ID, .int .i64 a1.Box.X.Lo, .int .i64 a1.Box.X.Hi, .bool a1.Box.X.Unknown, .int .i64 a1.Box.Y.Lo, .int .i64 a1.Box.Y.Hi, .bool a1.Box.Y.Unknown, .int .i64 a1.Box.Z.Lo, .int .i64 a1.Box.Z.Hi, .bool a1.Box.Z.Unknown, .int .i64 a1.Flux.Lo, .int .i64 a1.Flux.Hi, .bool a1.Flux.Unknown, .int .i64 a1.When.Lo, .int .i64 a1.When.Hi, .bool a1.When.Unknown, .slice A2 a1.Frames.length c3, .int .i64 a1.Marks]) rfl (by kernel_rfl : _ = Value.agg #[.int .i64 a1.ID, .int .i64 a1.Box.X.Lo, .int .i64 a1.Box.X.Hi, .bool a1.Box.X.Unknown, .int .i64 a1.Box.Y.Lo, .int .i64 a1.Box.Y.Hi, .bool a1.Box.Y.Unknown, .int .i64 a1.Box.Z.Lo, .int .i64 a1.Box.Z.Hi, .bool a1.Box.Z.Unknown, .int .i64 a1.Flux.Lo, .int .i64 a1.Flux.Hi, .bool a1.Flux.Unknown, .int .i64 a1.When.Lo, .int .i64 a1.When.Hi, .bool a1.When.Unknown, .slice A2 a1.Frames.length c3, .int .i64 a1.Marks]) rfl HS ?_)
 intro b11 W12 HS13
 refine seqK rfl (does_box (cs := #[.int .i64 b5.ID, .int .i64 b5.Box.X.Lo, .int .i64 b5.Box.X.Hi, .bool b5.Box.X.Unknown, .int .i64 b5.Box.Y.Lo, .int .i64 b5.Box.Y.Hi, .bool b5.Box.Y.Unknown, .int .i64 b5.Box.Z.Lo, .int .i64 b5.Box.Z.Hi, .bool b5.Box.Z.Unknown, .int .i64 b5.Flux.Lo, .int .i64 b5.Flux.Hi, .bool b5.Flux.Unknown, .int .i64 b5.When.Lo, .int .i64 b5.When.Hi, .bool b5.When.Unknown, .slice A6 b5.Frames.length c7, .int .i64 b5.Marks]) rfl (by kernel_rfl : _ = Value.agg #[.int .i64 b5.ID, .int .i64 b5.Box.X.Lo, .int .i64 b5.Box.X.Hi, .bool b5.Box.X.Unknown, .int .i64 b5.Box.Y.Lo, .int .i64 b5.Box.Y.Hi, .bool b5.Box.Y.Unknown, .int .i64 b5.Box.Z.Lo, .int .i64 b5.Box.Z.Hi, .bool b5.Box.Z.Unknown, .int .i64 b5.Flux.Lo, .int .i64 b5.Flux.Hi, .bool b5.Flux.Unknown, .int .i64 b5.When.Lo, .int .i64 b5.When.Hi, .bool b5.When.Unknown, .slice A6 b5.Frames.length c7, .int .i64 b5.Marks]) rfl HS13 ?_)
 intro b15 W16 HS17
 refine seqL1 (by kernel_rfl) ?_
 refine wpList_nil ?_
 refine hK10 _ _ ?_
 refine wp_seq_k (fun K19 hK20 => ?_)
 refine wp_region_lit ?_
 refine seqL1 (by kernel_rfl) ?_
 refine seqK rfl (does_run (run_load rfl Try.underlying3 rfl (by kernel_rfl : _ = Value.pointer (some ⟨b11, 0, none⟩)) (HS17.u1.cell 0)) ?_)
 refine seqL1 (by kernel_rfl) ?_
 refine seqK rfl (does_run (run_load rfl Try.underlying3 rfl (by kernel_rfl : _ = Value.pointer (some ⟨b15, 0, none⟩)) (HS17.cell 0)) ?_)
 refine seqL2 (by kernel_rfl) ?_
 have hq_ := ite_some h; clear h; rcases hq_ with ⟨c21, h⟩ | ⟨c21, h⟩
 · have c21 : a1.ID = b5.ID := c21
   refine seqRwI 9 (x := (a1.ID == b5.ID)) (v := true) (by kernel_rfl) (beq_iff_eq.mpr c21) ?_
   refine seqRwI 10 (x := (a1.ID == b5.ID)) (v := true) (by kernel_rfl) (beq_iff_eq.mpr c21) ?_
   refine seqL1 (by kernel_rfl) ?_
   refine seqG (by kernel_rfl) (does_run (run_loadN (n := 9) rfl Try.underlying57 rfl (by kernel_rfl) (by kernel_rfl : _ = Value.pointer (some ⟨b11, 1, none⟩)) (cs := [.int .i64 a1.Box.X.Lo, .int .i64 a1.Box.X.Hi, .bool a1.Box.X.Unknown, .int .i64 a1.Box.Y.Lo, .int .i64 a1.Box.Y.Hi, .bool a1.Box.Y.Unknown, .int .i64 a1.Box.Z.Lo, .int .i64 a1.Box.Z.Hi, .bool a1.Box.Z.Unknown]) rfl (HS17.u1.cells 1 9 _ rfl)) ?_)
   refine seqL1 (by kernel_rfl) ?_
   refine seqG (by kernel_rfl) (does_run (run_loadN (n := 9) rfl Try.underlying57 rfl (by kernel_rfl) (by kernel_rfl : _ = Value.pointer (some ⟨b15, 1, none⟩)) (cs := [.int .i64 b5.Box.X.Lo, .int .i64 b5.Box.X.Hi, .bool b5.Box.X.Unknown, .int .i64 b5.Box.Y.Lo, .int .i64 b5.Box.Y.Hi, .bool b5.Box.Y.Unknown, .int .i64 b5.Box.Z.Lo, .int .i64 b5.Box.Z.Hi, .bool b5.Box.Z.Unknown]) rfl (HS17.cells 1 9 _ rfl)) ?_)
   refine seqG (by kernel_rfl) (does_run (run_eqS (b := (((a1.Box.X.Lo == b5.Box.X.Lo) && ((a1.Box.X.Hi == b5.Box.X.Hi) && ((a1.Box.X.Unknown == b5.Box.X.Unknown) && true))) && (((a1.Box.Y.Lo == b5.Box.Y.Lo) && ((a1.Box.Y.Hi == b5.Box.Y.Hi) && ((a1.Box.Y.Unknown == b5.Box.Y.Unknown) && true))) && (((a1.Box.Z.Lo == b5.Box.Z.Lo) && ((a1.Box.Z.Hi == b5.Box.Z.Hi) && ((a1.Box.Z.Unknown == b5.Box.Z.Unknown) && true))) && true)))) rfl (by kernel_rfl : _ = Value.agg #[.int .i64 a1.Box.X.Lo, .int .i64 a1.Box.X.Hi, .bool a1.Box.X.Unknown, .int .i64 a1.Box.Y.Lo, .int .i64 a1.Box.Y.Hi, .bool a1.Box.Y.Unknown, .int .i64 a1.Box.Z.Lo, .int .i64 a1.Box.Z.Hi, .bool a1.Box.Z.Unknown]) (by kernel_rfl : _ = Value.agg #[.int .i64 b5.Box.X.Lo, .int .i64 b5.Box.X.Hi, .bool b5.Box.X.Unknown, .int .i64 b5.Box.Y.Lo, .int .i64 b5.Box.Y.Hi, .bool b5.Box.Y.Unknown, .int .i64 b5.Box.Z.Lo, .int .i64 b5.Box.Z.Hi, .bool b5.Box.Z.Unknown]) (by kernel_rfl) (by kernel_rfl) W16) ?_)
   refine seqL2 (by kernel_rfl) ?_
   have hq_ := ite_some h; clear h; rcases hq_ with ⟨c22, h⟩ | ⟨c22, h⟩
   · have c22 : (((a1.Box.X.Lo == b5.Box.X.Lo) && ((a1.Box.X.Hi == b5.Box.X.Hi) && ((a1.Box.X.Unknown == b5.Box.X.Unknown) && true))) && (((a1.Box.Y.Lo == b5.Box.Y.Lo) && ((a1.Box.Y.Hi == b5.Box.Y.Hi) && ((a1.Box.Y.Unknown == b5.Box.Y.Unknown) && true))) && (((a1.Box.Z.Lo == b5.Box.Z.Lo) && ((a1.Box.Z.Hi == b5.Box.Z.Hi) && ((a1.Box.Z.Unknown == b5.Box.Z.Unknown) && true))) && true))) = true := c22
     refine seqRwI 15 (x := (((a1.Box.X.Lo == b5.Box.X.Lo) && ((a1.Box.X.Hi == b5.Box.X.Hi) && ((a1.Box.X.Unknown == b5.Box.X.Unknown) && true))) && (((a1.Box.Y.Lo == b5.Box.Y.Lo) && ((a1.Box.Y.Hi == b5.Box.Y.Hi) && ((a1.Box.Y.Unknown == b5.Box.Y.Unknown) && true))) && (((a1.Box.Z.Lo == b5.Box.Z.Lo) && ((a1.Box.Z.Hi == b5.Box.Z.Hi) && ((a1.Box.Z.Unknown == b5.Box.Z.Unknown) && true))) && true)))) (v := true) (by kernel_rfl) c22 ?_
     refine seqRwI 16 (x := (((a1.Box.X.Lo == b5.Box.X.Lo) && ((a1.Box.X.Hi == b5.Box.X.Hi) && ((a1.Box.X.Unknown == b5.Box.X.Unknown) && true))) && (((a1.Box.Y.Lo == b5.Box.Y.Lo) && ((a1.Box.Y.Hi == b5.Box.Y.Hi) && ((a1.Box.Y.Unknown == b5.Box.Y.Unknown) && true))) && (((a1.Box.Z.Lo == b5.Box.Z.Lo) && ((a1.Box.Z.Hi == b5.Box.Z.Hi) && ((a1.Box.Z.Unknown == b5.Box.Z.Unknown) && true))) && true)))) (v := true) (by kernel_rfl) c22 ?_
     refine seqRwI 17 (x := (((a1.Box.X.Lo == b5.Box.X.Lo) && ((a1.Box.X.Hi == b5.Box.X.Hi) && ((a1.Box.X.Unknown == b5.Box.X.Unknown) && true))) && (((a1.Box.Y.Lo == b5.Box.Y.Lo) && ((a1.Box.Y.Hi == b5.Box.Y.Hi) && ((a1.Box.Y.Unknown == b5.Box.Y.Unknown) && true))) && (((a1.Box.Z.Lo == b5.Box.Z.Lo) && ((a1.Box.Z.Hi == b5.Box.Z.Hi) && ((a1.Box.Z.Unknown == b5.Box.Z.Unknown) && true))) && true)))) (v := true) (by kernel_rfl) c22 ?_
     refine seqL1 (by kernel_rfl) ?_
     refine seqG (by kernel_rfl) (does_run (run_loadN (n := 3) rfl Try.underlying60 rfl (by kernel_rfl) (by kernel_rfl : _ = Value.pointer (some ⟨b11, 10, none⟩)) (cs := [.int .i64 a1.Flux.Lo, .int .i64 a1.Flux.Hi, .bool a1.Flux.Unknown]) rfl (HS17.u1.cells 10 3 _ rfl)) ?_)
     refine seqL1 (by kernel_rfl) ?_
     refine seqG (by kernel_rfl) (does_run (run_loadN (n := 3) rfl Try.underlying60 rfl (by kernel_rfl) (by kernel_rfl : _ = Value.pointer (some ⟨b15, 10, none⟩)) (cs := [.int .i64 b5.Flux.Lo, .int .i64 b5.Flux.Hi, .bool b5.Flux.Unknown]) rfl (HS17.cells 10 3 _ rfl)) ?_)
     refine seqG (by kernel_rfl) (does_run (run_eqS (b := ((a1.Flux.Lo == b5.Flux.Lo) && ((a1.Flux.Hi == b5.Flux.Hi) && ((a1.Flux.Unknown == b5.Flux.Unknown) && true)))) rfl (by kernel_rfl : _ = Value.agg #[.int .i64 a1.Flux.Lo, .int .i64 a1.Flux.Hi, .bool a1.Flux.Unknown]) (by kernel_rfl : _ = Value.agg #[.int .i64 b5.Flux.Lo, .int .i64 b5.Flux.Hi, .bool b5.Flux.Unknown]) (by kernel_rfl) (by kernel_rfl) W16) ?_)
     refine seqL2 (by kernel_rfl) ?_
     have hq_ := ite_some h; clear h; rcases hq_ with ⟨c23, h⟩ | ⟨c23, h⟩
     · have c23 : ((a1.Flux.Lo == b5.Flux.Lo) && ((a1.Flux.Hi == b5.Flux.Hi) && ((a1.Flux.Unknown == b5.Flux.Unknown) && true))) = true := c23
       refine seqRwI 22 (x := ((a1.Flux.Lo == b5.Flux.Lo) && ((a1.Flux.Hi == b5.Flux.Hi) && ((a1.Flux.Unknown == b5.Flux.Unknown) && true)))) (v := true) (by kernel_rfl) c23 ?_
       refine seqRwI 23 (x := ((a1.Flux.Lo == b5.Flux.Lo) && ((a1.Flux.Hi == b5.Flux.Hi) && ((a1.Flux.Unknown == b5.Flux.Unknown) && true)))) (v := true) (by kernel_rfl) c23 ?_
       refine seqRwI 24 (x := ((a1.Flux.Lo == b5.Flux.Lo) && ((a1.Flux.Hi == b5.Flux.Hi) && ((a1.Flux.Unknown == b5.Flux.Unknown) && true)))) (v := true) (by kernel_rfl) c23 ?_
       refine seqL1 (by kernel_rfl) ?_
       refine seqG (by kernel_rfl) (does_run (run_loadN (n := 3) rfl Try.underlying63 rfl (by kernel_rfl) (by kernel_rfl : _ = Value.pointer (some ⟨b11, 13, none⟩)) (cs := [.int .i64 a1.When.Lo, .int .i64 a1.When.Hi, .bool a1.When.Unknown]) rfl (HS17.u1.cells 13 3 _ rfl)) ?_)
       refine seqL1 (by kernel_rfl) ?_
       refine seqG (by kernel_rfl) (does_run (run_loadN (n := 3) rfl Try.underlying63 rfl (by kernel_rfl) (by kernel_rfl : _ = Value.pointer (some ⟨b15, 13, none⟩)) (cs := [.int .i64 b5.When.Lo, .int .i64 b5.When.Hi, .bool b5.When.Unknown]) rfl (HS17.cells 13 3 _ rfl)) ?_)
       refine seqG (by kernel_rfl) (does_run (run_eqS (b := ((a1.When.Lo == b5.When.Lo) && ((a1.When.Hi == b5.When.Hi) && ((a1.When.Unknown == b5.When.Unknown) && true)))) rfl (by kernel_rfl : _ = Value.agg #[.int .i64 a1.When.Lo, .int .i64 a1.When.Hi, .bool a1.When.Unknown]) (by kernel_rfl : _ = Value.agg #[.int .i64 b5.When.Lo, .int .i64 b5.When.Hi, .bool b5.When.Unknown]) (by kernel_rfl) (by kernel_rfl) W16) ?_)
       refine seqS2 (a' := ⟨#[(ag_Row a1 A2 c3), (ag_Row b5 A6 c7), pV b11 0, pV b15 0, fV, pV b11 0, iV a1.ID, pV b15 0, iV b5.ID, tV, tV, pV b11 1, (ag_Box a1.Box), pV b15 1, (ag_Box b5.Box), tV, tV, tV, pV b11 10, (ag_Bound a1.Flux), pV b15 10, (ag_Bound b5.Flux), tV, tV, tV, pV b11 13, (ag_Bound a1.When), pV b15 13, (ag_Bound b5.When), .bool ((a1.When.Lo == b5.When.Lo) && ((a1.When.Hi == b5.When.Hi) && ((a1.When.Unknown == b5.When.Unknown) && true))), .bool ((a1.When.Lo == b5.When.Lo) && ((a1.When.Hi == b5.When.Hi) && ((a1.When.Unknown == b5.When.Unknown) && true))), .bool ((a1.When.Lo == b5.When.Lo) && ((a1.When.Hi == b5.When.Hi) && ((a1.When.Unknown == b5.When.Unknown) && true))), uV, uV, uV, uV, uV, uV, uV, uV, uV, uV, uV, uV, uV], []⟩) (by kernel_rfl) ?_
       have hq_ := ite_some h; clear h; rcases hq_ with ⟨c24, h⟩ | ⟨c24, h⟩
       · have c24 : ((a1.When.Lo == b5.When.Lo) && ((a1.When.Hi == b5.When.Hi) && ((a1.When.Unknown == b5.When.Unknown) && true))) = true := c24
         refine seqRwI 29 (x := ((a1.When.Lo == b5.When.Lo) && ((a1.When.Hi == b5.When.Hi) && ((a1.When.Unknown == b5.When.Unknown) && true)))) (v := true) (by kernel_rfl) c24 ?_
         refine seqRwI 30 (x := ((a1.When.Lo == b5.When.Lo) && ((a1.When.Hi == b5.When.Hi) && ((a1.When.Unknown == b5.When.Unknown) && true)))) (v := true) (by kernel_rfl) c24 ?_
         refine seqRwI 31 (x := ((a1.When.Lo == b5.When.Lo) && ((a1.When.Hi == b5.When.Hi) && ((a1.When.Unknown == b5.When.Unknown) && true)))) (v := true) (by kernel_rfl) c24 ?_
         refine seqL1 (by kernel_rfl) ?_
         refine seqG (by kernel_rfl) (does_run (run_load rfl Try.underlying3 rfl (by kernel_rfl : _ = Value.pointer (some ⟨b11, 17, none⟩)) (HS17.u1.cell 17)) ?_)
         refine seqL1 (by kernel_rfl) ?_
         refine seqG (by kernel_rfl) (does_run (run_load rfl Try.underlying3 rfl (by kernel_rfl : _ = Value.pointer (some ⟨b15, 17, none⟩)) (HS17.cell 17)) ?_)
         refine seqL3 (by kernel_rfl) ?_
         have hq_ := ite_some h; clear h; rcases hq_ with ⟨c25, h⟩ | ⟨c25, h⟩
         · have c25 : a1.Marks = b5.Marks := c25
           refine seqRwI 36 (x := (a1.Marks == b5.Marks)) (v := true) (by kernel_rfl) (beq_iff_eq.mpr c25) ?_
           refine seqRwI 37 (x := (a1.Marks == b5.Marks)) (v := true) (by kernel_rfl) (beq_iff_eq.mpr c25) ?_
           refine seqRwI 38 (x := (a1.Marks == b5.Marks)) (v := true) (by kernel_rfl) (beq_iff_eq.mpr c25) ?_
           refine seqL1 (by kernel_rfl) ?_
           refine seqG (by kernel_rfl) (does_run (run_load rfl Try.underlying22 rfl (by kernel_rfl : _ = Value.pointer (some ⟨b11, 16, none⟩)) (HS17.u1.cell 16)) ?_)
           refine seqL1 (by kernel_rfl) ?_
           refine seqG (by kernel_rfl) (does_run (run_load rfl Try.underlying22 rfl (by kernel_rfl : _ = Value.pointer (some ⟨b15, 16, none⟩)) (HS17.cell 16)) ?_)
           have hq_ := bind_some h; clear h; obtain ⟨vt26, hc27, h⟩ := hq_
           refine seqG (by kernel_rfl) (does_call (f := 40) (args := #[.slice A2 a1.Frames.length c3, .slice A6 b5.Frames.length c7]) (by kernel_rfl) (slices_Equal_int.calls k A2 c3 A6 c7 a1.Frames b5.Frames HS17 HR4 HR8 vt26 hc27) ?_)
           rintro _ W30 ⟨f28, rfl, L29, HS31⟩
           refine ⟨_, rfl, ?_⟩
           refine seqL2 (by kernel_rfl) ?_
           refine wpList_nil ?_
           refine hK20 _ _ ?_
           refine wp_ret ?_
           refine hret _ _ ?_
           refine ends_still (v := Value.bool vt26) (by kernel_rfl) (by kernel_rfl) ?_
           have HS32 := HS31.drop
           have HS33 := HS32.drop
           injection h with h
           subst h
           exact ⟨f28, rfl, L29, HS33⟩
         · have c25 : ¬ (a1.Marks = b5.Marks) := c25
           refine seqRwI 36 (x := (a1.Marks == b5.Marks)) (v := false) (by kernel_rfl) (beq_eq_false_iff_ne.mpr c25) ?_
           refine seqRwI 37 (x := (a1.Marks == b5.Marks)) (v := false) (by kernel_rfl) (beq_eq_false_iff_ne.mpr c25) ?_
           refine seqRwI 38 (x := (a1.Marks == b5.Marks)) (v := false) (by kernel_rfl) (beq_eq_false_iff_ne.mpr c25) ?_
           refine seqL7 (by kernel_rfl) ?_
           refine wpList_nil ?_
           refine hK20 _ _ ?_
           refine wp_ret ?_
           refine hret _ _ ?_
           refine ends_still (v := Value.bool false) (by kernel_rfl) (by kernel_rfl) ?_
           have HS34 := HS17.drop
           have HS35 := HS34.drop
           injection h with h
           subst h
           exact ⟨f, rfl, FM.le.refl _, HS35⟩
       · have c24 : ¬ (((a1.When.Lo == b5.When.Lo) && ((a1.When.Hi == b5.When.Hi) && ((a1.When.Unknown == b5.When.Unknown) && true))) = true) := c24
         refine seqRwI 29 (x := ((a1.When.Lo == b5.When.Lo) && ((a1.When.Hi == b5.When.Hi) && ((a1.When.Unknown == b5.When.Unknown) && true)))) (v := false) (by kernel_rfl) (Bool.eq_false_iff.mpr c24) ?_
         refine seqRwI 30 (x := ((a1.When.Lo == b5.When.Lo) && ((a1.When.Hi == b5.When.Hi) && ((a1.When.Unknown == b5.When.Unknown) && true)))) (v := false) (by kernel_rfl) (Bool.eq_false_iff.mpr c24) ?_
         refine seqRwI 31 (x := ((a1.When.Lo == b5.When.Lo) && ((a1.When.Hi == b5.When.Hi) && ((a1.When.Unknown == b5.When.Unknown) && true)))) (v := false) (by kernel_rfl) (Bool.eq_false_iff.mpr c24) ?_
         refine seqL14 (by kernel_rfl) ?_
         refine wpList_nil ?_
         refine hK20 _ _ ?_
         refine wp_ret ?_
         refine hret _ _ ?_
         refine ends_still (v := Value.bool false) (by kernel_rfl) (by kernel_rfl) ?_
         have HS36 := HS17.drop
         have HS37 := HS36.drop
         injection h with h
         subst h
         exact ⟨f, rfl, FM.le.refl _, HS37⟩
     · have c23 : ¬ (((a1.Flux.Lo == b5.Flux.Lo) && ((a1.Flux.Hi == b5.Flux.Hi) && ((a1.Flux.Unknown == b5.Flux.Unknown) && true))) = true) := c23
       refine seqRwI 22 (x := ((a1.Flux.Lo == b5.Flux.Lo) && ((a1.Flux.Hi == b5.Flux.Hi) && ((a1.Flux.Unknown == b5.Flux.Unknown) && true)))) (v := false) (by kernel_rfl) (Bool.eq_false_iff.mpr c23) ?_
       refine seqRwI 23 (x := ((a1.Flux.Lo == b5.Flux.Lo) && ((a1.Flux.Hi == b5.Flux.Hi) && ((a1.Flux.Unknown == b5.Flux.Unknown) && true)))) (v := false) (by kernel_rfl) (Bool.eq_false_iff.mpr c23) ?_
       refine seqRwI 24 (x := ((a1.Flux.Lo == b5.Flux.Lo) && ((a1.Flux.Hi == b5.Flux.Hi) && ((a1.Flux.Unknown == b5.Flux.Unknown) && true)))) (v := false) (by kernel_rfl) (Bool.eq_false_iff.mpr c23) ?_
       refine seqS21 (a' := ⟨#[(ag_Row a1 A2 c3), (ag_Row b5 A6 c7), pV b11 0, pV b15 0, fV, pV b11 0, iV a1.ID, pV b15 0, iV b5.ID, tV, tV, pV b11 1, (ag_Box a1.Box), pV b15 1, (ag_Box b5.Box), tV, tV, tV, pV b11 10, (ag_Bound a1.Flux), pV b15 10, (ag_Bound b5.Flux), fV, fV, fV, uV, uV, uV, uV, uV, fV, fV, uV, uV, uV, uV, uV, fV, fV, uV, uV, uV, uV, uV, fV], []⟩) (by kernel_rfl) ?_
       refine wpList_nil ?_
       refine hK20 _ _ ?_
       refine wp_ret ?_
       refine hret _ _ ?_
       refine ends_still (v := Value.bool false) (by kernel_rfl) (by kernel_rfl) ?_
       have HS38 := HS17.drop
       have HS39 := HS38.drop
       injection h with h
       subst h
       exact ⟨f, rfl, FM.le.refl _, HS39⟩
   · have c22 : ¬ ((((a1.Box.X.Lo == b5.Box.X.Lo) && ((a1.Box.X.Hi == b5.Box.X.Hi) && ((a1.Box.X.Unknown == b5.Box.X.Unknown) && true))) && (((a1.Box.Y.Lo == b5.Box.Y.Lo) && ((a1.Box.Y.Hi == b5.Box.Y.Hi) && ((a1.Box.Y.Unknown == b5.Box.Y.Unknown) && true))) && (((a1.Box.Z.Lo == b5.Box.Z.Lo) && ((a1.Box.Z.Hi == b5.Box.Z.Hi) && ((a1.Box.Z.Unknown == b5.Box.Z.Unknown) && true))) && true))) = true) := c22
     refine seqRwI 15 (x := (((a1.Box.X.Lo == b5.Box.X.Lo) && ((a1.Box.X.Hi == b5.Box.X.Hi) && ((a1.Box.X.Unknown == b5.Box.X.Unknown) && true))) && (((a1.Box.Y.Lo == b5.Box.Y.Lo) && ((a1.Box.Y.Hi == b5.Box.Y.Hi) && ((a1.Box.Y.Unknown == b5.Box.Y.Unknown) && true))) && (((a1.Box.Z.Lo == b5.Box.Z.Lo) && ((a1.Box.Z.Hi == b5.Box.Z.Hi) && ((a1.Box.Z.Unknown == b5.Box.Z.Unknown) && true))) && true)))) (v := false) (by kernel_rfl) (Bool.eq_false_iff.mpr c22) ?_
     refine seqRwI 16 (x := (((a1.Box.X.Lo == b5.Box.X.Lo) && ((a1.Box.X.Hi == b5.Box.X.Hi) && ((a1.Box.X.Unknown == b5.Box.X.Unknown) && true))) && (((a1.Box.Y.Lo == b5.Box.Y.Lo) && ((a1.Box.Y.Hi == b5.Box.Y.Hi) && ((a1.Box.Y.Unknown == b5.Box.Y.Unknown) && true))) && (((a1.Box.Z.Lo == b5.Box.Z.Lo) && ((a1.Box.Z.Hi == b5.Box.Z.Hi) && ((a1.Box.Z.Unknown == b5.Box.Z.Unknown) && true))) && true)))) (v := false) (by kernel_rfl) (Bool.eq_false_iff.mpr c22) ?_
     refine seqRwI 17 (x := (((a1.Box.X.Lo == b5.Box.X.Lo) && ((a1.Box.X.Hi == b5.Box.X.Hi) && ((a1.Box.X.Unknown == b5.Box.X.Unknown) && true))) && (((a1.Box.Y.Lo == b5.Box.Y.Lo) && ((a1.Box.Y.Hi == b5.Box.Y.Hi) && ((a1.Box.Y.Unknown == b5.Box.Y.Unknown) && true))) && (((a1.Box.Z.Lo == b5.Box.Z.Lo) && ((a1.Box.Z.Hi == b5.Box.Z.Hi) && ((a1.Box.Z.Unknown == b5.Box.Z.Unknown) && true))) && true)))) (v := false) (by kernel_rfl) (Bool.eq_false_iff.mpr c22) ?_
     refine seqS28 (a' := ⟨#[(ag_Row a1 A2 c3), (ag_Row b5 A6 c7), pV b11 0, pV b15 0, fV, pV b11 0, iV a1.ID, pV b15 0, iV b5.ID, tV, tV, pV b11 1, (ag_Box a1.Box), pV b15 1, (ag_Box b5.Box), fV, fV, fV, uV, uV, uV, uV, uV, fV, fV, uV, uV, uV, uV, uV, fV, fV, uV, uV, uV, uV, uV, fV, fV, uV, uV, uV, uV, uV, fV], []⟩) (by kernel_rfl) ?_
     refine wpList_nil ?_
     refine hK20 _ _ ?_
     refine wp_ret ?_
     refine hret _ _ ?_
     refine ends_still (v := Value.bool false) (by kernel_rfl) (by kernel_rfl) ?_
     have HS40 := HS17.drop
     have HS41 := HS40.drop
     injection h with h
     subst h
     exact ⟨f, rfl, FM.le.refl _, HS41⟩
 · have c21 : ¬ (a1.ID = b5.ID) := c21
   refine seqRwI 9 (x := (a1.ID == b5.ID)) (v := false) (by kernel_rfl) (beq_eq_false_iff_ne.mpr c21) ?_
   refine seqRwI 10 (x := (a1.ID == b5.ID)) (v := false) (by kernel_rfl) (beq_eq_false_iff_ne.mpr c21) ?_
   refine seqS30 (a' := ⟨#[(ag_Row a1 A2 c3), (ag_Row b5 A6 c7), pV b11 0, pV b15 0, fV, pV b11 0, iV a1.ID, pV b15 0, iV b5.ID, fV, fV, uV, uV, uV, uV, uV, fV, fV, uV, uV, uV, uV, uV, fV, fV, uV, uV, uV, uV, uV, fV, fV, uV, uV, uV, uV, uV, fV, fV, uV, uV, uV, uV, uV, uV], []⟩) (by kernel_rfl) ?_
   refine seqL5 (by kernel_rfl) ?_
   refine wpList_nil ?_
   refine hK20 _ _ ?_
   refine wp_ret ?_
   refine hret _ _ ?_
   refine ends_still (v := Value.bool false) (by kernel_rfl) (by kernel_rfl) ?_
   have HS42 := HS17.drop
   have HS43 := HS42.drop
   injection h with h
   subst h
   exact ⟨f, rfl, FM.le.refl _, HS43⟩

set_option maxRecDepth 100000 in
set_option maxHeartbeats 4000000 in
theorem catalog_Merge_1_3.calls (k : Nat) (b1 : Nat) (A6 : Option Addr) (c7 : Nat) (s8 : Seg) (b3 : Nat) (b12 : Nat) (of13 : Nat) (A16 : Option Addr) (c17 : Nat) (b19 : Nat) (of20 : Nat) (A23 : Option Addr) (c24 : Nat) (v5 : List S_Row) (v11 : Int) (x15 : S_Row) (y22 : S_Row) {t w : World} {f : FM} {H : List Seg} (HS : St t w f ([(b1, .cells #[.slice A6 v5.length c7] 26 (0, 0))] :: [(b3, .cells #[.int .i64 v11] 29 (0, 0))] :: s8 :: H)) (HO9 : Own ty_Row 65 f A6 c7 s8 v5) (HR18 : SlR (tInt .i64) f A16 c17 x15.Frames) (hc14 : ∀ {t w : World} {g : FM} {H : List Seg}, FM.le f g → St t w g H → ∀ j, j < 18 → w.cell? ⟨b12, of13 + j, none⟩ = ([.int .i64 x15.ID, .int .i64 x15.Box.X.Lo, .int .i64 x15.Box.X.Hi, .bool x15.Box.X.Unknown, .int .i64 x15.Box.Y.Lo, .int .i64 x15.Box.Y.Hi, .bool x15.Box.Y.Unknown, .int .i64 x15.Box.Z.Lo, .int .i64 x15.Box.Z.Hi, .bool x15.Box.Z.Unknown, .int .i64 x15.Flux.Lo, .int .i64 x15.Flux.Hi, .bool x15.Flux.Unknown, .int .i64 x15.When.Lo, .int .i64 x15.When.Hi, .bool x15.When.Unknown, .slice A16 x15.Frames.length c17, .int .i64 x15.Marks] : List Value)[j]?) (HR25 : SlR (tInt .i64) f A23 c24 y22.Frames) (hc21 : ∀ {t w : World} {g : FM} {H : List Seg}, FM.le f g → St t w g H → ∀ j, j < 18 → w.cell? ⟨b19, of20 + j, none⟩ = ([.int .i64 y22.ID, .int .i64 y22.Box.X.Lo, .int .i64 y22.Box.X.Hi, .bool y22.Box.X.Unknown, .int .i64 y22.Box.Y.Lo, .int .i64 y22.Box.Y.Hi, .bool y22.Box.Y.Unknown, .int .i64 y22.Box.Z.Lo, .int .i64 y22.Box.Z.Hi, .bool y22.Box.Z.Unknown, .int .i64 y22.Flux.Lo, .int .i64 y22.Flux.Hi, .bool y22.Flux.Unknown, .int .i64 y22.When.Lo, .int .i64 y22.When.Hi, .bool y22.When.Unknown, .slice A23 y22.Frames.length c24, .int .i64 y22.Marks] : List Value)[j]?) (rr1 : List S_Row) (rr2 : Int) (h : catalog_Merge_1_3 k v5 v11 x15 y22 = some (rr1, rr2)) :
    Calls Try.prog 38 #[.pointer (some ⟨b12, of13, none⟩), .pointer (some ⟨b19, of20, none⟩), .pointer (some ⟨b1, 0, none⟩), .pointer (some ⟨b3, 0, none⟩)] w (fun e w' => ∃ (g : FM) (A103 : Option Addr) (c104 : Nat) (s105 : Seg), e = .returned (Value.tuple #[]) ∧ FM.le f g ∧ St t w' g (s105 :: [(b1, .cells #[.slice A103 rr1.length c104] 26 (0, 0))] :: [(b3, .cells #[.int .i64 rr2] 29 (0, 0))] :: H) ∧ Own ty_Row 65 g A103 c104 s105 rr1) := by
 unfold catalog_Merge_1_3 at h
 refine enter Try.func38 rfl (tm := #[pV b12 (of13), pV b19 (of20), pV b1 0, pV b3 0, uV, uV, uV, uV, uV, uV, uV, uV, uV, uV, uV, uV, uV, uV, uV, uV, uV, uV, uV, uV, uV, uV, uV, uV, uV, uV, uV, uV, uV, uV]) (by kernel_rfl) ?_
 intro B hret hnor hnp
 refine wp_seq_k (fun K26 hK27 => ?_)
 refine blockK (fun B28 hx29 hn30 hr31 ho32 hp33 => ?_)
 refine wp_seq_k (fun K35 hK36 => ?_)
 refine wp_region_lit ?_
 refine seqL3 (by kernel_rfl) ?_
 refine wpList_nil ?_
 refine hK36 _ _ ?_
 refine condF (by kernel_rfl) ?_
 refine wp_seq_k (fun K37 hK38 => ?_)
 refine heldG (S := Sg t f ([(b1, .cells #[.slice A6 v5.length c7] 26 (0, 0))] :: [(b3, .cells #[.int .i64 v11] 29 (0, 0))] :: s8 :: H) []) (n := 13) (by kernel_rfl) rfl HS ?_
 intro W39 HS40
 refine takeG [0, 1, 2, 3, 4] (n := 13) (fuel := 8) (l' := #[true, true, true, true, true, false, false, false, false, false, false, false, false]) (a' := ⟨#[pV b12 (of13), pV b19 (of20), pV b1 0, pV b3 0, uV, uV, fV, pV b12 (of13), fV, uV, uV, uV, uV, uV, uV, uV, pV b19 (of20), tV, tV, pV b12 (of13), pV b12 (of13), uV, uV, uV, uV, uV, uV, uV, uV, uV, uV, uV, uV, uV], []⟩) rfl (by kernel_rfl) (by kernel_rfl) (by kernel_rfl) (fun ch_ a_ w_ q_ => hnp ch_ a_ w_ (hp33 ch_ a_ w_ q_)) (Sg.g0 (Sx.of [] (FM.le.refl _) HS40)) ?_
 refine takeGQ 5 [] rfl (by kernel_rfl) (by kernel_rfl) (by kernel_rfl) (by kernel_rfl) (by kernel_rfl) (by kernel_rfl) (fun ch_ a_ w_ q_ => hnp ch_ a_ w_ (hp33 ch_ a_ w_ q_)) (Sg.g0 (Sx.of [] (FM.le.refl _) HS40)) (fun w_ hw_ => by obtain ⟨g_, hl_, hS_⟩ := hw_.st; exact run_loadN (n := 18) rfl Try.underlying65 rfl (by kernel_rfl) (by kernel_rfl : _ = Value.pointer (some ⟨b12, of13, none⟩)) (cs := [.int .i64 x15.ID, .int .i64 x15.Box.X.Lo, .int .i64 x15.Box.X.Hi, .bool x15.Box.X.Unknown, .int .i64 x15.Box.Y.Lo, .int .i64 x15.Box.Y.Hi, .bool x15.Box.Y.Unknown, .int .i64 x15.Box.Z.Lo, .int .i64 x15.Box.Z.Hi, .bool x15.Box.Z.Unknown, .int .i64 x15.Flux.Lo, .int .i64 x15.Flux.Hi, .bool x15.Flux.Unknown, .int .i64 x15.When.Lo, .int .i64 x15.When.Hi, .bool x15.When.Unknown, .slice A16 x15.Frames.length c17, .int .i64 x15.Marks]) rfl (fun j_ hj_ => ((hc14 hl_ hS_) j_ hj_))) ?_
 refine takeG [6, 7] (n := 7) (fuel := 5) (l' := #[true, true, true, true, true, true, true, true, false, false, false, false, false]) (a' := ⟨#[pV b12 (of13), pV b19 (of20), pV b1 0, pV b3 0, uV, uV, fV, pV b12 (of13), fV, uV, uV, uV, uV, uV, uV, uV, pV b19 (of20), tV, tV, pV b12 (of13), pV b12 (of13), (ag_Row x15 A16 c17), pV b19 (of20), pV b19 (of20), uV, uV, uV, uV, uV, uV, uV, uV, uV, uV], []⟩) rfl (by kernel_rfl) (by kernel_rfl) (by kernel_rfl) (fun ch_ a_ w_ q_ => hnp ch_ a_ w_ (hp33 ch_ a_ w_ q_)) (Sg.g0 (Sx.of [] (FM.le.refl _) HS40)) ?_
 refine takeGQ 8 [] rfl (by kernel_rfl) (by kernel_rfl) (by kernel_rfl) (by kernel_rfl) (by kernel_rfl) (by kernel_rfl) (fun ch_ a_ w_ q_ => hnp ch_ a_ w_ (hp33 ch_ a_ w_ q_)) (Sg.g0 (Sx.of [] (FM.le.refl _) HS40)) (fun w_ hw_ => by obtain ⟨g_, hl_, hS_⟩ := hw_.st; exact run_loadN (n := 18) rfl Try.underlying65 rfl (by kernel_rfl) (by kernel_rfl : _ = Value.pointer (some ⟨b19, of20, none⟩)) (cs := [.int .i64 y22.ID, .int .i64 y22.Box.X.Lo, .int .i64 y22.Box.X.Hi, .bool y22.Box.X.Unknown, .int .i64 y22.Box.Y.Lo, .int .i64 y22.Box.Y.Hi, .bool y22.Box.Y.Unknown, .int .i64 y22.Box.Z.Lo, .int .i64 y22.Box.Z.Hi, .bool y22.Box.Z.Unknown, .int .i64 y22.Flux.Lo, .int .i64 y22.Flux.Hi, .bool y22.Flux.Unknown, .int .i64 y22.When.Lo, .int .i64 y22.When.Hi, .bool y22.When.Unknown, .slice A23 y22.Frames.length c24, .int .i64 y22.Marks]) rfl (fun j_ hj_ => ((hc21 hl_ hS_) j_ hj_))) ?_
 have hq_ := bind_some h; clear h; obtain ⟨vt41, hc42, h⟩ := hq_
 refine takeGE 9 (by kernel_rfl) rfl (by kernel_rfl) (does_call (f := 21) (args := #[.agg #[.int .i64 x15.ID, .int .i64 x15.Box.X.Lo, .int .i64 x15.Box.X.Hi, .bool x15.Box.X.Unknown, .int .i64 x15.Box.Y.Lo, .int .i64 x15.Box.Y.Hi, .bool x15.Box.Y.Unknown, .int .i64 x15.Box.Z.Lo, .int .i64 x15.Box.Z.Hi, .bool x15.Box.Z.Unknown, .int .i64 x15.Flux.Lo, .int .i64 x15.Flux.Hi, .bool x15.Flux.Unknown, .int .i64 x15.When.Lo, .int .i64 x15.When.Hi, .bool x15.When.Unknown, .slice A16 x15.Frames.length c17, .int .i64 x15.Marks], .agg #[.int .i64 y22.ID, .int .i64 y22.Box.X.Lo, .int .i64 y22.Box.X.Hi, .bool y22.Box.X.Unknown, .int .i64 y22.Box.Y.Lo, .int .i64 y22.Box.Y.Hi, .bool y22.Box.Y.Unknown, .int .i64 y22.Box.Z.Lo, .int .i64 y22.Box.Z.Hi, .bool y22.Box.Z.Unknown, .int .i64 y22.Flux.Lo, .int .i64 y22.Flux.Hi, .bool y22.Flux.Unknown, .int .i64 y22.When.Lo, .int .i64 y22.When.Hi, .bool y22.When.Unknown, .slice A23 y22.Frames.length c24, .int .i64 y22.Marks]]) (by kernel_rfl) (catalog_Same.calls k A16 c17 A23 c24 x15 y22 HS40 HR18 HR25 vt41 hc42) ?_)
 rintro _ W45 ⟨f43, rfl, L44, HS46⟩
 refine ⟨_, rfl, ?_⟩
 refine ⟨(Sg.g0 (Sx.of [] L44 HS46)), ?_⟩
 refine takeG [10, 11, 12] (n := 3) (fuel := 0) (l' := #[true, true, true, true, true, true, true, true, true, true, true, true, true]) (a' := ⟨#[pV b12 (of13), pV b19 (of20), pV b1 0, pV b3 0, uV, uV, fV, pV b12 (of13), fV, uV, uV, uV, uV, uV, uV, .bool (!vt41), pV b19 (of20), tV, tV, pV b12 (of13), pV b12 (of13), (ag_Row x15 A16 c17), pV b19 (of20), pV b19 (of20), (ag_Row y22 A23 c24), .bool vt41, .bool (!vt41), .bool (!vt41), uV, uV, uV, uV, uV, uV], []⟩) rfl (by kernel_rfl) (by kernel_rfl) (by kernel_rfl) (fun ch_ a_ w_ q_ => hnp ch_ a_ w_ (hp33 ch_ a_ w_ q_)) (Sg.g0 (Sx.of [] L44 HS46)) ?_
 refine doneG (by kernel_rfl) ?_ _
 refine hK38 _ _ ?_
 have hq_ := ite_some h; clear h; rcases hq_ with ⟨c48, h⟩ | ⟨c48, h⟩
 · have c48 : ¬ (vt41 = true) := c48
   refine wpRwI 15 (x := (!vt41)) (v := true) (by kernel_rfl) (congrArg (fun b_ => !b_) (show vt41 = false from (Bool.eq_false_iff.mpr c48)) : (!vt41) = true) ?_
   refine wpRwI 26 (x := (!vt41)) (v := true) (by kernel_rfl) (congrArg (fun b_ => !b_) (show vt41 = false from (Bool.eq_false_iff.mpr c48)) : (!vt41) = true) ?_
   refine wpRwI 27 (x := (!vt41)) (v := true) (by kernel_rfl) (congrArg (fun b_ => !b_) (show vt41 = false from (Bool.eq_false_iff.mpr c48)) : (!vt41) = true) ?_
   refine condT (by kernel_rfl) ?_
   refine wp_region_lit ?_
   have HS49 := HS46.u1
   refine seqK rfl (does_store (n := 1) (vs := [.int .i64 15]) (cs' := #[.int .i64 15]) rfl (by kernel_rfl) (by kernel_rfl : _ = Value.pointer (some ⟨b3, 0, none⟩)) (by kernel_rfl : _ = Value.int .i64 15) rfl rfl (by intro u_ hu_; simp only [List.mem_cons, List.not_mem_nil, or_false] at hu_; subst hu_; rfl) HS49 (Nat.le_of_ble_eq_true rfl) (by kernel_rfl) ?_)
   intro W50 HS51
   refine wpList_nil ?_
   refine hn30 _ _ ?_
   refine hK27 _ _ ?_
   have HS52 := HS51.u2
   have HS53 := HS52.u2
   refine heldG (S := Sg t f43 ([(b3, .cells #[.int .i64 15] 29 (0, 0))] :: H) [(5, [(b1, .cells #[.slice A6 v5.length c7] 26 (0, 0))]), (5, s8)]) (n := 7) (by kernel_rfl) rfl HS53 ?_
   intro W54 HS55
   refine takeGQ 0 [5] rfl (by kernel_rfl) (by kernel_rfl) (by kernel_rfl) (by kernel_rfl) (by kernel_rfl) (by kernel_rfl) hnp (Sg.g2 (Sx.of [[(b1, .cells #[.slice A6 v5.length c7] 26 (0, 0))], s8] (FM.le.refl _) HS55) (fun _ => St.only [] HS55 (FM.le.refl _)) (fun _ => St.only [[(b1, .cells #[.slice A6 v5.length c7] 26 (0, 0))]] HS55 (FM.le.refl _))) (fun w_ hw_ => by obtain ⟨g_, hl_, hS_⟩ := hw_.seg (j := 5) (s := [(b1, .cells #[.slice A6 v5.length c7] 26 (0, 0))]) (by simp) (by simp); exact run_load rfl Try.underlying26 rfl (by kernel_rfl : _ = Value.pointer (some ⟨b1, 0, none⟩)) (hS_.cell 0)) ?_
   refine takeG [1, 2] (n := 6) (fuel := 4) (l' := #[true, true, true, false, false, false, false]) (a' := ⟨#[pV b12 (of13), pV b19 (of20), pV b1 0, pV b3 0, uV, uV, fV, pV b12 (of13), fV, uV, uV, uV, uV, uV, uV, tV, pV b19 (of20), tV, tV, pV b12 (of13), pV b12 (of13), (ag_Row x15 A16 c17), pV b19 (of20), pV b19 (of20), (ag_Row y22 A23 c24), .bool vt41, tV, tV, .slice A6 v5.length c7, pV b12 (of13), pV b12 (of13), uV, uV, uV], []⟩) rfl (by kernel_rfl) (by kernel_rfl) (by kernel_rfl) hnp (Sg.g2 (Sx.of [[(b1, .cells #[.slice A6 v5.length c7] 26 (0, 0))], s8] (FM.le.refl _) HS55) (fun _ => St.only [] HS55 (FM.le.refl _)) (fun _ => St.only [[(b1, .cells #[.slice A6 v5.length c7] 26 (0, 0))]] HS55 (FM.le.refl _))) ?_
   refine takeGQ 3 [] rfl (by kernel_rfl) (by kernel_rfl) (by kernel_rfl) (by kernel_rfl) (by kernel_rfl) (by kernel_rfl) hnp (Sg.g2 (Sx.of [[(b1, .cells #[.slice A6 v5.length c7] 26 (0, 0))], s8] (FM.le.refl _) HS55) (fun _ => St.only [] HS55 (FM.le.refl _)) (fun _ => St.only [[(b1, .cells #[.slice A6 v5.length c7] 26 (0, 0))]] HS55 (FM.le.refl _))) (fun w_ hw_ => by obtain ⟨g_, hl_, hS_⟩ := hw_.st; exact run_loadN (n := 18) rfl Try.underlying65 rfl (by kernel_rfl) (by kernel_rfl : _ = Value.pointer (some ⟨b12, of13, none⟩)) (cs := [.int .i64 x15.ID, .int .i64 x15.Box.X.Lo, .int .i64 x15.Box.X.Hi, .bool x15.Box.X.Unknown, .int .i64 x15.Box.Y.Lo, .int .i64 x15.Box.Y.Hi, .bool x15.Box.Y.Unknown, .int .i64 x15.Box.Z.Lo, .int .i64 x15.Box.Z.Hi, .bool x15.Box.Z.Unknown, .int .i64 x15.Flux.Lo, .int .i64 x15.Flux.Hi, .bool x15.Flux.Unknown, .int .i64 x15.When.Lo, .int .i64 x15.When.Hi, .bool x15.When.Unknown, .slice A16 x15.Frames.length c17, .int .i64 x15.Marks]) rfl (fun j_ hj_ => ((hc14 (L44.trans hl_) hS_) j_ hj_))) ?_
   refine takeGE 4 (by kernel_rfl) rfl (by kernel_rfl) (does_lit (e := ty_Row) (E := 65) (vs := #[(0, Value.agg #[.int .i64 x15.ID, .int .i64 x15.Box.X.Lo, .int .i64 x15.Box.X.Hi, .bool x15.Box.X.Unknown, .int .i64 x15.Box.Y.Lo, .int .i64 x15.Box.Y.Hi, .bool x15.Box.Y.Unknown, .int .i64 x15.Box.Z.Lo, .int .i64 x15.Box.Z.Hi, .bool x15.Box.Z.Unknown, .int .i64 x15.Flux.Lo, .int .i64 x15.Flux.Hi, .bool x15.Flux.Unknown, .int .i64 x15.When.Lo, .int .i64 x15.When.Hi, .bool x15.When.Unknown, .slice A16 x15.Frames.length c17, .int .i64 x15.Marks])]) (cs := #[.int .i64 x15.ID, .int .i64 x15.Box.X.Lo, .int .i64 x15.Box.X.Hi, .bool x15.Box.X.Unknown, .int .i64 x15.Box.Y.Lo, .int .i64 x15.Box.Y.Hi, .bool x15.Box.Y.Unknown, .int .i64 x15.Box.Z.Lo, .int .i64 x15.Box.Z.Hi, .bool x15.Box.Z.Unknown, .int .i64 x15.Flux.Lo, .int .i64 x15.Flux.Hi, .bool x15.Flux.Unknown, .int .i64 x15.When.Lo, .int .i64 x15.When.Hi, .bool x15.When.Unknown, .slice A16 x15.Frames.length c17, .int .i64 x15.Marks]) (xs := ([x15] : List S_Row)) rfl Try.underlying26 (by kernel_rfl) (by kernel_rfl) ⟨[.int .i64 x15.ID, .int .i64 x15.Box.X.Lo, .int .i64 x15.Box.X.Hi, .bool x15.Box.X.Unknown, .int .i64 x15.Box.Y.Lo, .int .i64 x15.Box.Y.Hi, .bool x15.Box.Y.Unknown, .int .i64 x15.Box.Z.Lo, .int .i64 x15.Box.Z.Hi, .bool x15.Box.Z.Unknown, .int .i64 x15.Flux.Lo, .int .i64 x15.Flux.Hi, .bool x15.Flux.Unknown, .int .i64 x15.When.Lo, .int .i64 x15.When.Hi, .bool x15.When.Unknown, .slice A16 x15.Frames.length c17, .int .i64 x15.Marks], _, rfl, ⟨A16, c17, rfl, (HR18.mono L44)⟩, rfl⟩ rfl HS55 ?_ (by decide))
   intro b56 W57 s58 HS59 _ HO60
   refine ⟨(Sg.g2 (Sx.of [s58, [(b1, .cells #[.slice A6 v5.length c7] 26 (0, 0))], s8] (FM.le.refl _) HS59) (fun _ => St.only [s58] HS59 (FM.le.refl _)) (fun _ => St.only [s58, [(b1, .cells #[.slice A6 v5.length c7] 26 (0, 0))]] HS59 (FM.le.refl _))), ?_⟩
   have hq_ := guard_some h; clear h; obtain ⟨c62, h⟩ := hq_
   have c62 : (v5.length + 1) * 160 ≤ 140737488355328 := c62
   have HS63 := HS59.u2
   have HS64 := HS63.u1
   refine takeGE 5 (by kernel_rfl) rfl (by kernel_rfl) (does_append1 (e := ty_Row) (E := 65) (xs := v5) (ys := ([x15] : List S_Row)) rfl (by kernel_rfl : _ = Value.slice A6 v5.length c7) (by kernel_rfl : _ = Value.slice (some ⟨b56, 0, none⟩) ([x15] : List S_Row).length 1) Try.underlying26 inf65 (HO9.mono L44) HO60 HS64 c62 (lim63 c62 (by decide)) ?_)
   intro A65 c66 s67 W68 HS69 HO70
   refine ⟨(Sg.g2 (Sx.of [s67, [(b1, .cells #[.slice A6 v5.length c7] 26 (0, 0))]] (FM.le.refl _) HS69) (fun hl_ => Bool.noConfusion (show true = false from hl_)) (fun hl_ => Bool.noConfusion (show true = false from hl_))), ?_⟩
   have HS71 := HS69.u1
   refine takeGE 6 (by kernel_rfl) rfl (by kernel_rfl) (does_store (n := 1) (vs := [.slice A65 (v5 ++ ([x15] : List S_Row)).length c66]) (cs' := #[.slice A65 (v5 ++ ([x15] : List S_Row)).length c66]) rfl (by kernel_rfl) (by kernel_rfl : _ = Value.pointer (some ⟨b1, 0, none⟩)) (by kernel_rfl : _ = Value.slice A65 (v5 ++ ([x15] : List S_Row)).length c66) rfl rfl (by intro u_ hu_; simp only [List.mem_cons, List.not_mem_nil, or_false] at hu_; subst hu_; rfl) HS71 (Nat.le_of_ble_eq_true rfl) (by kernel_rfl) ?_)
   intro W72 HS73
   refine ⟨(Sg.g2 (Sx.of [[(b1, .cells #[.slice A65 (v5 ++ ([x15] : List S_Row)).length c66] 26 (0, 0))], s67] (FM.le.refl _) HS73) (fun hl_ => Bool.noConfusion (show true = false from hl_)) (fun hl_ => Bool.noConfusion (show true = false from hl_))), ?_⟩
   refine doneG (by kernel_rfl) ?_ _
   refine hnor _ _ ?_
   refine ends_still (v := Value.tuple #[]) (by kernel_rfl) (by kernel_rfl) ?_
   have HS97 := HS73.u2
   have HS98 := HS97.u1
   have HS99 := HS98.u2
   injection h with h
   injection h with h0_ h
   subst h0_ h
   exact ⟨f43, A65, c66, s67, rfl, L44, HS99, HO70⟩
 · have c48 : ¬ (¬ (vt41 = true)) := c48
   refine wpRwI 15 (x := (!vt41)) (v := false) (by kernel_rfl) (congrArg (fun b_ => !b_) (show vt41 = true from (Decidable.of_not_not c48)) : (!vt41) = false) ?_
   refine wpRwI 26 (x := (!vt41)) (v := false) (by kernel_rfl) (congrArg (fun b_ => !b_) (show vt41 = true from (Decidable.of_not_not c48)) : (!vt41) = false) ?_
   refine wpRwI 27 (x := (!vt41)) (v := false) (by kernel_rfl) (congrArg (fun b_ => !b_) (show vt41 = true from (Decidable.of_not_not c48)) : (!vt41) = false) ?_
   refine condF (by kernel_rfl) ?_
   refine wp_skip ?_
   refine hn30 _ _ ?_
   refine hK27 _ _ ?_
   have HS74 := HS46.u1
   have HS75 := HS74.u2
   have HS76 := HS75.u2
   refine heldG (S := Sg t f43 ([(b3, .cells #[.int .i64 v11] 29 (0, 0))] :: H) [(5, [(b1, .cells #[.slice A6 v5.length c7] 26 (0, 0))]), (5, s8)]) (n := 7) (by kernel_rfl) rfl HS76 ?_
   intro W77 HS78
   refine takeGQ 0 [5] rfl (by kernel_rfl) (by kernel_rfl) (by kernel_rfl) (by kernel_rfl) (by kernel_rfl) (by kernel_rfl) hnp (Sg.g2 (Sx.of [[(b1, .cells #[.slice A6 v5.length c7] 26 (0, 0))], s8] (FM.le.refl _) HS78) (fun _ => St.only [] HS78 (FM.le.refl _)) (fun _ => St.only [[(b1, .cells #[.slice A6 v5.length c7] 26 (0, 0))]] HS78 (FM.le.refl _))) (fun w_ hw_ => by obtain ⟨g_, hl_, hS_⟩ := hw_.seg (j := 5) (s := [(b1, .cells #[.slice A6 v5.length c7] 26 (0, 0))]) (by simp) (by simp); exact run_load rfl Try.underlying26 rfl (by kernel_rfl : _ = Value.pointer (some ⟨b1, 0, none⟩)) (hS_.cell 0)) ?_
   refine takeG [1, 2] (n := 6) (fuel := 4) (l' := #[true, true, true, false, false, false, false]) (a' := ⟨#[pV b12 (of13), pV b19 (of20), pV b1 0, pV b3 0, uV, uV, fV, pV b12 (of13), fV, uV, uV, uV, uV, uV, uV, fV, pV b19 (of20), tV, tV, pV b12 (of13), pV b12 (of13), (ag_Row x15 A16 c17), pV b19 (of20), pV b19 (of20), (ag_Row y22 A23 c24), .bool vt41, fV, fV, .slice A6 v5.length c7, pV b12 (of13), pV b12 (of13), uV, uV, uV], []⟩) rfl (by kernel_rfl) (by kernel_rfl) (by kernel_rfl) hnp (Sg.g2 (Sx.of [[(b1, .cells #[.slice A6 v5.length c7] 26 (0, 0))], s8] (FM.le.refl _) HS78) (fun _ => St.only [] HS78 (FM.le.refl _)) (fun _ => St.only [[(b1, .cells #[.slice A6 v5.length c7] 26 (0, 0))]] HS78 (FM.le.refl _))) ?_
   refine takeGQ 3 [] rfl (by kernel_rfl) (by kernel_rfl) (by kernel_rfl) (by kernel_rfl) (by kernel_rfl) (by kernel_rfl) hnp (Sg.g2 (Sx.of [[(b1, .cells #[.slice A6 v5.length c7] 26 (0, 0))], s8] (FM.le.refl _) HS78) (fun _ => St.only [] HS78 (FM.le.refl _)) (fun _ => St.only [[(b1, .cells #[.slice A6 v5.length c7] 26 (0, 0))]] HS78 (FM.le.refl _))) (fun w_ hw_ => by obtain ⟨g_, hl_, hS_⟩ := hw_.st; exact run_loadN (n := 18) rfl Try.underlying65 rfl (by kernel_rfl) (by kernel_rfl : _ = Value.pointer (some ⟨b12, of13, none⟩)) (cs := [.int .i64 x15.ID, .int .i64 x15.Box.X.Lo, .int .i64 x15.Box.X.Hi, .bool x15.Box.X.Unknown, .int .i64 x15.Box.Y.Lo, .int .i64 x15.Box.Y.Hi, .bool x15.Box.Y.Unknown, .int .i64 x15.Box.Z.Lo, .int .i64 x15.Box.Z.Hi, .bool x15.Box.Z.Unknown, .int .i64 x15.Flux.Lo, .int .i64 x15.Flux.Hi, .bool x15.Flux.Unknown, .int .i64 x15.When.Lo, .int .i64 x15.When.Hi, .bool x15.When.Unknown, .slice A16 x15.Frames.length c17, .int .i64 x15.Marks]) rfl (fun j_ hj_ => ((hc14 (L44.trans hl_) hS_) j_ hj_))) ?_
   refine takeGE 4 (by kernel_rfl) rfl (by kernel_rfl) (does_lit (e := ty_Row) (E := 65) (vs := #[(0, Value.agg #[.int .i64 x15.ID, .int .i64 x15.Box.X.Lo, .int .i64 x15.Box.X.Hi, .bool x15.Box.X.Unknown, .int .i64 x15.Box.Y.Lo, .int .i64 x15.Box.Y.Hi, .bool x15.Box.Y.Unknown, .int .i64 x15.Box.Z.Lo, .int .i64 x15.Box.Z.Hi, .bool x15.Box.Z.Unknown, .int .i64 x15.Flux.Lo, .int .i64 x15.Flux.Hi, .bool x15.Flux.Unknown, .int .i64 x15.When.Lo, .int .i64 x15.When.Hi, .bool x15.When.Unknown, .slice A16 x15.Frames.length c17, .int .i64 x15.Marks])]) (cs := #[.int .i64 x15.ID, .int .i64 x15.Box.X.Lo, .int .i64 x15.Box.X.Hi, .bool x15.Box.X.Unknown, .int .i64 x15.Box.Y.Lo, .int .i64 x15.Box.Y.Hi, .bool x15.Box.Y.Unknown, .int .i64 x15.Box.Z.Lo, .int .i64 x15.Box.Z.Hi, .bool x15.Box.Z.Unknown, .int .i64 x15.Flux.Lo, .int .i64 x15.Flux.Hi, .bool x15.Flux.Unknown, .int .i64 x15.When.Lo, .int .i64 x15.When.Hi, .bool x15.When.Unknown, .slice A16 x15.Frames.length c17, .int .i64 x15.Marks]) (xs := ([x15] : List S_Row)) rfl Try.underlying26 (by kernel_rfl) (by kernel_rfl) ⟨[.int .i64 x15.ID, .int .i64 x15.Box.X.Lo, .int .i64 x15.Box.X.Hi, .bool x15.Box.X.Unknown, .int .i64 x15.Box.Y.Lo, .int .i64 x15.Box.Y.Hi, .bool x15.Box.Y.Unknown, .int .i64 x15.Box.Z.Lo, .int .i64 x15.Box.Z.Hi, .bool x15.Box.Z.Unknown, .int .i64 x15.Flux.Lo, .int .i64 x15.Flux.Hi, .bool x15.Flux.Unknown, .int .i64 x15.When.Lo, .int .i64 x15.When.Hi, .bool x15.When.Unknown, .slice A16 x15.Frames.length c17, .int .i64 x15.Marks], _, rfl, ⟨A16, c17, rfl, (HR18.mono L44)⟩, rfl⟩ rfl HS78 ?_ (by decide))
   intro b79 W80 s81 HS82 _ HO83
   refine ⟨(Sg.g2 (Sx.of [s81, [(b1, .cells #[.slice A6 v5.length c7] 26 (0, 0))], s8] (FM.le.refl _) HS82) (fun _ => St.only [s81] HS82 (FM.le.refl _)) (fun _ => St.only [s81, [(b1, .cells #[.slice A6 v5.length c7] 26 (0, 0))]] HS82 (FM.le.refl _))), ?_⟩
   have hq_ := guard_some h; clear h; obtain ⟨c85, h⟩ := hq_
   have c85 : (v5.length + 1) * 160 ≤ 140737488355328 := c85
   have HS86 := HS82.u2
   have HS87 := HS86.u1
   refine takeGE 5 (by kernel_rfl) rfl (by kernel_rfl) (does_append1 (e := ty_Row) (E := 65) (xs := v5) (ys := ([x15] : List S_Row)) rfl (by kernel_rfl : _ = Value.slice A6 v5.length c7) (by kernel_rfl : _ = Value.slice (some ⟨b79, 0, none⟩) ([x15] : List S_Row).length 1) Try.underlying26 inf65 (HO9.mono L44) HO83 HS87 c85 (lim63 c85 (by decide)) ?_)
   intro A88 c89 s90 W91 HS92 HO93
   refine ⟨(Sg.g2 (Sx.of [s90, [(b1, .cells #[.slice A6 v5.length c7] 26 (0, 0))]] (FM.le.refl _) HS92) (fun hl_ => Bool.noConfusion (show true = false from hl_)) (fun hl_ => Bool.noConfusion (show true = false from hl_))), ?_⟩
   have HS94 := HS92.u1
   refine takeGE 6 (by kernel_rfl) rfl (by kernel_rfl) (does_store (n := 1) (vs := [.slice A88 (v5 ++ ([x15] : List S_Row)).length c89]) (cs' := #[.slice A88 (v5 ++ ([x15] : List S_Row)).length c89]) rfl (by kernel_rfl) (by kernel_rfl : _ = Value.pointer (some ⟨b1, 0, none⟩)) (by kernel_rfl : _ = Value.slice A88 (v5 ++ ([x15] : List S_Row)).length c89) rfl rfl (by intro u_ hu_; simp only [List.mem_cons, List.not_mem_nil, or_false] at hu_; subst hu_; rfl) HS94 (Nat.le_of_ble_eq_true rfl) (by kernel_rfl) ?_)
   intro W95 HS96
   refine ⟨(Sg.g2 (Sx.of [[(b1, .cells #[.slice A88 (v5 ++ ([x15] : List S_Row)).length c89] 26 (0, 0))], s90] (FM.le.refl _) HS96) (fun hl_ => Bool.noConfusion (show true = false from hl_)) (fun hl_ => Bool.noConfusion (show true = false from hl_))), ?_⟩
   refine doneG (by kernel_rfl) ?_ _
   refine hnor _ _ ?_
   refine ends_still (v := Value.tuple #[]) (by kernel_rfl) (by kernel_rfl) ?_
   have HS100 := HS96.u2
   have HS101 := HS100.u1
   have HS102 := HS101.u2
   injection h with h
   injection h with h0_ h
   subst h0_ h
   exact ⟨f43, A88, c89, s90, rfl, L44, HS102, HO93⟩

end Go.Sp.M4
