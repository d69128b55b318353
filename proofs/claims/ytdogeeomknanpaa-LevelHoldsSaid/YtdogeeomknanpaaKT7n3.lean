import Derived.Test.YtdogeeomknanpaaProg
import Derived.Test.YtdogeeomknanpaaSpCopy
import Derived.Test.YtdogeeomknanpaaFT7
import Derived.Test.YtdogeeomknanpaaSpSort
import Derived.Test.YtdogeeomknanpaaShelf
import Derived.Test.YtdogeeomknanpaaKT7n0
import Derived.Test.YtdogeeomknanpaaKT7n1
import Derived.Test.YtdogeeomknanpaaKT7n2
namespace Go.Sp.T7
open Go Go.Sp Go.Proofs
set_option linter.unusedVariables false
attribute [local irreducible] wpList AnyL Code.wp Calls Does
set_option maxRecDepth 100000 in
set_option maxHeartbeats 4000000 in
theorem spykeep3_LevelHolds.calls (k : Nat) (A2 : Option Addr) (c3 : Nat) (l1 : List Int) (least5 : Int) {t w : World} {f : FM} {H : List Seg} (HS : St t w f (H)) (HR4 : SlR (tInt .i64) f A2 c3 l1) (r1 : Bool) (h : spykeep3_LevelHolds k l1 least5 = some r1) :
    Calls Try.prog 7 #[.slice A2 l1.length c3, .int .i64 least5] w (fun e w' => ∃ (g : FM), e = .returned (Value.bool r1) ∧ FM.le f g ∧ St t w' g (H)) := by
  unfold spykeep3_LevelHolds at h
  refine enter Try.func7 rfl (tm := #[.slice A2 l1.length c3, iV least5, uV, uV, uV, uV, uV, uV, uV, uV, uV, uV, uV, uV, uV, uV, uV, uV, uV, uV, uV, uV, uV, uV, uV, uV, uV, uV, uV, uV, uV, uV, uV, uV, uV, uV, uV, uV, uV, uV, uV, uV, uV, uV, uV, uV, uV, uV, uV, uV, uV, uV, uV, uV, uV, uV, uV, uV, uV, uV, uV, uV, uV, uV, uV, uV, uV, uV, uV, uV, uV, uV, uV, uV, uV, uV, uV, uV, uV, uV, uV, uV, uV, uV, uV, uV, uV, uV, uV, uV]) (by kernel_rfl) ?_
  intro B hret hnor hnp
  refine wp_seq_k (fun K6 hK7 => ?_)
  refine wp_region_lit ?_
  refine seqS1 (a' := ⟨#[.slice A2 l1.length c3, iV least5, uV, uV, .bool false, uV, uV, uV, uV, uV, uV, uV, uV, uV, uV, uV, uV, uV, uV, uV, uV, uV, uV, uV, uV, uV, uV, uV, uV, uV, uV, uV, uV, uV, uV, uV, uV, uV, uV, uV, uV, uV, uV, uV, uV, uV, uV, uV, uV, uV, uV, uV, uV, uV, uV, uV, uV, uV, uV, uV, uV, uV, uV, uV, uV, uV, uV, uV, uV, uV, uV, uV, uV, uV, uV, uV, uV, uV, uV, uV, uV, uV, uV, uV, uV, uV, uV, uV, uV, uV], []⟩) (by kernel_rfl) ?_
  refine wpList_nil ?_
  refine hK7 _ _ ?_
  refine wp_seq_k (fun K8 hK9 => ?_)
  refine wp_region_lit ?_
  refine seqL2 (by kernel_rfl) ?_
  refine seqK rfl (does_box (cs := #[.slice A2 l1.length c3, .int .i64 0]) rfl (by kernel_rfl : _ = Value.agg #[.slice A2 l1.length c3, .int .i64 0]) rfl HS ?_)
  intro b10 W11 HS12
  refine seqS1 (a' := ⟨#[.slice A2 l1.length c3, iV least5, uV, uV, .bool false, .pointer (some ⟨b10, 0, none⟩), uV, uV, uV, uV, uV, uV, uV, .slice A2 l1.length c3, .agg #[.slice A2 l1.length c3, iV 0], .pointer (some ⟨b10, 0, none⟩), uV, uV, uV, uV, uV, uV, uV, uV, uV, uV, uV, uV, uV, uV, uV, uV, uV, uV, uV, uV, uV, uV, uV, uV, uV, uV, uV, uV, uV, uV, uV, uV, uV, uV, uV, uV, uV, uV, uV, uV, uV, uV, uV, uV, uV, uV, uV, uV, uV, uV, uV, uV, uV, uV, uV, uV, uV, uV, uV, uV, uV, uV, uV, uV, uV, uV, uV, uV, uV, uV, uV, uV, uV, uV], []⟩) (by kernel_rfl) ?_
  refine wpList_nil ?_
  refine hK9 _ _ ?_
  refine wp_seq_k (fun K14 hK15 => ?_)
  refine wp_region_lit ?_
  have hq_ := bind_some h; clear h; obtain ⟨⟨vt16, vt17⟩, hc18, h⟩ := hq_
  refine seqL1 (by kernel_rfl) ?_
  refine seqK rfl (does_call (f := 25) (args := #[.pointer (some ⟨b10, 0, none⟩), .int .i64 1, .int .i64 6]) (by kernel_rfl) (spymake_Stream_Range.calls k b10 A2 c3 (⟨l1, 0⟩ : S_Stream) 1 6 HS12 HR4 vt16 vt17 hc18) ?_)
  rintro _ W21 ⟨f19, rfl, L20, HS22⟩
  refine ⟨_, rfl, ?_⟩
  have hq_ := bind_some h; clear h; obtain ⟨⟨vt23, vt24⟩, hc25, h⟩ := hq_
  refine seqL1 (by kernel_rfl) ?_
  refine seqK rfl (does_call (f := 25) (args := #[.pointer (some ⟨b10, 0, none⟩), .int .i64 1, .int .i64 6]) (by kernel_rfl) (spymake_Stream_Range.calls k b10 A2 c3 (⟨l1, vt17⟩ : S_Stream) 1 6 HS22 (HR4.mono L20) vt23 vt24 hc25) ?_)
  rintro _ W28 ⟨f26, rfl, L27, HS29⟩
  refine ⟨_, rfl, ?_⟩
  refine seqL1 (by kernel_rfl) ?_
  refine seqK rfl (does_alloc (z := Value.agg #[.int .i64 0, .int .i64 0, .slice none 0 0]) (cs := #[.int .i64 0, .int .i64 0, .slice none 0 0]) rfl (by kernel_rfl) rfl HS29 ?_)
  intro b30 W31 HS32
  refine seqK rfl (does_store (n := 3) (vs := [.int .i64 vt16, .int .i64 vt23, .slice none 0 0]) (cs' := #[.int .i64 vt16, .int .i64 vt23, .slice none 0 0]) rfl (by kernel_rfl) (by kernel_rfl : _ = Value.pointer (some ⟨b30, 0, none⟩)) (by kernel_rfl : _ = Value.agg #[.int .i64 vt16, .int .i64 vt23, .slice none 0 0]) rfl rfl (by intro u_ hu_; simp only [List.mem_cons, List.not_mem_nil, or_false] at hu_; rcases hu_ with rfl | rfl | rfl <;> rfl) HS32 (Nat.le_of_ble_eq_true rfl) (by kernel_rfl) ?_)
  intro W34 HS35
  refine wpList_nil ?_
  refine hK15 _ _ ?_
  refine wp_seq_k (fun K36 hK37 => ?_)
  refine wp_region_lit ?_
  have HS38 := HS35.u1
  have hq_ := bind_some h; clear h; obtain ⟨⟨vt39, vt40⟩, hc41, h⟩ := hq_
  refine seqL1 (by kernel_rfl) ?_
  refine seqK rfl (does_call (f := 12) (args := #[.pointer (some ⟨b10, 0, none⟩), .int .i64 500]) (by kernel_rfl) (spymake_Stream_Next.calls k b10 A2 c3 (⟨l1, vt24⟩ : S_Stream) 500 HS38 (HR4.mono (L20.trans L27)) vt39 vt40 hc41) ?_)
  rintro _ W44 ⟨f42, rfl, L43, HS45⟩
  refine ⟨_, rfl, ?_⟩
  refine seqS2 (a' := ⟨#[.slice A2 l1.length c3, iV least5, uV, uV, .bool false, .pointer (some ⟨b10, 0, none⟩), .pointer (some ⟨b30, 0, none⟩), iV vt39, iV 0, uV, uV, uV, uV, .slice A2 l1.length c3, .agg #[.slice A2 l1.length c3, iV 0], .pointer (some ⟨b10, 0, none⟩), .pointer (some ⟨b10, 0, none⟩), iV vt16, .pointer (some ⟨b10, 0, none⟩), iV vt23, .agg #[iV vt16, iV vt23, .slice none 0 0], .pointer (some ⟨b10, 0, none⟩), iV vt39, uV, uV, uV, uV, uV, uV, uV, uV, uV, uV, uV, uV, uV, uV, uV, uV, uV, uV, uV, uV, uV, uV, uV, uV, uV, uV, uV, uV, uV, uV, uV, uV, uV, uV, uV, uV, uV, uV, uV, uV, uV, uV, uV, uV, uV, uV, uV, uV, uV, uV, uV, uV, uV, uV, uV, uV, uV, uV, uV, uV, uV, uV, uV, uV, uV, uV, uV], []⟩) (by kernel_rfl) ?_
  refine wpList_nil ?_
  refine hK37 _ _ ?_
  refine wp_seq_k (fun K46 hK47 => ?_)
  refine wp_seq_k (fun K48 hK49 => ?_)
  refine wp_region_lit ?_
  refine seqL1 (by kernel_rfl) ?_
  refine seqK rfl (does_run (run_load rfl Try.underlying3 rfl (by kernel_rfl : _ = Value.pointer (some ⟨b30, 0, none⟩)) (HS45.u1.cell 0)) ?_)
  refine seqL1 (by kernel_rfl) ?_
  refine seqK rfl (does_run (run_load rfl Try.underlying3 rfl (by kernel_rfl : _ = Value.pointer (some ⟨b30, 1, none⟩)) (HS45.u1.cell 1)) ?_)
  refine seqS2 (a' := ⟨#[.slice A2 l1.length c3, iV least5, uV, uV, .bool false, .pointer (some ⟨b10, 0, none⟩), .pointer (some ⟨b30, 0, none⟩), iV vt39, iV 0, uV, uV, uV, uV, .slice A2 l1.length c3, .agg #[.slice A2 l1.length c3, iV 0], .pointer (some ⟨b10, 0, none⟩), .pointer (some ⟨b10, 0, none⟩), iV vt16, .pointer (some ⟨b10, 0, none⟩), iV vt23, .agg #[iV vt16, iV vt23, .slice none 0 0], .pointer (some ⟨b10, 0, none⟩), iV vt39, .pointer (some ⟨b30, 0, none⟩), iV vt16, .pointer (some ⟨b30, 1, none⟩), iV vt23, iV (w64 (vt16 * vt23)), iV 0, uV, uV, uV, uV, uV, uV, uV, uV, uV, uV, uV, uV, uV, uV, uV, uV, uV, uV, uV, uV, uV, uV, uV, uV, uV, uV, uV, uV, uV, uV, uV, uV, uV, uV, uV, uV, uV, uV, uV, uV, uV, uV, uV, uV, uV, uV, uV, uV, uV, uV, uV, uV, uV, uV, uV, uV, uV, uV, uV, uV, uV], []⟩) (by kernel_rfl) ?_
  refine wpList_nil ?_
  refine hK49 _ _ ?_
  refine blockK (fun B50 hx51 hn52 hr53 ho54 hp55 => ?_)
  have hq_ := bind_some h; clear h; obtain ⟨o229, hv417, h⟩ := hq_
  have J418 : ∀ (f404 : FM) (A412 : Option Addr) (c413 : Nat) (s414 : Seg) (dark409 : Int) (x410 : Int) (x411 : List S_Bound) (j408 : Nat → Value) (W406 : World) (a_ : Act), FM.le f42 f404 → some ((dark409, x410, x411)) = some o229 → St t W406 f404 (s414 :: [(b10, .cells #[.slice A2 l1.length c3, .int .i64 x410] 25 (0, 0))] :: [(b30, .cells #[.int .i64 vt16, .int .i64 vt23, .slice A412 x411.length c413] 34 (0, 0))] :: H) → Own ty_Bound 44 f404 A412 c413 s414 x411 → a_ = ⟨#[.slice A2 l1.length c3, iV least5, uV, uV, .bool false, .pointer (some ⟨b10, 0, none⟩), .pointer (some ⟨b30, 0, none⟩), iV vt39, iV dark409, (j408 0), (j408 1), uV, uV, .slice A2 l1.length c3, .agg #[.slice A2 l1.length c3, iV 0], .pointer (some ⟨b10, 0, none⟩), .pointer (some ⟨b10, 0, none⟩), iV vt16, .pointer (some ⟨b10, 0, none⟩), iV vt23, .agg #[iV vt16, iV vt23, .slice none 0 0], .pointer (some ⟨b10, 0, none⟩), iV vt39, .pointer (some ⟨b30, 0, none⟩), iV vt16, .pointer (some ⟨b30, 1, none⟩), iV vt23, iV (w64 (vt16 * vt23)), (j408 2), (j408 3), (j408 4), (j408 5), (j408 6), (j408 7), (j408 8), (j408 9), (j408 10), (j408 11), (j408 12), (j408 13), (j408 14), (j408 15), (j408 16), (j408 17), (j408 18), (j408 19), (j408 20), (j408 21), (j408 22), (j408 23), (j408 24), (j408 25), (j408 26), (j408 27), (j408 28), (j408 29), (j408 30), (j408 31), (j408 32), (j408 33), (j408 34), (j408 35), (j408 36), uV, uV, uV, uV, uV, uV, uV, uV, uV, uV, uV, uV, uV, uV, uV, uV, uV, uV, uV, uV, uV, uV, uV, uV, uV, uV, uV], []⟩ → K46 a_ W406 := by
    intro f404 A412 c413 s414 dark409 x410 x411 j408 W406 a_ L405 hj419 HS407 HO415 hfr_; subst hfr_
    injection hj419 with hj419; subst hj419; try dsimp only at h
    refine hK47 _ _ ?_
    refine wp_seq_k (fun K434 hK435 => ?_)
    refine wp_seq_k (fun K436 hK437 => ?_)
    refine wp_region_lit ?_
    refine seqS2 (a' := ⟨#[.slice A2 l1.length c3, iV least5, uV, uV, .bool false, .pointer (some ⟨b10, 0, none⟩), .pointer (some ⟨b30, 0, none⟩), iV vt39, iV dark409, (j408 0), (j408 1), uV, uV, .slice A2 l1.length c3, .agg #[.slice A2 l1.length c3, iV 0], .pointer (some ⟨b10, 0, none⟩), .pointer (some ⟨b10, 0, none⟩), iV vt16, .pointer (some ⟨b10, 0, none⟩), iV vt23, .agg #[iV vt16, iV vt23, .slice none 0 0], .pointer (some ⟨b10, 0, none⟩), iV vt39, .pointer (some ⟨b30, 0, none⟩), iV vt16, .pointer (some ⟨b30, 1, none⟩), iV vt23, iV (w64 (vt16 * vt23)), (j408 2), (j408 3), (j408 4), (j408 5), (j408 6), (j408 7), (j408 8), (j408 9), (j408 10), (j408 11), (j408 12), (j408 13), (j408 14), (j408 15), (j408 16), (j408 17), (j408 18), (j408 19), (j408 20), (j408 21), (j408 22), (j408 23), (j408 24), (j408 25), (j408 26), (j408 27), (j408 28), (j408 29), (j408 30), (j408 31), (j408 32), (j408 33), (j408 34), (j408 35), (j408 36), iV dark409, .bool (dark409 == 0), uV, uV, uV, uV, uV, uV, uV, uV, uV, uV, uV, uV, uV, uV, uV, uV, uV, uV, uV, uV, uV, uV, uV, uV, uV], []⟩) (by kernel_rfl) ?_
    refine wpList_nil ?_
    refine hK437 _ _ ?_
    have hq_ := ite_some h; clear h; rcases hq_ with ⟨c439, h⟩ | ⟨c439, h⟩
    · have c439 : dark409 = 0 := c439
      refine wpRwI 64 (x := (dark409 == 0)) (v := true) (by kernel_rfl) (beq_iff_eq.mpr c439) ?_
      refine condT (by kernel_rfl) ?_
      refine wp_seq_k (fun K440 hK441 => ?_)
      refine wp_region_lit ?_
      have hq_ := bind_some h; clear h; obtain ⟨vt442, hc443, h⟩ := hq_
      refine seqK rfl (does_call (f := 33) (args := #[]) (by kernel_rfl) (spykeep3_levelled.calls k  HS407 vt442 hc443) ?_)
      rintro _ W446 ⟨f444, rfl, L445, HS447⟩
      refine ⟨_, rfl, ?_⟩
      refine seqS1 (a' := ⟨#[.slice A2 l1.length c3, iV least5, uV, uV, .bool vt442, .pointer (some ⟨b10, 0, none⟩), .pointer (some ⟨b30, 0, none⟩), iV vt39, iV dark409, (j408 0), (j408 1), uV, uV, .slice A2 l1.length c3, .agg #[.slice A2 l1.length c3, iV 0], .pointer (some ⟨b10, 0, none⟩), .pointer (some ⟨b10, 0, none⟩), iV vt16, .pointer (some ⟨b10, 0, none⟩), iV vt23, .agg #[iV vt16, iV vt23, .slice none 0 0], .pointer (some ⟨b10, 0, none⟩), iV vt39, .pointer (some ⟨b30, 0, none⟩), iV vt16, .pointer (some ⟨b30, 1, none⟩), iV vt23, iV (w64 (vt16 * vt23)), (j408 2), (j408 3), (j408 4), (j408 5), (j408 6), (j408 7), (j408 8), (j408 9), (j408 10), (j408 11), (j408 12), (j408 13), (j408 14), (j408 15), (j408 16), (j408 17), (j408 18), (j408 19), (j408 20), (j408 21), (j408 22), (j408 23), (j408 24), (j408 25), (j408 26), (j408 27), (j408 28), (j408 29), (j408 30), (j408 31), (j408 32), (j408 33), (j408 34), (j408 35), (j408 36), iV dark409, .bool true, .bool vt442, uV, uV, uV, uV, uV, uV, uV, uV, uV, uV, uV, uV, uV, uV, uV, uV, uV, uV, uV, uV, uV, uV, uV, uV], []⟩) (by kernel_rfl) ?_
      refine wpList_nil ?_
      refine hK441 _ _ ?_
      refine wp_ret ?_
      refine hret _ _ ?_
      refine ends_still (v := Value.bool vt442) (by kernel_rfl) (by kernel_rfl) ?_
      have HS544 := HS447.drop
      have HS545 := HS544.drop
      have HS546 := HS545.drop
      injection h with h
      subst h
      exact ⟨f444, rfl, (L20.trans (L27.trans (L43.trans (L405.trans L445)))), HS546⟩
    · have c439 : ¬ (dark409 = 0) := c439
      refine wpRwI 64 (x := (dark409 == 0)) (v := false) (by kernel_rfl) (beq_eq_false_iff_ne.mpr c439) ?_
      refine condF (by kernel_rfl) ?_
      refine wp_skip ?_
      refine hK435 _ _ ?_
      refine wp_seq_k (fun K448 hK449 => ?_)
      obtain ⟨f458, L459, HS460, HR461⟩ := HO415.freeze HS407
      refine heldG (S := Sg t f458 ([(b10, .cells #[.slice A2 l1.length c3, .int .i64 x410] 25 (0, 0))] :: [(b30, .cells #[.int .i64 vt16, .int .i64 vt23, .slice A412 x411.length c413] 34 (0, 0))] :: H) []) (n := 12) (by kernel_rfl) rfl HS460 ?_
      intro W462 HS463
      refine takeGQ 0 [] rfl (by kernel_rfl) (by kernel_rfl) (by kernel_rfl) (by kernel_rfl) (by kernel_rfl) (by kernel_rfl) hnp (Sg.g0 (Sx.of [] (FM.le.refl _) HS463)) (fun w_ hw_ => by obtain ⟨g_, hl_, hS_⟩ := hw_.st; exact run_loadN (n := 3) rfl Try.underlying34 rfl (by kernel_rfl) (by kernel_rfl : _ = Value.pointer (some ⟨b30, 0, none⟩)) (cs := [.int .i64 vt16, .int .i64 vt23, .slice A412 x411.length c413]) rfl (hS_.u1.cells 0 3 _ rfl)) ?_
      have hq_ := bind_some h; clear h; obtain ⟨vt464, hc465, h⟩ := hq_
      have hq_ := bind_some h; clear h; obtain ⟨⟨vt470, vt471⟩, hc472, h⟩ := hq_
      refine takeG [1, 2] (n := 11) (fuel := 9) (l' := #[true, true, true, false, false, false, false, false, false, false, false, false]) (a' := ⟨#[.slice A2 l1.length c3, iV least5, uV, uV, .bool false, .pointer (some ⟨b10, 0, none⟩), .pointer (some ⟨b30, 0, none⟩), iV vt39, iV dark409, (j408 0), (j408 1), uV, uV, .slice A2 l1.length c3, .agg #[.slice A2 l1.length c3, iV 0], .pointer (some ⟨b10, 0, none⟩), .pointer (some ⟨b10, 0, none⟩), iV vt16, .pointer (some ⟨b10, 0, none⟩), iV vt23, .agg #[iV vt16, iV vt23, .slice none 0 0], .pointer (some ⟨b10, 0, none⟩), iV vt39, .pointer (some ⟨b30, 0, none⟩), iV vt16, .pointer (some ⟨b30, 1, none⟩), iV vt23, iV (w64 (vt16 * vt23)), (j408 2), (j408 3), (j408 4), (j408 5), (j408 6), (j408 7), (j408 8), (j408 9), (j408 10), (j408 11), (j408 12), (j408 13), (j408 14), (j408 15), (j408 16), (j408 17), (j408 18), (j408 19), (j408 20), (j408 21), (j408 22), (j408 23), (j408 24), (j408 25), (j408 26), (j408 27), (j408 28), (j408 29), (j408 30), (j408 31), (j408 32), (j408 33), (j408 34), (j408 35), (j408 36), iV dark409, .bool false, uV, uV, .agg #[iV vt16, iV vt23, .slice A412 x411.length c413], iV least5, iV dark409, uV, uV, uV, uV, uV, uV, uV, uV, uV, uV, uV, uV, uV, uV, uV, uV, uV, uV, uV, uV], []⟩) rfl (by kernel_rfl) (by kernel_rfl) (by kernel_rfl) hnp (Sg.g0 (Sx.of [] (FM.le.refl _) HS463)) ?_
      refine withR #[true, true, true, true, true, true, true, true, true, true, true, true] ?_
      intro R483 hR484 hR485
      have J486 : ∀ (f466 : FM) (f473 : FM) (b477 : Nat) (W487 : World) (a_ : Act), FM.le f458 f466 → FM.le f466 f473 → St t W487 f473 ([(b477, .cells #[.int .i64 vt470.Lo, .int .i64 vt470.Hi, .bool vt470.Unknown] 44 (0, 0))] :: [(b10, .cells #[.slice A2 l1.length c3, .int .i64 x410] 25 (0, 0))] :: [(b30, .cells #[.int .i64 vt16, .int .i64 vt23, .slice A412 x411.length c413] 34 (0, 0))] :: H) → a_ = ⟨#[.slice A2 l1.length c3, iV least5, uV, uV, .bool false, .pointer (some ⟨b10, 0, none⟩), .pointer (some ⟨b30, 0, none⟩), iV vt39, iV dark409, (j408 0), (j408 1), .pointer (some ⟨b477, 0, none⟩), iV vt471, .slice A2 l1.length c3, .agg #[.slice A2 l1.length c3, iV 0], .pointer (some ⟨b10, 0, none⟩), .pointer (some ⟨b10, 0, none⟩), iV vt16, .pointer (some ⟨b10, 0, none⟩), iV vt23, .agg #[iV vt16, iV vt23, .slice none 0 0], .pointer (some ⟨b10, 0, none⟩), iV vt39, .pointer (some ⟨b30, 0, none⟩), iV vt16, .pointer (some ⟨b30, 1, none⟩), iV vt23, iV (w64 (vt16 * vt23)), (j408 2), (j408 3), (j408 4), (j408 5), (j408 6), (j408 7), (j408 8), (j408 9), (j408 10), (j408 11), (j408 12), (j408 13), (j408 14), (j408 15), (j408 16), (j408 17), (j408 18), (j408 19), (j408 20), (j408 21), (j408 22), (j408 23), (j408 24), (j408 25), (j408 26), (j408 27), (j408 28), (j408 29), (j408 30), (j408 31), (j408 32), (j408 33), (j408 34), (j408 35), (j408 36), iV dark409, .bool false, uV, .tuple #[.agg #[iV vt470.Lo, iV vt470.Hi, .bool vt470.Unknown], iV vt471], .agg #[iV vt16, iV vt23, .slice A412 x411.length c413], iV least5, iV dark409, iV vt464, iV (w64 (vt464 + 1)), .tuple #[.agg #[iV vt470.Lo, iV vt470.Hi, .bool vt470.Unknown], iV vt471], .agg #[iV vt470.Lo, iV vt470.Hi, .bool vt470.Unknown], iV vt471, uV, uV, uV, uV, uV, uV, uV, uV, uV, uV, uV, uV, uV, uV, uV], []⟩ → R483 a_ W487 := by
        intro f466 f473 b477 W487 a_ L467 L474 HS488 hfr_; subst hfr_
        refine hR484 _ _ ?_
        refine doneG (by kernel_rfl) ?_ _
        refine hK449 _ _ ?_
        refine wp_seq_k (fun K527 hK528 => ?_)
        refine wp_region_lit ?_
        have hq_ := bind_some h; clear h; obtain ⟨vt529, hc530, h⟩ := hq_
        refine seqK rfl (does_call (f := 33) (args := #[]) (by kernel_rfl) (spykeep3_levelled.calls k  HS488 vt529 hc530) ?_)
        rintro _ W533 ⟨f531, rfl, L532, HS534⟩
        refine ⟨_, rfl, ?_⟩
        refine seqS1 (a' := ⟨#[.slice A2 l1.length c3, iV least5, uV, uV, .bool false, .pointer (some ⟨b10, 0, none⟩), .pointer (some ⟨b30, 0, none⟩), iV vt39, iV dark409, (j408 0), (j408 1), .pointer (some ⟨b477, 0, none⟩), iV vt471, .slice A2 l1.length c3, .agg #[.slice A2 l1.length c3, iV 0], .pointer (some ⟨b10, 0, none⟩), .pointer (some ⟨b10, 0, none⟩), iV vt16, .pointer (some ⟨b10, 0, none⟩), iV vt23, .agg #[iV vt16, iV vt23, .slice none 0 0], .pointer (some ⟨b10, 0, none⟩), iV vt39, .pointer (some ⟨b30, 0, none⟩), iV vt16, .pointer (some ⟨b30, 1, none⟩), iV vt23, iV (w64 (vt16 * vt23)), (j408 2), (j408 3), (j408 4), (j408 5), (j408 6), (j408 7), (j408 8), (j408 9), (j408 10), (j408 11), (j408 12), (j408 13), (j408 14), (j408 15), (j408 16), (j408 17), (j408 18), (j408 19), (j408 20), (j408 21), (j408 22), (j408 23), (j408 24), (j408 25), (j408 26), (j408 27), (j408 28), (j408 29), (j408 30), (j408 31), (j408 32), (j408 33), (j408 34), (j408 35), (j408 36), iV dark409, .bool false, uV, .tuple #[.agg #[iV vt470.Lo, iV vt470.Hi, .bool vt470.Unknown], iV vt471], .agg #[iV vt16, iV vt23, .slice A412 x411.length c413], iV least5, iV dark409, iV vt464, iV (w64 (vt464 + 1)), .tuple #[.agg #[iV vt470.Lo, iV vt470.Hi, .bool vt470.Unknown], iV vt471], .agg #[iV vt470.Lo, iV vt470.Hi, .bool vt470.Unknown], iV vt471, .bool vt529, .bool vt529, uV, uV, uV, uV, uV, uV, uV, uV, uV, uV, uV, uV, uV], []⟩) (by kernel_rfl) ?_
        have hq_ := ite_some h; clear h; rcases hq_ with ⟨c535, h⟩ | ⟨c535, h⟩
        · have c535 : vt529 = true := c535
          refine seqRwI 75 (x := vt529) (v := true) (by kernel_rfl) c535 ?_
          refine seqRwI 76 (x := vt529) (v := true) (by kernel_rfl) c535 ?_
          refine seqS4 (a' := ⟨#[.slice A2 l1.length c3, iV least5, uV, uV, .bool false, .pointer (some ⟨b10, 0, none⟩), .pointer (some ⟨b30, 0, none⟩), iV vt39, iV dark409, (j408 0), (j408 1), .pointer (some ⟨b477, 0, none⟩), iV vt471, .slice A2 l1.length c3, .agg #[.slice A2 l1.length c3, iV 0], .pointer (some ⟨b10, 0, none⟩), .pointer (some ⟨b10, 0, none⟩), iV vt16, .pointer (some ⟨b10, 0, none⟩), iV vt23, .agg #[iV vt16, iV vt23, .slice none 0 0], .pointer (some ⟨b10, 0, none⟩), iV vt39, .pointer (some ⟨b30, 0, none⟩), iV vt16, .pointer (some ⟨b30, 1, none⟩), iV vt23, iV (w64 (vt16 * vt23)), (j408 2), (j408 3), (j408 4), (j408 5), (j408 6), (j408 7), (j408 8), (j408 9), (j408 10), (j408 11), (j408 12), (j408 13), (j408 14), (j408 15), (j408 16), (j408 17), (j408 18), (j408 19), (j408 20), (j408 21), (j408 22), (j408 23), (j408 24), (j408 25), (j408 26), (j408 27), (j408 28), (j408 29), (j408 30), (j408 31), (j408 32), (j408 33), (j408 34), (j408 35), (j408 36), iV dark409, .bool false, uV, .tuple #[.agg #[iV vt470.Lo, iV vt470.Hi, .bool vt470.Unknown], iV vt471], .agg #[iV vt16, iV vt23, .slice A412 x411.length c413], iV least5, iV dark409, iV vt464, iV (w64 (vt464 + 1)), .tuple #[.agg #[iV vt470.Lo, iV vt470.Hi, .bool vt470.Unknown], iV vt471], .agg #[iV vt470.Lo, iV vt470.Hi, .bool vt470.Unknown], iV vt471, .bool true, .bool true, iV vt471, .bool (vt471 == 0), .bool (vt471 == 0), .bool (vt471 == 0), uV, uV, uV, uV, uV, uV, uV, uV, uV], []⟩) (by kernel_rfl) ?_
          have hq_ := ite_some h; clear h; rcases hq_ with ⟨c536, h⟩ | ⟨c536, h⟩
          · have c536 : vt471 = 0 := c536
            refine seqRwI 78 (x := (vt471 == 0)) (v := true) (by kernel_rfl) (beq_iff_eq.mpr c536) ?_
            refine seqRwI 79 (x := (vt471 == 0)) (v := true) (by kernel_rfl) (beq_iff_eq.mpr c536) ?_
            refine seqRwI 80 (x := (vt471 == 0)) (v := true) (by kernel_rfl) (beq_iff_eq.mpr c536) ?_
            refine seqL1 (by kernel_rfl) ?_
            refine seqG (by kernel_rfl) (does_run (run_load rfl Try.underlying4 rfl (by kernel_rfl : _ = Value.pointer (some ⟨b477, 2, none⟩)) (HS534.cell 2)) ?_)
            refine seqS3 (a' := ⟨#[.slice A2 l1.length c3, iV least5, uV, uV, .bool false, .pointer (some ⟨b10, 0, none⟩), .pointer (some ⟨b30, 0, none⟩), iV vt39, iV dark409, (j408 0), (j408 1), .pointer (some ⟨b477, 0, none⟩), iV vt471, .slice A2 l1.length c3, .agg #[.slice A2 l1.length c3, iV 0], .pointer (some ⟨b10, 0, none⟩), .pointer (some ⟨b10, 0, none⟩), iV vt16, .pointer (some ⟨b10, 0, none⟩), iV vt23, .agg #[iV vt16, iV vt23, .slice none 0 0], .pointer (some ⟨b10, 0, none⟩), iV vt39, .pointer (some ⟨b30, 0, none⟩), iV vt16, .pointer (some ⟨b30, 1, none⟩), iV vt23, iV (w64 (vt16 * vt23)), (j408 2), (j408 3), (j408 4), (j408 5), (j408 6), (j408 7), (j408 8), (j408 9), (j408 10), (j408 11), (j408 12), (j408 13), (j408 14), (j408 15), (j408 16), (j408 17), (j408 18), (j408 19), (j408 20), (j408 21), (j408 22), (j408 23), (j408 24), (j408 25), (j408 26), (j408 27), (j408 28), (j408 29), (j408 30), (j408 31), (j408 32), (j408 33), (j408 34), (j408 35), (j408 36), iV dark409, .bool false, uV, .tuple #[.agg #[iV vt470.Lo, iV vt470.Hi, .bool vt470.Unknown], iV vt471], .agg #[iV vt16, iV vt23, .slice A412 x411.length c413], iV least5, iV dark409, iV vt464, iV (w64 (vt464 + 1)), .tuple #[.agg #[iV vt470.Lo, iV vt470.Hi, .bool vt470.Unknown], iV vt471], .agg #[iV vt470.Lo, iV vt470.Hi, .bool vt470.Unknown], iV vt471, .bool true, .bool true, iV vt471, .bool true, .bool true, .bool true, .pointer (some ⟨b477, 2, none⟩), .bool vt470.Unknown, .bool (!vt470.Unknown), .bool (!vt470.Unknown), .bool (!vt470.Unknown), uV, uV, uV, uV], []⟩) (by kernel_rfl) ?_
            have hq_ := ite_some h; clear h; rcases hq_ with ⟨c537, h⟩ | ⟨c537, h⟩
            · have c537 : ¬ (vt470.Unknown = true) := c537
              refine seqRwI 83 (x := (!vt470.Unknown)) (v := true) (by kernel_rfl) (congrArg (fun b_ => !b_) (show vt470.Unknown = false from (Bool.eq_false_iff.mpr c537)) : (!vt470.Unknown) = true) ?_
              refine seqRwI 84 (x := (!vt470.Unknown)) (v := true) (by kernel_rfl) (congrArg (fun b_ => !b_) (show vt470.Unknown = false from (Bool.eq_false_iff.mpr c537)) : (!vt470.Unknown) = true) ?_
              refine seqRwI 85 (x := (!vt470.Unknown)) (v := true) (by kernel_rfl) (congrArg (fun b_ => !b_) (show vt470.Unknown = false from (Bool.eq_false_iff.mpr c537)) : (!vt470.Unknown) = true) ?_
              refine seqG (by kernel_rfl) (does_run (run_loadN (n := 3) rfl Try.underlying44 rfl (by kernel_rfl) (by kernel_rfl : _ = Value.pointer (some ⟨b477, 0, none⟩)) (cs := [.int .i64 vt470.Lo, .int .i64 vt470.Hi, .bool vt470.Unknown]) rfl (HS534.cells 0 3 _ rfl)) ?_)
              have hq_ := bind_some h; clear h; obtain ⟨vt538, hc539, h⟩ := hq_
              refine seqL1 (by kernel_rfl) ?_
              refine seqG (by kernel_rfl) (does_call (f := 20) (args := #[.agg #[.int .i64 vt470.Lo, .int .i64 vt470.Hi, .bool vt470.Unknown], .int .i64 vt39]) (by kernel_rfl) (bound_Has_Quanta.calls k vt470 vt39 HS534 vt538 hc539) ?_)
              rintro _ W542 ⟨f540, rfl, L541, HS543⟩
              refine ⟨_, rfl, ?_⟩
              refine seqS2 (a' := ⟨#[.slice A2 l1.length c3, iV least5, uV, uV, .bool vt538, .pointer (some ⟨b10, 0, none⟩), .pointer (some ⟨b30, 0, none⟩), iV vt39, iV dark409, (j408 0), (j408 1), .pointer (some ⟨b477, 0, none⟩), iV vt471, .slice A2 l1.length c3, .agg #[.slice A2 l1.length c3, iV 0], .pointer (some ⟨b10, 0, none⟩), .pointer (some ⟨b10, 0, none⟩), iV vt16, .pointer (some ⟨b10, 0, none⟩), iV vt23, .agg #[iV vt16, iV vt23, .slice none 0 0], .pointer (some ⟨b10, 0, none⟩), iV vt39, .pointer (some ⟨b30, 0, none⟩), iV vt16, .pointer (some ⟨b30, 1, none⟩), iV vt23, iV (w64 (vt16 * vt23)), (j408 2), (j408 3), (j408 4), (j408 5), (j408 6), (j408 7), (j408 8), (j408 9), (j408 10), (j408 11), (j408 12), (j408 13), (j408 14), (j408 15), (j408 16), (j408 17), (j408 18), (j408 19), (j408 20), (j408 21), (j408 22), (j408 23), (j408 24), (j408 25), (j408 26), (j408 27), (j408 28), (j408 29), (j408 30), (j408 31), (j408 32), (j408 33), (j408 34), (j408 35), (j408 36), iV dark409, .bool false, uV, .tuple #[.agg #[iV vt470.Lo, iV vt470.Hi, .bool vt470.Unknown], iV vt471], .agg #[iV vt16, iV vt23, .slice A412 x411.length c413], iV least5, iV dark409, iV vt464, iV (w64 (vt464 + 1)), .tuple #[.agg #[iV vt470.Lo, iV vt470.Hi, .bool vt470.Unknown], iV vt471], .agg #[iV vt470.Lo, iV vt470.Hi, .bool vt470.Unknown], iV vt471, .bool true, .bool true, iV vt471, .bool true, .bool true, .bool true, .pointer (some ⟨b477, 2, none⟩), .bool vt470.Unknown, .bool true, .bool true, .bool true, .agg #[iV vt470.Lo, iV vt470.Hi, .bool vt470.Unknown], iV vt39, .bool vt538, .bool vt538], []⟩) (by kernel_rfl) ?_
              refine wpList_nil ?_
              refine hK528 _ _ ?_
              refine wp_ret ?_
              refine hret _ _ ?_
              refine ends_still (v := Value.bool vt538) (by kernel_rfl) (by kernel_rfl) ?_
              have HS547 := HS543.drop
              have HS548 := HS547.drop
              have HS549 := HS548.drop
              injection h with h
              subst h
              exact ⟨f540, rfl, (L20.trans (L27.trans (L43.trans (L405.trans (L459.trans (L467.trans (L474.trans (L532.trans L541)))))))), HS549⟩
            · have c537 : ¬ (¬ (vt470.Unknown = true)) := c537
              refine seqRwI 83 (x := (!vt470.Unknown)) (v := false) (by kernel_rfl) (congrArg (fun b_ => !b_) (show vt470.Unknown = true from (Decidable.of_not_not c537)) : (!vt470.Unknown) = false) ?_
              refine seqRwI 84 (x := (!vt470.Unknown)) (v := false) (by kernel_rfl) (congrArg (fun b_ => !b_) (show vt470.Unknown = true from (Decidable.of_not_not c537)) : (!vt470.Unknown) = false) ?_
              refine seqRwI 85 (x := (!vt470.Unknown)) (v := false) (by kernel_rfl) (congrArg (fun b_ => !b_) (show vt470.Unknown = true from (Decidable.of_not_not c537)) : (!vt470.Unknown) = false) ?_
              refine seqS5 (a' := ⟨#[.slice A2 l1.length c3, iV least5, uV, uV, .bool false, .pointer (some ⟨b10, 0, none⟩), .pointer (some ⟨b30, 0, none⟩), iV vt39, iV dark409, (j408 0), (j408 1), .pointer (some ⟨b477, 0, none⟩), iV vt471, .slice A2 l1.length c3, .agg #[.slice A2 l1.length c3, iV 0], .pointer (some ⟨b10, 0, none⟩), .pointer (some ⟨b10, 0, none⟩), iV vt16, .pointer (some ⟨b10, 0, none⟩), iV vt23, .agg #[iV vt16, iV vt23, .slice none 0 0], .pointer (some ⟨b10, 0, none⟩), iV vt39, .pointer (some ⟨b30, 0, none⟩), iV vt16, .pointer (some ⟨b30, 1, none⟩), iV vt23, iV (w64 (vt16 * vt23)), (j408 2), (j408 3), (j408 4), (j408 5), (j408 6), (j408 7), (j408 8), (j408 9), (j408 10), (j408 11), (j408 12), (j408 13), (j408 14), (j408 15), (j408 16), (j408 17), (j408 18), (j408 19), (j408 20), (j408 21), (j408 22), (j408 23), (j408 24), (j408 25), (j408 26), (j408 27), (j408 28), (j408 29), (j408 30), (j408 31), (j408 32), (j408 33), (j408 34), (j408 35), (j408 36), iV dark409, .bool false, uV, .tuple #[.agg #[iV vt470.Lo, iV vt470.Hi, .bool vt470.Unknown], iV vt471], .agg #[iV vt16, iV vt23, .slice A412 x411.length c413], iV least5, iV dark409, iV vt464, iV (w64 (vt464 + 1)), .tuple #[.agg #[iV vt470.Lo, iV vt470.Hi, .bool vt470.Unknown], iV vt471], .agg #[iV vt470.Lo, iV vt470.Hi, .bool vt470.Unknown], iV vt471, .bool true, .bool true, iV vt471, .bool true, .bool true, .bool true, .pointer (some ⟨b477, 2, none⟩), .bool vt470.Unknown, .bool false, .bool false, .bool false, uV, uV, uV, .bool false], []⟩) (by kernel_rfl) ?_
              refine wpList_nil ?_
              refine hK528 _ _ ?_
              refine wp_ret ?_
              refine hret _ _ ?_
              refine ends_still (v := Value.bool false) (by kernel_rfl) (by kernel_rfl) ?_
              have HS550 := HS534.drop
              have HS551 := HS550.drop
              have HS552 := HS551.drop
              injection h with h
              subst h
              exact ⟨f531, rfl, (L20.trans (L27.trans (L43.trans (L405.trans (L459.trans (L467.trans (L474.trans L532))))))), HS552⟩
          · have c536 : ¬ (vt471 = 0) := c536
            refine seqRwI 78 (x := (vt471 == 0)) (v := false) (by kernel_rfl) (beq_eq_false_iff_ne.mpr c536) ?_
            refine seqRwI 79 (x := (vt471 == 0)) (v := false) (by kernel_rfl) (beq_eq_false_iff_ne.mpr c536) ?_
            refine seqRwI 80 (x := (vt471 == 0)) (v := false) (by kernel_rfl) (beq_eq_false_iff_ne.mpr c536) ?_
            refine seqS10 (a' := ⟨#[.slice A2 l1.length c3, iV least5, uV, uV, .bool false, .pointer (some ⟨b10, 0, none⟩), .pointer (some ⟨b30, 0, none⟩), iV vt39, iV dark409, (j408 0), (j408 1), .pointer (some ⟨b477, 0, none⟩), iV vt471, .slice A2 l1.length c3, .agg #[.slice A2 l1.length c3, iV 0], .pointer (some ⟨b10, 0, none⟩), .pointer (some ⟨b10, 0, none⟩), iV vt16, .pointer (some ⟨b10, 0, none⟩), iV vt23, .agg #[iV vt16, iV vt23, .slice none 0 0], .pointer (some ⟨b10, 0, none⟩), iV vt39, .pointer (some ⟨b30, 0, none⟩), iV vt16, .pointer (some ⟨b30, 1, none⟩), iV vt23, iV (w64 (vt16 * vt23)), (j408 2), (j408 3), (j408 4), (j408 5), (j408 6), (j408 7), (j408 8), (j408 9), (j408 10), (j408 11), (j408 12), (j408 13), (j408 14), (j408 15), (j408 16), (j408 17), (j408 18), (j408 19), (j408 20), (j408 21), (j408 22), (j408 23), (j408 24), (j408 25), (j408 26), (j408 27), (j408 28), (j408 29), (j408 30), (j408 31), (j408 32), (j408 33), (j408 34), (j408 35), (j408 36), iV dark409, .bool false, uV, .tuple #[.agg #[iV vt470.Lo, iV vt470.Hi, .bool vt470.Unknown], iV vt471], .agg #[iV vt16, iV vt23, .slice A412 x411.length c413], iV least5, iV dark409, iV vt464, iV (w64 (vt464 + 1)), .tuple #[.agg #[iV vt470.Lo, iV vt470.Hi, .bool vt470.Unknown], iV vt471], .agg #[iV vt470.Lo, iV vt470.Hi, .bool vt470.Unknown], iV vt471, .bool true, .bool true, iV vt471, .bool false, .bool false, .bool false, uV, uV, uV, .bool false, .bool false, uV, uV, uV, .bool false], []⟩) (by kernel_rfl) ?_
            refine wpList_nil ?_
            refine hK528 _ _ ?_
            refine wp_ret ?_
            refine hret _ _ ?_
            refine ends_still (v := Value.bool false) (by kernel_rfl) (by kernel_rfl) ?_
            have HS553 := HS534.drop
            have HS554 := HS553.drop
            have HS555 := HS554.drop
            injection h with h
            subst h
            exact ⟨f531, rfl, (L20.trans (L27.trans (L43.trans (L405.trans (L459.trans (L467.trans (L474.trans L532))))))), HS555⟩
        · have c535 : ¬ (vt529 = true) := c535
          refine seqRwI 75 (x := vt529) (v := false) (by kernel_rfl) (Bool.eq_false_iff.mpr c535) ?_
          refine seqRwI 76 (x := vt529) (v := false) (by kernel_rfl) (Bool.eq_false_iff.mpr c535) ?_
          refine seqS14 (a' := ⟨#[.slice A2 l1.length c3, iV least5, uV, uV, .bool false, .pointer (some ⟨b10, 0, none⟩), .pointer (some ⟨b30, 0, none⟩), iV vt39, iV dark409, (j408 0), (j408 1), .pointer (some ⟨b477, 0, none⟩), iV vt471, .slice A2 l1.length c3, .agg #[.slice A2 l1.length c3, iV 0], .pointer (some ⟨b10, 0, none⟩), .pointer (some ⟨b10, 0, none⟩), iV vt16, .pointer (some ⟨b10, 0, none⟩), iV vt23, .agg #[iV vt16, iV vt23, .slice none 0 0], .pointer (some ⟨b10, 0, none⟩), iV vt39, .pointer (some ⟨b30, 0, none⟩), iV vt16, .pointer (some ⟨b30, 1, none⟩), iV vt23, iV (w64 (vt16 * vt23)), (j408 2), (j408 3), (j408 4), (j408 5), (j408 6), (j408 7), (j408 8), (j408 9), (j408 10), (j408 11), (j408 12), (j408 13), (j408 14), (j408 15), (j408 16), (j408 17), (j408 18), (j408 19), (j408 20), (j408 21), (j408 22), (j408 23), (j408 24), (j408 25), (j408 26), (j408 27), (j408 28), (j408 29), (j408 30), (j408 31), (j408 32), (j408 33), (j408 34), (j408 35), (j408 36), iV dark409, .bool false, uV, .tuple #[.agg #[iV vt470.Lo, iV vt470.Hi, .bool vt470.Unknown], iV vt471], .agg #[iV vt16, iV vt23, .slice A412 x411.length c413], iV least5, iV dark409, iV vt464, iV (w64 (vt464 + 1)), .tuple #[.agg #[iV vt470.Lo, iV vt470.Hi, .bool vt470.Unknown], iV vt471], .agg #[iV vt470.Lo, iV vt470.Hi, .bool vt470.Unknown], iV vt471, .bool false, .bool false, uV, uV, .bool false, .bool false, uV, uV, uV, .bool false, .bool false, uV, uV, uV, .bool false], []⟩) (by kernel_rfl) ?_
          refine wpList_nil ?_
          refine hK528 _ _ ?_
          refine wp_ret ?_
          refine hret _ _ ?_
          refine ends_still (v := Value.bool false) (by kernel_rfl) (by kernel_rfl) ?_
          have HS556 := HS534.drop
          have HS557 := HS556.drop
          have HS558 := HS557.drop
          injection h with h
          subst h
          exact ⟨f531, rfl, (L20.trans (L27.trans (L43.trans (L405.trans (L459.trans (L467.trans (L474.trans L532))))))), HS558⟩
      refine takeEither 3 9 (by kernel_rfl) rfl rfl rfl rfl ?_ ?_
      · refine does_call (f := 10) (args := #[.int .i64 least5, .int .i64 dark409]) (by kernel_rfl) (spymake_Below.calls k least5 dark409 HS463 vt464 hc465) ?_
        rintro _ W491 ⟨f489, rfl, L490, HS492⟩
        refine ⟨_, rfl, ?_⟩
        refine ⟨(Sg.g0 (Sx.of [] L490 HS492)), ?_⟩
        refine takeG [4] (n := 8) (fuel := 7) (l' := #[true, true, true, true, true, false, false, false, false, false, false, false]) (a' := ⟨#[.slice A2 l1.length c3, iV least5, uV, uV, .bool false, .pointer (some ⟨b10, 0, none⟩), .pointer (some ⟨b30, 0, none⟩), iV vt39, iV dark409, (j408 0), (j408 1), uV, uV, .slice A2 l1.length c3, .agg #[.slice A2 l1.length c3, iV 0], .pointer (some ⟨b10, 0, none⟩), .pointer (some ⟨b10, 0, none⟩), iV vt16, .pointer (some ⟨b10, 0, none⟩), iV vt23, .agg #[iV vt16, iV vt23, .slice none 0 0], .pointer (some ⟨b10, 0, none⟩), iV vt39, .pointer (some ⟨b30, 0, none⟩), iV vt16, .pointer (some ⟨b30, 1, none⟩), iV vt23, iV (w64 (vt16 * vt23)), (j408 2), (j408 3), (j408 4), (j408 5), (j408 6), (j408 7), (j408 8), (j408 9), (j408 10), (j408 11), (j408 12), (j408 13), (j408 14), (j408 15), (j408 16), (j408 17), (j408 18), (j408 19), (j408 20), (j408 21), (j408 22), (j408 23), (j408 24), (j408 25), (j408 26), (j408 27), (j408 28), (j408 29), (j408 30), (j408 31), (j408 32), (j408 33), (j408 34), (j408 35), (j408 36), iV dark409, .bool false, uV, uV, .agg #[iV vt16, iV vt23, .slice A412 x411.length c413], iV least5, iV dark409, iV vt464, iV (w64 (vt464 + 1)), uV, uV, uV, uV, uV, uV, uV, uV, uV, uV, uV, uV, uV, uV, uV, uV, uV, uV], []⟩) rfl (by kernel_rfl) (by kernel_rfl) (by kernel_rfl) hnp (Sg.g0 (Sx.of [] L490 HS492)) ?_
        refine takeEither 5 9 (by kernel_rfl) rfl rfl rfl rfl ?_ ?_
        · refine does_call (f := 34) (args := #[.agg #[.int .i64 vt16, .int .i64 vt23, .slice A412 x411.length c413], .int .i64 (w64 (vt464 + 1))]) (by kernel_rfl) (level_Of.calls k A412 c413 (⟨vt16, vt23, x411⟩ : S_Cells) (w64 (vt464 + 1)) HS492 (HR461.mono L490) vt470 vt471 hc472) ?_
          rintro _ W495 ⟨f493, rfl, L494, HS496⟩
          refine ⟨_, rfl, ?_⟩
          refine ⟨(Sg.g0 (Sx.of [] (L490.trans L494) HS496)), ?_⟩
          refine takeG [6, 7, 8] (n := 6) (fuel := 3) (l' := #[true, true, true, true, true, true, true, true, true, false, false, false]) (a' := ⟨#[.slice A2 l1.length c3, iV least5, uV, uV, .bool false, .pointer (some ⟨b10, 0, none⟩), .pointer (some ⟨b30, 0, none⟩), iV vt39, iV dark409, (j408 0), (j408 1), uV, uV, .slice A2 l1.length c3, .agg #[.slice A2 l1.length c3, iV 0], .pointer (some ⟨b10, 0, none⟩), .pointer (some ⟨b10, 0, none⟩), iV vt16, .pointer (some ⟨b10, 0, none⟩), iV vt23, .agg #[iV vt16, iV vt23, .slice none 0 0], .pointer (some ⟨b10, 0, none⟩), iV vt39, .pointer (some ⟨b30, 0, none⟩), iV vt16, .pointer (some ⟨b30, 1, none⟩), iV vt23, iV (w64 (vt16 * vt23)), (j408 2), (j408 3), (j408 4), (j408 5), (j408 6), (j408 7), (j408 8), (j408 9), (j408 10), (j408 11), (j408 12), (j408 13), (j408 14), (j408 15), (j408 16), (j408 17), (j408 18), (j408 19), (j408 20), (j408 21), (j408 22), (j408 23), (j408 24), (j408 25), (j408 26), (j408 27), (j408 28), (j408 29), (j408 30), (j408 31), (j408 32), (j408 33), (j408 34), (j408 35), (j408 36), iV dark409, .bool false, uV, .tuple #[.agg #[iV vt470.Lo, iV vt470.Hi, .bool vt470.Unknown], iV vt471], .agg #[iV vt16, iV vt23, .slice A412 x411.length c413], iV least5, iV dark409, iV vt464, iV (w64 (vt464 + 1)), .tuple #[.agg #[iV vt470.Lo, iV vt470.Hi, .bool vt470.Unknown], iV vt471], .agg #[iV vt470.Lo, iV vt470.Hi, .bool vt470.Unknown], iV vt471, uV, uV, uV, uV, uV, uV, uV, uV, uV, uV, uV, uV, uV, uV, uV], []⟩) rfl (by kernel_rfl) (by kernel_rfl) (by kernel_rfl) hnp (Sg.g0 (Sx.of [] (L490.trans L494) HS496)) ?_
          refine takeGE 9 (by kernel_rfl) rfl (by kernel_rfl) (does_alloc (z := Value.agg #[.int .i64 0, .int .i64 0, .bool false]) (cs := #[.int .i64 0, .int .i64 0, .bool false]) rfl (by kernel_rfl) rfl HS496 ?_)
          intro b497 W498 HS499
          refine ⟨(Sg.g0 (Sx.of [[(b497, .cells #[.int .i64 0, .int .i64 0, .bool false] 44 (0, 0))]] (L490.trans L494) HS499)), ?_⟩
          refine takeGE 10 (by kernel_rfl) rfl (by kernel_rfl) (does_store (n := 3) (vs := [.int .i64 vt470.Lo, .int .i64 vt470.Hi, .bool vt470.Unknown]) (cs' := #[.int .i64 vt470.Lo, .int .i64 vt470.Hi, .bool vt470.Unknown]) rfl (by kernel_rfl) (by kernel_rfl : _ = Value.pointer (some ⟨b497, 0, none⟩)) (by kernel_rfl : _ = Value.agg #[.int .i64 vt470.Lo, .int .i64 vt470.Hi, .bool vt470.Unknown]) rfl rfl (by intro u_ hu_; simp only [List.mem_cons, List.not_mem_nil, or_false] at hu_; rcases hu_ with rfl | rfl | rfl <;> rfl) HS499 (Nat.le_of_ble_eq_true rfl) (by kernel_rfl) ?_)
          intro W501 HS502
          refine ⟨(Sg.g0 (Sx.of [[(b497, .cells #[.int .i64 vt470.Lo, .int .i64 vt470.Hi, .bool vt470.Unknown] 44 (0, 0))]] (L490.trans L494) HS502)), ?_⟩
          refine takeG [11] (n := 1) (fuel := 0) (l' := #[true, true, true, true, true, true, true, true, true, true, true, true]) (a' := ⟨#[.slice A2 l1.length c3, iV least5, uV, uV, .bool false, .pointer (some ⟨b10, 0, none⟩), .pointer (some ⟨b30, 0, none⟩), iV vt39, iV dark409, (j408 0), (j408 1), .pointer (some ⟨b497, 0, none⟩), iV vt471, .slice A2 l1.length c3, .agg #[.slice A2 l1.length c3, iV 0], .pointer (some ⟨b10, 0, none⟩), .pointer (some ⟨b10, 0, none⟩), iV vt16, .pointer (some ⟨b10, 0, none⟩), iV vt23, .agg #[iV vt16, iV vt23, .slice none 0 0], .pointer (some ⟨b10, 0, none⟩), iV vt39, .pointer (some ⟨b30, 0, none⟩), iV vt16, .pointer (some ⟨b30, 1, none⟩), iV vt23, iV (w64 (vt16 * vt23)), (j408 2), (j408 3), (j408 4), (j408 5), (j408 6), (j408 7), (j408 8), (j408 9), (j408 10), (j408 11), (j408 12), (j408 13), (j408 14), (j408 15), (j408 16), (j408 17), (j408 18), (j408 19), (j408 20), (j408 21), (j408 22), (j408 23), (j408 24), (j408 25), (j408 26), (j408 27), (j408 28), (j408 29), (j408 30), (j408 31), (j408 32), (j408 33), (j408 34), (j408 35), (j408 36), iV dark409, .bool false, uV, .tuple #[.agg #[iV vt470.Lo, iV vt470.Hi, .bool vt470.Unknown], iV vt471], .agg #[iV vt16, iV vt23, .slice A412 x411.length c413], iV least5, iV dark409, iV vt464, iV (w64 (vt464 + 1)), .tuple #[.agg #[iV vt470.Lo, iV vt470.Hi, .bool vt470.Unknown], iV vt471], .agg #[iV vt470.Lo, iV vt470.Hi, .bool vt470.Unknown], iV vt471, uV, uV, uV, uV, uV, uV, uV, uV, uV, uV, uV, uV, uV, uV, uV], []⟩) rfl (by kernel_rfl) (by kernel_rfl) (by kernel_rfl) hnp (Sg.g0 (Sx.of [[(b497, .cells #[.int .i64 vt470.Lo, .int .i64 vt470.Hi, .bool vt470.Unknown] 44 (0, 0))]] (L490.trans L494) HS502)) ?_
          refine hR485 _ _ ?_
          exact J486 f489 f493 b497 W501 _ L490 L494 HS502 (by kernel_rfl)
        · refine does_alloc (z := Value.agg #[.int .i64 0, .int .i64 0, .bool false]) (cs := #[.int .i64 0, .int .i64 0, .bool false]) rfl (by kernel_rfl) rfl HS492 ?_
          intro b503 W504 HS505
          refine ⟨(Sg.g0 (Sx.of [[(b503, .cells #[.int .i64 0, .int .i64 0, .bool false] 44 (0, 0))]] L490 HS505)), ?_⟩
          refine takeGE 5 (by kernel_rfl) rfl (by kernel_rfl) (does_call (f := 34) (args := #[.agg #[.int .i64 vt16, .int .i64 vt23, .slice A412 x411.length c413], .int .i64 (w64 (vt464 + 1))]) (by kernel_rfl) (level_Of.calls k A412 c413 (⟨vt16, vt23, x411⟩ : S_Cells) (w64 (vt464 + 1)) HS505 (HR461.mono L490) vt470 vt471 hc472) ?_)
          rintro _ W509 ⟨f507, rfl, L508, HS510⟩
          refine ⟨_, rfl, ?_⟩
          refine ⟨(Sg.g0 (Sx.of [[(b503, .cells #[.int .i64 0, .int .i64 0, .bool false] 44 (0, 0))]] (L490.trans L508) HS510)), ?_⟩
          refine takeG [6, 7, 8] (n := 5) (fuel := 2) (l' := #[true, true, true, true, true, true, true, true, true, true, false, false]) (a' := ⟨#[.slice A2 l1.length c3, iV least5, uV, uV, .bool false, .pointer (some ⟨b10, 0, none⟩), .pointer (some ⟨b30, 0, none⟩), iV vt39, iV dark409, (j408 0), (j408 1), .pointer (some ⟨b503, 0, none⟩), uV, .slice A2 l1.length c3, .agg #[.slice A2 l1.length c3, iV 0], .pointer (some ⟨b10, 0, none⟩), .pointer (some ⟨b10, 0, none⟩), iV vt16, .pointer (some ⟨b10, 0, none⟩), iV vt23, .agg #[iV vt16, iV vt23, .slice none 0 0], .pointer (some ⟨b10, 0, none⟩), iV vt39, .pointer (some ⟨b30, 0, none⟩), iV vt16, .pointer (some ⟨b30, 1, none⟩), iV vt23, iV (w64 (vt16 * vt23)), (j408 2), (j408 3), (j408 4), (j408 5), (j408 6), (j408 7), (j408 8), (j408 9), (j408 10), (j408 11), (j408 12), (j408 13), (j408 14), (j408 15), (j408 16), (j408 17), (j408 18), (j408 19), (j408 20), (j408 21), (j408 22), (j408 23), (j408 24), (j408 25), (j408 26), (j408 27), (j408 28), (j408 29), (j408 30), (j408 31), (j408 32), (j408 33), (j408 34), (j408 35), (j408 36), iV dark409, .bool false, uV, .tuple #[.agg #[iV vt470.Lo, iV vt470.Hi, .bool vt470.Unknown], iV vt471], .agg #[iV vt16, iV vt23, .slice A412 x411.length c413], iV least5, iV dark409, iV vt464, iV (w64 (vt464 + 1)), .tuple #[.agg #[iV vt470.Lo, iV vt470.Hi, .bool vt470.Unknown], iV vt471], .agg #[iV vt470.Lo, iV vt470.Hi, .bool vt470.Unknown], iV vt471, uV, uV, uV, uV, uV, uV, uV, uV, uV, uV, uV, uV, uV, uV, uV], []⟩) rfl (by kernel_rfl) (by kernel_rfl) (by kernel_rfl) hnp (Sg.g0 (Sx.of [[(b503, .cells #[.int .i64 0, .int .i64 0, .bool false] 44 (0, 0))]] (L490.trans L508) HS510)) ?_
          refine takeGE 10 (by kernel_rfl) rfl (by kernel_rfl) (does_store (n := 3) (vs := [.int .i64 vt470.Lo, .int .i64 vt470.Hi, .bool vt470.Unknown]) (cs' := #[.int .i64 vt470.Lo, .int .i64 vt470.Hi, .bool vt470.Unknown]) rfl (by kernel_rfl) (by kernel_rfl : _ = Value.pointer (some ⟨b503, 0, none⟩)) (by kernel_rfl : _ = Value.agg #[.int .i64 vt470.Lo, .int .i64 vt470.Hi, .bool vt470.Unknown]) rfl rfl (by intro u_ hu_; simp only [List.mem_cons, List.not_mem_nil, or_false] at hu_; rcases hu_ with rfl | rfl | rfl <;> rfl) HS510 (Nat.le_of_ble_eq_true rfl) (by kernel_rfl) ?_)
          intro W511 HS512
          refine ⟨(Sg.g0 (Sx.of [[(b503, .cells #[.int .i64 vt470.Lo, .int .i64 vt470.Hi, .bool vt470.Unknown] 44 (0, 0))]] (L490.trans L508) HS512)), ?_⟩
          refine takeG [11] (n := 1) (fuel := 0) (l' := #[true, true, true, true, true, true, true, true, true, true, true, true]) (a' := ⟨#[.slice A2 l1.length c3, iV least5, uV, uV, .bool false, .pointer (some ⟨b10, 0, none⟩), .pointer (some ⟨b30, 0, none⟩), iV vt39, iV dark409, (j408 0), (j408 1), .pointer (some ⟨b503, 0, none⟩), iV vt471, .slice A2 l1.length c3, .agg #[.slice A2 l1.length c3, iV 0], .pointer (some ⟨b10, 0, none⟩), .pointer (some ⟨b10, 0, none⟩), iV vt16, .pointer (some ⟨b10, 0, none⟩), iV vt23, .agg #[iV vt16, iV vt23, .slice none 0 0], .pointer (some ⟨b10, 0, none⟩), iV vt39, .pointer (some ⟨b30, 0, none⟩), iV vt16, .pointer (some ⟨b30, 1, none⟩), iV vt23, iV (w64 (vt16 * vt23)), (j408 2), (j408 3), (j408 4), (j408 5), (j408 6), (j408 7), (j408 8), (j408 9), (j408 10), (j408 11), (j408 12), (j408 13), (j408 14), (j408 15), (j408 16), (j408 17), (j408 18), (j408 19), (j408 20), (j408 21), (j408 22), (j408 23), (j408 24), (j408 25), (j408 26), (j408 27), (j408 28), (j408 29), (j408 30), (j408 31), (j408 32), (j408 33), (j408 34), (j408 35), (j408 36), iV dark409, .bool false, uV, .tuple #[.agg #[iV vt470.Lo, iV vt470.Hi, .bool vt470.Unknown], iV vt471], .agg #[iV vt16, iV vt23, .slice A412 x411.length c413], iV least5, iV dark409, iV vt464, iV (w64 (vt464 + 1)), .tuple #[.agg #[iV vt470.Lo, iV vt470.Hi, .bool vt470.Unknown], iV vt471], .agg #[iV vt470.Lo, iV vt470.Hi, .bool vt470.Unknown], iV vt471, uV, uV, uV, uV, uV, uV, uV, uV, uV, uV, uV, uV, uV, uV, uV], []⟩) rfl (by kernel_rfl) (by kernel_rfl) (by kernel_rfl) hnp (Sg.g0 (Sx.of [[(b503, .cells #[.int .i64 vt470.Lo, .int .i64 vt470.Hi, .bool vt470.Unknown] 44 (0, 0))]] (L490.trans L508) HS512)) ?_
          refine hR485 _ _ ?_
          exact J486 f489 f507 b503 W511 _ L490 L508 HS512 (by kernel_rfl)
      · refine does_alloc (z := Value.agg #[.int .i64 0, .int .i64 0, .bool false]) (cs := #[.int .i64 0, .int .i64 0, .bool false]) rfl (by kernel_rfl) rfl HS463 ?_
        intro b513 W514 HS515
        refine ⟨(Sg.g0 (Sx.of [[(b513, .cells #[.int .i64 0, .int .i64 0, .bool false] 44 (0, 0))]] (FM.le.refl _) HS515)), ?_⟩
        refine takeGE 3 (by kernel_rfl) rfl (by kernel_rfl) (does_call (f := 10) (args := #[.int .i64 least5, .int .i64 dark409]) (by kernel_rfl) (spymake_Below.calls k least5 dark409 HS515 vt464 hc465) ?_)
        rintro _ W519 ⟨f517, rfl, L518, HS520⟩
        refine ⟨_, rfl, ?_⟩
        refine ⟨(Sg.g0 (Sx.of [[(b513, .cells #[.int .i64 0, .int .i64 0, .bool false] 44 (0, 0))]] L518 HS520)), ?_⟩
        refine takeG [4] (n := 7) (fuel := 6) (l' := #[true, true, true, true, true, false, false, false, false, true, false, false]) (a' := ⟨#[.slice A2 l1.length c3, iV least5, uV, uV, .bool false, .pointer (some ⟨b10, 0, none⟩), .pointer (some ⟨b30, 0, none⟩), iV vt39, iV dark409, (j408 0), (j408 1), .pointer (some ⟨b513, 0, none⟩), uV, .slice A2 l1.length c3, .agg #[.slice A2 l1.length c3, iV 0], .pointer (some ⟨b10, 0, none⟩), .pointer (some ⟨b10, 0, none⟩), iV vt16, .pointer (some ⟨b10, 0, none⟩), iV vt23, .agg #[iV vt16, iV vt23, .slice none 0 0], .pointer (some ⟨b10, 0, none⟩), iV vt39, .pointer (some ⟨b30, 0, none⟩), iV vt16, .pointer (some ⟨b30, 1, none⟩), iV vt23, iV (w64 (vt16 * vt23)), (j408 2), (j408 3), (j408 4), (j408 5), (j408 6), (j408 7), (j408 8), (j408 9), (j408 10), (j408 11), (j408 12), (j408 13), (j408 14), (j408 15), (j408 16), (j408 17), (j408 18), (j408 19), (j408 20), (j408 21), (j408 22), (j408 23), (j408 24), (j408 25), (j408 26), (j408 27), (j408 28), (j408 29), (j408 30), (j408 31), (j408 32), (j408 33), (j408 34), (j408 35), (j408 36), iV dark409, .bool false, uV, uV, .agg #[iV vt16, iV vt23, .slice A412 x411.length c413], iV least5, iV dark409, iV vt464, iV (w64 (vt464 + 1)), uV, uV, uV, uV, uV, uV, uV, uV, uV, uV, uV, uV, uV, uV, uV, uV, uV, uV], []⟩) rfl (by kernel_rfl) (by kernel_rfl) (by kernel_rfl) hnp (Sg.g0 (Sx.of [[(b513, .cells #[.int .i64 0, .int .i64 0, .bool false] 44 (0, 0))]] L518 HS520)) ?_
        refine takeGE 5 (by kernel_rfl) rfl (by kernel_rfl) (does_call (f := 34) (args := #[.agg #[.int .i64 vt16, .int .i64 vt23, .slice A412 x411.length c413], .int .i64 (w64 (vt464 + 1))]) (by kernel_rfl) (level_Of.calls k A412 c413 (⟨vt16, vt23, x411⟩ : S_Cells) (w64 (vt464 + 1)) HS520 (HR461.mono L518) vt470 vt471 hc472) ?_)
        rintro _ W523 ⟨f521, rfl, L522, HS524⟩
        refine ⟨_, rfl, ?_⟩
        refine ⟨(Sg.g0 (Sx.of [[(b513, .cells #[.int .i64 0, .int .i64 0, .bool false] 44 (0, 0))]] (L518.trans L522) HS524)), ?_⟩
        refine takeG [6, 7, 8] (n := 5) (fuel := 2) (l' := #[true, true, true, true, true, true, true, true, true, true, false, false]) (a' := ⟨#[.slice A2 l1.length c3, iV least5, uV, uV, .bool false, .pointer (some ⟨b10, 0, none⟩), .pointer (some ⟨b30, 0, none⟩), iV vt39, iV dark409, (j408 0), (j408 1), .pointer (some ⟨b513, 0, none⟩), uV, .slice A2 l1.length c3, .agg #[.slice A2 l1.length c3, iV 0], .pointer (some ⟨b10, 0, none⟩), .pointer (some ⟨b10, 0, none⟩), iV vt16, .pointer (some ⟨b10, 0, none⟩), iV vt23, .agg #[iV vt16, iV vt23, .slice none 0 0], .pointer (some ⟨b10, 0, none⟩), iV vt39, .pointer (some ⟨b30, 0, none⟩), iV vt16, .pointer (some ⟨b30, 1, none⟩), iV vt23, iV (w64 (vt16 * vt23)), (j408 2), (j408 3), (j408 4), (j408 5), (j408 6), (j408 7), (j408 8), (j408 9), (j408 10), (j408 11), (j408 12), (j408 13), (j408 14), (j408 15), (j408 16), (j408 17), (j408 18), (j408 19), (j408 20), (j408 21), (j408 22), (j408 23), (j408 24), (j408 25), (j408 26), (j408 27), (j408 28), (j408 29), (j408 30), (j408 31), (j408 32), (j408 33), (j408 34), (j408 35), (j408 36), iV dark409, .bool false, uV, .tuple #[.agg #[iV vt470.Lo, iV vt470.Hi, .bool vt470.Unknown], iV vt471], .agg #[iV vt16, iV vt23, .slice A412 x411.length c413], iV least5, iV dark409, iV vt464, iV (w64 (vt464 + 1)), .tuple #[.agg #[iV vt470.Lo, iV vt470.Hi, .bool vt470.Unknown], iV vt471], .agg #[iV vt470.Lo, iV vt470.Hi, .bool vt470.Unknown], iV vt471, uV, uV, uV, uV, uV, uV, uV, uV, uV, uV, uV, uV, uV, uV, uV], []⟩) rfl (by kernel_rfl) (by kernel_rfl) (by kernel_rfl) hnp (Sg.g0 (Sx.of [[(b513, .cells #[.int .i64 0, .int .i64 0, .bool false] 44 (0, 0))]] (L518.trans L522) HS524)) ?_
        refine takeGE 10 (by kernel_rfl) rfl (by kernel_rfl) (does_store (n := 3) (vs := [.int .i64 vt470.Lo, .int .i64 vt470.Hi, .bool vt470.Unknown]) (cs' := #[.int .i64 vt470.Lo, .int .i64 vt470.Hi, .bool vt470.Unknown]) rfl (by kernel_rfl) (by kernel_rfl : _ = Value.pointer (some ⟨b513, 0, none⟩)) (by kernel_rfl : _ = Value.agg #[.int .i64 vt470.Lo, .int .i64 vt470.Hi, .bool vt470.Unknown]) rfl rfl (by intro u_ hu_; simp only [List.mem_cons, List.not_mem_nil, or_false] at hu_; rcases hu_ with rfl | rfl | rfl <;> rfl) HS524 (Nat.le_of_ble_eq_true rfl) (by kernel_rfl) ?_)
        intro W525 HS526
        refine ⟨(Sg.g0 (Sx.of [[(b513, .cells #[.int .i64 vt470.Lo, .int .i64 vt470.Hi, .bool vt470.Unknown] 44 (0, 0))]] (L518.trans L522) HS526)), ?_⟩
        refine takeG [11] (n := 1) (fuel := 0) (l' := #[true, true, true, true, true, true, true, true, true, true, true, true]) (a' := ⟨#[.slice A2 l1.length c3, iV least5, uV, uV, .bool false, .pointer (some ⟨b10, 0, none⟩), .pointer (some ⟨b30, 0, none⟩), iV vt39, iV dark409, (j408 0), (j408 1), .pointer (some ⟨b513, 0, none⟩), iV vt471, .slice A2 l1.length c3, .agg #[.slice A2 l1.length c3, iV 0], .pointer (some ⟨b10, 0, none⟩), .pointer (some ⟨b10, 0, none⟩), iV vt16, .pointer (some ⟨b10, 0, none⟩), iV vt23, .agg #[iV vt16, iV vt23, .slice none 0 0], .pointer (some ⟨b10, 0, none⟩), iV vt39, .pointer (some ⟨b30, 0, none⟩), iV vt16, .pointer (some ⟨b30, 1, none⟩), iV vt23, iV (w64 (vt16 * vt23)), (j408 2), (j408 3), (j408 4), (j408 5), (j408 6), (j408 7), (j408 8), (j408 9), (j408 10), (j408 11), (j408 12), (j408 13), (j408 14), (j408 15), (j408 16), (j408 17), (j408 18), (j408 19), (j408 20), (j408 21), (j408 22), (j408 23), (j408 24), (j408 25), (j408 26), (j408 27), (j408 28), (j408 29), (j408 30), (j408 31), (j408 32), (j408 33), (j408 34), (j408 35), (j408 36), iV dark409, .bool false, uV, .tuple #[.agg #[iV vt470.Lo, iV vt470.Hi, .bool vt470.Unknown], iV vt471], .agg #[iV vt16, iV vt23, .slice A412 x411.length c413], iV least5, iV dark409, iV vt464, iV (w64 (vt464 + 1)), .tuple #[.agg #[iV vt470.Lo, iV vt470.Hi, .bool vt470.Unknown], iV vt471], .agg #[iV vt470.Lo, iV vt470.Hi, .bool vt470.Unknown], iV vt471, uV, uV, uV, uV, uV, uV, uV, uV, uV, uV, uV, uV, uV, uV, uV], []⟩) rfl (by kernel_rfl) (by kernel_rfl) (by kernel_rfl) hnp (Sg.g0 (Sx.of [[(b513, .cells #[.int .i64 vt470.Lo, .int .i64 vt470.Hi, .bool vt470.Unknown] 44 (0, 0))]] (L518.trans L522) HS526)) ?_
        refine hR485 _ _ ?_
        exact J486 f517 f521 b513 W525 _ L518 L522 HS526 (by kernel_rfl)
  clear h; have h := hv417; clear hv417
  have HS420 := HS45.cons_nil
  refine loopK (fun n_ a_ w_ => ∃ (f233 : FM) (A242 : Option Addr) (c243 : Nat) (s244 : Seg) (dark238 : Int) (x239 : Int) (x240 : Int) (x241 : List S_Bound) (j237 : Nat → Value), FM.le f42 f233 ∧ St t w_ f233 (s244 :: [(b10, .cells #[.slice A2 l1.length c3, .int .i64 x240] 25 (0, 0))] :: [(b30, .cells #[.int .i64 vt16, .int .i64 vt23, .slice A242 x241.length c243] 34 (0, 0))] :: H) ∧ Own ty_Bound 44 f233 A242 c243 s244 x241 ∧ spykeep3_LevelHolds.l0 k vt16 vt23 l1 vt39 n_ dark238 x239 x240 x241 = some o229 ∧ a_ = ⟨#[.slice A2 l1.length c3, iV least5, uV, uV, .bool false, .pointer (some ⟨b10, 0, none⟩), .pointer (some ⟨b30, 0, none⟩), iV vt39, iV dark238, (j237 0), (j237 1), uV, uV, .slice A2 l1.length c3, .agg #[.slice A2 l1.length c3, iV 0], .pointer (some ⟨b10, 0, none⟩), .pointer (some ⟨b10, 0, none⟩), iV vt16, .pointer (some ⟨b10, 0, none⟩), iV vt23, .agg #[iV vt16, iV vt23, .slice none 0 0], .pointer (some ⟨b10, 0, none⟩), iV vt39, .pointer (some ⟨b30, 0, none⟩), iV vt16, .pointer (some ⟨b30, 1, none⟩), iV vt23, iV (w64 (vt16 * vt23)), iV x239, (j237 2), (j237 3), (j237 4), (j237 5), (j237 6), (j237 7), (j237 8), (j237 9), (j237 10), (j237 11), (j237 12), (j237 13), (j237 14), (j237 15), (j237 16), (j237 17), (j237 18), (j237 19), (j237 20), (j237 21), (j237 22), (j237 23), (j237 24), (j237 25), (j237 26), (j237 27), (j237 28), (j237 29), (j237 30), (j237 31), (j237 32), (j237 33), (j237 34), (j237 35), uV, uV, uV, uV, uV, uV, uV, uV, uV, uV, uV, uV, uV, uV, uV, uV, uV, uV, uV, uV, uV, uV, uV, uV, uV, uV, uV], []⟩) k ⟨f42, none, 0, [], 0, 0, vt40, ([] : List S_Bound), (fun i_ => [undef, undef, undef, undef, undef, undef, undef, undef, undef, undef, undef, undef, undef, undef, undef, undef, undef, undef, undef, undef, undef, undef, undef, undef, undef, undef, undef, undef, undef, undef, undef, undef, undef, undef, undef, undef].getD i_ undef), (FM.le.refl _), HS420, (Own.nil _), h, (by kernel_rfl)⟩ ?_
  clear h
  rintro n232 _ W235 ⟨f233, A242, c243, s244, dark238, x239, x240, x241, j237, L234, HS236, HO245, h, rfl⟩ K230 hK231
  obtain _ | n232 := n232
  · exact nomatch h
  simp only [spykeep3_LevelHolds.l0] at h
  refine wp_seq_k (fun K247 hK248 => ?_)
  refine wp_region_lit ?_
  refine seqS1 (a' := ⟨#[.slice A2 l1.length c3, iV least5, uV, uV, .bool false, .pointer (some ⟨b10, 0, none⟩), .pointer (some ⟨b30, 0, none⟩), iV vt39, iV dark238, (j237 0), (j237 1), uV, uV, .slice A2 l1.length c3, .agg #[.slice A2 l1.length c3, iV 0], .pointer (some ⟨b10, 0, none⟩), .pointer (some ⟨b10, 0, none⟩), iV vt16, .pointer (some ⟨b10, 0, none⟩), iV vt23, .agg #[iV vt16, iV vt23, .slice none 0 0], .pointer (some ⟨b10, 0, none⟩), iV vt39, .pointer (some ⟨b30, 0, none⟩), iV vt16, .pointer (some ⟨b30, 1, none⟩), iV vt23, iV (w64 (vt16 * vt23)), iV x239, .bool (decide (x239 < (w64 (vt16 * vt23)))), (j237 3), (j237 4), (j237 5), (j237 6), (j237 7), (j237 8), (j237 9), (j237 10), (j237 11), (j237 12), (j237 13), (j237 14), (j237 15), (j237 16), (j237 17), (j237 18), (j237 19), (j237 20), (j237 21), (j237 22), (j237 23), (j237 24), (j237 25), (j237 26), (j237 27), (j237 28), (j237 29), (j237 30), (j237 31), (j237 32), (j237 33), (j237 34), (j237 35), uV, uV, uV, uV, uV, uV, uV, uV, uV, uV, uV, uV, uV, uV, uV, uV, uV, uV, uV, uV, uV, uV, uV, uV, uV, uV, uV], []⟩) (by kernel_rfl) ?_
  refine wpList_nil ?_
  refine hK248 _ _ ?_
  refine wp_seq_k (fun K249 hK250 => ?_)
  have hq_ := ite_some h; clear h; rcases hq_ with ⟨c252, h⟩ | ⟨c252, h⟩
  · have c252 : x239 < (w64 (vt16 * vt23)) := c252
    refine wpRwI 29 (x := (decide (x239 < (w64 (vt16 * vt23))))) (v := true) (by kernel_rfl) (decide_eq_true c252) ?_
    refine condT (by kernel_rfl) ?_
    refine wp_skip ?_
    refine hK250 _ _ ?_
    refine wp_seq_k (fun K253 hK254 => ?_)
    refine blockK (fun B255 hx256 hn257 hr258 ho259 hp260 => ?_)
    refine wp_seq_k (fun K262 hK263 => ?_)
    refine wp_region_lit ?_
    refine seqS2 (a' := ⟨#[.slice A2 l1.length c3, iV least5, uV, uV, .bool false, .pointer (some ⟨b10, 0, none⟩), .pointer (some ⟨b30, 0, none⟩), iV vt39, iV dark238, iV vt39, (j237 1), uV, uV, .slice A2 l1.length c3, .agg #[.slice A2 l1.length c3, iV 0], .pointer (some ⟨b10, 0, none⟩), .pointer (some ⟨b10, 0, none⟩), iV vt16, .pointer (some ⟨b10, 0, none⟩), iV vt23, .agg #[iV vt16, iV vt23, .slice none 0 0], .pointer (some ⟨b10, 0, none⟩), iV vt39, .pointer (some ⟨b30, 0, none⟩), iV vt16, .pointer (some ⟨b30, 1, none⟩), iV vt23, iV (w64 (vt16 * vt23)), iV x239, .bool true, iV vt39, (j237 4), (j237 5), (j237 6), (j237 7), (j237 8), (j237 9), (j237 10), (j237 11), (j237 12), (j237 13), (j237 14), (j237 15), (j237 16), (j237 17), (j237 18), (j237 19), (j237 20), (j237 21), (j237 22), (j237 23), (j237 24), (j237 25), (j237 26), (j237 27), (j237 28), (j237 29), (j237 30), (j237 31), (j237 32), (j237 33), (j237 34), (j237 35), uV, uV, uV, uV, uV, uV, uV, uV, uV, uV, uV, uV, uV, uV, uV, uV, uV, uV, uV, uV, uV, uV, uV, uV, uV, uV, uV], []⟩) (by kernel_rfl) ?_
    refine wpList_nil ?_
    refine hK263 _ _ ?_
    refine wp_seq_k (fun K264 hK265 => ?_)
    refine wp_seq_k (fun K266 hK267 => ?_)
    refine wp_region_lit ?_
    have HS268 := HS236.u1
    have hq_ := bind_some h; clear h; obtain ⟨⟨vt269, vt270⟩, hc271, h⟩ := hq_
    refine seqL1 (by kernel_rfl) ?_
    refine seqK rfl (does_call (f := 12) (args := #[.pointer (some ⟨b10, 0, none⟩), .int .i64 3]) (by kernel_rfl) (spymake_Stream_Next.calls k b10 A2 c3 (⟨l1, x240⟩ : S_Stream) 3 HS268 (HR4.mono (L20.trans (L27.trans (L43.trans L234)))) vt269 vt270 hc271) ?_)
    rintro _ W274 ⟨f272, rfl, L273, HS275⟩
    refine ⟨_, rfl, ?_⟩
    refine seqS1 (a' := ⟨#[.slice A2 l1.length c3, iV least5, uV, uV, .bool false, .pointer (some ⟨b10, 0, none⟩), .pointer (some ⟨b30, 0, none⟩), iV vt39, iV dark238, iV vt39, (j237 1), uV, uV, .slice A2 l1.length c3, .agg #[.slice A2 l1.length c3, iV 0], .pointer (some ⟨b10, 0, none⟩), .pointer (some ⟨b10, 0, none⟩), iV vt16, .pointer (some ⟨b10, 0, none⟩), iV vt23, .agg #[iV vt16, iV vt23, .slice none 0 0], .pointer (some ⟨b10, 0, none⟩), iV vt39, .pointer (some ⟨b30, 0, none⟩), iV vt16, .pointer (some ⟨b30, 1, none⟩), iV vt23, iV (w64 (vt16 * vt23)), iV x239, .bool true, iV vt39, .pointer (some ⟨b10, 0, none⟩), iV vt269, .bool (vt269 == 0), (j237 7), (j237 8), (j237 9), (j237 10), (j237 11), (j237 12), (j237 13), (j237 14), (j237 15), (j237 16), (j237 17), (j237 18), (j237 19), (j237 20), (j237 21), (j237 22), (j237 23), (j237 24), (j237 25), (j237 26), (j237 27), (j237 28), (j237 29), (j237 30), (j237 31), (j237 32), (j237 33), (j237 34), (j237 35), uV, uV, uV, uV, uV, uV, uV, uV, uV, uV, uV, uV, uV, uV, uV, uV, uV, uV, uV, uV, uV, uV, uV, uV, uV, uV, uV], []⟩) (by kernel_rfl) ?_
    refine wpList_nil ?_
    refine hK267 _ _ ?_
    have hq_ := bind_some h; clear h; obtain ⟨v276, hv292, h⟩ := hq_
    have J293 : ∀ (f285 : FM) (x290 : Int) (x291 : Int) (j289 : Nat → Value) (W287 : World) (a_ : Act), FM.le f272 f285 → some ((x290, x291)) = some v276 → St t W287 f285 ([(b10, .cells #[.slice A2 l1.length c3, .int .i64 x291] 25 (0, 0))] :: s244 :: [(b30, .cells #[.int .i64 vt16, .int .i64 vt23, .slice A242 x241.length c243] 34 (0, 0))] :: H) → a_ = ⟨#[.slice A2 l1.length c3, iV least5, uV, uV, .bool false, .pointer (some ⟨b10, 0, none⟩), .pointer (some ⟨b30, 0, none⟩), iV vt39, iV dark238, iV x290, (j237 1), uV, uV, .slice A2 l1.length c3, .agg #[.slice A2 l1.length c3, iV 0], .pointer (some ⟨b10, 0, none⟩), .pointer (some ⟨b10, 0, none⟩), iV vt16, .pointer (some ⟨b10, 0, none⟩), iV vt23, .agg #[iV vt16, iV vt23, .slice none 0 0], .pointer (some ⟨b10, 0, none⟩), iV vt39, .pointer (some ⟨b30, 0, none⟩), iV vt16, .pointer (some ⟨b30, 1, none⟩), iV vt23, iV (w64 (vt16 * vt23)), iV x239, .bool true, iV vt39, .pointer (some ⟨b10, 0, none⟩), iV vt269, (j289 0), (j289 1), (j289 2), (j289 3), (j289 4), (j237 11), (j237 12), (j237 13), (j237 14), (j237 15), (j237 16), (j237 17), (j237 18), (j237 19), (j237 20), (j237 21), (j237 22), (j237 23), (j237 24), (j237 25), (j237 26), (j237 27), (j237 28), (j237 29), (j237 30), (j237 31), (j237 32), (j237 33), (j237 34), (j237 35), uV, uV, uV, uV, uV, uV, uV, uV, uV, uV, uV, uV, uV, uV, uV, uV, uV, uV, uV, uV, uV, uV, uV, uV, uV, uV, uV], []⟩ → K264 a_ W287 := by
      intro f285 x290 x291 j289 W287 a_ L286 hj294 HS288  hfr_; subst hfr_
      injection hj294 with hj294; subst hj294; try dsimp only at h
      refine hK265 _ _ ?_
      refine wp_seq_k (fun K295 hK296 => ?_)
      refine wp_region_lit ?_
      have hq_ := bind_some h; clear h; obtain ⟨⟨vt297, vt298⟩, hc299, h⟩ := hq_
      refine seqL2 (by kernel_rfl) ?_
      refine seqK rfl (does_call (f := 12) (args := #[.pointer (some ⟨b10, 0, none⟩), .int .i64 30]) (by kernel_rfl) (spymake_Stream_Next.calls k b10 A2 c3 (⟨l1, x291⟩ : S_Stream) 30 HS288 (HR4.mono (L20.trans (L27.trans (L43.trans (L234.trans (L273.trans L286)))))) vt297 vt298 hc299) ?_)
      rintro _ W302 ⟨f300, rfl, L301, HS303⟩
      refine ⟨_, rfl, ?_⟩
      have hq_ := bind_some h; clear h; obtain ⟨⟨vt304, vt305⟩, hc306, h⟩ := hq_
      refine seqL3 (by kernel_rfl) ?_
      refine seqK rfl (does_call (f := 12) (args := #[.pointer (some ⟨b10, 0, none⟩), .int .i64 30]) (by kernel_rfl) (spymake_Stream_Next.calls k b10 A2 c3 (⟨l1, vt298⟩ : S_Stream) 30 HS303 (HR4.mono (L20.trans (L27.trans (L43.trans (L234.trans (L273.trans (L286.trans L301))))))) vt304 vt305 hc306) ?_)
      rintro _ W309 ⟨f307, rfl, L308, HS310⟩
      refine ⟨_, rfl, ?_⟩
      have hq_ := bind_some h; clear h; obtain ⟨vt311, hc312, h⟩ := hq_
      refine seqL1 (by kernel_rfl) ?_
      refine seqK rfl (does_call (f := 22) (args := #[.int .i64 (w64 (x290 - vt297)), .int .i64 (w64 (x290 + vt304))]) (by kernel_rfl) (bound_Of_Quanta.calls k (w64 (x290 - vt297)) (w64 (x290 + vt304)) HS310 vt311 hc312) ?_)
      rintro _ W315 ⟨f313, rfl, L314, HS316⟩
      refine ⟨_, rfl, ?_⟩
      refine seqK rfl (does_alloc (z := Value.agg #[.int .i64 0, .int .i64 0, .bool false]) (cs := #[.int .i64 0, .int .i64 0, .bool false]) rfl (by kernel_rfl) rfl HS316 ?_)
      intro b317 W318 HS319
      refine seqK rfl (does_store (n := 3) (vs := [.int .i64 vt311.Lo, .int .i64 vt311.Hi, .bool vt311.Unknown]) (cs' := #[.int .i64 vt311.Lo, .int .i64 vt311.Hi, .bool vt311.Unknown]) rfl (by kernel_rfl) (by kernel_rfl : _ = Value.pointer (some ⟨b317, 0, none⟩)) (by kernel_rfl : _ = Value.agg #[.int .i64 vt311.Lo, .int .i64 vt311.Hi, .bool vt311.Unknown]) rfl rfl (by intro u_ hu_; simp only [List.mem_cons, List.not_mem_nil, or_false] at hu_; rcases hu_ with rfl | rfl | rfl <;> rfl) HS319 (Nat.le_of_ble_eq_true rfl) (by kernel_rfl) ?_)
      intro W321 HS322
      refine wpList_nil ?_
      refine hK296 _ _ ?_
      refine wp_seq_k (fun K323 hK324 => ?_)
      refine wp_seq_k (fun K325 hK326 => ?_)
      refine wp_region_lit ?_
      have HS327 := HS322.u1
      have hq_ := bind_some h; clear h; obtain ⟨⟨vt328, vt329⟩, hc330, h⟩ := hq_
      refine seqL1 (by kernel_rfl) ?_
      refine seqK rfl (does_call (f := 12) (args := #[.pointer (some ⟨b10, 0, none⟩), .int .i64 9]) (by kernel_rfl) (spymake_Stream_Next.calls k b10 A2 c3 (⟨l1, vt305⟩ : S_Stream) 9 HS327 (HR4.mono (L20.trans (L27.trans (L43.trans (L234.trans (L273.trans (L286.trans (L301.trans (L308.trans L314))))))))) vt328 vt329 hc330) ?_)
      rintro _ W333 ⟨f331, rfl, L332, HS334⟩
      refine ⟨_, rfl, ?_⟩
      refine seqS1 (a' := ⟨#[.slice A2 l1.length c3, iV least5, uV, uV, .bool false, .pointer (some ⟨b10, 0, none⟩), .pointer (some ⟨b30, 0, none⟩), iV vt39, iV dark238, iV x290, .pointer (some ⟨b317, 0, none⟩), uV, uV, .slice A2 l1.length c3, .agg #[.slice A2 l1.length c3, iV 0], .pointer (some ⟨b10, 0, none⟩), .pointer (some ⟨b10, 0, none⟩), iV vt16, .pointer (some ⟨b10, 0, none⟩), iV vt23, .agg #[iV vt16, iV vt23, .slice none 0 0], .pointer (some ⟨b10, 0, none⟩), iV vt39, .pointer (some ⟨b30, 0, none⟩), iV vt16, .pointer (some ⟨b30, 1, none⟩), iV vt23, iV (w64 (vt16 * vt23)), iV x239, .bool true, iV vt39, .pointer (some ⟨b10, 0, none⟩), iV vt269, (j289 0), (j289 1), (j289 2), (j289 3), (j289 4), iV x290, .pointer (some ⟨b10, 0, none⟩), iV vt297, iV (w64 (x290 - vt297)), iV x290, .pointer (some ⟨b10, 0, none⟩), iV vt304, iV (w64 (x290 + vt304)), .agg #[iV vt311.Lo, iV vt311.Hi, .bool vt311.Unknown], .pointer (some ⟨b10, 0, none⟩), iV vt328, .bool (vt328 == 0), (j237 23), (j237 24), (j237 25), (j237 26), (j237 27), (j237 28), (j237 29), (j237 30), (j237 31), (j237 32), (j237 33), (j237 34), (j237 35), uV, uV, uV, uV, uV, uV, uV, uV, uV, uV, uV, uV, uV, uV, uV, uV, uV, uV, uV, uV, uV, uV, uV, uV, uV, uV, uV], []⟩) (by kernel_rfl) ?_
      refine wpList_nil ?_
      refine hK326 _ _ ?_
      have hq_ := ite_some h; clear h; rcases hq_ with ⟨c336, h⟩ | ⟨c336, h⟩
      · have c336 : vt328 = 0 := c336
        refine wpRwI 49 (x := (vt328 == 0)) (v := true) (by kernel_rfl) (beq_iff_eq.mpr c336) ?_
        refine condT (by kernel_rfl) ?_
        refine wp_region_lit ?_
        have hq_ := bind_some h; clear h; obtain ⟨vt337, hc338, h⟩ := hq_
        refine seqK rfl (does_call (f := 32) (args := #[]) (by kernel_rfl) (bound_None_Quanta.calls k  HS334 vt337 hc338) ?_)
        rintro _ W341 ⟨f339, rfl, L340, HS342⟩
        refine ⟨_, rfl, ?_⟩
        have HS343 := HS342.u1
        refine seqK rfl (does_store (n := 3) (vs := [.int .i64 vt337.Lo, .int .i64 vt337.Hi, .bool vt337.Unknown]) (cs' := #[.int .i64 vt337.Lo, .int .i64 vt337.Hi, .bool vt337.Unknown]) rfl (by kernel_rfl) (by kernel_rfl : _ = Value.pointer (some ⟨b317, 0, none⟩)) (by kernel_rfl : _ = Value.agg #[.int .i64 vt337.Lo, .int .i64 vt337.Hi, .bool vt337.Unknown]) rfl rfl (by intro u_ hu_; simp only [List.mem_cons, List.not_mem_nil, or_false] at hu_; rcases hu_ with rfl | rfl | rfl <;> rfl) HS343 (Nat.le_of_ble_eq_true rfl) (by kernel_rfl) ?_)
        intro W344 HS345
        refine wpList_nil ?_
        refine hK324 _ _ ?_
        refine wp_region_lit ?_
        refine seqL1 (by kernel_rfl) ?_
        refine seqK rfl (does_run (run_load rfl Try.underlying32 rfl (by kernel_rfl : _ = Value.pointer (some ⟨b30, 2, none⟩)) (HS345.u3.cell 2)) ?_)
        refine seqK rfl (does_run (run_loadN (n := 3) rfl Try.underlying44 rfl (by kernel_rfl) (by kernel_rfl : _ = Value.pointer (some ⟨b317, 0, none⟩)) (cs := [.int .i64 vt337.Lo, .int .i64 vt337.Hi, .bool vt337.Unknown]) rfl (HS345.cells 0 3 _ rfl)) ?_)
        refine seqK rfl (does_lit (e := ty_Bound) (E := 44) (vs := #[(0, Value.agg #[.int .i64 vt337.Lo, .int .i64 vt337.Hi, .bool vt337.Unknown])]) (cs := #[.int .i64 vt337.Lo, .int .i64 vt337.Hi, .bool vt337.Unknown]) (xs := ([vt337] : List S_Bound)) rfl Try.underlying32 (by kernel_rfl) (by kernel_rfl) ⟨[.int .i64 vt337.Lo, .int .i64 vt337.Hi, .bool vt337.Unknown], _, rfl, rfl, rfl⟩ rfl HS345 ?_ (by decide))
        intro b350 W351 s352 HS353 _ HO354
        have hq_ := guard_some h; clear h; obtain ⟨c356, h⟩ := hq_
        have c356 : (x241.length + 1) * 24 ≤ 140737488355328 := c356
        have HS357 := HS353.u3
        have HS358 := HS357.u1
        refine seqK rfl (does_append1 (e := ty_Bound) (E := 44) (xs := x241) (ys := ([vt337] : List S_Bound)) rfl (by kernel_rfl : _ = Value.slice A242 x241.length c243) (by kernel_rfl : _ = Value.slice (some ⟨b350, 0, none⟩) ([vt337] : List S_Bound).length 1) Try.underlying32 inf44 (HO245.mono (L273.trans (L286.trans (L301.trans (L308.trans (L314.trans (L332.trans L340))))))) HO354 HS358 c356 (lim63 c356 (by decide)) ?_)
        intro A359 c360 s361 W362 HS363 HO364
        have HS365 := HS363.u3
        refine seqL1 (by kernel_rfl) ?_
        refine seqK rfl (does_store (n := 1) (vs := [.slice A359 (x241 ++ ([vt337] : List S_Bound)).length c360]) (cs' := #[.int .i64 vt16, .int .i64 vt23, .slice A359 (x241 ++ ([vt337] : List S_Bound)).length c360]) rfl (by kernel_rfl) (by kernel_rfl : _ = Value.pointer (some ⟨b30, 2, none⟩)) (by kernel_rfl : _ = Value.slice A359 (x241 ++ ([vt337] : List S_Bound)).length c360) rfl rfl (by intro u_ hu_; simp only [List.mem_cons, List.not_mem_nil, or_false] at hu_; subst hu_; rfl) HS365 (Nat.le_of_ble_eq_true rfl) (by kernel_rfl) ?_)
        intro W366 HS367
        refine wpList_nil ?_
        refine hn257 _ _ ?_
        refine hK254 _ _ ?_
        refine wp_region_lit ?_
        refine seqS2 (a' := ⟨#[.slice A2 l1.length c3, iV least5, uV, uV, .bool false, .pointer (some ⟨b10, 0, none⟩), .pointer (some ⟨b30, 0, none⟩), iV vt39, iV dark238, iV x290, .pointer (some ⟨b317, 0, none⟩), uV, uV, .slice A2 l1.length c3, .agg #[.slice A2 l1.length c3, iV 0], .pointer (some ⟨b10, 0, none⟩), .pointer (some ⟨b10, 0, none⟩), iV vt16, .pointer (some ⟨b10, 0, none⟩), iV vt23, .agg #[iV vt16, iV vt23, .slice none 0 0], .pointer (some ⟨b10, 0, none⟩), iV vt39, .pointer (some ⟨b30, 0, none⟩), iV vt16, .pointer (some ⟨b30, 1, none⟩), iV vt23, iV (w64 (vt16 * vt23)), iV (w64 (x239 + 1)), .bool true, iV vt39, .pointer (some ⟨b10, 0, none⟩), iV vt269, (j289 0), (j289 1), (j289 2), (j289 3), (j289 4), iV x290, .pointer (some ⟨b10, 0, none⟩), iV vt297, iV (w64 (x290 - vt297)), iV x290, .pointer (some ⟨b10, 0, none⟩), iV vt304, iV (w64 (x290 + vt304)), .agg #[iV vt311.Lo, iV vt311.Hi, .bool vt311.Unknown], .pointer (some ⟨b10, 0, none⟩), iV vt328, .bool true, .agg #[iV vt337.Lo, iV vt337.Hi, .bool vt337.Unknown], (j237 24), (j237 25), (j237 26), (j237 27), (j237 28), .pointer (some ⟨b30, 2, none⟩), .slice A242 x241.length c243, .agg #[iV vt337.Lo, iV vt337.Hi, .bool vt337.Unknown], .slice (some ⟨b350, 0, none⟩) ([vt337] : List S_Bound).length 1, .slice A359 (x241 ++ ([vt337] : List S_Bound)).length c360, .pointer (some ⟨b30, 2, none⟩), iV (w64 (x239 + 1)), uV, uV, uV, uV, uV, uV, uV, uV, uV, uV, uV, uV, uV, uV, uV, uV, uV, uV, uV, uV, uV, uV, uV, uV, uV, uV, uV], []⟩) (by kernel_rfl) ?_
        refine wpList_nil ?_
        refine hK231 n232 _ _ (Nat.lt_succ_self _) ?_
        have HS422 := HS367.u3
        have HS423 := HS422.u2
        have HS424 := HS423.u3
        have HS425 := HS424.drop
        exact ⟨f339, A359, c360, s361, dark238, (w64 (x239 + 1)), vt329, (x241 ++ ([vt337] : List S_Bound)), (fun i_ => [Value.int .i64 x290, Value.pointer (some ⟨b317, 0, none⟩), Value.bool true, Value.int .i64 vt39, Value.pointer (some ⟨b10, 0, none⟩), Value.int .i64 vt269, (j289 0), (j289 1), (j289 2), (j289 3), (j289 4), Value.int .i64 x290, Value.pointer (some ⟨b10, 0, none⟩), Value.int .i64 vt297, Value.int .i64 (w64 (x290 - vt297)), Value.int .i64 x290, Value.pointer (some ⟨b10, 0, none⟩), Value.int .i64 vt304, Value.int .i64 (w64 (x290 + vt304)), Value.agg #[.int .i64 vt311.Lo, .int .i64 vt311.Hi, .bool vt311.Unknown], Value.pointer (some ⟨b10, 0, none⟩), Value.int .i64 vt328, Value.bool true, Value.agg #[.int .i64 vt337.Lo, .int .i64 vt337.Hi, .bool vt337.Unknown], (j237 24), (j237 25), (j237 26), (j237 27), (j237 28), Value.pointer (some ⟨b30, 2, none⟩), Value.slice A242 x241.length c243, Value.agg #[.int .i64 vt337.Lo, .int .i64 vt337.Hi, .bool vt337.Unknown], Value.slice (some ⟨b350, 0, none⟩) ([vt337] : List S_Bound).length 1, Value.slice A359 (x241 ++ ([vt337] : List S_Bound)).length c360, Value.pointer (some ⟨b30, 2, none⟩), Value.int .i64 (w64 (x239 + 1))].getD i_ undef), (L234.trans (L273.trans (L286.trans (L301.trans (L308.trans (L314.trans (L332.trans L340))))))), HS425, HO364, h, (by kernel_rfl)⟩
      · have c336 : ¬ (vt328 = 0) := c336
        refine wpRwI 49 (x := (vt328 == 0)) (v := false) (by kernel_rfl) (beq_eq_false_iff_ne.mpr c336) ?_
        refine condF (by kernel_rfl) ?_
        refine wp_seq_k (fun K346 hK347 => ?_)
        refine wp_region_lit ?_
        refine seqS3 (a' := ⟨#[.slice A2 l1.length c3, iV least5, uV, uV, .bool false, .pointer (some ⟨b10, 0, none⟩), .pointer (some ⟨b30, 0, none⟩), iV vt39, iV dark238, iV x290, .pointer (some ⟨b317, 0, none⟩), uV, uV, .slice A2 l1.length c3, .agg #[.slice A2 l1.length c3, iV 0], .pointer (some ⟨b10, 0, none⟩), .pointer (some ⟨b10, 0, none⟩), iV vt16, .pointer (some ⟨b10, 0, none⟩), iV vt23, .agg #[iV vt16, iV vt23, .slice none 0 0], .pointer (some ⟨b10, 0, none⟩), iV vt39, .pointer (some ⟨b30, 0, none⟩), iV vt16, .pointer (some ⟨b30, 1, none⟩), iV vt23, iV (w64 (vt16 * vt23)), iV x239, .bool true, iV vt39, .pointer (some ⟨b10, 0, none⟩), iV vt269, (j289 0), (j289 1), (j289 2), (j289 3), (j289 4), iV x290, .pointer (some ⟨b10, 0, none⟩), iV vt297, iV (w64 (x290 - vt297)), iV x290, .pointer (some ⟨b10, 0, none⟩), iV vt304, iV (w64 (x290 + vt304)), .agg #[iV vt311.Lo, iV vt311.Hi, .bool vt311.Unknown], .pointer (some ⟨b10, 0, none⟩), iV vt328, .bool false, (j237 23), iV x290, iV vt39, .bool (x290 == vt39), (j237 27), (j237 28), (j237 29), (j237 30), (j237 31), (j237 32), (j237 33), (j237 34), (j237 35), uV, uV, uV, uV, uV, uV, uV, uV, uV, uV, uV, uV, uV, uV, uV, uV, uV, uV, uV, uV, uV, uV, uV, uV, uV, uV, uV], []⟩) (by kernel_rfl) ?_
        refine wpList_nil ?_
        refine hK347 _ _ ?_
        have hq_ := ite_some h; clear h; rcases hq_ with ⟨c349, h⟩ | ⟨c349, h⟩
        · have c349 : x290 = vt39 := c349
          refine wpRwI 53 (x := (x290 == vt39)) (v := true) (by kernel_rfl) (beq_iff_eq.mpr c349) ?_
          refine condT (by kernel_rfl) ?_
          refine wp_region_lit ?_
          refine seqS3 (a' := ⟨#[.slice A2 l1.length c3, iV least5, uV, uV, .bool false, .pointer (some ⟨b10, 0, none⟩), .pointer (some ⟨b30, 0, none⟩), iV vt39, iV (w64 (dark238 + 1)), iV x290, .pointer (some ⟨b317, 0, none⟩), uV, uV, .slice A2 l1.length c3, .agg #[.slice A2 l1.length c3, iV 0], .pointer (some ⟨b10, 0, none⟩), .pointer (some ⟨b10, 0, none⟩), iV vt16, .pointer (some ⟨b10, 0, none⟩), iV vt23, .agg #[iV vt16, iV vt23, .slice none 0 0], .pointer (some ⟨b10, 0, none⟩), iV vt39, .pointer (some ⟨b30, 0, none⟩), iV vt16, .pointer (some ⟨b30, 1, none⟩), iV vt23, iV (w64 (vt16 * vt23)), iV x239, .bool true, iV vt39, .pointer (some ⟨b10, 0, none⟩), iV vt269, (j289 0), (j289 1), (j289 2), (j289 3), (j289 4), iV x290, .pointer (some ⟨b10, 0, none⟩), iV vt297, iV (w64 (x290 - vt297)), iV x290, .pointer (some ⟨b10, 0, none⟩), iV vt304, iV (w64 (x290 + vt304)), .agg #[iV vt311.Lo, iV vt311.Hi, .bool vt311.Unknown], .pointer (some ⟨b10, 0, none⟩), iV vt328, .bool false, (j237 23), iV x290, iV vt39, .bool true, iV dark238, iV (w64 (dark238 + 1)), (j237 29), (j237 30), (j237 31), (j237 32), (j237 33), (j237 34), (j237 35), uV, uV, uV, uV, uV, uV, uV, uV, uV, uV, uV, uV, uV, uV, uV, uV, uV, uV, uV, uV, uV, uV, uV, uV, uV, uV, uV], []⟩) (by kernel_rfl) ?_
          refine wpList_nil ?_
          refine hK324 _ _ ?_
          refine wp_region_lit ?_
          refine seqL1 (by kernel_rfl) ?_
          refine seqK rfl (does_run (run_load rfl Try.underlying32 rfl (by kernel_rfl : _ = Value.pointer (some ⟨b30, 2, none⟩)) (HS334.u3.cell 2)) ?_)
          refine seqK rfl (does_run (run_loadN (n := 3) rfl Try.underlying44 rfl (by kernel_rfl) (by kernel_rfl : _ = Value.pointer (some ⟨b317, 0, none⟩)) (cs := [.int .i64 vt311.Lo, .int .i64 vt311.Hi, .bool vt311.Unknown]) rfl (HS334.u1.cells 0 3 _ rfl)) ?_)
          refine seqK rfl (does_lit (e := ty_Bound) (E := 44) (vs := #[(0, Value.agg #[.int .i64 vt311.Lo, .int .i64 vt311.Hi, .bool vt311.Unknown])]) (cs := #[.int .i64 vt311.Lo, .int .i64 vt311.Hi, .bool vt311.Unknown]) (xs := ([vt311] : List S_Bound)) rfl Try.underlying32 (by kernel_rfl) (by kernel_rfl) ⟨[.int .i64 vt311.Lo, .int .i64 vt311.Hi, .bool vt311.Unknown], _, rfl, rfl, rfl⟩ rfl HS334 ?_ (by decide))
          intro b368 W369 s370 HS371 _ HO372
          have hq_ := guard_some h; clear h; obtain ⟨c374, h⟩ := hq_
          have c374 : (x241.length + 1) * 24 ≤ 140737488355328 := c374
          have HS375 := HS371.u3
          have HS376 := HS375.u1
          refine seqK rfl (does_append1 (e := ty_Bound) (E := 44) (xs := x241) (ys := ([vt311] : List S_Bound)) rfl (by kernel_rfl : _ = Value.slice A242 x241.length c243) (by kernel_rfl : _ = Value.slice (some ⟨b368, 0, none⟩) ([vt311] : List S_Bound).length 1) Try.underlying32 inf44 (HO245.mono (L273.trans (L286.trans (L301.trans (L308.trans (L314.trans L332)))))) HO372 HS376 c374 (lim63 c374 (by decide)) ?_)
          intro A377 c378 s379 W380 HS381 HO382
          have HS383 := HS381.u3
          refine seqL1 (by kernel_rfl) ?_
          refine seqK rfl (does_store (n := 1) (vs := [.slice A377 (x241 ++ ([vt311] : List S_Bound)).length c378]) (cs' := #[.int .i64 vt16, .int .i64 vt23, .slice A377 (x241 ++ ([vt311] : List S_Bound)).length c378]) rfl (by kernel_rfl) (by kernel_rfl : _ = Value.pointer (some ⟨b30, 2, none⟩)) (by kernel_rfl : _ = Value.slice A377 (x241 ++ ([vt311] : List S_Bound)).length c378) rfl rfl (by intro u_ hu_; simp only [List.mem_cons, List.not_mem_nil, or_false] at hu_; subst hu_; rfl) HS383 (Nat.le_of_ble_eq_true rfl) (by kernel_rfl) ?_)
          intro W384 HS385
          refine wpList_nil ?_
          refine hn257 _ _ ?_
          refine hK254 _ _ ?_
          refine wp_region_lit ?_
          refine seqS2 (a' := ⟨#[.slice A2 l1.length c3, iV least5, uV, uV, .bool false, .pointer (some ⟨b10, 0, none⟩), .pointer (some ⟨b30, 0, none⟩), iV vt39, iV (w64 (dark238 + 1)), iV x290, .pointer (some ⟨b317, 0, none⟩), uV, uV, .slice A2 l1.length c3, .agg #[.slice A2 l1.length c3, iV 0], .pointer (some ⟨b10, 0, none⟩), .pointer (some ⟨b10, 0, none⟩), iV vt16, .pointer (some ⟨b10, 0, none⟩), iV vt23, .agg #[iV vt16, iV vt23, .slice none 0 0], .pointer (some ⟨b10, 0, none⟩), iV vt39, .pointer (some ⟨b30, 0, none⟩), iV vt16, .pointer (some ⟨b30, 1, none⟩), iV vt23, iV (w64 (vt16 * vt23)), iV (w64 (x239 + 1)), .bool true, iV vt39, .pointer (some ⟨b10, 0, none⟩), iV vt269, (j289 0), (j289 1), (j289 2), (j289 3), (j289 4), iV x290, .pointer (some ⟨b10, 0, none⟩), iV vt297, iV (w64 (x290 - vt297)), iV x290, .pointer (some ⟨b10, 0, none⟩), iV vt304, iV (w64 (x290 + vt304)), .agg #[iV vt311.Lo, iV vt311.Hi, .bool vt311.Unknown], .pointer (some ⟨b10, 0, none⟩), iV vt328, .bool false, (j237 23), iV x290, iV vt39, .bool true, iV dark238, iV (w64 (dark238 + 1)), .pointer (some ⟨b30, 2, none⟩), .slice A242 x241.length c243, .agg #[iV vt311.Lo, iV vt311.Hi, .bool vt311.Unknown], .slice (some ⟨b368, 0, none⟩) ([vt311] : List S_Bound).length 1, .slice A377 (x241 ++ ([vt311] : List S_Bound)).length c378, .pointer (some ⟨b30, 2, none⟩), iV (w64 (x239 + 1)), uV, uV, uV, uV, uV, uV, uV, uV, uV, uV, uV, uV, uV, uV, uV, uV, uV, uV, uV, uV, uV, uV, uV, uV, uV, uV, uV], []⟩) (by kernel_rfl) ?_
          refine wpList_nil ?_
          refine hK231 n232 _ _ (Nat.lt_succ_self _) ?_
          have HS426 := HS385.u2
          have HS427 := HS426.u2
          have HS428 := HS427.u3
          have HS429 := HS428.drop
          exact ⟨f331, A377, c378, s379, (w64 (dark238 + 1)), (w64 (x239 + 1)), vt329, (x241 ++ ([vt311] : List S_Bound)), (fun i_ => [Value.int .i64 x290, Value.pointer (some ⟨b317, 0, none⟩), Value.bool true, Value.int .i64 vt39, Value.pointer (some ⟨b10, 0, none⟩), Value.int .i64 vt269, (j289 0), (j289 1), (j289 2), (j289 3), (j289 4), Value.int .i64 x290, Value.pointer (some ⟨b10, 0, none⟩), Value.int .i64 vt297, Value.int .i64 (w64 (x290 - vt297)), Value.int .i64 x290, Value.pointer (some ⟨b10, 0, none⟩), Value.int .i64 vt304, Value.int .i64 (w64 (x290 + vt304)), Value.agg #[.int .i64 vt311.Lo, .int .i64 vt311.Hi, .bool vt311.Unknown], Value.pointer (some ⟨b10, 0, none⟩), Value.int .i64 vt328, Value.bool false, (j237 23), Value.int .i64 x290, Value.int .i64 vt39, Value.bool true, Value.int .i64 dark238, Value.int .i64 (w64 (dark238 + 1)), Value.pointer (some ⟨b30, 2, none⟩), Value.slice A242 x241.length c243, Value.agg #[.int .i64 vt311.Lo, .int .i64 vt311.Hi, .bool vt311.Unknown], Value.slice (some ⟨b368, 0, none⟩) ([vt311] : List S_Bound).length 1, Value.slice A377 (x241 ++ ([vt311] : List S_Bound)).length c378, Value.pointer (some ⟨b30, 2, none⟩), Value.int .i64 (w64 (x239 + 1))].getD i_ undef), (L234.trans (L273.trans (L286.trans (L301.trans (L308.trans (L314.trans L332)))))), HS429, HO382, h, (by kernel_rfl)⟩
        · have c349 : ¬ (x290 = vt39) := c349
          refine wpRwI 53 (x := (x290 == vt39)) (v := false) (by kernel_rfl) (beq_eq_false_iff_ne.mpr c349) ?_
          refine condF (by kernel_rfl) ?_
          refine wp_skip ?_
          refine hK324 _ _ ?_
          refine wp_region_lit ?_
          refine seqL1 (by kernel_rfl) ?_
          refine seqK rfl (does_run (run_load rfl Try.underlying32 rfl (by kernel_rfl : _ = Value.pointer (some ⟨b30, 2, none⟩)) (HS334.u3.cell 2)) ?_)
          refine seqK rfl (does_run (run_loadN (n := 3) rfl Try.underlying44 rfl (by kernel_rfl) (by kernel_rfl : _ = Value.pointer (some ⟨b317, 0, none⟩)) (cs := [.int .i64 vt311.Lo, .int .i64 vt311.Hi, .bool vt311.Unknown]) rfl (HS334.u1.cells 0 3 _ rfl)) ?_)
          refine seqK rfl (does_lit (e := ty_Bound) (E := 44) (vs := #[(0, Value.agg #[.int .i64 vt311.Lo, .int .i64 vt311.Hi, .bool vt311.Unknown])]) (cs := #[.int .i64 vt311.Lo, .int .i64 vt311.Hi, .bool vt311.Unknown]) (xs := ([vt311] : List S_Bound)) rfl Try.underlying32 (by kernel_rfl) (by kernel_rfl) ⟨[.int .i64 vt311.Lo, .int .i64 vt311.Hi, .bool vt311.Unknown], _, rfl, rfl, rfl⟩ rfl HS334 ?_ (by decide))
          intro b386 W387 s388 HS389 _ HO390
          have hq_ := guard_some h; clear h; obtain ⟨c392, h⟩ := hq_
          have c392 : (x241.length + 1) * 24 ≤ 140737488355328 := c392
          have HS393 := HS389.u3
          have HS394 := HS393.u1
          refine seqK rfl (does_append1 (e := ty_Bound) (E := 44) (xs := x241) (ys := ([vt311] : List S_Bound)) rfl (by kernel_rfl : _ = Value.slice A242 x241.length c243) (by kernel_rfl : _ = Value.slice (some ⟨b386, 0, none⟩) ([vt311] : List S_Bound).length 1) Try.underlying32 inf44 (HO245.mono (L273.trans (L286.trans (L301.trans (L308.trans (L314.trans L332)))))) HO390 HS394 c392 (lim63 c392 (by decide)) ?_)
          intro A395 c396 s397 W398 HS399 HO400
          have HS401 := HS399.u3
          refine seqL1 (by kernel_rfl) ?_
          refine seqK rfl (does_store (n := 1) (vs := [.slice A395 (x241 ++ ([vt311] : List S_Bound)).length c396]) (cs' := #[.int .i64 vt16, .int .i64 vt23, .slice A395 (x241 ++ ([vt311] : List S_Bound)).length c396]) rfl (by kernel_rfl) (by kernel_rfl : _ = Value.pointer (some ⟨b30, 2, none⟩)) (by kernel_rfl : _ = Value.slice A395 (x241 ++ ([vt311] : List S_Bound)).length c396) rfl rfl (by intro u_ hu_; simp only [List.mem_cons, List.not_mem_nil, or_false] at hu_; subst hu_; rfl) HS401 (Nat.le_of_ble_eq_true rfl) (by kernel_rfl) ?_)
          intro W402 HS403
          refine wpList_nil ?_
          refine hn257 _ _ ?_
          refine hK254 _ _ ?_
          refine wp_region_lit ?_
          refine seqS2 (a' := ⟨#[.slice A2 l1.length c3, iV least5, uV, uV, .bool false, .pointer (some ⟨b10, 0, none⟩), .pointer (some ⟨b30, 0, none⟩), iV vt39, iV dark238, iV x290, .pointer (some ⟨b317, 0, none⟩), uV, uV, .slice A2 l1.length c3, .agg #[.slice A2 l1.length c3, iV 0], .pointer (some ⟨b10, 0, none⟩), .pointer (some ⟨b10, 0, none⟩), iV vt16, .pointer (some ⟨b10, 0, none⟩), iV vt23, .agg #[iV vt16, iV vt23, .slice none 0 0], .pointer (some ⟨b10, 0, none⟩), iV vt39, .pointer (some ⟨b30, 0, none⟩), iV vt16, .pointer (some ⟨b30, 1, none⟩), iV vt23, iV (w64 (vt16 * vt23)), iV (w64 (x239 + 1)), .bool true, iV vt39, .pointer (some ⟨b10, 0, none⟩), iV vt269, (j289 0), (j289 1), (j289 2), (j289 3), (j289 4), iV x290, .pointer (some ⟨b10, 0, none⟩), iV vt297, iV (w64 (x290 - vt297)), iV x290, .pointer (some ⟨b10, 0, none⟩), iV vt304, iV (w64 (x290 + vt304)), .agg #[iV vt311.Lo, iV vt311.Hi, .bool vt311.Unknown], .pointer (some ⟨b10, 0, none⟩), iV vt328, .bool false, (j237 23), iV x290, iV vt39, .bool false, (j237 27), (j237 28), .pointer (some ⟨b30, 2, none⟩), .slice A242 x241.length c243, .agg #[iV vt311.Lo, iV vt311.Hi, .bool vt311.Unknown], .slice (some ⟨b386, 0, none⟩) ([vt311] : List S_Bound).length 1, .slice A395 (x241 ++ ([vt311] : List S_Bound)).length c396, .pointer (some ⟨b30, 2, none⟩), iV (w64 (x239 + 1)), uV, uV, uV, uV, uV, uV, uV, uV, uV, uV, uV, uV, uV, uV, uV, uV, uV, uV, uV, uV, uV, uV, uV, uV, uV, uV, uV], []⟩) (by kernel_rfl) ?_
          refine wpList_nil ?_
          refine hK231 n232 _ _ (Nat.lt_succ_self _) ?_
          have HS430 := HS403.u2
          have HS431 := HS430.u2
          have HS432 := HS431.u3
          have HS433 := HS432.drop
          exact ⟨f331, A395, c396, s397, dark238, (w64 (x239 + 1)), vt329, (x241 ++ ([vt311] : List S_Bound)), (fun i_ => [Value.int .i64 x290, Value.pointer (some ⟨b317, 0, none⟩), Value.bool true, Value.int .i64 vt39, Value.pointer (some ⟨b10, 0, none⟩), Value.int .i64 vt269, (j289 0), (j289 1), (j289 2), (j289 3), (j289 4), Value.int .i64 x290, Value.pointer (some ⟨b10, 0, none⟩), Value.int .i64 vt297, Value.int .i64 (w64 (x290 - vt297)), Value.int .i64 x290, Value.pointer (some ⟨b10, 0, none⟩), Value.int .i64 vt304, Value.int .i64 (w64 (x290 + vt304)), Value.agg #[.int .i64 vt311.Lo, .int .i64 vt311.Hi, .bool vt311.Unknown], Value.pointer (some ⟨b10, 0, none⟩), Value.int .i64 vt328, Value.bool false, (j237 23), Value.int .i64 x290, Value.int .i64 vt39, Value.bool false, (j237 27), (j237 28), Value.pointer (some ⟨b30, 2, none⟩), Value.slice A242 x241.length c243, Value.agg #[.int .i64 vt311.Lo, .int .i64 vt311.Hi, .bool vt311.Unknown], Value.slice (some ⟨b386, 0, none⟩) ([vt311] : List S_Bound).length 1, Value.slice A395 (x241 ++ ([vt311] : List S_Bound)).length c396, Value.pointer (some ⟨b30, 2, none⟩), Value.int .i64 (w64 (x239 + 1))].getD i_ undef), (L234.trans (L273.trans (L286.trans (L301.trans (L308.trans (L314.trans L332)))))), HS433, HO400, h, (by kernel_rfl)⟩
    clear h; have h := hv292; clear hv292
    have hq_ := ite_some h; clear h; rcases hq_ with ⟨c277, h⟩ | ⟨c277, h⟩
    · have c277 : vt269 = 0 := c277
      refine wpRwI 33 (x := (vt269 == 0)) (v := true) (by kernel_rfl) (beq_iff_eq.mpr c277) ?_
      refine condT (by kernel_rfl) ?_
      refine wp_region_lit ?_
      have hq_ := bind_some h; clear h; obtain ⟨⟨vt278, vt279⟩, hc280, h⟩ := hq_
      refine seqL2 (by kernel_rfl) ?_
      refine seqK rfl (does_call (f := 12) (args := #[.pointer (some ⟨b10, 0, none⟩), .int .i64 300]) (by kernel_rfl) (spymake_Stream_Next.calls k b10 A2 c3 (⟨l1, vt270⟩ : S_Stream) 300 HS275 (HR4.mono (L20.trans (L27.trans (L43.trans (L234.trans L273))))) vt278 vt279 hc280) ?_)
      rintro _ W283 ⟨f281, rfl, L282, HS284⟩
      refine ⟨_, rfl, ?_⟩
      refine seqS2 (a' := ⟨#[.slice A2 l1.length c3, iV least5, uV, uV, .bool false, .pointer (some ⟨b10, 0, none⟩), .pointer (some ⟨b30, 0, none⟩), iV vt39, iV dark238, iV (w64 (vt39 + vt278)), (j237 1), uV, uV, .slice A2 l1.length c3, .agg #[.slice A2 l1.length c3, iV 0], .pointer (some ⟨b10, 0, none⟩), .pointer (some ⟨b10, 0, none⟩), iV vt16, .pointer (some ⟨b10, 0, none⟩), iV vt23, .agg #[iV vt16, iV vt23, .slice none 0 0], .pointer (some ⟨b10, 0, none⟩), iV vt39, .pointer (some ⟨b30, 0, none⟩), iV vt16, .pointer (some ⟨b30, 1, none⟩), iV vt23, iV (w64 (vt16 * vt23)), iV x239, .bool true, iV vt39, .pointer (some ⟨b10, 0, none⟩), iV vt269, .bool true, iV vt39, .pointer (some ⟨b10, 0, none⟩), iV vt278, iV (w64 (vt39 + vt278)), (j237 11), (j237 12), (j237 13), (j237 14), (j237 15), (j237 16), (j237 17), (j237 18), (j237 19), (j237 20), (j237 21), (j237 22), (j237 23), (j237 24), (j237 25), (j237 26), (j237 27), (j237 28), (j237 29), (j237 30), (j237 31), (j237 32), (j237 33), (j237 34), (j237 35), uV, uV, uV, uV, uV, uV, uV, uV, uV, uV, uV, uV, uV, uV, uV, uV, uV, uV, uV, uV, uV, uV, uV, uV, uV, uV, uV], []⟩) (by kernel_rfl) ?_
      refine wpList_nil ?_
      exact J293 f281 (w64 (vt39 + vt278)) vt279 (fun i_ => [Value.bool true, Value.int .i64 vt39, Value.pointer (some ⟨b10, 0, none⟩), Value.int .i64 vt278, Value.int .i64 (w64 (vt39 + vt278))].getD i_ undef) W283 _ L282 h HS284 (by kernel_rfl)
    · have c277 : ¬ (vt269 = 0) := c277
      refine wpRwI 33 (x := (vt269 == 0)) (v := false) (by kernel_rfl) (beq_eq_false_iff_ne.mpr c277) ?_
      refine condF (by kernel_rfl) ?_
      refine wp_skip ?_
      exact J293 f272 vt39 vt270 (fun i_ => [Value.bool false, (j237 7), (j237 8), (j237 9), (j237 10)].getD i_ undef) W274 _ (FM.le.refl _) h HS275 (by kernel_rfl)
  · have c252 : ¬ (x239 < (w64 (vt16 * vt23))) := c252
    refine wpRwI 29 (x := (decide (x239 < (w64 (vt16 * vt23))))) (v := false) (by kernel_rfl) (decide_eq_false c252) ?_
    refine condF (by kernel_rfl) ?_
    refine wp_exit ?_
    refine hx51 _ _ ?_
    exact J418 f233 A242 c243 s244 dark238 x240 x241 (fun i_ => [(j237 0), (j237 1), Value.int .i64 x239, Value.bool false, (j237 3), (j237 4), (j237 5), (j237 6), (j237 7), (j237 8), (j237 9), (j237 10), (j237 11), (j237 12), (j237 13), (j237 14), (j237 15), (j237 16), (j237 17), (j237 18), (j237 19), (j237 20), (j237 21), (j237 22), (j237 23), (j237 24), (j237 25), (j237 26), (j237 27), (j237 28), (j237 29), (j237 30), (j237 31), (j237 32), (j237 33), (j237 34), (j237 35)].getD i_ undef) W235 _ L234 h HS236 HO245 (by kernel_rfl)

end Go.Sp.T7
