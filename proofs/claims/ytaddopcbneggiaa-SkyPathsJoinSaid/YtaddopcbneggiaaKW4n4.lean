import Derived.Test.YtaddopcbneggiaaProg
import Derived.Test.YtaddopcbneggiaaSpCopy
import Derived.Test.YtaddopcbneggiaaFW4
import Derived.Test.YtaddopcbneggiaaSpRound
import Derived.Test.YtaddopcbneggiaaKW4n0
import Derived.Test.YtaddopcbneggiaaKW4n1
import Derived.Test.YtaddopcbneggiaaKW4n2
import Derived.Test.YtaddopcbneggiaaKW4n3
namespace Go.Sp.W4
open Go Go.Sp Go.Proofs
set_option linter.unusedVariables false
attribute [local irreducible] wpList AnyL Code.wp Calls Does Code.wpIn wpListIn CallsIn bodyPostM LeavesInM
set_option maxRecDepth 100000 in
set_option maxHeartbeats 4000000 in
theorem spykeep3_SkyPathsJoin.calls (k : Nat) (A2 : Option Addr) (c3 : Nat) (l1 : List Int) (day5 : Int) {t w : World} {f : FM} {H : List Seg} (HS : St t w f (H)) (HR4 : SlR (tInt .i64) f A2 c3 l1) (r1 : Bool) (h : spykeep3_SkyPathsJoin k l1 day5 = some r1) :
    Calls Try.prog 4 #[.slice A2 l1.length c3, .int .i64 day5] w (fun e w' => ∃ (g : FM), e = .returned (Value.bool r1) ∧ FM.le f g ∧ St t w' g (H)) := by
  unfold spykeep3_SkyPathsJoin at h
  refine enterM Try.func4 rfl (tm := #[.slice A2 l1.length c3, iV day5, uV, uV, uV, uV, uV, uV, uV, uV, uV, uV, uV, uV, uV, uV, uV, uV, uV, uV, uV, uV, uV, uV, uV, uV, uV, uV, uV, uV, uV, uV, uV, uV, uV, uV, uV, uV, uV, uV, uV, uV, uV, uV, uV, uV, uV, uV, uV, uV, uV, uV, uV, uV, uV, uV, uV, uV, uV, uV, uV, uV, uV, uV, uV, uV, uV, uV, uV, uV, uV, uV, uV, uV, uV, uV, uV, uV, uV, uV, uV, uV, uV, uV, uV, uV, uV, uV, uV, uV, uV, uV, uV, uV, uV, uV, uV, uV, uV, uV, uV, uV, uV, uV, uV, uV, uV, uV, uV, uV, uV, uV, uV, uV, uV, uV, uV, uV, uV, uV, uV, uV, uV, uV, uV, uV, uV, uV, uV, uV, uV, uV, uV, uV, uV, uV, uV, uV, uV, uV, uV, uV, uV, uV]) (by kernel_rfl) ?_
  intro B hret hnor hnp
  refine wp_seq_k (fun K6 hK7 => ?_)
  refine wp_region_lit ?_
  refine seqK rfl (does_box (cs := #[.int .i64 day5]) rfl (by kernel_rfl : _ = Value.int .i64 day5) rfl HS ?_)
  intro b8 W9 HS10
  refine seqK rfl (does_alloc (z := Value.bool false) (cs := #[.bool false]) rfl (by kernel_rfl) rfl HS10 ?_)
  intro b12 W13 HS14
  refine wpList_nil ?_
  refine hK7 _ _ ?_
  refine wp_seq_k (fun K16 hK17 => ?_)
  refine wp_seq_k (fun K18 hK19 => ?_)
  refine wp_region_lit ?_
  have hq_ := bind_some h; clear h; obtain ⟨vt20, hc21, h⟩ := hq_
  refine seqK rfl (does_call (f := 9) (args := #[]) (by kernel_rfl) (spykeep3_pulls.calls k  HS14 vt20 hc21) ?_)
  rintro _ W24 ⟨f22, rfl, L23, HS25⟩
  refine ⟨_, rfl, ?_⟩
  refine seqS1 (a' := ⟨#[.slice A2 l1.length c3, iV day5, uV, .pointer (some ⟨b8, 0, none⟩), .pointer (some ⟨b12, 0, none⟩), uV, uV, uV, uV, uV, uV, uV, uV, uV, uV, uV, uV, uV, uV, uV, uV, uV, uV, uV, uV, .bool vt20, .bool (!vt20), uV, uV, uV, uV, uV, uV, uV, uV, uV, uV, uV, uV, uV, uV, uV, uV, uV, uV, uV, uV, uV, uV, uV, uV, uV, uV, uV, uV, uV, uV, uV, uV, uV, uV, uV, uV, uV, uV, uV, uV, uV, uV, uV, uV, uV, uV, uV, uV, uV, uV, uV, uV, uV, uV, uV, uV, uV, uV, uV, uV, uV, uV, uV, uV, uV, uV, uV, uV, uV, uV, uV, uV, uV, uV, uV, uV, uV, uV, uV, uV, uV, uV, uV, uV, uV, uV, uV, uV, uV, uV, uV, uV, uV, uV, uV, uV, uV, uV, uV, uV, uV, uV, uV, uV, uV, uV, uV, uV, uV, uV, uV, uV, uV, uV, uV, uV, uV], []⟩) (by kernel_rfl) ?_
  refine wpList_nil ?_
  refine hK19 _ _ ?_
  have hq_ := ite_some h; clear h; rcases hq_ with ⟨c27, h⟩ | ⟨c27, h⟩
  · have c27 : ¬ (vt20 = true) := c27
    refine wpRwI 26 (x := (!vt20)) (v := true) (by kernel_rfl) (congrArg (fun b_ => !b_) (show vt20 = false from (Bool.eq_false_iff.mpr c27)) : (!vt20) = true) ?_
    refine condT (by kernel_rfl) ?_
    refine wp_seq_k (fun K28 hK29 => ?_)
    refine wp_region_lit ?_
    refine seqK rfl (does_store (n := 1) (vs := [.bool false]) (cs' := #[.bool false]) rfl (by kernel_rfl) (by kernel_rfl : _ = Value.pointer (some ⟨b12, 0, none⟩)) (by kernel_rfl : _ = Value.bool false) rfl rfl (by intro u_ hu_; simp only [List.mem_cons, List.not_mem_nil, or_false] at hu_; subst hu_; rfl) HS25 (Nat.le_of_ble_eq_true rfl) (by kernel_rfl) ?_)
    intro W30 HS31
    refine wpList_nil ?_
    refine hK29 _ _ ?_
    refine wp_ret ?_
    refine hret _ _ ?_
    refine endsM (v := Value.bool false) (results1 (q1 := .cell 4 4) (by kernel_rfl) (resC (by kernel_rfl : _ = Value.pointer (some ⟨b12, 0, none⟩)) Try.underlying4 rfl (HS31.cell 0))) (by kernel_rfl) ?_
    have HS605 := HS31.drop
    have HS606 := HS605.drop
    injection h with h
    subst h
    exact ⟨f22, rfl, L23, HS606⟩
  · have c27 : ¬ (¬ (vt20 = true)) := c27
    refine wpRwI 26 (x := (!vt20)) (v := false) (by kernel_rfl) (congrArg (fun b_ => !b_) (show vt20 = true from (Decidable.of_not_not c27)) : (!vt20) = false) ?_
    refine condF (by kernel_rfl) ?_
    refine wp_skip ?_
    refine hK17 _ _ ?_
    refine wp_seq_k (fun K32 hK33 => ?_)
    refine wp_region_lit ?_
    refine seqL2 (by kernel_rfl) ?_
    refine seqK rfl (does_box (cs := #[.slice A2 l1.length c3, .int .i64 0]) rfl (by kernel_rfl : _ = Value.agg #[.slice A2 l1.length c3, .int .i64 0]) rfl HS25 ?_)
    intro b34 W35 HS36
    refine seqS1 (a' := ⟨#[.slice A2 l1.length c3, iV day5, uV, .pointer (some ⟨b8, 0, none⟩), .pointer (some ⟨b12, 0, none⟩), .pointer (some ⟨b34, 0, none⟩), uV, uV, uV, uV, uV, uV, uV, uV, uV, uV, uV, uV, uV, uV, uV, uV, uV, uV, uV, .bool vt20, .bool false, .slice A2 l1.length c3, .agg #[.slice A2 l1.length c3, iV 0], .pointer (some ⟨b34, 0, none⟩), uV, uV, uV, uV, uV, uV, uV, uV, uV, uV, uV, uV, uV, uV, uV, uV, uV, uV, uV, uV, uV, uV, uV, uV, uV, uV, uV, uV, uV, uV, uV, uV, uV, uV, uV, uV, uV, uV, uV, uV, uV, uV, uV, uV, uV, uV, uV, uV, uV, uV, uV, uV, uV, uV, uV, uV, uV, uV, uV, uV, uV, uV, uV, uV, uV, uV, uV, uV, uV, uV, uV, uV, uV, uV, uV, uV, uV, uV, uV, uV, uV, uV, uV, uV, uV, uV, uV, uV, uV, uV, uV, uV, uV, uV, uV, uV, uV, uV, uV, uV, uV, uV, uV, uV, uV, uV, uV, uV, uV, uV, uV, uV, uV, uV], []⟩) (by kernel_rfl) ?_
    refine wpList_nil ?_
    refine hK33 _ _ ?_
    refine wp_seq_k (fun K38 hK39 => ?_)
    refine wp_region_lit ?_
    have hq_ := bind_some h; clear h; obtain ⟨⟨vt40, vt41⟩, hc42, h⟩ := hq_
    refine seqL3 (by kernel_rfl) ?_
    refine seqK rfl (does_call (f := 14) (args := #[.pointer (some ⟨b34, 0, none⟩), .int .i64 1, .int .i64 3]) (by kernel_rfl) (spymake_Stream_Range.calls k b34 A2 c3 (⟨l1, 0⟩ : S_Stream) 1 3 HS36 (HR4.mono L23) vt40 vt41 hc42) ?_)
    rintro _ W45 ⟨f43, rfl, L44, HS46⟩
    refine ⟨_, rfl, ?_⟩
    have hq_ := bind_some h; clear h; obtain ⟨⟨vt47, vt48⟩, hc49, h⟩ := hq_
    refine seqK rfl (does_call (f := 13) (args := #[.pointer (some ⟨b34, 0, none⟩), .int .i64 vt40]) (by kernel_rfl) (spymake_Stream_Place.calls k b34 A2 c3 (⟨l1, vt41⟩ : S_Stream) vt40 HS46 (HR4.mono (L23.trans L44)) vt47 vt48 hc49) ?_)
    rintro _ W52 ⟨f50, rfl, L51, HS53⟩
    refine ⟨_, rfl, ?_⟩
    have hq_ := bind_some h; clear h; obtain ⟨⟨vt54, vt55⟩, hc56, h⟩ := hq_
    refine seqK rfl (does_call (f := 12) (args := #[.pointer (some ⟨b34, 0, none⟩), .int .i64 1, .agg #[.int .i64 vt47.X, .int .i64 vt47.Y, .int .i64 vt47.Z]]) (by kernel_rfl) (spymake_Stream_Body.calls k b34 A2 c3 (⟨l1, vt48⟩ : S_Stream) 1 vt47 HS53 (HR4.mono (L23.trans (L44.trans L51))) vt54 vt55 hc56) ?_)
    rintro _ W59 ⟨f57, rfl, L58, HS60⟩
    refine ⟨_, rfl, ?_⟩
    refine seqK rfl (does_alloc (z := Value.agg #[.int .i64 0, .int .i64 0, .int .i64 0, .int .i64 0, .int .i64 0, .int .i64 0, .int .i64 0, .int .i64 0]) (cs := #[.int .i64 0, .int .i64 0, .int .i64 0, .int .i64 0, .int .i64 0, .int .i64 0, .int .i64 0, .int .i64 0]) rfl (by kernel_rfl) rfl HS60 ?_)
    intro b61 W62 HS63
    refine seqK rfl (does_store (n := 8) (vs := [.int .i64 vt54.ID, .int .i64 vt54.Was.X, .int .i64 vt54.Was.Y, .int .i64 vt54.Was.Z, .int .i64 vt54.Here.X, .int .i64 vt54.Here.Y, .int .i64 vt54.Here.Z, .int .i64 vt54.Rate]) (cs' := #[.int .i64 vt54.ID, .int .i64 vt54.Was.X, .int .i64 vt54.Was.Y, .int .i64 vt54.Was.Z, .int .i64 vt54.Here.X, .int .i64 vt54.Here.Y, .int .i64 vt54.Here.Z, .int .i64 vt54.Rate]) rfl (by kernel_rfl) (by kernel_rfl : _ = Value.pointer (some ⟨b61, 0, none⟩)) (by kernel_rfl : _ = Value.agg #[.int .i64 vt54.ID, .int .i64 vt54.Was.X, .int .i64 vt54.Was.Y, .int .i64 vt54.Was.Z, .int .i64 vt54.Here.X, .int .i64 vt54.Here.Y, .int .i64 vt54.Here.Z, .int .i64 vt54.Rate]) rfl rfl (by intro u_ hu_; simp only [List.mem_cons, List.not_mem_nil, or_false] at hu_; rcases hu_ with rfl | rfl | rfl | rfl | rfl | rfl | rfl | rfl <;> rfl) HS63 (Nat.le_of_ble_eq_true rfl) (by kernel_rfl) ?_)
    intro W65 HS66
    refine wpList_nil ?_
    refine hK39 _ _ ?_
    refine wp_seq_k (fun K67 hK68 => ?_)
    refine wp_region_lit ?_
    refine seqK rfl (does_run (run_load rfl Try.underlying3 rfl (by kernel_rfl : _ = Value.pointer (some ⟨b8, 0, none⟩)) (HS66.u3.cell 0)) ?_)
    have hq_ := bind_some h; clear h; obtain ⟨vt69, hc70, h⟩ := hq_
    refine seqK rfl (does_call (f := 15) (args := #[.int .i64 day5, .int .i64 60]) (by kernel_rfl) (spymake_Below.calls k day5 60 HS66 vt69 hc70) ?_)
    rintro _ W73 ⟨f71, rfl, L72, HS74⟩
    refine ⟨_, rfl, ?_⟩
    have HS75 := HS74.u3
    refine seqK rfl (does_store (n := 1) (vs := [.int .i64 vt69]) (cs' := #[.int .i64 vt69]) rfl (by kernel_rfl) (by kernel_rfl : _ = Value.pointer (some ⟨b8, 0, none⟩)) (by kernel_rfl : _ = Value.int .i64 vt69) rfl rfl (by intro u_ hu_; simp only [List.mem_cons, List.not_mem_nil, or_false] at hu_; subst hu_; rfl) HS75 (Nat.le_of_ble_eq_true rfl) (by kernel_rfl) ?_)
    intro W76 HS77
    refine wpList_nil ?_
    refine hK68 _ _ ?_
    refine wp_seq_k (fun K78 hK79 => ?_)
    refine wp_seq_k (fun K80 hK81 => ?_)
    refine wp_region_lit ?_
    refine seqK rfl (does_run (run_load rfl Try.underlying3 rfl (by kernel_rfl : _ = Value.pointer (some ⟨b8, 0, none⟩)) (HS77.cell 0)) ?_)
    refine seqS2 (a' := ⟨#[.slice A2 l1.length c3, iV day5, uV, .pointer (some ⟨b8, 0, none⟩), .pointer (some ⟨b12, 0, none⟩), .pointer (some ⟨b34, 0, none⟩), .pointer (some ⟨b61, 0, none⟩), iV (w64 (0 - vt69)), uV, uV, uV, uV, uV, uV, uV, uV, uV, uV, uV, uV, uV, uV, uV, uV, uV, .bool vt20, .bool false, .slice A2 l1.length c3, .agg #[.slice A2 l1.length c3, iV 0], .pointer (some ⟨b34, 0, none⟩), .pointer (some ⟨b34, 0, none⟩), .pointer (some ⟨b34, 0, none⟩), .pointer (some ⟨b34, 0, none⟩), iV vt40, .agg #[iV vt47.X, iV vt47.Y, iV vt47.Z], .agg #[iV vt54.ID, iV vt54.Was.X, iV vt54.Was.Y, iV vt54.Was.Z, iV vt54.Here.X, iV vt54.Here.Y, iV vt54.Here.Z, iV vt54.Rate], iV day5, iV vt69, iV vt69, iV (w64 (0 - vt69)), uV, uV, uV, uV, uV, uV, uV, uV, uV, uV, uV, uV, uV, uV, uV, uV, uV, uV, uV, uV, uV, uV, uV, uV, uV, uV, uV, uV, uV, uV, uV, uV, uV, uV, uV, uV, uV, uV, uV, uV, uV, uV, uV, uV, uV, uV, uV, uV, uV, uV, uV, uV, uV, uV, uV, uV, uV, uV, uV, uV, uV, uV, uV, uV, uV, uV, uV, uV, uV, uV, uV, uV, uV, uV, uV, uV, uV, uV, uV, uV, uV, uV, uV, uV, uV, uV, uV, uV, uV, uV, uV, uV, uV, uV, uV, uV, uV, uV, uV, uV, uV, uV, uV, uV], []⟩) (by kernel_rfl) ?_
    refine wpList_nil ?_
    refine hK81 _ _ ?_
    refine blockK (fun B82 hx83 hn84 hr85 ho86 hp87 => ?_)
    have hq_ := bind_some h; clear h; obtain ⟨o88, hv238, h⟩ := hq_
    have JR240 : ∀ z_, some (Sum.inl z_) = some o88 → some z_ = some r1 := by
      intro z_ e_; injection e_ with e_; subst e_; exact h
    have J239 : ∀ (f233 : FM) (j237 : Nat → Value) (W235 : World) (a_ : Act), FM.le f71 f233 → some (Sum.inr ()) = some o88 → St t W235 f233 ([(b8, .cells #[.int .i64 vt69] 3 (0, 0))] :: [(b61, .cells #[.int .i64 vt54.ID, .int .i64 vt54.Was.X, .int .i64 vt54.Was.Y, .int .i64 vt54.Was.Z, .int .i64 vt54.Here.X, .int .i64 vt54.Here.Y, .int .i64 vt54.Here.Z, .int .i64 vt54.Rate] 36 (0, 0))] :: [(b34, .cells #[.slice A2 l1.length c3, .int .i64 vt55] 33 (0, 0))] :: [(b12, .cells #[.bool false] 4 (0, 0))] :: H) → a_ = ⟨#[.slice A2 l1.length c3, iV day5, uV, .pointer (some ⟨b8, 0, none⟩), .pointer (some ⟨b12, 0, none⟩), .pointer (some ⟨b34, 0, none⟩), .pointer (some ⟨b61, 0, none⟩), (j237 0), (j237 1), (j237 2), (j237 3), (j237 4), (j237 5), (j237 6), (j237 7), (j237 8), uV, uV, uV, uV, uV, uV, uV, uV, uV, .bool vt20, .bool false, .slice A2 l1.length c3, .agg #[.slice A2 l1.length c3, iV 0], .pointer (some ⟨b34, 0, none⟩), .pointer (some ⟨b34, 0, none⟩), .pointer (some ⟨b34, 0, none⟩), .pointer (some ⟨b34, 0, none⟩), iV vt40, .agg #[iV vt47.X, iV vt47.Y, iV vt47.Z], .agg #[iV vt54.ID, iV vt54.Was.X, iV vt54.Was.Y, iV vt54.Was.Z, iV vt54.Here.X, iV vt54.Here.Y, iV vt54.Here.Z, iV vt54.Rate], iV day5, iV vt69, iV vt69, iV (w64 (0 - vt69)), (j237 9), (j237 10), (j237 11), (j237 12), (j237 13), (j237 14), (j237 15), (j237 16), (j237 17), (j237 18), (j237 19), (j237 20), (j237 21), (j237 22), (j237 23), (j237 24), (j237 25), (j237 26), (j237 27), (j237 28), (j237 29), (j237 30), (j237 31), (j237 32), (j237 33), (j237 34), (j237 35), (j237 36), (j237 37), (j237 38), (j237 39), (j237 40), (j237 41), (j237 42), (j237 43), (j237 44), (j237 45), (j237 46), (j237 47), (j237 48), (j237 49), (j237 50), (j237 51), (j237 52), (j237 53), (j237 54), (j237 55), (j237 56), (j237 57), (j237 58), (j237 59), (j237 60), (j237 61), (j237 62), (j237 63), (j237 64), (j237 65), (j237 66), uV, uV, uV, uV, uV, uV, uV, uV, uV, uV, uV, uV, uV, uV, uV, uV, uV, uV, uV, uV, uV, uV, uV, uV, uV, uV, uV, uV, uV, uV, uV, uV, uV, uV, uV, uV, uV, uV, uV, uV, uV, uV, uV, uV, uV, uV], []⟩ → K78 a_ W235 := by
      intro f233 j237 W235 a_ L234 hj241 HS236  hfr_; subst hfr_
      injection hj241 with hj241; subst hj241; try dsimp only at h
      simp only [Sum.elim_inr] at h
      refine hK79 _ _ ?_
      refine wp_seq_k (fun K292 hK293 => ?_)
      refine wp_region_lit ?_
      refine seqK rfl (does_alloc (z := Value.int .i64 0) (cs := #[.int .i64 0]) rfl (by kernel_rfl) rfl HS236 ?_)
      intro b294 W295 HS296
      refine seqK rfl (does_store (n := 1) (vs := [.int .i64 0]) (cs' := #[.int .i64 0]) rfl (by kernel_rfl) (by kernel_rfl : _ = Value.pointer (some ⟨b294, 0, none⟩)) (by kernel_rfl : _ = Value.int .i64 0) rfl rfl (by intro u_ hu_; simp only [List.mem_cons, List.not_mem_nil, or_false] at hu_; subst hu_; rfl) HS296 (Nat.le_of_ble_eq_true rfl) (by kernel_rfl) ?_)
      intro W298 HS299
      refine wpList_nil ?_
      refine hK293 _ _ ?_
      refine wp_seq_k (fun K300 hK301 => ?_)
      refine wp_seq_k (fun K302 hK303 => ?_)
      refine wp_region_lit ?_
      refine seqK rfl (does_run (run_loadN (n := 8) rfl Try.underlying36 rfl (by kernel_rfl) (by kernel_rfl : _ = Value.pointer (some ⟨b61, 0, none⟩)) (cs := [.int .i64 vt54.ID, .int .i64 vt54.Was.X, .int .i64 vt54.Was.Y, .int .i64 vt54.Was.Z, .int .i64 vt54.Here.X, .int .i64 vt54.Here.Y, .int .i64 vt54.Here.Z, .int .i64 vt54.Rate]) rfl (HS299.u2.cells 0 8 _ rfl)) ?_)
      have hq_ := bind_some h; clear h; obtain ⟨vt304, hc305, h⟩ := hq_
      refine seqK rfl (does_call (f := 17) (args := #[.agg #[.int .i64 vt54.ID, .int .i64 vt54.Was.X, .int .i64 vt54.Was.Y, .int .i64 vt54.Was.Z, .int .i64 vt54.Here.X, .int .i64 vt54.Here.Y, .int .i64 vt54.Here.Z, .int .i64 vt54.Rate]]) (by kernel_rfl) (sky_Days.calls k vt54 HS299 vt304 hc305) ?_)
      rintro _ W308 ⟨f306, b310, rfl, L307, HS309, HF311⟩
      refine ⟨_, rfl, ?_⟩
      refine wpList_nil ?_
      refine hK303 _ _ ?_
      refine blockK (fun B312 hx313 hn314 hr315 ho316 hp317 => ?_)
      have hq_ := bind_some h; clear h; obtain ⟨xs318, hc319, h⟩ := hq_
      have hit320 := sky_Days_1.iter k b310 vt304 (f := f306) HF311 xs318 hc319
      have hq_ := bind_some h; clear h; obtain ⟨o409, hv498, h⟩ := hq_
      have J505 : ∀ (D : Nat) (f499 : FM) (x504 : Int) (W501 : World) (a_ : Act), FM.le f306 f499 → some (Sum.inr x504) = some o409 → St t W501 f499 ([(b294, .cells #[.int .i64 x504] 3 (0, 0))] :: [(b8, .cells #[.int .i64 vt69] 3 (0, 0))] :: [(b61, .cells #[.int .i64 vt54.ID, .int .i64 vt54.Was.X, .int .i64 vt54.Was.Y, .int .i64 vt54.Was.Z, .int .i64 vt54.Here.X, .int .i64 vt54.Here.Y, .int .i64 vt54.Here.Z, .int .i64 vt54.Rate] 36 (0, 0))] :: [(b34, .cells #[.slice A2 l1.length c3, .int .i64 vt55] 33 (0, 0))] :: [(b12, .cells #[.bool false] 4 (0, 0))] :: [(D, .deferred (some []))] :: H) → a_ = ⟨#[.slice A2 l1.length c3, iV day5, uV, .pointer (some ⟨b8, 0, none⟩), .pointer (some ⟨b12, 0, none⟩), .pointer (some ⟨b34, 0, none⟩), .pointer (some ⟨b61, 0, none⟩), (j237 0), (j237 1), (j237 2), (j237 3), (j237 4), (j237 5), (j237 6), (j237 7), (j237 8), .pointer (some ⟨b294, 0, none⟩), uV, uV, uV, uV, uV, uV, uV, uV, .bool vt20, .bool false, .slice A2 l1.length c3, .agg #[.slice A2 l1.length c3, iV 0], .pointer (some ⟨b34, 0, none⟩), .pointer (some ⟨b34, 0, none⟩), .pointer (some ⟨b34, 0, none⟩), .pointer (some ⟨b34, 0, none⟩), iV vt40, .agg #[iV vt47.X, iV vt47.Y, iV vt47.Z], .agg #[iV vt54.ID, iV vt54.Was.X, iV vt54.Was.Y, iV vt54.Was.Z, iV vt54.Here.X, iV vt54.Here.Y, iV vt54.Here.Z, iV vt54.Rate], iV day5, iV vt69, iV vt69, iV (w64 (0 - vt69)), (j237 9), (j237 10), (j237 11), (j237 12), (j237 13), (j237 14), (j237 15), (j237 16), (j237 17), (j237 18), (j237 19), (j237 20), (j237 21), (j237 22), (j237 23), (j237 24), (j237 25), (j237 26), (j237 27), (j237 28), (j237 29), (j237 30), (j237 31), (j237 32), (j237 33), (j237 34), (j237 35), (j237 36), (j237 37), (j237 38), (j237 39), (j237 40), (j237 41), (j237 42), (j237 43), (j237 44), (j237 45), (j237 46), (j237 47), (j237 48), (j237 49), (j237 50), (j237 51), (j237 52), (j237 53), (j237 54), (j237 55), (j237 56), (j237 57), (j237 58), (j237 59), (j237 60), (j237 61), (j237 62), (j237 63), (j237 64), (j237 65), (j237 66), .agg #[iV vt54.ID, iV vt54.Was.X, iV vt54.Was.Y, iV vt54.Was.Z, iV vt54.Here.X, iV vt54.Here.Y, iV vt54.Here.Z, iV vt54.Rate], .func (.func 34) #[] #[.pointer (some ⟨b310, 0, none⟩)], uV, uV, uV, uV, uV, uV, uV, uV, uV, uV, uV, uV, uV, uV, uV, uV, uV, uV, uV, uV, uV, uV, uV, uV, uV, uV, uV, uV, uV, uV, uV, uV, uV, uV, uV, uV, uV, uV, uV, uV, uV, uV, uV, uV], [mark D]⟩ → K300 a_ W501 := by
        intro D f499 x504 W501 a_ L500 hj507 HS502  hfr_; subst hfr_
        injection hj507 with hj507; subst hj507; try dsimp only at h
        simp only [Sum.elim_inr] at h
        refine hK301 _ _ ?_
        refine wp_seq_k (fun K556 hK557 => ?_)
        refine wp_region_lit ?_
        refine seqK rfl (does_run (run_loadN (n := 8) rfl Try.underlying36 rfl (by kernel_rfl) (by kernel_rfl : _ = Value.pointer (some ⟨b61, 0, none⟩)) (cs := [.int .i64 vt54.ID, .int .i64 vt54.Was.X, .int .i64 vt54.Was.Y, .int .i64 vt54.Was.Z, .int .i64 vt54.Here.X, .int .i64 vt54.Here.Y, .int .i64 vt54.Here.Z, .int .i64 vt54.Rate]) rfl (HS502.u2.cells 0 8 _ rfl)) ?_)
        have hq_ := bind_some h; clear h; obtain ⟨⟨vt558, vt559, vt560⟩, hc561, h⟩ := hq_
        refine seqK rfl (does_call (f := 16) (args := #[.agg #[.int .i64 vt54.ID, .int .i64 vt54.Was.X, .int .i64 vt54.Was.Y, .int .i64 vt54.Was.Z, .int .i64 vt54.Here.X, .int .i64 vt54.Here.Y, .int .i64 vt54.Here.Z, .int .i64 vt54.Rate], .int .i64 0]) (by kernel_rfl) (sky_Path.calls k vt54 0 HS502 vt558 vt559 vt560 hc561) ?_)
        rintro _ W564 ⟨f562, rfl, L563, HS565⟩
        refine ⟨_, rfl, ?_⟩
        refine seqL4 (by kernel_rfl) ?_
        refine seqK rfl (does_alloc (z := Value.agg #[.int .i64 0, .int .i64 0, .int .i64 0]) (cs := #[.int .i64 0, .int .i64 0, .int .i64 0]) rfl (by kernel_rfl) rfl HS565 ?_)
        intro b566 W567 HS568
        refine seqK rfl (does_alloc (z := Value.agg #[.int .i64 0, .int .i64 0, .int .i64 0]) (cs := #[.int .i64 0, .int .i64 0, .int .i64 0]) rfl (by kernel_rfl) rfl HS568 ?_)
        intro b570 W571 HS572
        have HS574 := HS572.u1
        refine seqK rfl (does_store (n := 3) (vs := [.int .i64 vt558.X, .int .i64 vt558.Y, .int .i64 vt558.Z]) (cs' := #[.int .i64 vt558.X, .int .i64 vt558.Y, .int .i64 vt558.Z]) rfl (by kernel_rfl) (by kernel_rfl : _ = Value.pointer (some ⟨b566, 0, none⟩)) (by kernel_rfl : _ = Value.agg #[.int .i64 vt558.X, .int .i64 vt558.Y, .int .i64 vt558.Z]) rfl rfl (by intro u_ hu_; simp only [List.mem_cons, List.not_mem_nil, or_false] at hu_; rcases hu_ with rfl | rfl | rfl <;> rfl) HS574 (Nat.le_of_ble_eq_true rfl) (by kernel_rfl) ?_)
        intro W575 HS576
        have HS577 := HS576.u1
        refine seqK rfl (does_store (n := 3) (vs := [.int .i64 vt559.X, .int .i64 vt559.Y, .int .i64 vt559.Z]) (cs' := #[.int .i64 vt559.X, .int .i64 vt559.Y, .int .i64 vt559.Z]) rfl (by kernel_rfl) (by kernel_rfl : _ = Value.pointer (some ⟨b570, 0, none⟩)) (by kernel_rfl : _ = Value.agg #[.int .i64 vt559.X, .int .i64 vt559.Y, .int .i64 vt559.Z]) rfl rfl (by intro u_ hu_; simp only [List.mem_cons, List.not_mem_nil, or_false] at hu_; rcases hu_ with rfl | rfl | rfl <;> rfl) HS577 (Nat.le_of_ble_eq_true rfl) (by kernel_rfl) ?_)
        intro W578 HS579
        refine seqS1 (a' := ⟨#[.slice A2 l1.length c3, iV day5, uV, .pointer (some ⟨b8, 0, none⟩), .pointer (some ⟨b12, 0, none⟩), .pointer (some ⟨b34, 0, none⟩), .pointer (some ⟨b61, 0, none⟩), (j237 0), (j237 1), (j237 2), (j237 3), (j237 4), (j237 5), (j237 6), (j237 7), (j237 8), .pointer (some ⟨b294, 0, none⟩), uV, uV, uV, uV, uV, .pointer (some ⟨b566, 0, none⟩), .pointer (some ⟨b570, 0, none⟩), iV vt560, .bool vt20, .bool false, .slice A2 l1.length c3, .agg #[.slice A2 l1.length c3, iV 0], .pointer (some ⟨b34, 0, none⟩), .pointer (some ⟨b34, 0, none⟩), .pointer (some ⟨b34, 0, none⟩), .pointer (some ⟨b34, 0, none⟩), iV vt40, .agg #[iV vt47.X, iV vt47.Y, iV vt47.Z], .agg #[iV vt54.ID, iV vt54.Was.X, iV vt54.Was.Y, iV vt54.Was.Z, iV vt54.Here.X, iV vt54.Here.Y, iV vt54.Here.Z, iV vt54.Rate], iV day5, iV vt69, iV vt69, iV (w64 (0 - vt69)), (j237 9), (j237 10), (j237 11), (j237 12), (j237 13), (j237 14), (j237 15), (j237 16), (j237 17), (j237 18), (j237 19), (j237 20), (j237 21), (j237 22), (j237 23), (j237 24), (j237 25), (j237 26), (j237 27), (j237 28), (j237 29), (j237 30), (j237 31), (j237 32), (j237 33), (j237 34), (j237 35), (j237 36), (j237 37), (j237 38), (j237 39), (j237 40), (j237 41), (j237 42), (j237 43), (j237 44), (j237 45), (j237 46), (j237 47), (j237 48), (j237 49), (j237 50), (j237 51), (j237 52), (j237 53), (j237 54), (j237 55), (j237 56), (j237 57), (j237 58), (j237 59), (j237 60), (j237 61), (j237 62), (j237 63), (j237 64), (j237 65), (j237 66), .agg #[iV vt54.ID, iV vt54.Was.X, iV vt54.Was.Y, iV vt54.Was.Z, iV vt54.Here.X, iV vt54.Here.Y, iV vt54.Here.Z, iV vt54.Rate], .func (.func 34) #[] #[.pointer (some ⟨b310, 0, none⟩)], uV, uV, uV, uV, uV, uV, uV, uV, uV, uV, uV, uV, uV, uV, uV, uV, uV, uV, uV, uV, uV, uV, uV, uV, uV, uV, .tuple #[.agg #[iV vt558.X, iV vt558.Y, iV vt558.Z], .agg #[iV vt559.X, iV vt559.Y, iV vt559.Z], iV vt560], .agg #[iV vt54.ID, iV vt54.Was.X, iV vt54.Was.Y, iV vt54.Was.Z, iV vt54.Here.X, iV vt54.Here.Y, iV vt54.Here.Z, iV vt54.Rate], .tuple #[.agg #[iV vt558.X, iV vt558.Y, iV vt558.Z], .agg #[iV vt559.X, iV vt559.Y, iV vt559.Z], iV vt560], .agg #[iV vt558.X, iV vt558.Y, iV vt558.Z], .agg #[iV vt559.X, iV vt559.Y, iV vt559.Z], iV vt560, uV, uV, uV, uV, uV, uV, uV, uV, uV, uV, uV, uV], [mark D]⟩) (by kernel_rfl) ?_
        refine wpList_nil ?_
        refine hK557 _ _ ?_
        refine wp_seq_k (fun K580 hK581 => ?_)
        refine wp_region_lit ?_
        refine seqK rfl (does_run (run_load rfl Try.underlying3 rfl (by kernel_rfl : _ = Value.pointer (some ⟨b294, 0, none⟩)) (HS579.u2.cell 0)) ?_)
        refine seqS2 (a' := ⟨#[.slice A2 l1.length c3, iV day5, uV, .pointer (some ⟨b8, 0, none⟩), .pointer (some ⟨b12, 0, none⟩), .pointer (some ⟨b34, 0, none⟩), .pointer (some ⟨b61, 0, none⟩), (j237 0), (j237 1), (j237 2), (j237 3), (j237 4), (j237 5), (j237 6), (j237 7), (j237 8), .pointer (some ⟨b294, 0, none⟩), uV, uV, uV, uV, uV, .pointer (some ⟨b566, 0, none⟩), .pointer (some ⟨b570, 0, none⟩), iV vt560, .bool vt20, .bool false, .slice A2 l1.length c3, .agg #[.slice A2 l1.length c3, iV 0], .pointer (some ⟨b34, 0, none⟩), .pointer (some ⟨b34, 0, none⟩), .pointer (some ⟨b34, 0, none⟩), .pointer (some ⟨b34, 0, none⟩), iV vt40, .agg #[iV vt47.X, iV vt47.Y, iV vt47.Z], .agg #[iV vt54.ID, iV vt54.Was.X, iV vt54.Was.Y, iV vt54.Was.Z, iV vt54.Here.X, iV vt54.Here.Y, iV vt54.Here.Z, iV vt54.Rate], iV day5, iV vt69, iV vt69, iV (w64 (0 - vt69)), (j237 9), (j237 10), (j237 11), (j237 12), (j237 13), (j237 14), (j237 15), (j237 16), (j237 17), (j237 18), (j237 19), (j237 20), (j237 21), (j237 22), (j237 23), (j237 24), (j237 25), (j237 26), (j237 27), (j237 28), (j237 29), (j237 30), (j237 31), (j237 32), (j237 33), (j237 34), (j237 35), (j237 36), (j237 37), (j237 38), (j237 39), (j237 40), (j237 41), (j237 42), (j237 43), (j237 44), (j237 45), (j237 46), (j237 47), (j237 48), (j237 49), (j237 50), (j237 51), (j237 52), (j237 53), (j237 54), (j237 55), (j237 56), (j237 57), (j237 58), (j237 59), (j237 60), (j237 61), (j237 62), (j237 63), (j237 64), (j237 65), (j237 66), .agg #[iV vt54.ID, iV vt54.Was.X, iV vt54.Was.Y, iV vt54.Was.Z, iV vt54.Here.X, iV vt54.Here.Y, iV vt54.Here.Z, iV vt54.Rate], .func (.func 34) #[] #[.pointer (some ⟨b310, 0, none⟩)], uV, uV, uV, uV, uV, uV, uV, uV, uV, uV, uV, uV, uV, uV, uV, uV, uV, uV, uV, uV, uV, uV, uV, uV, uV, uV, .tuple #[.agg #[iV vt558.X, iV vt558.Y, iV vt558.Z], .agg #[iV vt559.X, iV vt559.Y, iV vt559.Z], iV vt560], .agg #[iV vt54.ID, iV vt54.Was.X, iV vt54.Was.Y, iV vt54.Was.Z, iV vt54.Here.X, iV vt54.Here.Y, iV vt54.Here.Z, iV vt54.Rate], .tuple #[.agg #[iV vt558.X, iV vt558.Y, iV vt558.Z], .agg #[iV vt559.X, iV vt559.Y, iV vt559.Z], iV vt560], .agg #[iV vt558.X, iV vt558.Y, iV vt558.Z], .agg #[iV vt559.X, iV vt559.Y, iV vt559.Z], iV vt560, iV x504, .bool (decide (x504 > 0)), .bool (decide (x504 > 0)), uV, uV, uV, uV, uV, uV, uV, uV, uV], [mark D]⟩) (by kernel_rfl) ?_
        have hq_ := ite_some h; clear h; rcases hq_ with ⟨c582, h⟩ | ⟨c582, h⟩
        · have c582 : x504 > 0 := c582
          refine seqRwI 133 (x := (decide (x504 > 0))) (v := true) (by kernel_rfl) (decide_eq_true c582) ?_
          refine seqRwI 134 (x := (decide (x504 > 0))) (v := true) (by kernel_rfl) (decide_eq_true c582) ?_
          refine seqS4 (a' := ⟨#[.slice A2 l1.length c3, iV day5, uV, .pointer (some ⟨b8, 0, none⟩), .pointer (some ⟨b12, 0, none⟩), .pointer (some ⟨b34, 0, none⟩), .pointer (some ⟨b61, 0, none⟩), (j237 0), (j237 1), (j237 2), (j237 3), (j237 4), (j237 5), (j237 6), (j237 7), (j237 8), .pointer (some ⟨b294, 0, none⟩), uV, uV, uV, uV, uV, .pointer (some ⟨b566, 0, none⟩), .pointer (some ⟨b570, 0, none⟩), iV vt560, .bool vt20, .bool false, .slice A2 l1.length c3, .agg #[.slice A2 l1.length c3, iV 0], .pointer (some ⟨b34, 0, none⟩), .pointer (some ⟨b34, 0, none⟩), .pointer (some ⟨b34, 0, none⟩), .pointer (some ⟨b34, 0, none⟩), iV vt40, .agg #[iV vt47.X, iV vt47.Y, iV vt47.Z], .agg #[iV vt54.ID, iV vt54.Was.X, iV vt54.Was.Y, iV vt54.Was.Z, iV vt54.Here.X, iV vt54.Here.Y, iV vt54.Here.Z, iV vt54.Rate], iV day5, iV vt69, iV vt69, iV (w64 (0 - vt69)), (j237 9), (j237 10), (j237 11), (j237 12), (j237 13), (j237 14), (j237 15), (j237 16), (j237 17), (j237 18), (j237 19), (j237 20), (j237 21), (j237 22), (j237 23), (j237 24), (j237 25), (j237 26), (j237 27), (j237 28), (j237 29), (j237 30), (j237 31), (j237 32), (j237 33), (j237 34), (j237 35), (j237 36), (j237 37), (j237 38), (j237 39), (j237 40), (j237 41), (j237 42), (j237 43), (j237 44), (j237 45), (j237 46), (j237 47), (j237 48), (j237 49), (j237 50), (j237 51), (j237 52), (j237 53), (j237 54), (j237 55), (j237 56), (j237 57), (j237 58), (j237 59), (j237 60), (j237 61), (j237 62), (j237 63), (j237 64), (j237 65), (j237 66), .agg #[iV vt54.ID, iV vt54.Was.X, iV vt54.Was.Y, iV vt54.Was.Z, iV vt54.Here.X, iV vt54.Here.Y, iV vt54.Here.Z, iV vt54.Rate], .func (.func 34) #[] #[.pointer (some ⟨b310, 0, none⟩)], uV, uV, uV, uV, uV, uV, uV, uV, uV, uV, uV, uV, uV, uV, uV, uV, uV, uV, uV, uV, uV, uV, uV, uV, uV, uV, .tuple #[.agg #[iV vt558.X, iV vt558.Y, iV vt558.Z], .agg #[iV vt559.X, iV vt559.Y, iV vt559.Z], iV vt560], .agg #[iV vt54.ID, iV vt54.Was.X, iV vt54.Was.Y, iV vt54.Was.Z, iV vt54.Here.X, iV vt54.Here.Y, iV vt54.Here.Z, iV vt54.Rate], .tuple #[.agg #[iV vt558.X, iV vt558.Y, iV vt558.Z], .agg #[iV vt559.X, iV vt559.Y, iV vt559.Z], iV vt560], .agg #[iV vt558.X, iV vt558.Y, iV vt558.Z], .agg #[iV vt559.X, iV vt559.Y, iV vt559.Z], iV vt560, iV x504, .bool true, .bool true, iV vt560, .bool (vt560 == 0), .bool (vt560 == 0), .bool (vt560 == 0), uV, uV, uV, uV, uV], [mark D]⟩) (by kernel_rfl) ?_
          have hq_ := ite_some h; clear h; rcases hq_ with ⟨c583, h⟩ | ⟨c583, h⟩
          · have c583 : vt560 = 0 := c583
            refine seqRwI 136 (x := (vt560 == 0)) (v := true) (by kernel_rfl) (beq_iff_eq.mpr c583) ?_
            refine seqRwI 137 (x := (vt560 == 0)) (v := true) (by kernel_rfl) (beq_iff_eq.mpr c583) ?_
            refine seqRwI 138 (x := (vt560 == 0)) (v := true) (by kernel_rfl) (beq_iff_eq.mpr c583) ?_
            refine seqG (by kernel_rfl) (does_run (run_loadN (n := 3) rfl Try.underlying23 rfl (by kernel_rfl) (by kernel_rfl : _ = Value.pointer (some ⟨b570, 0, none⟩)) (cs := [.int .i64 vt559.X, .int .i64 vt559.Y, .int .i64 vt559.Z]) rfl (HS579.cells 0 3 _ rfl)) ?_)
            refine seqL1 (by kernel_rfl) ?_
            refine seqG (by kernel_rfl) (does_run (run_loadN (n := 3) rfl Try.underlying23 rfl (by kernel_rfl) (by kernel_rfl : _ = Value.pointer (some ⟨b61, 4, none⟩)) (cs := [.int .i64 vt54.Here.X, .int .i64 vt54.Here.Y, .int .i64 vt54.Here.Z]) rfl (HS579.u4.cells 4 3 _ rfl)) ?_)
            refine seqG (by kernel_rfl) (does_run (run_eqS (b := ((vt559.X == vt54.Here.X) && ((vt559.Y == vt54.Here.Y) && ((vt559.Z == vt54.Here.Z) && true)))) rfl (by kernel_rfl : _ = Value.agg #[.int .i64 vt559.X, .int .i64 vt559.Y, .int .i64 vt559.Z]) (by kernel_rfl : _ = Value.agg #[.int .i64 vt54.Here.X, .int .i64 vt54.Here.Y, .int .i64 vt54.Here.Z]) (by kernel_rfl) (by kernel_rfl) W578) ?_)
            have HS584 := HS579.u6
            refine seqL1 (by kernel_rfl) ?_
            refine seqK rfl (does_store (n := 1) (vs := [.bool ((vt559.X == vt54.Here.X) && ((vt559.Y == vt54.Here.Y) && ((vt559.Z == vt54.Here.Z) && true)))]) (cs' := #[.bool ((vt559.X == vt54.Here.X) && ((vt559.Y == vt54.Here.Y) && ((vt559.Z == vt54.Here.Z) && true)))]) rfl (by kernel_rfl) (by kernel_rfl : _ = Value.pointer (some ⟨b12, 0, none⟩)) (by kernel_rfl : _ = Value.bool ((vt559.X == vt54.Here.X) && ((vt559.Y == vt54.Here.Y) && ((vt559.Z == vt54.Here.Z) && true)))) rfl rfl (by intro u_ hu_; simp only [List.mem_cons, List.not_mem_nil, or_false] at hu_; subst hu_; rfl) HS584 (Nat.le_of_ble_eq_true rfl) (by kernel_rfl) ?_)
            intro W585 HS586
            refine wpList_nil ?_
            refine hK581 _ _ ?_
            refine wp_ret ?_
            refine hret _ _ ?_
            have HS658 := HS586.u7
            refine marked HS658 (by kernel_rfl) ?_
            intro W659 HS660
            refine endsM (v := Value.bool ((vt559.X == vt54.Here.X) && ((vt559.Y == vt54.Here.Y) && ((vt559.Z == vt54.Here.Z) && true)))) (results1 (q1 := .cell 4 4) (by kernel_rfl) (resC (by kernel_rfl : _ = Value.pointer (some ⟨b12, 0, none⟩)) Try.underlying4 rfl (HS660.cell 0))) (by kernel_rfl) ?_
            have HS661 := HS660.drop
            have HS662 := HS661.drop
            have HS663 := HS662.drop
            have HS664 := HS663.drop
            have HS665 := HS664.drop
            have HS666 := HS665.drop
            have HS667 := HS666.drop
            injection h with h
            subst h
            exact ⟨f562, rfl, (L23.trans (L44.trans (L51.trans (L58.trans (L72.trans (L234.trans (L307.trans (L500.trans L563)))))))), HS667⟩
          · have c583 : ¬ (vt560 = 0) := c583
            refine seqRwI 136 (x := (vt560 == 0)) (v := false) (by kernel_rfl) (beq_eq_false_iff_ne.mpr c583) ?_
            refine seqRwI 137 (x := (vt560 == 0)) (v := false) (by kernel_rfl) (beq_eq_false_iff_ne.mpr c583) ?_
            refine seqRwI 138 (x := (vt560 == 0)) (v := false) (by kernel_rfl) (beq_eq_false_iff_ne.mpr c583) ?_
            have HS587 := HS579.u6
            refine seqL5 (by kernel_rfl) ?_
            refine seqK rfl (does_store (n := 1) (vs := [.bool false]) (cs' := #[.bool false]) rfl (by kernel_rfl) (by kernel_rfl : _ = Value.pointer (some ⟨b12, 0, none⟩)) (by kernel_rfl : _ = Value.bool false) rfl rfl (by intro u_ hu_; simp only [List.mem_cons, List.not_mem_nil, or_false] at hu_; subst hu_; rfl) HS587 (Nat.le_of_ble_eq_true rfl) (by kernel_rfl) ?_)
            intro W588 HS589
            refine wpList_nil ?_
            refine hK581 _ _ ?_
            refine wp_ret ?_
            refine hret _ _ ?_
            have HS668 := HS589.u7
            refine marked HS668 (by kernel_rfl) ?_
            intro W669 HS670
            refine endsM (v := Value.bool false) (results1 (q1 := .cell 4 4) (by kernel_rfl) (resC (by kernel_rfl : _ = Value.pointer (some ⟨b12, 0, none⟩)) Try.underlying4 rfl (HS670.cell 0))) (by kernel_rfl) ?_
            have HS671 := HS670.drop
            have HS672 := HS671.drop
            have HS673 := HS672.drop
            have HS674 := HS673.drop
            have HS675 := HS674.drop
            have HS676 := HS675.drop
            have HS677 := HS676.drop
            injection h with h
            subst h
            exact ⟨f562, rfl, (L23.trans (L44.trans (L51.trans (L58.trans (L72.trans (L234.trans (L307.trans (L500.trans L563)))))))), HS677⟩
        · have c582 : ¬ (x504 > 0) := c582
          refine seqRwI 133 (x := (decide (x504 > 0))) (v := false) (by kernel_rfl) (decide_eq_false c582) ?_
          refine seqRwI 134 (x := (decide (x504 > 0))) (v := false) (by kernel_rfl) (decide_eq_false c582) ?_
          have HS590 := HS579.u6
          refine seqL9 (by kernel_rfl) ?_
          refine seqK rfl (does_store (n := 1) (vs := [.bool false]) (cs' := #[.bool false]) rfl (by kernel_rfl) (by kernel_rfl : _ = Value.pointer (some ⟨b12, 0, none⟩)) (by kernel_rfl : _ = Value.bool false) rfl rfl (by intro u_ hu_; simp only [List.mem_cons, List.not_mem_nil, or_false] at hu_; subst hu_; rfl) HS590 (Nat.le_of_ble_eq_true rfl) (by kernel_rfl) ?_)
          intro W591 HS592
          refine wpList_nil ?_
          refine hK581 _ _ ?_
          refine wp_ret ?_
          refine hret _ _ ?_
          have HS678 := HS592.u7
          refine marked HS678 (by kernel_rfl) ?_
          intro W679 HS680
          refine endsM (v := Value.bool false) (results1 (q1 := .cell 4 4) (by kernel_rfl) (resC (by kernel_rfl : _ = Value.pointer (some ⟨b12, 0, none⟩)) Try.underlying4 rfl (HS680.cell 0))) (by kernel_rfl) ?_
          have HS681 := HS680.drop
          have HS682 := HS681.drop
          have HS683 := HS682.drop
          have HS684 := HS683.drop
          have HS685 := HS684.drop
          have HS686 := HS685.drop
          have HS687 := HS686.drop
          injection h with h
          subst h
          exact ⟨f562, rfl, (L23.trans (L44.trans (L51.trans (L58.trans (L72.trans (L234.trans (L307.trans (L500.trans L563)))))))), HS687⟩
      have J506 : ∀ (D : Nat) (f519 : FM) (x524 : Int) (W521 : World) (a_ : Act), FM.le f306 f519 → some (Sum.inl x524) = some o409 → St t W521 f519 ([(b294, .cells #[.int .i64 x524] 3 (0, 0))] :: [(b8, .cells #[.int .i64 vt69] 3 (0, 0))] :: [(b61, .cells #[.int .i64 vt54.ID, .int .i64 vt54.Was.X, .int .i64 vt54.Was.Y, .int .i64 vt54.Was.Z, .int .i64 vt54.Here.X, .int .i64 vt54.Here.Y, .int .i64 vt54.Here.Z, .int .i64 vt54.Rate] 36 (0, 0))] :: [(b34, .cells #[.slice A2 l1.length c3, .int .i64 vt55] 33 (0, 0))] :: [(b12, .cells #[.bool false] 4 (0, 0))] :: [(D, .deferred (some []))] :: H) → a_ = ⟨#[.slice A2 l1.length c3, iV day5, uV, .pointer (some ⟨b8, 0, none⟩), .pointer (some ⟨b12, 0, none⟩), .pointer (some ⟨b34, 0, none⟩), .pointer (some ⟨b61, 0, none⟩), (j237 0), (j237 1), (j237 2), (j237 3), (j237 4), (j237 5), (j237 6), (j237 7), (j237 8), .pointer (some ⟨b294, 0, none⟩), uV, uV, uV, uV, uV, uV, uV, uV, .bool vt20, .bool false, .slice A2 l1.length c3, .agg #[.slice A2 l1.length c3, iV 0], .pointer (some ⟨b34, 0, none⟩), .pointer (some ⟨b34, 0, none⟩), .pointer (some ⟨b34, 0, none⟩), .pointer (some ⟨b34, 0, none⟩), iV vt40, .agg #[iV vt47.X, iV vt47.Y, iV vt47.Z], .agg #[iV vt54.ID, iV vt54.Was.X, iV vt54.Was.Y, iV vt54.Was.Z, iV vt54.Here.X, iV vt54.Here.Y, iV vt54.Here.Z, iV vt54.Rate], iV day5, iV vt69, iV vt69, iV (w64 (0 - vt69)), (j237 9), (j237 10), (j237 11), (j237 12), (j237 13), (j237 14), (j237 15), (j237 16), (j237 17), (j237 18), (j237 19), (j237 20), (j237 21), (j237 22), (j237 23), (j237 24), (j237 25), (j237 26), (j237 27), (j237 28), (j237 29), (j237 30), (j237 31), (j237 32), (j237 33), (j237 34), (j237 35), (j237 36), (j237 37), (j237 38), (j237 39), (j237 40), (j237 41), (j237 42), (j237 43), (j237 44), (j237 45), (j237 46), (j237 47), (j237 48), (j237 49), (j237 50), (j237 51), (j237 52), (j237 53), (j237 54), (j237 55), (j237 56), (j237 57), (j237 58), (j237 59), (j237 60), (j237 61), (j237 62), (j237 63), (j237 64), (j237 65), (j237 66), .agg #[iV vt54.ID, iV vt54.Was.X, iV vt54.Was.Y, iV vt54.Was.Z, iV vt54.Here.X, iV vt54.Here.Y, iV vt54.Here.Z, iV vt54.Rate], .func (.func 34) #[] #[.pointer (some ⟨b310, 0, none⟩)], uV, uV, uV, uV, uV, uV, uV, uV, uV, uV, uV, uV, uV, uV, uV, uV, uV, uV, uV, uV, uV, uV, uV, uV, uV, uV, uV, uV, uV, uV, uV, uV, uV, uV, uV, uV, uV, uV, uV, uV, uV, uV, uV, uV], [mark D]⟩ → B312 Exit.ret a_ W521 := by
        intro D f519 x524 W521 a_ L520 hj507 HS522  hfr_; subst hfr_
        injection hj507 with hj507; subst hj507; try dsimp only at h
        simp only [Sum.elim_inl] at h
        refine hr315 _ _ ?_
        refine hret _ _ ?_
        have HS688 := HS522.u5
        refine marked HS688 (by kernel_rfl) ?_
        intro W689 HS690
        refine endsM (v := Value.bool false) (results1 (q1 := .cell 4 4) (by kernel_rfl) (resC (by kernel_rfl : _ = Value.pointer (some ⟨b12, 0, none⟩)) Try.underlying4 rfl (HS690.u4.cell 0))) (by kernel_rfl) ?_
        have HS691 := HS690.drop
        have HS692 := HS691.drop
        have HS693 := HS692.drop
        have HS694 := HS693.drop
        have HS695 := HS694.drop
        injection h with h
        subst h
        exact ⟨f519, rfl, (L23.trans (L44.trans (L51.trans (L58.trans (L72.trans (L234.trans (L307.trans L520))))))), HS695⟩
      clear h; have h := hv498; clear hv498
      refine rangeK (gf := 34) (lb := #[Value.pointer (some ⟨b310, 0, none⟩)]) (Hs0 := [[(b294, .cells #[.int .i64 0] 3 (0, 0))], [(b8, .cells #[.int .i64 vt69] 3 (0, 0))], [(b61, .cells #[.int .i64 vt54.ID, .int .i64 vt54.Was.X, .int .i64 vt54.Was.Y, .int .i64 vt54.Was.Z, .int .i64 vt54.Here.X, .int .i64 vt54.Here.Y, .int .i64 vt54.Here.Z, .int .i64 vt54.Rate] 36 (0, 0))], [(b34, .cells #[.slice A2 l1.length c3, .int .i64 vt55] 33 (0, 0))], [(b12, .cells #[.bool false] 4 (0, 0))]]) (by kernel_rfl) (fun a_ w_ => still_run (still_call Try.func34 rfl rfl a_) w_) hit320 (by rintro _ _ _ rfl; rfl) (FM.le.refl _) (fun pre_ f410 Hs_ => ∃ (x415 : Int) (rest_ : List _), Hs_ = [[(b294, .cells #[.int .i64 x415] 3 (0, 0))], [(b8, .cells #[.int .i64 vt69] 3 (0, 0))], [(b61, .cells #[.int .i64 vt54.ID, .int .i64 vt54.Was.X, .int .i64 vt54.Was.Y, .int .i64 vt54.Was.Z, .int .i64 vt54.Here.X, .int .i64 vt54.Here.Y, .int .i64 vt54.Here.Z, .int .i64 vt54.Rate] 36 (0, 0))], [(b34, .cells #[.slice A2 l1.length c3, .int .i64 vt55] 33 (0, 0))], [(b12, .cells #[.bool false] 4 (0, 0))]] ∧ FM.le f306 f410 ∧ xs318 = pre_ ++ rest_ ∧ spykeep3_SkyPathsJoin.g1 k vt54 vt69 rest_ x415 = some o409) (fun c_ pre_ g_ Hs_ => (c_ = Code.exit 2 ∧ ∃ (x504 : Int), Hs_ = [[(b294, .cells #[.int .i64 x504] 3 (0, 0))], [(b8, .cells #[.int .i64 vt69] 3 (0, 0))], [(b61, .cells #[.int .i64 vt54.ID, .int .i64 vt54.Was.X, .int .i64 vt54.Was.Y, .int .i64 vt54.Was.Z, .int .i64 vt54.Here.X, .int .i64 vt54.Here.Y, .int .i64 vt54.Here.Z, .int .i64 vt54.Rate] 36 (0, 0))], [(b34, .cells #[.slice A2 l1.length c3, .int .i64 vt55] 33 (0, 0))], [(b12, .cells #[.bool false] 4 (0, 0))]] ∧ FM.le f306 g_ ∧ some (Sum.inr x504) = some o409) ∨ (c_ = Code.ret ∧ ∃ (x524 : Int), Hs_ = [[(b294, .cells #[.int .i64 x524] 3 (0, 0))], [(b8, .cells #[.int .i64 vt69] 3 (0, 0))], [(b61, .cells #[.int .i64 vt54.ID, .int .i64 vt54.Was.X, .int .i64 vt54.Was.Y, .int .i64 vt54.Was.Z, .int .i64 vt54.Here.X, .int .i64 vt54.Here.Y, .int .i64 vt54.Here.Z, .int .i64 vt54.Rate] 36 (0, 0))], [(b34, .cells #[.slice A2 l1.length c3, .int .i64 vt55] 33 (0, 0))], [(b12, .cells #[.bool false] 4 (0, 0))]] ∧ FM.le f306 g_ ∧ some (Sum.inl x524) = some o409)) HS309 ⟨0, xs318, rfl, (FM.le.refl _), rfl, h⟩ (by rintro pre_ g_ g2_ Hs_ ⟨x415, rest_, rfl, hl_, hx_, h_⟩ hgg_; exact ⟨x415, rest_, rfl, hl_.trans hgg_, hx_, h_⟩) ?_ ?_ ?_ ?_
      · rintro c_ pre_ g_ g2_ Hs_ (⟨hc_, x504, rfl, hl_, h_⟩ | ⟨hc_, x524, rfl, hl_, h_⟩) hgg_
        · exact .inl ⟨hc_, x504, rfl, hl_.trans hgg_, h_⟩
        · exact .inr ⟨hc_, x524, rfl, hl_.trans hgg_, h_⟩
      · clear h
        intro l_ H pre_ x_ rest_ vs_ W412 f410 Hs_ hx_ hv_ hk_ HS413 A_ hA423 hnA424
        obtain ⟨x415, rest2_, rfl, L411, hx2_, h⟩ := hk_
        have HS413 : St t W412 f410 ([(b294, .cells #[.int .i64 x415] 3 (0, 0))] :: [(b8, .cells #[.int .i64 vt69] 3 (0, 0))] :: [(b61, .cells #[.int .i64 vt54.ID, .int .i64 vt54.Was.X, .int .i64 vt54.Was.Y, .int .i64 vt54.Was.Z, .int .i64 vt54.Here.X, .int .i64 vt54.Here.Y, .int .i64 vt54.Here.Z, .int .i64 vt54.Rate] 36 (0, 0))] :: [(b34, .cells #[.slice A2 l1.length c3, .int .i64 vt55] 33 (0, 0))] :: [(b12, .cells #[.bool false] 4 (0, 0))] :: H) := HS413
        obtain rfl : rest2_ = x_ :: rest_ := List.append_cancel_left (hx2_.symm.trans hx_)
        obtain ⟨x416, x417⟩ := x_
        have hv_ : vs_ = #[Value.int .i64 x416, Value.agg #[.int .i64 x417.X, .int .i64 x417.Y, .int .i64 x417.Z]] := hv_; subst hv_
        simp only [spykeep3_SkyPathsJoin.g1] at h
        refine RwpRwA (a' := ⟨#[.slice A2 l1.length c3, iV day5, uV, .pointer (some ⟨b8, 0, none⟩), .pointer (some ⟨b12, 0, none⟩), .pointer (some ⟨b34, 0, none⟩), .pointer (some ⟨b61, 0, none⟩), (j237 0), (j237 1), (j237 2), (j237 3), (j237 4), (j237 5), (j237 6), (j237 7), (j237 8), .pointer (some ⟨b294, 0, none⟩), uV, uV, uV, uV, uV, uV, uV, uV, .bool vt20, .bool false, .slice A2 l1.length c3, .agg #[.slice A2 l1.length c3, iV 0], .pointer (some ⟨b34, 0, none⟩), .pointer (some ⟨b34, 0, none⟩), .pointer (some ⟨b34, 0, none⟩), .pointer (some ⟨b34, 0, none⟩), iV vt40, .agg #[iV vt47.X, iV vt47.Y, iV vt47.Z], .agg #[iV vt54.ID, iV vt54.Was.X, iV vt54.Was.Y, iV vt54.Was.Z, iV vt54.Here.X, iV vt54.Here.Y, iV vt54.Here.Z, iV vt54.Rate], iV day5, iV vt69, iV vt69, iV (w64 (0 - vt69)), (j237 9), (j237 10), (j237 11), (j237 12), (j237 13), (j237 14), (j237 15), (j237 16), (j237 17), (j237 18), (j237 19), (j237 20), (j237 21), (j237 22), (j237 23), (j237 24), (j237 25), (j237 26), (j237 27), (j237 28), (j237 29), (j237 30), (j237 31), (j237 32), (j237 33), (j237 34), (j237 35), (j237 36), (j237 37), (j237 38), (j237 39), (j237 40), (j237 41), (j237 42), (j237 43), (j237 44), (j237 45), (j237 46), (j237 47), (j237 48), (j237 49), (j237 50), (j237 51), (j237 52), (j237 53), (j237 54), (j237 55), (j237 56), (j237 57), (j237 58), (j237 59), (j237 60), (j237 61), (j237 62), (j237 63), (j237 64), (j237 65), (j237 66), .agg #[iV vt54.ID, iV vt54.Was.X, iV vt54.Was.Y, iV vt54.Was.Z, iV vt54.Here.X, iV vt54.Here.Y, iV vt54.Here.Z, iV vt54.Rate], .func (.func 34) #[] #[.pointer (some ⟨b310, 0, none⟩)], iV x416, .agg #[iV x417.X, iV x417.Y, iV x417.Z], uV, uV, uV, uV, uV, uV, uV, uV, uV, uV, uV, uV, uV, uV, uV, uV, uV, uV, uV, uV, uV, uV, uV, uV, uV, uV, uV, uV, uV, uV, uV, uV, uV, uV, uV, uV, uV, uV, uV, uV, uV, uV], []⟩) (by kernel_rfl) ?_
        refine Rwp_seq_k (fun K427 hK428 => ?_)
        refine Rwp_region_lit (by kernel_rfl) ?_
        refine seqS1 (a' := ⟨#[.slice A2 l1.length c3, iV day5, uV, .pointer (some ⟨b8, 0, none⟩), .pointer (some ⟨b12, 0, none⟩), .pointer (some ⟨b34, 0, none⟩), .pointer (some ⟨b61, 0, none⟩), (j237 0), (j237 1), (j237 2), (j237 3), (j237 4), (j237 5), (j237 6), (j237 7), (j237 8), .pointer (some ⟨b294, 0, none⟩), iV x416, uV, uV, uV, uV, uV, uV, uV, .bool vt20, .bool false, .slice A2 l1.length c3, .agg #[.slice A2 l1.length c3, iV 0], .pointer (some ⟨b34, 0, none⟩), .pointer (some ⟨b34, 0, none⟩), .pointer (some ⟨b34, 0, none⟩), .pointer (some ⟨b34, 0, none⟩), iV vt40, .agg #[iV vt47.X, iV vt47.Y, iV vt47.Z], .agg #[iV vt54.ID, iV vt54.Was.X, iV vt54.Was.Y, iV vt54.Was.Z, iV vt54.Here.X, iV vt54.Here.Y, iV vt54.Here.Z, iV vt54.Rate], iV day5, iV vt69, iV vt69, iV (w64 (0 - vt69)), (j237 9), (j237 10), (j237 11), (j237 12), (j237 13), (j237 14), (j237 15), (j237 16), (j237 17), (j237 18), (j237 19), (j237 20), (j237 21), (j237 22), (j237 23), (j237 24), (j237 25), (j237 26), (j237 27), (j237 28), (j237 29), (j237 30), (j237 31), (j237 32), (j237 33), (j237 34), (j237 35), (j237 36), (j237 37), (j237 38), (j237 39), (j237 40), (j237 41), (j237 42), (j237 43), (j237 44), (j237 45), (j237 46), (j237 47), (j237 48), (j237 49), (j237 50), (j237 51), (j237 52), (j237 53), (j237 54), (j237 55), (j237 56), (j237 57), (j237 58), (j237 59), (j237 60), (j237 61), (j237 62), (j237 63), (j237 64), (j237 65), (j237 66), .agg #[iV vt54.ID, iV vt54.Was.X, iV vt54.Was.Y, iV vt54.Was.Z, iV vt54.Here.X, iV vt54.Here.Y, iV vt54.Here.Z, iV vt54.Rate], .func (.func 34) #[] #[.pointer (some ⟨b310, 0, none⟩)], iV x416, .agg #[iV x417.X, iV x417.Y, iV x417.Z], uV, uV, uV, uV, uV, uV, uV, uV, uV, uV, uV, uV, uV, uV, uV, uV, uV, uV, uV, uV, uV, uV, uV, uV, uV, uV, uV, uV, uV, uV, uV, uV, uV, uV, uV, uV, uV, uV, uV, uV, uV, uV], []⟩) (by kernel_rfl) ?_
        refine RwpList_nil ?_
        refine hK428 _ _ ?_
        refine Rwp_region_lit (by kernel_rfl) ?_
        refine seqK rfl (does_alloc (z := Value.agg #[.int .i64 0, .int .i64 0, .int .i64 0]) (cs := #[.int .i64 0, .int .i64 0, .int .i64 0]) rfl (by kernel_rfl) rfl HS413 ?_)
        intro b429 W430 HS431
        refine seqK rfl (does_store (n := 3) (vs := [.int .i64 x417.X, .int .i64 x417.Y, .int .i64 x417.Z]) (cs' := #[.int .i64 x417.X, .int .i64 x417.Y, .int .i64 x417.Z]) rfl (by kernel_rfl) (by kernel_rfl : _ = Value.pointer (some ⟨b429, 0, none⟩)) (by kernel_rfl : _ = Value.agg #[.int .i64 x417.X, .int .i64 x417.Y, .int .i64 x417.Z]) rfl rfl (by intro u_ hu_; simp only [List.mem_cons, List.not_mem_nil, or_false] at hu_; rcases hu_ with rfl | rfl | rfl <;> rfl) HS431 (Nat.le_of_ble_eq_true rfl) (by kernel_rfl) ?_)
        intro W433 HS434
        refine RwpList_nil ?_
        refine hA423 _ _ _ [[(b429, .cells #[.int .i64 x417.X, .int .i64 x417.Y, .int .i64 x417.Z] 23 (0, 0))], [(b294, .cells #[.int .i64 x415] 3 (0, 0))], [(b8, .cells #[.int .i64 vt69] 3 (0, 0))], [(b61, .cells #[.int .i64 vt54.ID, .int .i64 vt54.Was.X, .int .i64 vt54.Was.Y, .int .i64 vt54.Was.Z, .int .i64 vt54.Here.X, .int .i64 vt54.Here.Y, .int .i64 vt54.Here.Z, .int .i64 vt54.Rate] 36 (0, 0))], [(b34, .cells #[.slice A2 l1.length c3, .int .i64 vt55] 33 (0, 0))], [(b12, .cells #[.bool false] 4 (0, 0))]] (FM.le.refl _) HS434 ?_
        intro H W425 HS426 B418 hag419 hrt420 hbk421 hnp422
        have HS426 : St t W425 f410 ([(b429, .cells #[.int .i64 x417.X, .int .i64 x417.Y, .int .i64 x417.Z] 23 (0, 0))] :: [(b294, .cells #[.int .i64 x415] 3 (0, 0))] :: [(b8, .cells #[.int .i64 vt69] 3 (0, 0))] :: [(b61, .cells #[.int .i64 vt54.ID, .int .i64 vt54.Was.X, .int .i64 vt54.Was.Y, .int .i64 vt54.Was.Z, .int .i64 vt54.Here.X, .int .i64 vt54.Here.Y, .int .i64 vt54.Here.Z, .int .i64 vt54.Rate] 36 (0, 0))] :: [(b34, .cells #[.slice A2 l1.length c3, .int .i64 vt55] 33 (0, 0))] :: [(b12, .cells #[.bool false] 4 (0, 0))] :: H) := HS426
        refine RblockK (fun B435 hx436 hn437 hr438 ho439 hp440 => ?_)
        refine Rwp_seq_k (fun K442 hK443 => ?_)
        refine Rwp_region_lit (by kernel_rfl) ?_
        refine seqK rfl (does_run (run_loadN (n := 8) rfl Try.underlying36 rfl (by kernel_rfl) (by kernel_rfl : _ = Value.pointer (some ⟨b61, 0, none⟩)) (cs := [.int .i64 vt54.ID, .int .i64 vt54.Was.X, .int .i64 vt54.Was.Y, .int .i64 vt54.Was.Z, .int .i64 vt54.Here.X, .int .i64 vt54.Here.Y, .int .i64 vt54.Here.Z, .int .i64 vt54.Rate]) rfl (HS426.u3.cells 0 8 _ rfl)) ?_)
        have hq_ := bind_some h; clear h; obtain ⟨⟨vt444, vt445, vt446⟩, hc447, h⟩ := hq_
        refine seqL1 (by kernel_rfl) ?_
        refine seqK rfl (does_call (f := 16) (args := #[.agg #[.int .i64 vt54.ID, .int .i64 vt54.Was.X, .int .i64 vt54.Was.Y, .int .i64 vt54.Was.Z, .int .i64 vt54.Here.X, .int .i64 vt54.Here.Y, .int .i64 vt54.Here.Z, .int .i64 vt54.Rate], .int .i64 x416]) (by kernel_rfl) (sky_Path.calls k vt54 x416 HS426 vt444 vt445 vt446 hc447) ?_)
        rintro _ W450 ⟨f448, rfl, L449, HS451⟩
        refine ⟨_, rfl, ?_⟩
        refine seqL4 (by kernel_rfl) ?_
        refine seqK rfl (does_alloc (z := Value.agg #[.int .i64 0, .int .i64 0, .int .i64 0]) (cs := #[.int .i64 0, .int .i64 0, .int .i64 0]) rfl (by kernel_rfl) rfl HS451 ?_)
        intro b452 W453 HS454
        refine seqK rfl (does_alloc (z := Value.agg #[.int .i64 0, .int .i64 0, .int .i64 0]) (cs := #[.int .i64 0, .int .i64 0, .int .i64 0]) rfl (by kernel_rfl) rfl HS454 ?_)
        intro b456 W457 HS458
        have HS460 := HS458.u1
        refine seqK rfl (does_store (n := 3) (vs := [.int .i64 vt444.X, .int .i64 vt444.Y, .int .i64 vt444.Z]) (cs' := #[.int .i64 vt444.X, .int .i64 vt444.Y, .int .i64 vt444.Z]) rfl (by kernel_rfl) (by kernel_rfl : _ = Value.pointer (some ⟨b452, 0, none⟩)) (by kernel_rfl : _ = Value.agg #[.int .i64 vt444.X, .int .i64 vt444.Y, .int .i64 vt444.Z]) rfl rfl (by intro u_ hu_; simp only [List.mem_cons, List.not_mem_nil, or_false] at hu_; rcases hu_ with rfl | rfl | rfl <;> rfl) HS460 (Nat.le_of_ble_eq_true rfl) (by kernel_rfl) ?_)
        intro W461 HS462
        have HS463 := HS462.u1
        refine seqK rfl (does_store (n := 3) (vs := [.int .i64 vt445.X, .int .i64 vt445.Y, .int .i64 vt445.Z]) (cs' := #[.int .i64 vt445.X, .int .i64 vt445.Y, .int .i64 vt445.Z]) rfl (by kernel_rfl) (by kernel_rfl : _ = Value.pointer (some ⟨b456, 0, none⟩)) (by kernel_rfl : _ = Value.agg #[.int .i64 vt445.X, .int .i64 vt445.Y, .int .i64 vt445.Z]) rfl rfl (by intro u_ hu_; simp only [List.mem_cons, List.not_mem_nil, or_false] at hu_; rcases hu_ with rfl | rfl | rfl <;> rfl) HS463 (Nat.le_of_ble_eq_true rfl) (by kernel_rfl) ?_)
        intro W464 HS465
        refine seqS1 (a' := ⟨#[.slice A2 l1.length c3, iV day5, uV, .pointer (some ⟨b8, 0, none⟩), .pointer (some ⟨b12, 0, none⟩), .pointer (some ⟨b34, 0, none⟩), .pointer (some ⟨b61, 0, none⟩), (j237 0), (j237 1), (j237 2), (j237 3), (j237 4), (j237 5), (j237 6), (j237 7), (j237 8), .pointer (some ⟨b294, 0, none⟩), iV x416, .pointer (some ⟨b429, 0, none⟩), .pointer (some ⟨b452, 0, none⟩), .pointer (some ⟨b456, 0, none⟩), iV vt446, uV, uV, uV, .bool vt20, .bool false, .slice A2 l1.length c3, .agg #[.slice A2 l1.length c3, iV 0], .pointer (some ⟨b34, 0, none⟩), .pointer (some ⟨b34, 0, none⟩), .pointer (some ⟨b34, 0, none⟩), .pointer (some ⟨b34, 0, none⟩), iV vt40, .agg #[iV vt47.X, iV vt47.Y, iV vt47.Z], .agg #[iV vt54.ID, iV vt54.Was.X, iV vt54.Was.Y, iV vt54.Was.Z, iV vt54.Here.X, iV vt54.Here.Y, iV vt54.Here.Z, iV vt54.Rate], iV day5, iV vt69, iV vt69, iV (w64 (0 - vt69)), (j237 9), (j237 10), (j237 11), (j237 12), (j237 13), (j237 14), (j237 15), (j237 16), (j237 17), (j237 18), (j237 19), (j237 20), (j237 21), (j237 22), (j237 23), (j237 24), (j237 25), (j237 26), (j237 27), (j237 28), (j237 29), (j237 30), (j237 31), (j237 32), (j237 33), (j237 34), (j237 35), (j237 36), (j237 37), (j237 38), (j237 39), (j237 40), (j237 41), (j237 42), (j237 43), (j237 44), (j237 45), (j237 46), (j237 47), (j237 48), (j237 49), (j237 50), (j237 51), (j237 52), (j237 53), (j237 54), (j237 55), (j237 56), (j237 57), (j237 58), (j237 59), (j237 60), (j237 61), (j237 62), (j237 63), (j237 64), (j237 65), (j237 66), .agg #[iV vt54.ID, iV vt54.Was.X, iV vt54.Was.Y, iV vt54.Was.Z, iV vt54.Here.X, iV vt54.Here.Y, iV vt54.Here.Z, iV vt54.Rate], .func (.func 34) #[] #[.pointer (some ⟨b310, 0, none⟩)], iV x416, .agg #[iV x417.X, iV x417.Y, iV x417.Z], .tuple #[.agg #[iV vt444.X, iV vt444.Y, iV vt444.Z], .agg #[iV vt445.X, iV vt445.Y, iV vt445.Z], iV vt446], .agg #[iV vt54.ID, iV vt54.Was.X, iV vt54.Was.Y, iV vt54.Was.Z, iV vt54.Here.X, iV vt54.Here.Y, iV vt54.Here.Z, iV vt54.Rate], iV x416, .tuple #[.agg #[iV vt444.X, iV vt444.Y, iV vt444.Z], .agg #[iV vt445.X, iV vt445.Y, iV vt445.Z], iV vt446], .agg #[iV vt444.X, iV vt444.Y, iV vt444.Z], .agg #[iV vt445.X, iV vt445.Y, iV vt445.Z], iV vt446, uV, uV, uV, uV, uV, uV, uV, uV, uV, uV, uV, uV, uV, uV, uV, uV, uV, uV, uV, uV, uV, uV, uV, uV, uV, uV, uV, uV, uV, uV, uV, uV, uV, uV, uV], []⟩) (by kernel_rfl) ?_
        refine RwpList_nil ?_
        refine hK443 _ _ ?_
        refine Rwp_seq_k (fun K466 hK467 => ?_)
        refine Rwp_seq_k (fun K468 hK469 => ?_)
        refine Rwp_region_lit (by kernel_rfl) ?_
        refine seqS3 (a' := ⟨#[.slice A2 l1.length c3, iV day5, uV, .pointer (some ⟨b8, 0, none⟩), .pointer (some ⟨b12, 0, none⟩), .pointer (some ⟨b34, 0, none⟩), .pointer (some ⟨b61, 0, none⟩), (j237 0), (j237 1), (j237 2), (j237 3), (j237 4), (j237 5), (j237 6), (j237 7), (j237 8), .pointer (some ⟨b294, 0, none⟩), iV x416, .pointer (some ⟨b429, 0, none⟩), .pointer (some ⟨b452, 0, none⟩), .pointer (some ⟨b456, 0, none⟩), iV vt446, uV, uV, uV, .bool vt20, .bool false, .slice A2 l1.length c3, .agg #[.slice A2 l1.length c3, iV 0], .pointer (some ⟨b34, 0, none⟩), .pointer (some ⟨b34, 0, none⟩), .pointer (some ⟨b34, 0, none⟩), .pointer (some ⟨b34, 0, none⟩), iV vt40, .agg #[iV vt47.X, iV vt47.Y, iV vt47.Z], .agg #[iV vt54.ID, iV vt54.Was.X, iV vt54.Was.Y, iV vt54.Was.Z, iV vt54.Here.X, iV vt54.Here.Y, iV vt54.Here.Z, iV vt54.Rate], iV day5, iV vt69, iV vt69, iV (w64 (0 - vt69)), (j237 9), (j237 10), (j237 11), (j237 12), (j237 13), (j237 14), (j237 15), (j237 16), (j237 17), (j237 18), (j237 19), (j237 20), (j237 21), (j237 22), (j237 23), (j237 24), (j237 25), (j237 26), (j237 27), (j237 28), (j237 29), (j237 30), (j237 31), (j237 32), (j237 33), (j237 34), (j237 35), (j237 36), (j237 37), (j237 38), (j237 39), (j237 40), (j237 41), (j237 42), (j237 43), (j237 44), (j237 45), (j237 46), (j237 47), (j237 48), (j237 49), (j237 50), (j237 51), (j237 52), (j237 53), (j237 54), (j237 55), (j237 56), (j237 57), (j237 58), (j237 59), (j237 60), (j237 61), (j237 62), (j237 63), (j237 64), (j237 65), (j237 66), .agg #[iV vt54.ID, iV vt54.Was.X, iV vt54.Was.Y, iV vt54.Was.Z, iV vt54.Here.X, iV vt54.Here.Y, iV vt54.Here.Z, iV vt54.Rate], .func (.func 34) #[] #[.pointer (some ⟨b310, 0, none⟩)], iV x416, .agg #[iV x417.X, iV x417.Y, iV x417.Z], .tuple #[.agg #[iV vt444.X, iV vt444.Y, iV vt444.Z], .agg #[iV vt445.X, iV vt445.Y, iV vt445.Z], iV vt446], .agg #[iV vt54.ID, iV vt54.Was.X, iV vt54.Was.Y, iV vt54.Was.Z, iV vt54.Here.X, iV vt54.Here.Y, iV vt54.Here.Z, iV vt54.Rate], iV x416, .tuple #[.agg #[iV vt444.X, iV vt444.Y, iV vt444.Z], .agg #[iV vt445.X, iV vt445.Y, iV vt445.Z], iV vt446], .agg #[iV vt444.X, iV vt444.Y, iV vt444.Z], .agg #[iV vt445.X, iV vt445.Y, iV vt445.Z], iV vt446, iV vt446, .bool (vt446 != 0), .bool (vt446 != 0), uV, uV, uV, uV, uV, uV, uV, uV, uV, uV, uV, uV, uV, uV, uV, uV, uV, uV, uV, uV, uV, uV, uV, uV, uV, uV, uV, uV, uV, uV, uV, uV], []⟩) (by kernel_rfl) ?_
        have hq_ := ite_some h; clear h; rcases hq_ with ⟨c470, h⟩ | ⟨c470, h⟩
        · have c470 : vt446 ≠ 0 := c470
          refine seqRwI 110 (x := (vt446 != 0)) (v := true) (by kernel_rfl) (bne_iff_ne.mpr c470) ?_
          refine seqRwI 111 (x := (vt446 != 0)) (v := true) (by kernel_rfl) (bne_iff_ne.mpr c470) ?_
          refine seqS9 (a' := ⟨#[.slice A2 l1.length c3, iV day5, uV, .pointer (some ⟨b8, 0, none⟩), .pointer (some ⟨b12, 0, none⟩), .pointer (some ⟨b34, 0, none⟩), .pointer (some ⟨b61, 0, none⟩), (j237 0), (j237 1), (j237 2), (j237 3), (j237 4), (j237 5), (j237 6), (j237 7), (j237 8), .pointer (some ⟨b294, 0, none⟩), iV x416, .pointer (some ⟨b429, 0, none⟩), .pointer (some ⟨b452, 0, none⟩), .pointer (some ⟨b456, 0, none⟩), iV vt446, uV, uV, uV, .bool vt20, .bool false, .slice A2 l1.length c3, .agg #[.slice A2 l1.length c3, iV 0], .pointer (some ⟨b34, 0, none⟩), .pointer (some ⟨b34, 0, none⟩), .pointer (some ⟨b34, 0, none⟩), .pointer (some ⟨b34, 0, none⟩), iV vt40, .agg #[iV vt47.X, iV vt47.Y, iV vt47.Z], .agg #[iV vt54.ID, iV vt54.Was.X, iV vt54.Was.Y, iV vt54.Was.Z, iV vt54.Here.X, iV vt54.Here.Y, iV vt54.Here.Z, iV vt54.Rate], iV day5, iV vt69, iV vt69, iV (w64 (0 - vt69)), (j237 9), (j237 10), (j237 11), (j237 12), (j237 13), (j237 14), (j237 15), (j237 16), (j237 17), (j237 18), (j237 19), (j237 20), (j237 21), (j237 22), (j237 23), (j237 24), (j237 25), (j237 26), (j237 27), (j237 28), (j237 29), (j237 30), (j237 31), (j237 32), (j237 33), (j237 34), (j237 35), (j237 36), (j237 37), (j237 38), (j237 39), (j237 40), (j237 41), (j237 42), (j237 43), (j237 44), (j237 45), (j237 46), (j237 47), (j237 48), (j237 49), (j237 50), (j237 51), (j237 52), (j237 53), (j237 54), (j237 55), (j237 56), (j237 57), (j237 58), (j237 59), (j237 60), (j237 61), (j237 62), (j237 63), (j237 64), (j237 65), (j237 66), .agg #[iV vt54.ID, iV vt54.Was.X, iV vt54.Was.Y, iV vt54.Was.Z, iV vt54.Here.X, iV vt54.Here.Y, iV vt54.Here.Z, iV vt54.Rate], .func (.func 34) #[] #[.pointer (some ⟨b310, 0, none⟩)], iV x416, .agg #[iV x417.X, iV x417.Y, iV x417.Z], .tuple #[.agg #[iV vt444.X, iV vt444.Y, iV vt444.Z], .agg #[iV vt445.X, iV vt445.Y, iV vt445.Z], iV vt446], .agg #[iV vt54.ID, iV vt54.Was.X, iV vt54.Was.Y, iV vt54.Was.Z, iV vt54.Here.X, iV vt54.Here.Y, iV vt54.Here.Z, iV vt54.Rate], iV x416, .tuple #[.agg #[iV vt444.X, iV vt444.Y, iV vt444.Z], .agg #[iV vt445.X, iV vt445.Y, iV vt445.Z], iV vt446], .agg #[iV vt444.X, iV vt444.Y, iV vt444.Z], .agg #[iV vt445.X, iV vt445.Y, iV vt445.Z], iV vt446, iV vt446, .bool true, .bool true, uV, uV, uV, .bool true, .bool true, uV, uV, uV, .bool true, uV, uV, uV, uV, uV, uV, uV, uV, uV, uV, uV, uV, uV, uV, uV, uV, uV, uV, uV, uV, uV, uV, uV], []⟩) (by kernel_rfl) ?_
          refine RwpList_nil ?_
          refine hK469 _ _ ?_
          refine RcondT (by kernel_rfl) ?_
          refine Rwp_seq_k (fun K471 hK472 => ?_)
          refine Rwp_region_lit (by kernel_rfl) ?_
          have HS473 := HS465.u7
          refine seqK rfl (does_store (n := 1) (vs := [.bool false]) (cs' := #[.bool false]) rfl (by kernel_rfl) (by kernel_rfl : _ = Value.pointer (some ⟨b12, 0, none⟩)) (by kernel_rfl : _ = Value.bool false) rfl rfl (by intro u_ hu_; simp only [List.mem_cons, List.not_mem_nil, or_false] at hu_; subst hu_; rfl) HS473 (Nat.le_of_ble_eq_true rfl) (by kernel_rfl) ?_)
          intro W474 HS475
          refine RwpList_nil ?_
          refine hK472 _ _ ?_
          refine Rwp_ret ?_
          refine hr438 _ _ ?_
          have HS525 := HS475.u7
          have HS526 := HS525.u7
          have HS527 := HS526.u7
          have HS528 := HS527.u7
          have HS529 := HS528.u7
          have HS530 := HS529.u7
          have HS531 := HS530.u7
          have HS532 := HS531.drop
          have HS533 := HS532.drop
          have HS534 := HS533.drop
          exact hrt420 _ _ f448 [[(b294, .cells #[.int .i64 x415] 3 (0, 0))], [(b8, .cells #[.int .i64 vt69] 3 (0, 0))], [(b61, .cells #[.int .i64 vt54.ID, .int .i64 vt54.Was.X, .int .i64 vt54.Was.Y, .int .i64 vt54.Was.Z, .int .i64 vt54.Here.X, .int .i64 vt54.Here.Y, .int .i64 vt54.Here.Z, .int .i64 vt54.Rate] 36 (0, 0))], [(b34, .cells #[.slice A2 l1.length c3, .int .i64 vt55] 33 (0, 0))], [(b12, .cells #[.bool false] 4 (0, 0))]] L449 (.inr ⟨rfl, x415, rfl, (L411.trans L449), h⟩) HS534
        · have c470 : ¬ (vt446 ≠ 0) := c470
          refine seqRwI 110 (x := (vt446 != 0)) (v := false) (by kernel_rfl) (bne_eq_false_iff_eq.mpr (Decidable.of_not_not c470)) ?_
          refine seqRwI 111 (x := (vt446 != 0)) (v := false) (by kernel_rfl) (bne_eq_false_iff_eq.mpr (Decidable.of_not_not c470)) ?_
          refine seqL1 (by kernel_rfl) ?_
          refine seqG (by kernel_rfl) (does_run (run_load rfl Try.underlying3 rfl (by kernel_rfl : _ = Value.pointer (some ⟨b294, 0, none⟩)) (HS465.u3.cell 0)) ?_)
          refine seqS3 (a' := ⟨#[.slice A2 l1.length c3, iV day5, uV, .pointer (some ⟨b8, 0, none⟩), .pointer (some ⟨b12, 0, none⟩), .pointer (some ⟨b34, 0, none⟩), .pointer (some ⟨b61, 0, none⟩), (j237 0), (j237 1), (j237 2), (j237 3), (j237 4), (j237 5), (j237 6), (j237 7), (j237 8), .pointer (some ⟨b294, 0, none⟩), iV x416, .pointer (some ⟨b429, 0, none⟩), .pointer (some ⟨b452, 0, none⟩), .pointer (some ⟨b456, 0, none⟩), iV vt446, uV, uV, uV, .bool vt20, .bool false, .slice A2 l1.length c3, .agg #[.slice A2 l1.length c3, iV 0], .pointer (some ⟨b34, 0, none⟩), .pointer (some ⟨b34, 0, none⟩), .pointer (some ⟨b34, 0, none⟩), .pointer (some ⟨b34, 0, none⟩), iV vt40, .agg #[iV vt47.X, iV vt47.Y, iV vt47.Z], .agg #[iV vt54.ID, iV vt54.Was.X, iV vt54.Was.Y, iV vt54.Was.Z, iV vt54.Here.X, iV vt54.Here.Y, iV vt54.Here.Z, iV vt54.Rate], iV day5, iV vt69, iV vt69, iV (w64 (0 - vt69)), (j237 9), (j237 10), (j237 11), (j237 12), (j237 13), (j237 14), (j237 15), (j237 16), (j237 17), (j237 18), (j237 19), (j237 20), (j237 21), (j237 22), (j237 23), (j237 24), (j237 25), (j237 26), (j237 27), (j237 28), (j237 29), (j237 30), (j237 31), (j237 32), (j237 33), (j237 34), (j237 35), (j237 36), (j237 37), (j237 38), (j237 39), (j237 40), (j237 41), (j237 42), (j237 43), (j237 44), (j237 45), (j237 46), (j237 47), (j237 48), (j237 49), (j237 50), (j237 51), (j237 52), (j237 53), (j237 54), (j237 55), (j237 56), (j237 57), (j237 58), (j237 59), (j237 60), (j237 61), (j237 62), (j237 63), (j237 64), (j237 65), (j237 66), .agg #[iV vt54.ID, iV vt54.Was.X, iV vt54.Was.Y, iV vt54.Was.Z, iV vt54.Here.X, iV vt54.Here.Y, iV vt54.Here.Z, iV vt54.Rate], .func (.func 34) #[] #[.pointer (some ⟨b310, 0, none⟩)], iV x416, .agg #[iV x417.X, iV x417.Y, iV x417.Z], .tuple #[.agg #[iV vt444.X, iV vt444.Y, iV vt444.Z], .agg #[iV vt445.X, iV vt445.Y, iV vt445.Z], iV vt446], .agg #[iV vt54.ID, iV vt54.Was.X, iV vt54.Was.Y, iV vt54.Was.Z, iV vt54.Here.X, iV vt54.Here.Y, iV vt54.Here.Z, iV vt54.Rate], iV x416, .tuple #[.agg #[iV vt444.X, iV vt444.Y, iV vt444.Z], .agg #[iV vt445.X, iV vt445.Y, iV vt445.Z], iV vt446], .agg #[iV vt444.X, iV vt444.Y, iV vt444.Z], .agg #[iV vt445.X, iV vt445.Y, iV vt445.Z], iV vt446, iV vt446, .bool false, .bool false, iV x416, iV x415, .bool (x416 != x415), .bool (x416 != x415), .bool (x416 != x415), uV, uV, uV, uV, uV, uV, uV, uV, uV, uV, uV, uV, uV, uV, uV, uV, uV, uV, uV, uV, uV, uV, uV, uV, uV, uV, uV], []⟩) (by kernel_rfl) ?_
          have hq_ := ite_some h; clear h; rcases hq_ with ⟨c476, h⟩ | ⟨c476, h⟩
          · have c476 : x416 ≠ x415 := c476
            refine seqRwI 114 (x := (x416 != x415)) (v := true) (by kernel_rfl) (bne_iff_ne.mpr c476) ?_
            refine seqRwI 115 (x := (x416 != x415)) (v := true) (by kernel_rfl) (bne_iff_ne.mpr c476) ?_
            refine seqRwI 116 (x := (x416 != x415)) (v := true) (by kernel_rfl) (bne_iff_ne.mpr c476) ?_
            refine seqS4 (a' := ⟨#[.slice A2 l1.length c3, iV day5, uV, .pointer (some ⟨b8, 0, none⟩), .pointer (some ⟨b12, 0, none⟩), .pointer (some ⟨b34, 0, none⟩), .pointer (some ⟨b61, 0, none⟩), (j237 0), (j237 1), (j237 2), (j237 3), (j237 4), (j237 5), (j237 6), (j237 7), (j237 8), .pointer (some ⟨b294, 0, none⟩), iV x416, .pointer (some ⟨b429, 0, none⟩), .pointer (some ⟨b452, 0, none⟩), .pointer (some ⟨b456, 0, none⟩), iV vt446, uV, uV, uV, .bool vt20, .bool false, .slice A2 l1.length c3, .agg #[.slice A2 l1.length c3, iV 0], .pointer (some ⟨b34, 0, none⟩), .pointer (some ⟨b34, 0, none⟩), .pointer (some ⟨b34, 0, none⟩), .pointer (some ⟨b34, 0, none⟩), iV vt40, .agg #[iV vt47.X, iV vt47.Y, iV vt47.Z], .agg #[iV vt54.ID, iV vt54.Was.X, iV vt54.Was.Y, iV vt54.Was.Z, iV vt54.Here.X, iV vt54.Here.Y, iV vt54.Here.Z, iV vt54.Rate], iV day5, iV vt69, iV vt69, iV (w64 (0 - vt69)), (j237 9), (j237 10), (j237 11), (j237 12), (j237 13), (j237 14), (j237 15), (j237 16), (j237 17), (j237 18), (j237 19), (j237 20), (j237 21), (j237 22), (j237 23), (j237 24), (j237 25), (j237 26), (j237 27), (j237 28), (j237 29), (j237 30), (j237 31), (j237 32), (j237 33), (j237 34), (j237 35), (j237 36), (j237 37), (j237 38), (j237 39), (j237 40), (j237 41), (j237 42), (j237 43), (j237 44), (j237 45), (j237 46), (j237 47), (j237 48), (j237 49), (j237 50), (j237 51), (j237 52), (j237 53), (j237 54), (j237 55), (j237 56), (j237 57), (j237 58), (j237 59), (j237 60), (j237 61), (j237 62), (j237 63), (j237 64), (j237 65), (j237 66), .agg #[iV vt54.ID, iV vt54.Was.X, iV vt54.Was.Y, iV vt54.Was.Z, iV vt54.Here.X, iV vt54.Here.Y, iV vt54.Here.Z, iV vt54.Rate], .func (.func 34) #[] #[.pointer (some ⟨b310, 0, none⟩)], iV x416, .agg #[iV x417.X, iV x417.Y, iV x417.Z], .tuple #[.agg #[iV vt444.X, iV vt444.Y, iV vt444.Z], .agg #[iV vt445.X, iV vt445.Y, iV vt445.Z], iV vt446], .agg #[iV vt54.ID, iV vt54.Was.X, iV vt54.Was.Y, iV vt54.Was.Z, iV vt54.Here.X, iV vt54.Here.Y, iV vt54.Here.Z, iV vt54.Rate], iV x416, .tuple #[.agg #[iV vt444.X, iV vt444.Y, iV vt444.Z], .agg #[iV vt445.X, iV vt445.Y, iV vt445.Z], iV vt446], .agg #[iV vt444.X, iV vt444.Y, iV vt444.Z], .agg #[iV vt445.X, iV vt445.Y, iV vt445.Z], iV vt446, iV vt446, .bool false, .bool false, iV x416, iV x415, .bool true, .bool true, .bool true, uV, uV, uV, .bool true, uV, uV, uV, uV, uV, uV, uV, uV, uV, uV, uV, uV, uV, uV, uV, uV, uV, uV, uV, uV, uV, uV, uV], []⟩) (by kernel_rfl) ?_
            refine RwpList_nil ?_
            refine hK469 _ _ ?_
            refine RcondT (by kernel_rfl) ?_
            refine Rwp_seq_k (fun K477 hK478 => ?_)
            refine Rwp_region_lit (by kernel_rfl) ?_
            have HS479 := HS465.u7
            refine seqK rfl (does_store (n := 1) (vs := [.bool false]) (cs' := #[.bool false]) rfl (by kernel_rfl) (by kernel_rfl : _ = Value.pointer (some ⟨b12, 0, none⟩)) (by kernel_rfl : _ = Value.bool false) rfl rfl (by intro u_ hu_; simp only [List.mem_cons, List.not_mem_nil, or_false] at hu_; subst hu_; rfl) HS479 (Nat.le_of_ble_eq_true rfl) (by kernel_rfl) ?_)
            intro W480 HS481
            refine RwpList_nil ?_
            refine hK478 _ _ ?_
            refine Rwp_ret ?_
            refine hr438 _ _ ?_
            have HS535 := HS481.u7
            have HS536 := HS535.u7
            have HS537 := HS536.u7
            have HS538 := HS537.u7
            have HS539 := HS538.u7
            have HS540 := HS539.u7
            have HS541 := HS540.u7
            have HS542 := HS541.drop
            have HS543 := HS542.drop
            have HS544 := HS543.drop
            exact hrt420 _ _ f448 [[(b294, .cells #[.int .i64 x415] 3 (0, 0))], [(b8, .cells #[.int .i64 vt69] 3 (0, 0))], [(b61, .cells #[.int .i64 vt54.ID, .int .i64 vt54.Was.X, .int .i64 vt54.Was.Y, .int .i64 vt54.Was.Z, .int .i64 vt54.Here.X, .int .i64 vt54.Here.Y, .int .i64 vt54.Here.Z, .int .i64 vt54.Rate] 36 (0, 0))], [(b34, .cells #[.slice A2 l1.length c3, .int .i64 vt55] 33 (0, 0))], [(b12, .cells #[.bool false] 4 (0, 0))]] L449 (.inr ⟨rfl, x415, rfl, (L411.trans L449), h⟩) HS544
          · have c476 : ¬ (x416 ≠ x415) := c476
            refine seqRwI 114 (x := (x416 != x415)) (v := false) (by kernel_rfl) (bne_eq_false_iff_eq.mpr (Decidable.of_not_not c476)) ?_
            refine seqRwI 115 (x := (x416 != x415)) (v := false) (by kernel_rfl) (bne_eq_false_iff_eq.mpr (Decidable.of_not_not c476)) ?_
            refine seqRwI 116 (x := (x416 != x415)) (v := false) (by kernel_rfl) (bne_eq_false_iff_eq.mpr (Decidable.of_not_not c476)) ?_
            refine seqG (by kernel_rfl) (does_run (run_loadN (n := 3) rfl Try.underlying23 rfl (by kernel_rfl) (by kernel_rfl : _ = Value.pointer (some ⟨b429, 0, none⟩)) (cs := [.int .i64 x417.X, .int .i64 x417.Y, .int .i64 x417.Z]) rfl (HS465.u2.cells 0 3 _ rfl)) ?_)
            refine seqG (by kernel_rfl) (does_run (run_loadN (n := 3) rfl Try.underlying23 rfl (by kernel_rfl) (by kernel_rfl : _ = Value.pointer (some ⟨b456, 0, none⟩)) (cs := [.int .i64 vt445.X, .int .i64 vt445.Y, .int .i64 vt445.Z]) rfl (HS465.cells 0 3 _ rfl)) ?_)
            refine seqG (by kernel_rfl) (does_run (run_neS (b := ((x417.X == vt445.X) && ((x417.Y == vt445.Y) && ((x417.Z == vt445.Z) && true)))) rfl (by kernel_rfl : _ = Value.agg #[.int .i64 x417.X, .int .i64 x417.Y, .int .i64 x417.Z]) (by kernel_rfl : _ = Value.agg #[.int .i64 vt445.X, .int .i64 vt445.Y, .int .i64 vt445.Z]) (by kernel_rfl) (by kernel_rfl) W464) ?_)
            refine seqS1 (a' := ⟨#[.slice A2 l1.length c3, iV day5, uV, .pointer (some ⟨b8, 0, none⟩), .pointer (some ⟨b12, 0, none⟩), .pointer (some ⟨b34, 0, none⟩), .pointer (some ⟨b61, 0, none⟩), (j237 0), (j237 1), (j237 2), (j237 3), (j237 4), (j237 5), (j237 6), (j237 7), (j237 8), .pointer (some ⟨b294, 0, none⟩), iV x416, .pointer (some ⟨b429, 0, none⟩), .pointer (some ⟨b452, 0, none⟩), .pointer (some ⟨b456, 0, none⟩), iV vt446, uV, uV, uV, .bool vt20, .bool false, .slice A2 l1.length c3, .agg #[.slice A2 l1.length c3, iV 0], .pointer (some ⟨b34, 0, none⟩), .pointer (some ⟨b34, 0, none⟩), .pointer (some ⟨b34, 0, none⟩), .pointer (some ⟨b34, 0, none⟩), iV vt40, .agg #[iV vt47.X, iV vt47.Y, iV vt47.Z], .agg #[iV vt54.ID, iV vt54.Was.X, iV vt54.Was.Y, iV vt54.Was.Z, iV vt54.Here.X, iV vt54.Here.Y, iV vt54.Here.Z, iV vt54.Rate], iV day5, iV vt69, iV vt69, iV (w64 (0 - vt69)), (j237 9), (j237 10), (j237 11), (j237 12), (j237 13), (j237 14), (j237 15), (j237 16), (j237 17), (j237 18), (j237 19), (j237 20), (j237 21), (j237 22), (j237 23), (j237 24), (j237 25), (j237 26), (j237 27), (j237 28), (j237 29), (j237 30), (j237 31), (j237 32), (j237 33), (j237 34), (j237 35), (j237 36), (j237 37), (j237 38), (j237 39), (j237 40), (j237 41), (j237 42), (j237 43), (j237 44), (j237 45), (j237 46), (j237 47), (j237 48), (j237 49), (j237 50), (j237 51), (j237 52), (j237 53), (j237 54), (j237 55), (j237 56), (j237 57), (j237 58), (j237 59), (j237 60), (j237 61), (j237 62), (j237 63), (j237 64), (j237 65), (j237 66), .agg #[iV vt54.ID, iV vt54.Was.X, iV vt54.Was.Y, iV vt54.Was.Z, iV vt54.Here.X, iV vt54.Here.Y, iV vt54.Here.Z, iV vt54.Rate], .func (.func 34) #[] #[.pointer (some ⟨b310, 0, none⟩)], iV x416, .agg #[iV x417.X, iV x417.Y, iV x417.Z], .tuple #[.agg #[iV vt444.X, iV vt444.Y, iV vt444.Z], .agg #[iV vt445.X, iV vt445.Y, iV vt445.Z], iV vt446], .agg #[iV vt54.ID, iV vt54.Was.X, iV vt54.Was.Y, iV vt54.Was.Z, iV vt54.Here.X, iV vt54.Here.Y, iV vt54.Here.Z, iV vt54.Rate], iV x416, .tuple #[.agg #[iV vt444.X, iV vt444.Y, iV vt444.Z], .agg #[iV vt445.X, iV vt445.Y, iV vt445.Z], iV vt446], .agg #[iV vt444.X, iV vt444.Y, iV vt444.Z], .agg #[iV vt445.X, iV vt445.Y, iV vt445.Z], iV vt446, iV vt446, .bool false, .bool false, iV x416, iV x415, .bool false, .bool false, .bool false, .agg #[iV x417.X, iV x417.Y, iV x417.Z], .agg #[iV vt445.X, iV vt445.Y, iV vt445.Z], .bool (!((x417.X == vt445.X) && ((x417.Y == vt445.Y) && ((x417.Z == vt445.Z) && true)))), .bool (!((x417.X == vt445.X) && ((x417.Y == vt445.Y) && ((x417.Z == vt445.Z) && true)))), uV, uV, uV, uV, uV, uV, uV, uV, uV, uV, uV, uV, uV, uV, uV, uV, uV, uV, uV, uV, uV, uV, uV], []⟩) (by kernel_rfl) ?_
            refine RwpList_nil ?_
            refine hK469 _ _ ?_
            have hq_ := ite_some h; clear h; rcases hq_ with ⟨c483, h⟩ | ⟨c483, h⟩
            · have c483 : (!((x417.X == vt445.X) && ((x417.Y == vt445.Y) && ((x417.Z == vt445.Z) && true)))) = true := c483
              refine RwpRwI 119 (x := (!((x417.X == vt445.X) && ((x417.Y == vt445.Y) && ((x417.Z == vt445.Z) && true))))) (v := true) (by kernel_rfl) c483 ?_
              refine RwpRwI 120 (x := (!((x417.X == vt445.X) && ((x417.Y == vt445.Y) && ((x417.Z == vt445.Z) && true))))) (v := true) (by kernel_rfl) c483 ?_
              refine RcondT (by kernel_rfl) ?_
              refine Rwp_seq_k (fun K484 hK485 => ?_)
              refine Rwp_region_lit (by kernel_rfl) ?_
              have HS486 := HS465.u7
              refine seqK rfl (does_store (n := 1) (vs := [.bool false]) (cs' := #[.bool false]) rfl (by kernel_rfl) (by kernel_rfl : _ = Value.pointer (some ⟨b12, 0, none⟩)) (by kernel_rfl : _ = Value.bool false) rfl rfl (by intro u_ hu_; simp only [List.mem_cons, List.not_mem_nil, or_false] at hu_; subst hu_; rfl) HS486 (Nat.le_of_ble_eq_true rfl) (by kernel_rfl) ?_)
              intro W487 HS488
              refine RwpList_nil ?_
              refine hK485 _ _ ?_
              refine Rwp_ret ?_
              refine hr438 _ _ ?_
              have HS545 := HS488.u7
              have HS546 := HS545.u7
              have HS547 := HS546.u7
              have HS548 := HS547.u7
              have HS549 := HS548.u7
              have HS550 := HS549.u7
              have HS551 := HS550.u7
              have HS552 := HS551.drop
              have HS553 := HS552.drop
              have HS554 := HS553.drop
              exact hrt420 _ _ f448 [[(b294, .cells #[.int .i64 x415] 3 (0, 0))], [(b8, .cells #[.int .i64 vt69] 3 (0, 0))], [(b61, .cells #[.int .i64 vt54.ID, .int .i64 vt54.Was.X, .int .i64 vt54.Was.Y, .int .i64 vt54.Was.Z, .int .i64 vt54.Here.X, .int .i64 vt54.Here.Y, .int .i64 vt54.Here.Z, .int .i64 vt54.Rate] 36 (0, 0))], [(b34, .cells #[.slice A2 l1.length c3, .int .i64 vt55] 33 (0, 0))], [(b12, .cells #[.bool false] 4 (0, 0))]] L449 (.inr ⟨rfl, x415, rfl, (L411.trans L449), h⟩) HS554
            · have c483 : ¬ ((!((x417.X == vt445.X) && ((x417.Y == vt445.Y) && ((x417.Z == vt445.Z) && true)))) = true) := c483
              refine RwpRwI 119 (x := (!((x417.X == vt445.X) && ((x417.Y == vt445.Y) && ((x417.Z == vt445.Z) && true))))) (v := false) (by kernel_rfl) (Bool.eq_false_iff.mpr c483) ?_
              refine RwpRwI 120 (x := (!((x417.X == vt445.X) && ((x417.Y == vt445.Y) && ((x417.Z == vt445.Z) && true))))) (v := false) (by kernel_rfl) (Bool.eq_false_iff.mpr c483) ?_
              refine RcondF (by kernel_rfl) ?_
              refine Rwp_skip ?_
              refine hK467 _ _ ?_
              refine Rwp_seq_k (fun K489 hK490 => ?_)
              refine Rwp_region_lit (by kernel_rfl) ?_
              refine seqK rfl (does_run (run_load rfl Try.underlying3 rfl (by kernel_rfl : _ = Value.pointer (some ⟨b294, 0, none⟩)) (HS465.u3.cell 0)) ?_)
              have HS491 := HS465.u3
              refine seqL1 (by kernel_rfl) ?_
              refine seqK rfl (does_store (n := 1) (vs := [.int .i64 (w64 (x415 + 1))]) (cs' := #[.int .i64 (w64 (x415 + 1))]) rfl (by kernel_rfl) (by kernel_rfl : _ = Value.pointer (some ⟨b294, 0, none⟩)) (by kernel_rfl : _ = Value.int .i64 (w64 (x415 + 1))) rfl rfl (by intro u_ hu_; simp only [List.mem_cons, List.not_mem_nil, or_false] at hu_; subst hu_; rfl) HS491 (Nat.le_of_ble_eq_true rfl) (by kernel_rfl) ?_)
              intro W492 HS493
              refine RwpList_nil ?_
              refine hK490 _ _ ?_
              refine Rwp_seq_k (fun K494 hK495 => ?_)
              refine Rwp_region_lit (by kernel_rfl) ?_
              refine seqK rfl (does_run (run_load rfl Try.underlying3 rfl (by kernel_rfl : _ = Value.pointer (some ⟨b294, 0, none⟩)) (HS493.cell 0)) ?_)
              refine seqK rfl (does_run (run_load rfl Try.underlying3 rfl (by kernel_rfl : _ = Value.pointer (some ⟨b8, 0, none⟩)) (HS493.u4.cell 0)) ?_)
              refine seqS1 (a' := ⟨#[.slice A2 l1.length c3, iV day5, uV, .pointer (some ⟨b8, 0, none⟩), .pointer (some ⟨b12, 0, none⟩), .pointer (some ⟨b34, 0, none⟩), .pointer (some ⟨b61, 0, none⟩), (j237 0), (j237 1), (j237 2), (j237 3), (j237 4), (j237 5), (j237 6), (j237 7), (j237 8), .pointer (some ⟨b294, 0, none⟩), iV x416, .pointer (some ⟨b429, 0, none⟩), .pointer (some ⟨b452, 0, none⟩), .pointer (some ⟨b456, 0, none⟩), iV vt446, uV, uV, uV, .bool vt20, .bool false, .slice A2 l1.length c3, .agg #[.slice A2 l1.length c3, iV 0], .pointer (some ⟨b34, 0, none⟩), .pointer (some ⟨b34, 0, none⟩), .pointer (some ⟨b34, 0, none⟩), .pointer (some ⟨b34, 0, none⟩), iV vt40, .agg #[iV vt47.X, iV vt47.Y, iV vt47.Z], .agg #[iV vt54.ID, iV vt54.Was.X, iV vt54.Was.Y, iV vt54.Was.Z, iV vt54.Here.X, iV vt54.Here.Y, iV vt54.Here.Z, iV vt54.Rate], iV day5, iV vt69, iV vt69, iV (w64 (0 - vt69)), (j237 9), (j237 10), (j237 11), (j237 12), (j237 13), (j237 14), (j237 15), (j237 16), (j237 17), (j237 18), (j237 19), (j237 20), (j237 21), (j237 22), (j237 23), (j237 24), (j237 25), (j237 26), (j237 27), (j237 28), (j237 29), (j237 30), (j237 31), (j237 32), (j237 33), (j237 34), (j237 35), (j237 36), (j237 37), (j237 38), (j237 39), (j237 40), (j237 41), (j237 42), (j237 43), (j237 44), (j237 45), (j237 46), (j237 47), (j237 48), (j237 49), (j237 50), (j237 51), (j237 52), (j237 53), (j237 54), (j237 55), (j237 56), (j237 57), (j237 58), (j237 59), (j237 60), (j237 61), (j237 62), (j237 63), (j237 64), (j237 65), (j237 66), .agg #[iV vt54.ID, iV vt54.Was.X, iV vt54.Was.Y, iV vt54.Was.Z, iV vt54.Here.X, iV vt54.Here.Y, iV vt54.Here.Z, iV vt54.Rate], .func (.func 34) #[] #[.pointer (some ⟨b310, 0, none⟩)], iV x416, .agg #[iV x417.X, iV x417.Y, iV x417.Z], .tuple #[.agg #[iV vt444.X, iV vt444.Y, iV vt444.Z], .agg #[iV vt445.X, iV vt445.Y, iV vt445.Z], iV vt446], .agg #[iV vt54.ID, iV vt54.Was.X, iV vt54.Was.Y, iV vt54.Was.Z, iV vt54.Here.X, iV vt54.Here.Y, iV vt54.Here.Z, iV vt54.Rate], iV x416, .tuple #[.agg #[iV vt444.X, iV vt444.Y, iV vt444.Z], .agg #[iV vt445.X, iV vt445.Y, iV vt445.Z], iV vt446], .agg #[iV vt444.X, iV vt444.Y, iV vt444.Z], .agg #[iV vt445.X, iV vt445.Y, iV vt445.Z], iV vt446, iV vt446, .bool false, .bool false, iV x416, iV x415, .bool false, .bool false, .bool false, .agg #[iV x417.X, iV x417.Y, iV x417.Z], .agg #[iV vt445.X, iV vt445.Y, iV vt445.Z], .bool false, .bool false, iV x415, iV (w64 (x415 + 1)), iV (w64 (x415 + 1)), iV vt69, .bool (decide ((w64 (x415 + 1)) > vt69)), uV, uV, uV, uV, uV, uV, uV, uV, uV, uV, uV, uV, uV, uV, uV, uV, uV, uV], []⟩) (by kernel_rfl) ?_
              refine RwpList_nil ?_
              refine hK495 _ _ ?_
              have hq_ := ite_some h; clear h; rcases hq_ with ⟨c497, h⟩ | ⟨c497, h⟩
              · have c497 : (w64 (x415 + 1)) > vt69 := c497
                refine RwpRwI 125 (x := (decide ((w64 (x415 + 1)) > vt69))) (v := true) (by kernel_rfl) (decide_eq_true c497) ?_
                refine RcondT (by kernel_rfl) ?_
                refine Rwp_exit ?_
                refine ho439 _ _ _ (by decide) ?_
                have HS508 := HS493.u7
                have HS509 := HS508.u7
                have HS510 := HS509.u7
                have HS511 := HS510.u7
                have HS512 := HS511.u4
                have HS513 := HS512.u7
                have HS514 := HS513.u7
                have HS515 := HS514.u7
                have HS516 := HS515.drop
                have HS517 := HS516.drop
                have HS518 := HS517.drop
                exact hbk421 2 _ _ f448 [[(b294, .cells #[.int .i64 (w64 (x415 + 1))] 3 (0, 0))], [(b8, .cells #[.int .i64 vt69] 3 (0, 0))], [(b61, .cells #[.int .i64 vt54.ID, .int .i64 vt54.Was.X, .int .i64 vt54.Was.Y, .int .i64 vt54.Was.Z, .int .i64 vt54.Here.X, .int .i64 vt54.Here.Y, .int .i64 vt54.Here.Z, .int .i64 vt54.Rate] 36 (0, 0))], [(b34, .cells #[.slice A2 l1.length c3, .int .i64 vt55] 33 (0, 0))], [(b12, .cells #[.bool false] 4 (0, 0))]] L449 (.inl ⟨rfl, (w64 (x415 + 1)), rfl, (L411.trans L449), h⟩) HS518
              · have c497 : ¬ ((w64 (x415 + 1)) > vt69) := c497
                refine RwpRwI 125 (x := (decide ((w64 (x415 + 1)) > vt69))) (v := false) (by kernel_rfl) (decide_eq_false c497) ?_
                refine RcondF (by kernel_rfl) ?_
                refine Rwp_skip ?_
                refine hn437 _ _ ?_
                have HS594 := HS493.u7
                have HS595 := HS594.u7
                have HS596 := HS595.u7
                have HS597 := HS596.u7
                have HS598 := HS597.u4
                have HS599 := HS598.u7
                have HS600 := HS599.u7
                have HS601 := HS600.u7
                have HS602 := HS601.drop
                have HS603 := HS602.drop
                have HS604 := HS603.drop
                exact hag419 _ _ f448 [[(b294, .cells #[.int .i64 (w64 (x415 + 1))] 3 (0, 0))], [(b8, .cells #[.int .i64 vt69] 3 (0, 0))], [(b61, .cells #[.int .i64 vt54.ID, .int .i64 vt54.Was.X, .int .i64 vt54.Was.Y, .int .i64 vt54.Was.Z, .int .i64 vt54.Here.X, .int .i64 vt54.Here.Y, .int .i64 vt54.Here.Z, .int .i64 vt54.Rate] 36 (0, 0))], [(b34, .cells #[.slice A2 l1.length c3, .int .i64 vt55] 33 (0, 0))], [(b12, .cells #[.bool false] 4 (0, 0))]] L449 ⟨(w64 (x415 + 1)), rest_, rfl, (L411.trans L449), hx_.trans (List.append_cons _ _ _), h⟩ HS604
      · clear h
        intro D W412 f410 Hs_ hk_ HS413
        obtain ⟨x415, rest2_, rfl, L411, hx2_, h⟩ := hk_
        have HS413 : St t W412 f410 ([(b294, .cells #[.int .i64 x415] 3 (0, 0))] :: [(b8, .cells #[.int .i64 vt69] 3 (0, 0))] :: [(b61, .cells #[.int .i64 vt54.ID, .int .i64 vt54.Was.X, .int .i64 vt54.Was.Y, .int .i64 vt54.Was.Z, .int .i64 vt54.Here.X, .int .i64 vt54.Here.Y, .int .i64 vt54.Here.Z, .int .i64 vt54.Rate] 36 (0, 0))] :: [(b34, .cells #[.slice A2 l1.length c3, .int .i64 vt55] 33 (0, 0))] :: [(b12, .cells #[.bool false] 4 (0, 0))] :: [(D, .deferred (some []))] :: H) := HS413
        obtain rfl : rest2_ = [] := List.append_cancel_left (hx2_.symm.trans (List.append_nil _).symm)
        simp only [spykeep3_SkyPathsJoin.g1] at h
        refine hn314 _ _ ?_
        exact J505 D f410 x415 W412 _ L411 h HS413 (by kernel_rfl)
      · clear h
        intro D c_ pre_ x_ rest_ w9_ g_ Hs_ hc_ hx_ hk_ HS9_
        clear hc_
        rcases hk_ with ⟨rfl, x504, rfl, L500, h⟩ | ⟨rfl, x524, rfl, L520, h⟩
        · refine wp_exit ?_
          refine hx313 _ _ ?_
          exact J505 D g_ x504 w9_ _ L500 h HS9_ (by kernel_rfl)
        · refine wp_ret ?_
          exact J506 D g_ x524 w9_ _ L520 h HS9_ (by kernel_rfl)
    clear h; have h := hv238; clear hv238
    refine loopK (fun n_ a_ w_ => ∃ (f92 : FM) (d97 : Int) (j96 : Nat → Value), FM.le f71 f92 ∧ St t w_ f92 ([(b8, .cells #[.int .i64 vt69] 3 (0, 0))] :: [(b61, .cells #[.int .i64 vt54.ID, .int .i64 vt54.Was.X, .int .i64 vt54.Was.Y, .int .i64 vt54.Was.Z, .int .i64 vt54.Here.X, .int .i64 vt54.Here.Y, .int .i64 vt54.Here.Z, .int .i64 vt54.Rate] 36 (0, 0))] :: [(b34, .cells #[.slice A2 l1.length c3, .int .i64 vt55] 33 (0, 0))] :: [(b12, .cells #[.bool false] 4 (0, 0))] :: H) ∧ spykeep3_SkyPathsJoin.l0 k vt69 vt54 n_ d97 = some o88 ∧ a_ = ⟨#[.slice A2 l1.length c3, iV day5, uV, .pointer (some ⟨b8, 0, none⟩), .pointer (some ⟨b12, 0, none⟩), .pointer (some ⟨b34, 0, none⟩), .pointer (some ⟨b61, 0, none⟩), iV d97, (j96 0), (j96 1), (j96 2), (j96 3), (j96 4), (j96 5), (j96 6), (j96 7), uV, uV, uV, uV, uV, uV, uV, uV, uV, .bool vt20, .bool false, .slice A2 l1.length c3, .agg #[.slice A2 l1.length c3, iV 0], .pointer (some ⟨b34, 0, none⟩), .pointer (some ⟨b34, 0, none⟩), .pointer (some ⟨b34, 0, none⟩), .pointer (some ⟨b34, 0, none⟩), iV vt40, .agg #[iV vt47.X, iV vt47.Y, iV vt47.Z], .agg #[iV vt54.ID, iV vt54.Was.X, iV vt54.Was.Y, iV vt54.Was.Z, iV vt54.Here.X, iV vt54.Here.Y, iV vt54.Here.Z, iV vt54.Rate], iV day5, iV vt69, iV vt69, iV (w64 (0 - vt69)), (j96 8), (j96 9), (j96 10), (j96 11), (j96 12), (j96 13), (j96 14), (j96 15), (j96 16), (j96 17), (j96 18), (j96 19), (j96 20), (j96 21), (j96 22), (j96 23), (j96 24), (j96 25), (j96 26), (j96 27), (j96 28), (j96 29), (j96 30), (j96 31), (j96 32), (j96 33), (j96 34), (j96 35), (j96 36), (j96 37), (j96 38), (j96 39), (j96 40), (j96 41), (j96 42), (j96 43), (j96 44), (j96 45), (j96 46), (j96 47), (j96 48), (j96 49), (j96 50), (j96 51), (j96 52), (j96 53), (j96 54), (j96 55), (j96 56), (j96 57), (j96 58), (j96 59), (j96 60), (j96 61), (j96 62), (j96 63), (j96 64), (j96 65), uV, uV, uV, uV, uV, uV, uV, uV, uV, uV, uV, uV, uV, uV, uV, uV, uV, uV, uV, uV, uV, uV, uV, uV, uV, uV, uV, uV, uV, uV, uV, uV, uV, uV, uV, uV, uV, uV, uV, uV, uV, uV, uV, uV, uV, uV], []⟩) k ⟨f71, (w64 (0 - vt69)), (fun i_ => [undef, undef, undef, undef, undef, undef, undef, undef, undef, undef, undef, undef, undef, undef, undef, undef, undef, undef, undef, undef, undef, undef, undef, undef, undef, undef, undef, undef, undef, undef, undef, undef, undef, undef, undef, undef, undef, undef, undef, undef, undef, undef, undef, undef, undef, undef, undef, undef, undef, undef, undef, undef, undef, undef, undef, undef, undef, undef, undef, undef, undef, undef, undef, undef, undef, undef].getD i_ undef), (FM.le.refl _), HS77, h, (by kernel_rfl)⟩ ?_
    clear h
    rintro n91 _ W94 ⟨f92, d97, j96, L93, HS95, h, rfl⟩ K89 hK90
    obtain _ | n91 := n91
    · exact nomatch h
    simp only [spykeep3_SkyPathsJoin.l0] at h
    refine wp_seq_k (fun K98 hK99 => ?_)
    refine wp_seq_k (fun K100 hK101 => ?_)
    refine wp_region_lit ?_
    refine seqL1 (by kernel_rfl) ?_
    refine seqK rfl (does_run (run_load rfl Try.underlying3 rfl (by kernel_rfl : _ = Value.pointer (some ⟨b8, 0, none⟩)) (HS95.cell 0)) ?_)
    refine seqS1 (a' := ⟨#[.slice A2 l1.length c3, iV day5, uV, .pointer (some ⟨b8, 0, none⟩), .pointer (some ⟨b12, 0, none⟩), .pointer (some ⟨b34, 0, none⟩), .pointer (some ⟨b61, 0, none⟩), iV d97, (j96 0), (j96 1), (j96 2), (j96 3), (j96 4), (j96 5), (j96 6), (j96 7), uV, uV, uV, uV, uV, uV, uV, uV, uV, .bool vt20, .bool false, .slice A2 l1.length c3, .agg #[.slice A2 l1.length c3, iV 0], .pointer (some ⟨b34, 0, none⟩), .pointer (some ⟨b34, 0, none⟩), .pointer (some ⟨b34, 0, none⟩), .pointer (some ⟨b34, 0, none⟩), iV vt40, .agg #[iV vt47.X, iV vt47.Y, iV vt47.Z], .agg #[iV vt54.ID, iV vt54.Was.X, iV vt54.Was.Y, iV vt54.Was.Z, iV vt54.Here.X, iV vt54.Here.Y, iV vt54.Here.Z, iV vt54.Rate], iV day5, iV vt69, iV vt69, iV (w64 (0 - vt69)), iV d97, iV vt69, .bool (decide (d97 < vt69)), (j96 11), (j96 12), (j96 13), (j96 14), (j96 15), (j96 16), (j96 17), (j96 18), (j96 19), (j96 20), (j96 21), (j96 22), (j96 23), (j96 24), (j96 25), (j96 26), (j96 27), (j96 28), (j96 29), (j96 30), (j96 31), (j96 32), (j96 33), (j96 34), (j96 35), (j96 36), (j96 37), (j96 38), (j96 39), (j96 40), (j96 41), (j96 42), (j96 43), (j96 44), (j96 45), (j96 46), (j96 47), (j96 48), (j96 49), (j96 50), (j96 51), (j96 52), (j96 53), (j96 54), (j96 55), (j96 56), (j96 57), (j96 58), (j96 59), (j96 60), (j96 61), (j96 62), (j96 63), (j96 64), (j96 65), uV, uV, uV, uV, uV, uV, uV, uV, uV, uV, uV, uV, uV, uV, uV, uV, uV, uV, uV, uV, uV, uV, uV, uV, uV, uV, uV, uV, uV, uV, uV, uV, uV, uV, uV, uV, uV, uV, uV, uV, uV, uV, uV, uV, uV, uV], []⟩) (by kernel_rfl) ?_
    refine wpList_nil ?_
    refine hK101 _ _ ?_
    have hq_ := ite_some h; clear h; rcases hq_ with ⟨c103, h⟩ | ⟨c103, h⟩
    · have c103 : d97 < vt69 := c103
      refine wpRwI 42 (x := (decide (d97 < vt69))) (v := true) (by kernel_rfl) (decide_eq_true c103) ?_
      refine condT (by kernel_rfl) ?_
      refine wp_skip ?_
      refine hK99 _ _ ?_
      refine wp_seq_k (fun K104 hK105 => ?_)
      refine blockK (fun B106 hx107 hn108 hr109 ho110 hp111 => ?_)
      refine wp_seq_k (fun K113 hK114 => ?_)
      refine wp_region_lit ?_
      refine seqK rfl (does_run (run_loadN (n := 8) rfl Try.underlying36 rfl (by kernel_rfl) (by kernel_rfl : _ = Value.pointer (some ⟨b61, 0, none⟩)) (cs := [.int .i64 vt54.ID, .int .i64 vt54.Was.X, .int .i64 vt54.Was.Y, .int .i64 vt54.Was.Z, .int .i64 vt54.Here.X, .int .i64 vt54.Here.Y, .int .i64 vt54.Here.Z, .int .i64 vt54.Rate]) rfl (HS95.u1.cells 0 8 _ rfl)) ?_)
      have hq_ := bind_some h; clear h; obtain ⟨⟨vt115, vt116, vt117⟩, hc118, h⟩ := hq_
      refine seqL1 (by kernel_rfl) ?_
      refine seqK rfl (does_call (f := 16) (args := #[.agg #[.int .i64 vt54.ID, .int .i64 vt54.Was.X, .int .i64 vt54.Was.Y, .int .i64 vt54.Was.Z, .int .i64 vt54.Here.X, .int .i64 vt54.Here.Y, .int .i64 vt54.Here.Z, .int .i64 vt54.Rate], .int .i64 d97]) (by kernel_rfl) (sky_Path.calls k vt54 d97 HS95 vt115 vt116 vt117 hc118) ?_)
      rintro _ W121 ⟨f119, rfl, L120, HS122⟩
      refine ⟨_, rfl, ?_⟩
      refine seqL4 (by kernel_rfl) ?_
      refine seqK rfl (does_alloc (z := Value.agg #[.int .i64 0, .int .i64 0, .int .i64 0]) (cs := #[.int .i64 0, .int .i64 0, .int .i64 0]) rfl (by kernel_rfl) rfl HS122 ?_)
      intro b123 W124 HS125
      refine seqK rfl (does_alloc (z := Value.agg #[.int .i64 0, .int .i64 0, .int .i64 0]) (cs := #[.int .i64 0, .int .i64 0, .int .i64 0]) rfl (by kernel_rfl) rfl HS125 ?_)
      intro b127 W128 HS129
      have HS131 := HS129.u1
      refine seqK rfl (does_store (n := 3) (vs := [.int .i64 vt115.X, .int .i64 vt115.Y, .int .i64 vt115.Z]) (cs' := #[.int .i64 vt115.X, .int .i64 vt115.Y, .int .i64 vt115.Z]) rfl (by kernel_rfl) (by kernel_rfl : _ = Value.pointer (some ⟨b123, 0, none⟩)) (by kernel_rfl : _ = Value.agg #[.int .i64 vt115.X, .int .i64 vt115.Y, .int .i64 vt115.Z]) rfl rfl (by intro u_ hu_; simp only [List.mem_cons, List.not_mem_nil, or_false] at hu_; rcases hu_ with rfl | rfl | rfl <;> rfl) HS131 (Nat.le_of_ble_eq_true rfl) (by kernel_rfl) ?_)
      intro W132 HS133
      have HS134 := HS133.u1
      refine seqK rfl (does_store (n := 3) (vs := [.int .i64 vt116.X, .int .i64 vt116.Y, .int .i64 vt116.Z]) (cs' := #[.int .i64 vt116.X, .int .i64 vt116.Y, .int .i64 vt116.Z]) rfl (by kernel_rfl) (by kernel_rfl : _ = Value.pointer (some ⟨b127, 0, none⟩)) (by kernel_rfl : _ = Value.agg #[.int .i64 vt116.X, .int .i64 vt116.Y, .int .i64 vt116.Z]) rfl rfl (by intro u_ hu_; simp only [List.mem_cons, List.not_mem_nil, or_false] at hu_; rcases hu_ with rfl | rfl | rfl <;> rfl) HS134 (Nat.le_of_ble_eq_true rfl) (by kernel_rfl) ?_)
      intro W135 HS136
      refine seqS1 (a' := ⟨#[.slice A2 l1.length c3, iV day5, uV, .pointer (some ⟨b8, 0, none⟩), .pointer (some ⟨b12, 0, none⟩), .pointer (some ⟨b34, 0, none⟩), .pointer (some ⟨b61, 0, none⟩), iV d97, .pointer (some ⟨b123, 0, none⟩), .pointer (some ⟨b127, 0, none⟩), iV vt117, (j96 3), (j96 4), (j96 5), (j96 6), (j96 7), uV, uV, uV, uV, uV, uV, uV, uV, uV, .bool vt20, .bool false, .slice A2 l1.length c3, .agg #[.slice A2 l1.length c3, iV 0], .pointer (some ⟨b34, 0, none⟩), .pointer (some ⟨b34, 0, none⟩), .pointer (some ⟨b34, 0, none⟩), .pointer (some ⟨b34, 0, none⟩), iV vt40, .agg #[iV vt47.X, iV vt47.Y, iV vt47.Z], .agg #[iV vt54.ID, iV vt54.Was.X, iV vt54.Was.Y, iV vt54.Was.Z, iV vt54.Here.X, iV vt54.Here.Y, iV vt54.Here.Z, iV vt54.Rate], iV day5, iV vt69, iV vt69, iV (w64 (0 - vt69)), iV d97, iV vt69, .bool true, (j96 11), (j96 12), .tuple #[.agg #[iV vt115.X, iV vt115.Y, iV vt115.Z], .agg #[iV vt116.X, iV vt116.Y, iV vt116.Z], iV vt117], .agg #[iV vt54.ID, iV vt54.Was.X, iV vt54.Was.Y, iV vt54.Was.Z, iV vt54.Here.X, iV vt54.Here.Y, iV vt54.Here.Z, iV vt54.Rate], iV d97, .tuple #[.agg #[iV vt115.X, iV vt115.Y, iV vt115.Z], .agg #[iV vt116.X, iV vt116.Y, iV vt116.Z], iV vt117], .agg #[iV vt115.X, iV vt115.Y, iV vt115.Z], .agg #[iV vt116.X, iV vt116.Y, iV vt116.Z], iV vt117, (j96 20), (j96 21), (j96 22), (j96 23), (j96 24), (j96 25), (j96 26), (j96 27), (j96 28), (j96 29), (j96 30), (j96 31), (j96 32), (j96 33), (j96 34), (j96 35), (j96 36), (j96 37), (j96 38), (j96 39), (j96 40), (j96 41), (j96 42), (j96 43), (j96 44), (j96 45), (j96 46), (j96 47), (j96 48), (j96 49), (j96 50), (j96 51), (j96 52), (j96 53), (j96 54), (j96 55), (j96 56), (j96 57), (j96 58), (j96 59), (j96 60), (j96 61), (j96 62), (j96 63), (j96 64), (j96 65), uV, uV, uV, uV, uV, uV, uV, uV, uV, uV, uV, uV, uV, uV, uV, uV, uV, uV, uV, uV, uV, uV, uV, uV, uV, uV, uV, uV, uV, uV, uV, uV, uV, uV, uV, uV, uV, uV, uV, uV, uV, uV, uV, uV, uV, uV], []⟩) (by kernel_rfl) ?_
      refine wpList_nil ?_
      refine hK114 _ _ ?_
      refine wp_seq_k (fun K137 hK138 => ?_)
      refine wp_region_lit ?_
      refine seqK rfl (does_run (run_loadN (n := 8) rfl Try.underlying36 rfl (by kernel_rfl) (by kernel_rfl : _ = Value.pointer (some ⟨b61, 0, none⟩)) (cs := [.int .i64 vt54.ID, .int .i64 vt54.Was.X, .int .i64 vt54.Was.Y, .int .i64 vt54.Was.Z, .int .i64 vt54.Here.X, .int .i64 vt54.Here.Y, .int .i64 vt54.Here.Z, .int .i64 vt54.Rate]) rfl (HS136.u3.cells 0 8 _ rfl)) ?_)
      have hq_ := bind_some h; clear h; obtain ⟨⟨vt139, vt140, vt141⟩, hc142, h⟩ := hq_
      refine seqL2 (by kernel_rfl) ?_
      refine seqK rfl (does_call (f := 16) (args := #[.agg #[.int .i64 vt54.ID, .int .i64 vt54.Was.X, .int .i64 vt54.Was.Y, .int .i64 vt54.Was.Z, .int .i64 vt54.Here.X, .int .i64 vt54.Here.Y, .int .i64 vt54.Here.Z, .int .i64 vt54.Rate], .int .i64 (w64 (d97 + 1))]) (by kernel_rfl) (sky_Path.calls k vt54 (w64 (d97 + 1)) HS136 vt139 vt140 vt141 hc142) ?_)
      rintro _ W145 ⟨f143, rfl, L144, HS146⟩
      refine ⟨_, rfl, ?_⟩
      refine seqL4 (by kernel_rfl) ?_
      refine seqK rfl (does_alloc (z := Value.agg #[.int .i64 0, .int .i64 0, .int .i64 0]) (cs := #[.int .i64 0, .int .i64 0, .int .i64 0]) rfl (by kernel_rfl) rfl HS146 ?_)
      intro b147 W148 HS149
      refine seqK rfl (does_alloc (z := Value.agg #[.int .i64 0, .int .i64 0, .int .i64 0]) (cs := #[.int .i64 0, .int .i64 0, .int .i64 0]) rfl (by kernel_rfl) rfl HS149 ?_)
      intro b151 W152 HS153
      have HS155 := HS153.u1
      refine seqK rfl (does_store (n := 3) (vs := [.int .i64 vt139.X, .int .i64 vt139.Y, .int .i64 vt139.Z]) (cs' := #[.int .i64 vt139.X, .int .i64 vt139.Y, .int .i64 vt139.Z]) rfl (by kernel_rfl) (by kernel_rfl : _ = Value.pointer (some ⟨b147, 0, none⟩)) (by kernel_rfl : _ = Value.agg #[.int .i64 vt139.X, .int .i64 vt139.Y, .int .i64 vt139.Z]) rfl rfl (by intro u_ hu_; simp only [List.mem_cons, List.not_mem_nil, or_false] at hu_; rcases hu_ with rfl | rfl | rfl <;> rfl) HS155 (Nat.le_of_ble_eq_true rfl) (by kernel_rfl) ?_)
      intro W156 HS157
      have HS158 := HS157.u1
      refine seqK rfl (does_store (n := 3) (vs := [.int .i64 vt140.X, .int .i64 vt140.Y, .int .i64 vt140.Z]) (cs' := #[.int .i64 vt140.X, .int .i64 vt140.Y, .int .i64 vt140.Z]) rfl (by kernel_rfl) (by kernel_rfl : _ = Value.pointer (some ⟨b151, 0, none⟩)) (by kernel_rfl : _ = Value.agg #[.int .i64 vt140.X, .int .i64 vt140.Y, .int .i64 vt140.Z]) rfl rfl (by intro u_ hu_; simp only [List.mem_cons, List.not_mem_nil, or_false] at hu_; rcases hu_ with rfl | rfl | rfl <;> rfl) HS158 (Nat.le_of_ble_eq_true rfl) (by kernel_rfl) ?_)
      intro W159 HS160
      refine seqS1 (a' := ⟨#[.slice A2 l1.length c3, iV day5, uV, .pointer (some ⟨b8, 0, none⟩), .pointer (some ⟨b12, 0, none⟩), .pointer (some ⟨b34, 0, none⟩), .pointer (some ⟨b61, 0, none⟩), iV d97, .pointer (some ⟨b123, 0, none⟩), .pointer (some ⟨b127, 0, none⟩), iV vt117, .pointer (some ⟨b147, 0, none⟩), .pointer (some ⟨b151, 0, none⟩), iV vt141, (j96 6), (j96 7), uV, uV, uV, uV, uV, uV, uV, uV, uV, .bool vt20, .bool false, .slice A2 l1.length c3, .agg #[.slice A2 l1.length c3, iV 0], .pointer (some ⟨b34, 0, none⟩), .pointer (some ⟨b34, 0, none⟩), .pointer (some ⟨b34, 0, none⟩), .pointer (some ⟨b34, 0, none⟩), iV vt40, .agg #[iV vt47.X, iV vt47.Y, iV vt47.Z], .agg #[iV vt54.ID, iV vt54.Was.X, iV vt54.Was.Y, iV vt54.Was.Z, iV vt54.Here.X, iV vt54.Here.Y, iV vt54.Here.Z, iV vt54.Rate], iV day5, iV vt69, iV vt69, iV (w64 (0 - vt69)), iV d97, iV vt69, .bool true, (j96 11), (j96 12), .tuple #[.agg #[iV vt115.X, iV vt115.Y, iV vt115.Z], .agg #[iV vt116.X, iV vt116.Y, iV vt116.Z], iV vt117], .agg #[iV vt54.ID, iV vt54.Was.X, iV vt54.Was.Y, iV vt54.Was.Z, iV vt54.Here.X, iV vt54.Here.Y, iV vt54.Here.Z, iV vt54.Rate], iV d97, .tuple #[.agg #[iV vt115.X, iV vt115.Y, iV vt115.Z], .agg #[iV vt116.X, iV vt116.Y, iV vt116.Z], iV vt117], .agg #[iV vt115.X, iV vt115.Y, iV vt115.Z], .agg #[iV vt116.X, iV vt116.Y, iV vt116.Z], iV vt117, .tuple #[.agg #[iV vt139.X, iV vt139.Y, iV vt139.Z], .agg #[iV vt140.X, iV vt140.Y, iV vt140.Z], iV vt141], .agg #[iV vt54.ID, iV vt54.Was.X, iV vt54.Was.Y, iV vt54.Was.Z, iV vt54.Here.X, iV vt54.Here.Y, iV vt54.Here.Z, iV vt54.Rate], iV d97, iV (w64 (d97 + 1)), .tuple #[.agg #[iV vt139.X, iV vt139.Y, iV vt139.Z], .agg #[iV vt140.X, iV vt140.Y, iV vt140.Z], iV vt141], .agg #[iV vt139.X, iV vt139.Y, iV vt139.Z], .agg #[iV vt140.X, iV vt140.Y, iV vt140.Z], iV vt141, (j96 28), (j96 29), (j96 30), (j96 31), (j96 32), (j96 33), (j96 34), (j96 35), (j96 36), (j96 37), (j96 38), (j96 39), (j96 40), (j96 41), (j96 42), (j96 43), (j96 44), (j96 45), (j96 46), (j96 47), (j96 48), (j96 49), (j96 50), (j96 51), (j96 52), (j96 53), (j96 54), (j96 55), (j96 56), (j96 57), (j96 58), (j96 59), (j96 60), (j96 61), (j96 62), (j96 63), (j96 64), (j96 65), uV, uV, uV, uV, uV, uV, uV, uV, uV, uV, uV, uV, uV, uV, uV, uV, uV, uV, uV, uV, uV, uV, uV, uV, uV, uV, uV, uV, uV, uV, uV, uV, uV, uV, uV, uV, uV, uV, uV, uV, uV, uV, uV, uV, uV, uV], []⟩) (by kernel_rfl) ?_
      refine wpList_nil ?_
      refine hK138 _ _ ?_
      refine wp_seq_k (fun K161 hK162 => ?_)
      refine wp_seq_k (fun K163 hK164 => ?_)
      refine wp_region_lit ?_
      refine seqS3 (a' := ⟨#[.slice A2 l1.length c3, iV day5, uV, .pointer (some ⟨b8, 0, none⟩), .pointer (some ⟨b12, 0, none⟩), .pointer (some ⟨b34, 0, none⟩), .pointer (some ⟨b61, 0, none⟩), iV d97, .pointer (some ⟨b123, 0, none⟩), .pointer (some ⟨b127, 0, none⟩), iV vt117, .pointer (some ⟨b147, 0, none⟩), .pointer (some ⟨b151, 0, none⟩), iV vt141, (j96 6), (j96 7), uV, uV, uV, uV, uV, uV, uV, uV, uV, .bool vt20, .bool false, .slice A2 l1.length c3, .agg #[.slice A2 l1.length c3, iV 0], .pointer (some ⟨b34, 0, none⟩), .pointer (some ⟨b34, 0, none⟩), .pointer (some ⟨b34, 0, none⟩), .pointer (some ⟨b34, 0, none⟩), iV vt40, .agg #[iV vt47.X, iV vt47.Y, iV vt47.Z], .agg #[iV vt54.ID, iV vt54.Was.X, iV vt54.Was.Y, iV vt54.Was.Z, iV vt54.Here.X, iV vt54.Here.Y, iV vt54.Here.Z, iV vt54.Rate], iV day5, iV vt69, iV vt69, iV (w64 (0 - vt69)), iV d97, iV vt69, .bool true, (j96 11), (j96 12), .tuple #[.agg #[iV vt115.X, iV vt115.Y, iV vt115.Z], .agg #[iV vt116.X, iV vt116.Y, iV vt116.Z], iV vt117], .agg #[iV vt54.ID, iV vt54.Was.X, iV vt54.Was.Y, iV vt54.Was.Z, iV vt54.Here.X, iV vt54.Here.Y, iV vt54.Here.Z, iV vt54.Rate], iV d97, .tuple #[.agg #[iV vt115.X, iV vt115.Y, iV vt115.Z], .agg #[iV vt116.X, iV vt116.Y, iV vt116.Z], iV vt117], .agg #[iV vt115.X, iV vt115.Y, iV vt115.Z], .agg #[iV vt116.X, iV vt116.Y, iV vt116.Z], iV vt117, .tuple #[.agg #[iV vt139.X, iV vt139.Y, iV vt139.Z], .agg #[iV vt140.X, iV vt140.Y, iV vt140.Z], iV vt141], .agg #[iV vt54.ID, iV vt54.Was.X, iV vt54.Was.Y, iV vt54.Was.Z, iV vt54.Here.X, iV vt54.Here.Y, iV vt54.Here.Z, iV vt54.Rate], iV d97, iV (w64 (d97 + 1)), .tuple #[.agg #[iV vt139.X, iV vt139.Y, iV vt139.Z], .agg #[iV vt140.X, iV vt140.Y, iV vt140.Z], iV vt141], .agg #[iV vt139.X, iV vt139.Y, iV vt139.Z], .agg #[iV vt140.X, iV vt140.Y, iV vt140.Z], iV vt141, iV vt117, .bool (vt117 != 0), .bool (vt117 != 0), (j96 31), (j96 32), (j96 33), (j96 34), (j96 35), (j96 36), (j96 37), (j96 38), (j96 39), (j96 40), (j96 41), (j96 42), (j96 43), (j96 44), (j96 45), (j96 46), (j96 47), (j96 48), (j96 49), (j96 50), (j96 51), (j96 52), (j96 53), (j96 54), (j96 55), (j96 56), (j96 57), (j96 58), (j96 59), (j96 60), (j96 61), (j96 62), (j96 63), (j96 64), (j96 65), uV, uV, uV, uV, uV, uV, uV, uV, uV, uV, uV, uV, uV, uV, uV, uV, uV, uV, uV, uV, uV, uV, uV, uV, uV, uV, uV, uV, uV, uV, uV, uV, uV, uV, uV, uV, uV, uV, uV, uV, uV, uV, uV, uV, uV, uV], []⟩) (by kernel_rfl) ?_
      have hq_ := ite_some h; clear h; rcases hq_ with ⟨c165, h⟩ | ⟨c165, h⟩
      · have c165 : vt117 ≠ 0 := c165
        refine seqRwI 61 (x := (vt117 != 0)) (v := true) (by kernel_rfl) (bne_iff_ne.mpr c165) ?_
        refine seqRwI 62 (x := (vt117 != 0)) (v := true) (by kernel_rfl) (bne_iff_ne.mpr c165) ?_
        refine seqS3 (a' := ⟨#[.slice A2 l1.length c3, iV day5, uV, .pointer (some ⟨b8, 0, none⟩), .pointer (some ⟨b12, 0, none⟩), .pointer (some ⟨b34, 0, none⟩), .pointer (some ⟨b61, 0, none⟩), iV d97, .pointer (some ⟨b123, 0, none⟩), .pointer (some ⟨b127, 0, none⟩), iV vt117, .pointer (some ⟨b147, 0, none⟩), .pointer (some ⟨b151, 0, none⟩), iV vt141, (j96 6), (j96 7), uV, uV, uV, uV, uV, uV, uV, uV, uV, .bool vt20, .bool false, .slice A2 l1.length c3, .agg #[.slice A2 l1.length c3, iV 0], .pointer (some ⟨b34, 0, none⟩), .pointer (some ⟨b34, 0, none⟩), .pointer (some ⟨b34, 0, none⟩), .pointer (some ⟨b34, 0, none⟩), iV vt40, .agg #[iV vt47.X, iV vt47.Y, iV vt47.Z], .agg #[iV vt54.ID, iV vt54.Was.X, iV vt54.Was.Y, iV vt54.Was.Z, iV vt54.Here.X, iV vt54.Here.Y, iV vt54.Here.Z, iV vt54.Rate], iV day5, iV vt69, iV vt69, iV (w64 (0 - vt69)), iV d97, iV vt69, .bool true, (j96 11), (j96 12), .tuple #[.agg #[iV vt115.X, iV vt115.Y, iV vt115.Z], .agg #[iV vt116.X, iV vt116.Y, iV vt116.Z], iV vt117], .agg #[iV vt54.ID, iV vt54.Was.X, iV vt54.Was.Y, iV vt54.Was.Z, iV vt54.Here.X, iV vt54.Here.Y, iV vt54.Here.Z, iV vt54.Rate], iV d97, .tuple #[.agg #[iV vt115.X, iV vt115.Y, iV vt115.Z], .agg #[iV vt116.X, iV vt116.Y, iV vt116.Z], iV vt117], .agg #[iV vt115.X, iV vt115.Y, iV vt115.Z], .agg #[iV vt116.X, iV vt116.Y, iV vt116.Z], iV vt117, .tuple #[.agg #[iV vt139.X, iV vt139.Y, iV vt139.Z], .agg #[iV vt140.X, iV vt140.Y, iV vt140.Z], iV vt141], .agg #[iV vt54.ID, iV vt54.Was.X, iV vt54.Was.Y, iV vt54.Was.Z, iV vt54.Here.X, iV vt54.Here.Y, iV vt54.Here.Z, iV vt54.Rate], iV d97, iV (w64 (d97 + 1)), .tuple #[.agg #[iV vt139.X, iV vt139.Y, iV vt139.Z], .agg #[iV vt140.X, iV vt140.Y, iV vt140.Z], iV vt141], .agg #[iV vt139.X, iV vt139.Y, iV vt139.Z], .agg #[iV vt140.X, iV vt140.Y, iV vt140.Z], iV vt141, iV vt117, .bool true, .bool true, uV, uV, .bool true, (j96 34), (j96 35), (j96 36), (j96 37), (j96 38), (j96 39), (j96 40), (j96 41), (j96 42), (j96 43), (j96 44), (j96 45), (j96 46), (j96 47), (j96 48), (j96 49), (j96 50), (j96 51), (j96 52), (j96 53), (j96 54), (j96 55), (j96 56), (j96 57), (j96 58), (j96 59), (j96 60), (j96 61), (j96 62), (j96 63), (j96 64), (j96 65), uV, uV, uV, uV, uV, uV, uV, uV, uV, uV, uV, uV, uV, uV, uV, uV, uV, uV, uV, uV, uV, uV, uV, uV, uV, uV, uV, uV, uV, uV, uV, uV, uV, uV, uV, uV, uV, uV, uV, uV, uV, uV, uV, uV, uV, uV], []⟩) (by kernel_rfl) ?_
        refine wpList_nil ?_
        refine hK164 _ _ ?_
        refine condT (by kernel_rfl) ?_
        refine wp_seq_k (fun K166 hK167 => ?_)
        refine wp_seq_k (fun K168 hK169 => ?_)
        refine wp_region_lit ?_
        refine seqS3 (a' := ⟨#[.slice A2 l1.length c3, iV day5, uV, .pointer (some ⟨b8, 0, none⟩), .pointer (some ⟨b12, 0, none⟩), .pointer (some ⟨b34, 0, none⟩), .pointer (some ⟨b61, 0, none⟩), iV d97, .pointer (some ⟨b123, 0, none⟩), .pointer (some ⟨b127, 0, none⟩), iV vt117, .pointer (some ⟨b147, 0, none⟩), .pointer (some ⟨b151, 0, none⟩), iV vt141, (j96 6), (j96 7), uV, uV, uV, uV, uV, uV, uV, uV, uV, .bool vt20, .bool false, .slice A2 l1.length c3, .agg #[.slice A2 l1.length c3, iV 0], .pointer (some ⟨b34, 0, none⟩), .pointer (some ⟨b34, 0, none⟩), .pointer (some ⟨b34, 0, none⟩), .pointer (some ⟨b34, 0, none⟩), iV vt40, .agg #[iV vt47.X, iV vt47.Y, iV vt47.Z], .agg #[iV vt54.ID, iV vt54.Was.X, iV vt54.Was.Y, iV vt54.Was.Z, iV vt54.Here.X, iV vt54.Here.Y, iV vt54.Here.Z, iV vt54.Rate], iV day5, iV vt69, iV vt69, iV (w64 (0 - vt69)), iV d97, iV vt69, .bool true, (j96 11), (j96 12), .tuple #[.agg #[iV vt115.X, iV vt115.Y, iV vt115.Z], .agg #[iV vt116.X, iV vt116.Y, iV vt116.Z], iV vt117], .agg #[iV vt54.ID, iV vt54.Was.X, iV vt54.Was.Y, iV vt54.Was.Z, iV vt54.Here.X, iV vt54.Here.Y, iV vt54.Here.Z, iV vt54.Rate], iV d97, .tuple #[.agg #[iV vt115.X, iV vt115.Y, iV vt115.Z], .agg #[iV vt116.X, iV vt116.Y, iV vt116.Z], iV vt117], .agg #[iV vt115.X, iV vt115.Y, iV vt115.Z], .agg #[iV vt116.X, iV vt116.Y, iV vt116.Z], iV vt117, .tuple #[.agg #[iV vt139.X, iV vt139.Y, iV vt139.Z], .agg #[iV vt140.X, iV vt140.Y, iV vt140.Z], iV vt141], .agg #[iV vt54.ID, iV vt54.Was.X, iV vt54.Was.Y, iV vt54.Was.Z, iV vt54.Here.X, iV vt54.Here.Y, iV vt54.Here.Z, iV vt54.Rate], iV d97, iV (w64 (d97 + 1)), .tuple #[.agg #[iV vt139.X, iV vt139.Y, iV vt139.Z], .agg #[iV vt140.X, iV vt140.Y, iV vt140.Z], iV vt141], .agg #[iV vt139.X, iV vt139.Y, iV vt139.Z], .agg #[iV vt140.X, iV vt140.Y, iV vt140.Z], iV vt141, iV vt117, .bool true, .bool true, uV, uV, .bool true, iV vt117, .bool (vt117 != 0), .bool (vt117 != 0), (j96 37), (j96 38), (j96 39), (j96 40), (j96 41), (j96 42), (j96 43), (j96 44), (j96 45), (j96 46), (j96 47), (j96 48), (j96 49), (j96 50), (j96 51), (j96 52), (j96 53), (j96 54), (j96 55), (j96 56), (j96 57), (j96 58), (j96 59), (j96 60), (j96 61), (j96 62), (j96 63), (j96 64), (j96 65), uV, uV, uV, uV, uV, uV, uV, uV, uV, uV, uV, uV, uV, uV, uV, uV, uV, uV, uV, uV, uV, uV, uV, uV, uV, uV, uV, uV, uV, uV, uV, uV, uV, uV, uV, uV, uV, uV, uV, uV, uV, uV, uV, uV, uV, uV], []⟩) (by kernel_rfl) ?_
        refine seqRwI 67 (x := (vt117 != 0)) (v := true) (by kernel_rfl) (bne_iff_ne.mpr c165) ?_
        refine seqRwI 68 (x := (vt117 != 0)) (v := true) (by kernel_rfl) (bne_iff_ne.mpr c165) ?_
        refine seqS4 (a' := ⟨#[.slice A2 l1.length c3, iV day5, uV, .pointer (some ⟨b8, 0, none⟩), .pointer (some ⟨b12, 0, none⟩), .pointer (some ⟨b34, 0, none⟩), .pointer (some ⟨b61, 0, none⟩), iV d97, .pointer (some ⟨b123, 0, none⟩), .pointer (some ⟨b127, 0, none⟩), iV vt117, .pointer (some ⟨b147, 0, none⟩), .pointer (some ⟨b151, 0, none⟩), iV vt141, (j96 6), (j96 7), uV, uV, uV, uV, uV, uV, uV, uV, uV, .bool vt20, .bool false, .slice A2 l1.length c3, .agg #[.slice A2 l1.length c3, iV 0], .pointer (some ⟨b34, 0, none⟩), .pointer (some ⟨b34, 0, none⟩), .pointer (some ⟨b34, 0, none⟩), .pointer (some ⟨b34, 0, none⟩), iV vt40, .agg #[iV vt47.X, iV vt47.Y, iV vt47.Z], .agg #[iV vt54.ID, iV vt54.Was.X, iV vt54.Was.Y, iV vt54.Was.Z, iV vt54.Here.X, iV vt54.Here.Y, iV vt54.Here.Z, iV vt54.Rate], iV day5, iV vt69, iV vt69, iV (w64 (0 - vt69)), iV d97, iV vt69, .bool true, (j96 11), (j96 12), .tuple #[.agg #[iV vt115.X, iV vt115.Y, iV vt115.Z], .agg #[iV vt116.X, iV vt116.Y, iV vt116.Z], iV vt117], .agg #[iV vt54.ID, iV vt54.Was.X, iV vt54.Was.Y, iV vt54.Was.Z, iV vt54.Here.X, iV vt54.Here.Y, iV vt54.Here.Z, iV vt54.Rate], iV d97, .tuple #[.agg #[iV vt115.X, iV vt115.Y, iV vt115.Z], .agg #[iV vt116.X, iV vt116.Y, iV vt116.Z], iV vt117], .agg #[iV vt115.X, iV vt115.Y, iV vt115.Z], .agg #[iV vt116.X, iV vt116.Y, iV vt116.Z], iV vt117, .tuple #[.agg #[iV vt139.X, iV vt139.Y, iV vt139.Z], .agg #[iV vt140.X, iV vt140.Y, iV vt140.Z], iV vt141], .agg #[iV vt54.ID, iV vt54.Was.X, iV vt54.Was.Y, iV vt54.Was.Z, iV vt54.Here.X, iV vt54.Here.Y, iV vt54.Here.Z, iV vt54.Rate], iV d97, iV (w64 (d97 + 1)), .tuple #[.agg #[iV vt139.X, iV vt139.Y, iV vt139.Z], .agg #[iV vt140.X, iV vt140.Y, iV vt140.Z], iV vt141], .agg #[iV vt139.X, iV vt139.Y, iV vt139.Z], .agg #[iV vt140.X, iV vt140.Y, iV vt140.Z], iV vt141, iV vt117, .bool true, .bool true, uV, uV, .bool true, iV vt117, .bool true, .bool true, iV vt117, .bool (vt117 != 18), .bool (vt117 != 18), .bool (vt117 != 18), (j96 41), (j96 42), (j96 43), (j96 44), (j96 45), (j96 46), (j96 47), (j96 48), (j96 49), (j96 50), (j96 51), (j96 52), (j96 53), (j96 54), (j96 55), (j96 56), (j96 57), (j96 58), (j96 59), (j96 60), (j96 61), (j96 62), (j96 63), (j96 64), (j96 65), uV, uV, uV, uV, uV, uV, uV, uV, uV, uV, uV, uV, uV, uV, uV, uV, uV, uV, uV, uV, uV, uV, uV, uV, uV, uV, uV, uV, uV, uV, uV, uV, uV, uV, uV, uV, uV, uV, uV, uV, uV, uV, uV, uV, uV, uV], []⟩) (by kernel_rfl) ?_
        have hq_ := ite_some h; clear h; rcases hq_ with ⟨c170, h⟩ | ⟨c170, h⟩
        · have c170 : vt117 ≠ 18 := c170
          refine seqRwI 70 (x := (vt117 != 18)) (v := true) (by kernel_rfl) (bne_iff_ne.mpr c170) ?_
          refine seqRwI 71 (x := (vt117 != 18)) (v := true) (by kernel_rfl) (bne_iff_ne.mpr c170) ?_
          refine seqRwI 72 (x := (vt117 != 18)) (v := true) (by kernel_rfl) (bne_iff_ne.mpr c170) ?_
          refine seqS7 (a' := ⟨#[.slice A2 l1.length c3, iV day5, uV, .pointer (some ⟨b8, 0, none⟩), .pointer (some ⟨b12, 0, none⟩), .pointer (some ⟨b34, 0, none⟩), .pointer (some ⟨b61, 0, none⟩), iV d97, .pointer (some ⟨b123, 0, none⟩), .pointer (some ⟨b127, 0, none⟩), iV vt117, .pointer (some ⟨b147, 0, none⟩), .pointer (some ⟨b151, 0, none⟩), iV vt141, (j96 6), (j96 7), uV, uV, uV, uV, uV, uV, uV, uV, uV, .bool vt20, .bool false, .slice A2 l1.length c3, .agg #[.slice A2 l1.length c3, iV 0], .pointer (some ⟨b34, 0, none⟩), .pointer (some ⟨b34, 0, none⟩), .pointer (some ⟨b34, 0, none⟩), .pointer (some ⟨b34, 0, none⟩), iV vt40, .agg #[iV vt47.X, iV vt47.Y, iV vt47.Z], .agg #[iV vt54.ID, iV vt54.Was.X, iV vt54.Was.Y, iV vt54.Was.Z, iV vt54.Here.X, iV vt54.Here.Y, iV vt54.Here.Z, iV vt54.Rate], iV day5, iV vt69, iV vt69, iV (w64 (0 - vt69)), iV d97, iV vt69, .bool true, (j96 11), (j96 12), .tuple #[.agg #[iV vt115.X, iV vt115.Y, iV vt115.Z], .agg #[iV vt116.X, iV vt116.Y, iV vt116.Z], iV vt117], .agg #[iV vt54.ID, iV vt54.Was.X, iV vt54.Was.Y, iV vt54.Was.Z, iV vt54.Here.X, iV vt54.Here.Y, iV vt54.Here.Z, iV vt54.Rate], iV d97, .tuple #[.agg #[iV vt115.X, iV vt115.Y, iV vt115.Z], .agg #[iV vt116.X, iV vt116.Y, iV vt116.Z], iV vt117], .agg #[iV vt115.X, iV vt115.Y, iV vt115.Z], .agg #[iV vt116.X, iV vt116.Y, iV vt116.Z], iV vt117, .tuple #[.agg #[iV vt139.X, iV vt139.Y, iV vt139.Z], .agg #[iV vt140.X, iV vt140.Y, iV vt140.Z], iV vt141], .agg #[iV vt54.ID, iV vt54.Was.X, iV vt54.Was.Y, iV vt54.Was.Z, iV vt54.Here.X, iV vt54.Here.Y, iV vt54.Here.Z, iV vt54.Rate], iV d97, iV (w64 (d97 + 1)), .tuple #[.agg #[iV vt139.X, iV vt139.Y, iV vt139.Z], .agg #[iV vt140.X, iV vt140.Y, iV vt140.Z], iV vt141], .agg #[iV vt139.X, iV vt139.Y, iV vt139.Z], .agg #[iV vt140.X, iV vt140.Y, iV vt140.Z], iV vt141, iV vt117, .bool true, .bool true, uV, uV, .bool true, iV vt117, .bool true, .bool true, iV vt117, .bool true, .bool true, .bool true, uV, uV, uV, uV, uV, uV, .bool true, (j96 48), (j96 49), (j96 50), (j96 51), (j96 52), (j96 53), (j96 54), (j96 55), (j96 56), (j96 57), (j96 58), (j96 59), (j96 60), (j96 61), (j96 62), (j96 63), (j96 64), (j96 65), uV, uV, uV, uV, uV, uV, uV, uV, uV, uV, uV, uV, uV, uV, uV, uV, uV, uV, uV, uV, uV, uV, uV, uV, uV, uV, uV, uV, uV, uV, uV, uV, uV, uV, uV, uV, uV, uV, uV, uV, uV, uV, uV, uV, uV, uV], []⟩) (by kernel_rfl) ?_
          refine wpList_nil ?_
          refine hK169 _ _ ?_
          refine condT (by kernel_rfl) ?_
          refine wp_seq_k (fun K171 hK172 => ?_)
          refine wp_region_lit ?_
          have HS173 := HS160.u7
          refine seqK rfl (does_store (n := 1) (vs := [.bool false]) (cs' := #[.bool false]) rfl (by kernel_rfl) (by kernel_rfl : _ = Value.pointer (some ⟨b12, 0, none⟩)) (by kernel_rfl : _ = Value.bool false) rfl rfl (by intro u_ hu_; simp only [List.mem_cons, List.not_mem_nil, or_false] at hu_; subst hu_; rfl) HS173 (Nat.le_of_ble_eq_true rfl) (by kernel_rfl) ?_)
          intro W174 HS175
          refine wpList_nil ?_
          refine hK172 _ _ ?_
          refine wp_ret ?_
          refine hr109 _ _ ?_
          refine hr85 _ _ ?_
          refine hret _ _ ?_
          refine endsM (v := Value.bool false) (results1 (q1 := .cell 4 4) (by kernel_rfl) (resC (by kernel_rfl : _ = Value.pointer (some ⟨b12, 0, none⟩)) Try.underlying4 rfl (HS175.cell 0))) (by kernel_rfl) ?_
          have HS607 := HS175.drop
          have HS608 := HS607.drop
          have HS609 := HS608.drop
          have HS610 := HS609.drop
          have HS611 := HS610.drop
          have HS612 := HS611.drop
          have HS613 := HS612.drop
          have HS614 := HS613.drop
          replace h := JR240 _ h
          injection h with h
          subst h
          exact ⟨f143, rfl, (L23.trans (L44.trans (L51.trans (L58.trans (L72.trans (L93.trans (L120.trans L144))))))), HS614⟩
        · have c170 : ¬ (vt117 ≠ 18) := c170
          refine seqRwI 70 (x := (vt117 != 18)) (v := false) (by kernel_rfl) (bne_eq_false_iff_eq.mpr (Decidable.of_not_not c170)) ?_
          refine seqRwI 71 (x := (vt117 != 18)) (v := false) (by kernel_rfl) (bne_eq_false_iff_eq.mpr (Decidable.of_not_not c170)) ?_
          refine seqRwI 72 (x := (vt117 != 18)) (v := false) (by kernel_rfl) (bne_eq_false_iff_eq.mpr (Decidable.of_not_not c170)) ?_
          refine seqS3 (a' := ⟨#[.slice A2 l1.length c3, iV day5, uV, .pointer (some ⟨b8, 0, none⟩), .pointer (some ⟨b12, 0, none⟩), .pointer (some ⟨b34, 0, none⟩), .pointer (some ⟨b61, 0, none⟩), iV d97, .pointer (some ⟨b123, 0, none⟩), .pointer (some ⟨b127, 0, none⟩), iV vt117, .pointer (some ⟨b147, 0, none⟩), .pointer (some ⟨b151, 0, none⟩), iV vt141, (j96 6), (j96 7), uV, uV, uV, uV, uV, uV, uV, uV, uV, .bool vt20, .bool false, .slice A2 l1.length c3, .agg #[.slice A2 l1.length c3, iV 0], .pointer (some ⟨b34, 0, none⟩), .pointer (some ⟨b34, 0, none⟩), .pointer (some ⟨b34, 0, none⟩), .pointer (some ⟨b34, 0, none⟩), iV vt40, .agg #[iV vt47.X, iV vt47.Y, iV vt47.Z], .agg #[iV vt54.ID, iV vt54.Was.X, iV vt54.Was.Y, iV vt54.Was.Z, iV vt54.Here.X, iV vt54.Here.Y, iV vt54.Here.Z, iV vt54.Rate], iV day5, iV vt69, iV vt69, iV (w64 (0 - vt69)), iV d97, iV vt69, .bool true, (j96 11), (j96 12), .tuple #[.agg #[iV vt115.X, iV vt115.Y, iV vt115.Z], .agg #[iV vt116.X, iV vt116.Y, iV vt116.Z], iV vt117], .agg #[iV vt54.ID, iV vt54.Was.X, iV vt54.Was.Y, iV vt54.Was.Z, iV vt54.Here.X, iV vt54.Here.Y, iV vt54.Here.Z, iV vt54.Rate], iV d97, .tuple #[.agg #[iV vt115.X, iV vt115.Y, iV vt115.Z], .agg #[iV vt116.X, iV vt116.Y, iV vt116.Z], iV vt117], .agg #[iV vt115.X, iV vt115.Y, iV vt115.Z], .agg #[iV vt116.X, iV vt116.Y, iV vt116.Z], iV vt117, .tuple #[.agg #[iV vt139.X, iV vt139.Y, iV vt139.Z], .agg #[iV vt140.X, iV vt140.Y, iV vt140.Z], iV vt141], .agg #[iV vt54.ID, iV vt54.Was.X, iV vt54.Was.Y, iV vt54.Was.Z, iV vt54.Here.X, iV vt54.Here.Y, iV vt54.Here.Z, iV vt54.Rate], iV d97, iV (w64 (d97 + 1)), .tuple #[.agg #[iV vt139.X, iV vt139.Y, iV vt139.Z], .agg #[iV vt140.X, iV vt140.Y, iV vt140.Z], iV vt141], .agg #[iV vt139.X, iV vt139.Y, iV vt139.Z], .agg #[iV vt140.X, iV vt140.Y, iV vt140.Z], iV vt141, iV vt117, .bool true, .bool true, uV, uV, .bool true, iV vt117, .bool true, .bool true, iV vt117, .bool false, .bool false, .bool false, iV vt141, .bool (vt141 != 0), .bool (vt141 != 0), (j96 44), (j96 45), (j96 46), (j96 47), (j96 48), (j96 49), (j96 50), (j96 51), (j96 52), (j96 53), (j96 54), (j96 55), (j96 56), (j96 57), (j96 58), (j96 59), (j96 60), (j96 61), (j96 62), (j96 63), (j96 64), (j96 65), uV, uV, uV, uV, uV, uV, uV, uV, uV, uV, uV, uV, uV, uV, uV, uV, uV, uV, uV, uV, uV, uV, uV, uV, uV, uV, uV, uV, uV, uV, uV, uV, uV, uV, uV, uV, uV, uV, uV, uV, uV, uV, uV, uV, uV, uV], []⟩) (by kernel_rfl) ?_
          have hq_ := ite_some h; clear h; rcases hq_ with ⟨c176, h⟩ | ⟨c176, h⟩
          · have c176 : vt141 ≠ 0 := c176
            refine seqRwI 74 (x := (vt141 != 0)) (v := true) (by kernel_rfl) (bne_iff_ne.mpr c176) ?_
            refine seqRwI 75 (x := (vt141 != 0)) (v := true) (by kernel_rfl) (bne_iff_ne.mpr c176) ?_
            refine seqS4 (a' := ⟨#[.slice A2 l1.length c3, iV day5, uV, .pointer (some ⟨b8, 0, none⟩), .pointer (some ⟨b12, 0, none⟩), .pointer (some ⟨b34, 0, none⟩), .pointer (some ⟨b61, 0, none⟩), iV d97, .pointer (some ⟨b123, 0, none⟩), .pointer (some ⟨b127, 0, none⟩), iV vt117, .pointer (some ⟨b147, 0, none⟩), .pointer (some ⟨b151, 0, none⟩), iV vt141, (j96 6), (j96 7), uV, uV, uV, uV, uV, uV, uV, uV, uV, .bool vt20, .bool false, .slice A2 l1.length c3, .agg #[.slice A2 l1.length c3, iV 0], .pointer (some ⟨b34, 0, none⟩), .pointer (some ⟨b34, 0, none⟩), .pointer (some ⟨b34, 0, none⟩), .pointer (some ⟨b34, 0, none⟩), iV vt40, .agg #[iV vt47.X, iV vt47.Y, iV vt47.Z], .agg #[iV vt54.ID, iV vt54.Was.X, iV vt54.Was.Y, iV vt54.Was.Z, iV vt54.Here.X, iV vt54.Here.Y, iV vt54.Here.Z, iV vt54.Rate], iV day5, iV vt69, iV vt69, iV (w64 (0 - vt69)), iV d97, iV vt69, .bool true, (j96 11), (j96 12), .tuple #[.agg #[iV vt115.X, iV vt115.Y, iV vt115.Z], .agg #[iV vt116.X, iV vt116.Y, iV vt116.Z], iV vt117], .agg #[iV vt54.ID, iV vt54.Was.X, iV vt54.Was.Y, iV vt54.Was.Z, iV vt54.Here.X, iV vt54.Here.Y, iV vt54.Here.Z, iV vt54.Rate], iV d97, .tuple #[.agg #[iV vt115.X, iV vt115.Y, iV vt115.Z], .agg #[iV vt116.X, iV vt116.Y, iV vt116.Z], iV vt117], .agg #[iV vt115.X, iV vt115.Y, iV vt115.Z], .agg #[iV vt116.X, iV vt116.Y, iV vt116.Z], iV vt117, .tuple #[.agg #[iV vt139.X, iV vt139.Y, iV vt139.Z], .agg #[iV vt140.X, iV vt140.Y, iV vt140.Z], iV vt141], .agg #[iV vt54.ID, iV vt54.Was.X, iV vt54.Was.Y, iV vt54.Was.Z, iV vt54.Here.X, iV vt54.Here.Y, iV vt54.Here.Z, iV vt54.Rate], iV d97, iV (w64 (d97 + 1)), .tuple #[.agg #[iV vt139.X, iV vt139.Y, iV vt139.Z], .agg #[iV vt140.X, iV vt140.Y, iV vt140.Z], iV vt141], .agg #[iV vt139.X, iV vt139.Y, iV vt139.Z], .agg #[iV vt140.X, iV vt140.Y, iV vt140.Z], iV vt141, iV vt117, .bool true, .bool true, uV, uV, .bool true, iV vt117, .bool true, .bool true, iV vt117, .bool false, .bool false, .bool false, iV vt141, .bool true, .bool true, iV vt141, .bool (vt141 != 18), .bool (vt141 != 18), .bool (vt141 != 18), (j96 48), (j96 49), (j96 50), (j96 51), (j96 52), (j96 53), (j96 54), (j96 55), (j96 56), (j96 57), (j96 58), (j96 59), (j96 60), (j96 61), (j96 62), (j96 63), (j96 64), (j96 65), uV, uV, uV, uV, uV, uV, uV, uV, uV, uV, uV, uV, uV, uV, uV, uV, uV, uV, uV, uV, uV, uV, uV, uV, uV, uV, uV, uV, uV, uV, uV, uV, uV, uV, uV, uV, uV, uV, uV, uV, uV, uV, uV, uV, uV, uV], []⟩) (by kernel_rfl) ?_
            refine wpList_nil ?_
            refine hK169 _ _ ?_
            have hq_ := ite_some h; clear h; rcases hq_ with ⟨c178, h⟩ | ⟨c178, h⟩
            · have c178 : vt141 ≠ 18 := c178
              refine wpRwI 77 (x := (vt141 != 18)) (v := true) (by kernel_rfl) (bne_iff_ne.mpr c178) ?_
              refine wpRwI 78 (x := (vt141 != 18)) (v := true) (by kernel_rfl) (bne_iff_ne.mpr c178) ?_
              refine wpRwI 79 (x := (vt141 != 18)) (v := true) (by kernel_rfl) (bne_iff_ne.mpr c178) ?_
              refine condT (by kernel_rfl) ?_
              refine wp_seq_k (fun K179 hK180 => ?_)
              refine wp_region_lit ?_
              have HS181 := HS160.u7
              refine seqK rfl (does_store (n := 1) (vs := [.bool false]) (cs' := #[.bool false]) rfl (by kernel_rfl) (by kernel_rfl : _ = Value.pointer (some ⟨b12, 0, none⟩)) (by kernel_rfl : _ = Value.bool false) rfl rfl (by intro u_ hu_; simp only [List.mem_cons, List.not_mem_nil, or_false] at hu_; subst hu_; rfl) HS181 (Nat.le_of_ble_eq_true rfl) (by kernel_rfl) ?_)
              intro W182 HS183
              refine wpList_nil ?_
              refine hK180 _ _ ?_
              refine wp_ret ?_
              refine hr109 _ _ ?_
              refine hr85 _ _ ?_
              refine hret _ _ ?_
              refine endsM (v := Value.bool false) (results1 (q1 := .cell 4 4) (by kernel_rfl) (resC (by kernel_rfl : _ = Value.pointer (some ⟨b12, 0, none⟩)) Try.underlying4 rfl (HS183.cell 0))) (by kernel_rfl) ?_
              have HS615 := HS183.drop
              have HS616 := HS615.drop
              have HS617 := HS616.drop
              have HS618 := HS617.drop
              have HS619 := HS618.drop
              have HS620 := HS619.drop
              have HS621 := HS620.drop
              have HS622 := HS621.drop
              replace h := JR240 _ h
              injection h with h
              subst h
              exact ⟨f143, rfl, (L23.trans (L44.trans (L51.trans (L58.trans (L72.trans (L93.trans (L120.trans L144))))))), HS622⟩
            · have c178 : ¬ (vt141 ≠ 18) := c178
              refine wpRwI 77 (x := (vt141 != 18)) (v := false) (by kernel_rfl) (bne_eq_false_iff_eq.mpr (Decidable.of_not_not c178)) ?_
              refine wpRwI 78 (x := (vt141 != 18)) (v := false) (by kernel_rfl) (bne_eq_false_iff_eq.mpr (Decidable.of_not_not c178)) ?_
              refine wpRwI 79 (x := (vt141 != 18)) (v := false) (by kernel_rfl) (bne_eq_false_iff_eq.mpr (Decidable.of_not_not c178)) ?_
              refine condF (by kernel_rfl) ?_
              refine wp_skip ?_
              refine hK167 _ _ ?_
              refine wp_exit ?_
              refine hx107 _ _ ?_
              refine hK105 _ _ ?_
              refine wp_region_lit ?_
              refine seqS3 (a' := ⟨#[.slice A2 l1.length c3, iV day5, uV, .pointer (some ⟨b8, 0, none⟩), .pointer (some ⟨b12, 0, none⟩), .pointer (some ⟨b34, 0, none⟩), .pointer (some ⟨b61, 0, none⟩), iV (w64 (d97 + 1)), .pointer (some ⟨b123, 0, none⟩), .pointer (some ⟨b127, 0, none⟩), iV vt117, .pointer (some ⟨b147, 0, none⟩), .pointer (some ⟨b151, 0, none⟩), iV vt141, (j96 6), (j96 7), uV, uV, uV, uV, uV, uV, uV, uV, uV, .bool vt20, .bool false, .slice A2 l1.length c3, .agg #[.slice A2 l1.length c3, iV 0], .pointer (some ⟨b34, 0, none⟩), .pointer (some ⟨b34, 0, none⟩), .pointer (some ⟨b34, 0, none⟩), .pointer (some ⟨b34, 0, none⟩), iV vt40, .agg #[iV vt47.X, iV vt47.Y, iV vt47.Z], .agg #[iV vt54.ID, iV vt54.Was.X, iV vt54.Was.Y, iV vt54.Was.Z, iV vt54.Here.X, iV vt54.Here.Y, iV vt54.Here.Z, iV vt54.Rate], iV day5, iV vt69, iV vt69, iV (w64 (0 - vt69)), iV d97, iV vt69, .bool true, iV d97, iV (w64 (d97 + 1)), .tuple #[.agg #[iV vt115.X, iV vt115.Y, iV vt115.Z], .agg #[iV vt116.X, iV vt116.Y, iV vt116.Z], iV vt117], .agg #[iV vt54.ID, iV vt54.Was.X, iV vt54.Was.Y, iV vt54.Was.Z, iV vt54.Here.X, iV vt54.Here.Y, iV vt54.Here.Z, iV vt54.Rate], iV d97, .tuple #[.agg #[iV vt115.X, iV vt115.Y, iV vt115.Z], .agg #[iV vt116.X, iV vt116.Y, iV vt116.Z], iV vt117], .agg #[iV vt115.X, iV vt115.Y, iV vt115.Z], .agg #[iV vt116.X, iV vt116.Y, iV vt116.Z], iV vt117, .tuple #[.agg #[iV vt139.X, iV vt139.Y, iV vt139.Z], .agg #[iV vt140.X, iV vt140.Y, iV vt140.Z], iV vt141], .agg #[iV vt54.ID, iV vt54.Was.X, iV vt54.Was.Y, iV vt54.Was.Z, iV vt54.Here.X, iV vt54.Here.Y, iV vt54.Here.Z, iV vt54.Rate], iV d97, iV (w64 (d97 + 1)), .tuple #[.agg #[iV vt139.X, iV vt139.Y, iV vt139.Z], .agg #[iV vt140.X, iV vt140.Y, iV vt140.Z], iV vt141], .agg #[iV vt139.X, iV vt139.Y, iV vt139.Z], .agg #[iV vt140.X, iV vt140.Y, iV vt140.Z], iV vt141, iV vt117, .bool true, .bool true, uV, uV, .bool true, iV vt117, .bool true, .bool true, iV vt117, .bool false, .bool false, .bool false, iV vt141, .bool true, .bool true, iV vt141, .bool false, .bool false, .bool false, (j96 48), (j96 49), (j96 50), (j96 51), (j96 52), (j96 53), (j96 54), (j96 55), (j96 56), (j96 57), (j96 58), (j96 59), (j96 60), (j96 61), (j96 62), (j96 63), (j96 64), (j96 65), uV, uV, uV, uV, uV, uV, uV, uV, uV, uV, uV, uV, uV, uV, uV, uV, uV, uV, uV, uV, uV, uV, uV, uV, uV, uV, uV, uV, uV, uV, uV, uV, uV, uV, uV, uV, uV, uV, uV, uV, uV, uV, uV, uV, uV, uV], []⟩) (by kernel_rfl) ?_
              refine wpList_nil ?_
              refine hK90 n91 _ _ (Nat.lt_succ_self _) ?_
              have HS242 := HS160.u7
              have HS243 := HS242.u7
              have HS244 := HS243.u7
              have HS245 := HS244.u7
              have HS246 := HS245.u7
              have HS247 := HS246.u7
              have HS248 := HS247.u7
              have HS249 := HS248.u7
              have HS250 := HS249.drop
              have HS251 := HS250.drop
              have HS252 := HS251.drop
              have HS253 := HS252.drop
              exact ⟨f143, (w64 (d97 + 1)), (fun i_ => [Value.pointer (some ⟨b123, 0, none⟩), Value.pointer (some ⟨b127, 0, none⟩), Value.int .i64 vt117, Value.pointer (some ⟨b147, 0, none⟩), Value.pointer (some ⟨b151, 0, none⟩), Value.int .i64 vt141, (j96 6), (j96 7), Value.int .i64 d97, Value.int .i64 vt69, Value.bool true, Value.int .i64 d97, Value.int .i64 (w64 (d97 + 1)), Value.tuple #[.agg #[.int .i64 vt115.X, .int .i64 vt115.Y, .int .i64 vt115.Z], .agg #[.int .i64 vt116.X, .int .i64 vt116.Y, .int .i64 vt116.Z], .int .i64 vt117], Value.agg #[.int .i64 vt54.ID, .int .i64 vt54.Was.X, .int .i64 vt54.Was.Y, .int .i64 vt54.Was.Z, .int .i64 vt54.Here.X, .int .i64 vt54.Here.Y, .int .i64 vt54.Here.Z, .int .i64 vt54.Rate], Value.int .i64 d97, Value.tuple #[.agg #[.int .i64 vt115.X, .int .i64 vt115.Y, .int .i64 vt115.Z], .agg #[.int .i64 vt116.X, .int .i64 vt116.Y, .int .i64 vt116.Z], .int .i64 vt117], Value.agg #[.int .i64 vt115.X, .int .i64 vt115.Y, .int .i64 vt115.Z], Value.agg #[.int .i64 vt116.X, .int .i64 vt116.Y, .int .i64 vt116.Z], Value.int .i64 vt117, Value.tuple #[.agg #[.int .i64 vt139.X, .int .i64 vt139.Y, .int .i64 vt139.Z], .agg #[.int .i64 vt140.X, .int .i64 vt140.Y, .int .i64 vt140.Z], .int .i64 vt141], Value.agg #[.int .i64 vt54.ID, .int .i64 vt54.Was.X, .int .i64 vt54.Was.Y, .int .i64 vt54.Was.Z, .int .i64 vt54.Here.X, .int .i64 vt54.Here.Y, .int .i64 vt54.Here.Z, .int .i64 vt54.Rate], Value.int .i64 d97, Value.int .i64 (w64 (d97 + 1)), Value.tuple #[.agg #[.int .i64 vt139.X, .int .i64 vt139.Y, .int .i64 vt139.Z], .agg #[.int .i64 vt140.X, .int .i64 vt140.Y, .int .i64 vt140.Z], .int .i64 vt141], Value.agg #[.int .i64 vt139.X, .int .i64 vt139.Y, .int .i64 vt139.Z], Value.agg #[.int .i64 vt140.X, .int .i64 vt140.Y, .int .i64 vt140.Z], Value.int .i64 vt141, Value.int .i64 vt117, Value.bool true, Value.bool true, undef, undef, Value.bool true, Value.int .i64 vt117, Value.bool true, Value.bool true, Value.int .i64 vt117, Value.bool false, Value.bool false, Value.bool false, Value.int .i64 vt141, Value.bool true, Value.bool true, Value.int .i64 vt141, Value.bool false, Value.bool false, Value.bool false, (j96 48), (j96 49), (j96 50), (j96 51), (j96 52), (j96 53), (j96 54), (j96 55), (j96 56), (j96 57), (j96 58), (j96 59), (j96 60), (j96 61), (j96 62), (j96 63), (j96 64), (j96 65)].getD i_ undef), (L93.trans (L120.trans L144)), HS253, h, (by kernel_rfl)⟩
          · have c176 : ¬ (vt141 ≠ 0) := c176
            refine seqRwI 74 (x := (vt141 != 0)) (v := false) (by kernel_rfl) (bne_eq_false_iff_eq.mpr (Decidable.of_not_not c176)) ?_
            refine seqRwI 75 (x := (vt141 != 0)) (v := false) (by kernel_rfl) (bne_eq_false_iff_eq.mpr (Decidable.of_not_not c176)) ?_
            refine seqS4 (a' := ⟨#[.slice A2 l1.length c3, iV day5, uV, .pointer (some ⟨b8, 0, none⟩), .pointer (some ⟨b12, 0, none⟩), .pointer (some ⟨b34, 0, none⟩), .pointer (some ⟨b61, 0, none⟩), iV d97, .pointer (some ⟨b123, 0, none⟩), .pointer (some ⟨b127, 0, none⟩), iV vt117, .pointer (some ⟨b147, 0, none⟩), .pointer (some ⟨b151, 0, none⟩), iV vt141, (j96 6), (j96 7), uV, uV, uV, uV, uV, uV, uV, uV, uV, .bool vt20, .bool false, .slice A2 l1.length c3, .agg #[.slice A2 l1.length c3, iV 0], .pointer (some ⟨b34, 0, none⟩), .pointer (some ⟨b34, 0, none⟩), .pointer (some ⟨b34, 0, none⟩), .pointer (some ⟨b34, 0, none⟩), iV vt40, .agg #[iV vt47.X, iV vt47.Y, iV vt47.Z], .agg #[iV vt54.ID, iV vt54.Was.X, iV vt54.Was.Y, iV vt54.Was.Z, iV vt54.Here.X, iV vt54.Here.Y, iV vt54.Here.Z, iV vt54.Rate], iV day5, iV vt69, iV vt69, iV (w64 (0 - vt69)), iV d97, iV vt69, .bool true, (j96 11), (j96 12), .tuple #[.agg #[iV vt115.X, iV vt115.Y, iV vt115.Z], .agg #[iV vt116.X, iV vt116.Y, iV vt116.Z], iV vt117], .agg #[iV vt54.ID, iV vt54.Was.X, iV vt54.Was.Y, iV vt54.Was.Z, iV vt54.Here.X, iV vt54.Here.Y, iV vt54.Here.Z, iV vt54.Rate], iV d97, .tuple #[.agg #[iV vt115.X, iV vt115.Y, iV vt115.Z], .agg #[iV vt116.X, iV vt116.Y, iV vt116.Z], iV vt117], .agg #[iV vt115.X, iV vt115.Y, iV vt115.Z], .agg #[iV vt116.X, iV vt116.Y, iV vt116.Z], iV vt117, .tuple #[.agg #[iV vt139.X, iV vt139.Y, iV vt139.Z], .agg #[iV vt140.X, iV vt140.Y, iV vt140.Z], iV vt141], .agg #[iV vt54.ID, iV vt54.Was.X, iV vt54.Was.Y, iV vt54.Was.Z, iV vt54.Here.X, iV vt54.Here.Y, iV vt54.Here.Z, iV vt54.Rate], iV d97, iV (w64 (d97 + 1)), .tuple #[.agg #[iV vt139.X, iV vt139.Y, iV vt139.Z], .agg #[iV vt140.X, iV vt140.Y, iV vt140.Z], iV vt141], .agg #[iV vt139.X, iV vt139.Y, iV vt139.Z], .agg #[iV vt140.X, iV vt140.Y, iV vt140.Z], iV vt141, iV vt117, .bool true, .bool true, uV, uV, .bool true, iV vt117, .bool true, .bool true, iV vt117, .bool false, .bool false, .bool false, iV vt141, .bool false, .bool false, uV, uV, .bool false, .bool false, (j96 48), (j96 49), (j96 50), (j96 51), (j96 52), (j96 53), (j96 54), (j96 55), (j96 56), (j96 57), (j96 58), (j96 59), (j96 60), (j96 61), (j96 62), (j96 63), (j96 64), (j96 65), uV, uV, uV, uV, uV, uV, uV, uV, uV, uV, uV, uV, uV, uV, uV, uV, uV, uV, uV, uV, uV, uV, uV, uV, uV, uV, uV, uV, uV, uV, uV, uV, uV, uV, uV, uV, uV, uV, uV, uV, uV, uV, uV, uV, uV, uV], []⟩) (by kernel_rfl) ?_
            refine wpList_nil ?_
            refine hK169 _ _ ?_
            refine condF (by kernel_rfl) ?_
            refine wp_skip ?_
            refine hK167 _ _ ?_
            refine wp_exit ?_
            refine hx107 _ _ ?_
            refine hK105 _ _ ?_
            refine wp_region_lit ?_
            refine seqS3 (a' := ⟨#[.slice A2 l1.length c3, iV day5, uV, .pointer (some ⟨b8, 0, none⟩), .pointer (some ⟨b12, 0, none⟩), .pointer (some ⟨b34, 0, none⟩), .pointer (some ⟨b61, 0, none⟩), iV (w64 (d97 + 1)), .pointer (some ⟨b123, 0, none⟩), .pointer (some ⟨b127, 0, none⟩), iV vt117, .pointer (some ⟨b147, 0, none⟩), .pointer (some ⟨b151, 0, none⟩), iV vt141, (j96 6), (j96 7), uV, uV, uV, uV, uV, uV, uV, uV, uV, .bool vt20, .bool false, .slice A2 l1.length c3, .agg #[.slice A2 l1.length c3, iV 0], .pointer (some ⟨b34, 0, none⟩), .pointer (some ⟨b34, 0, none⟩), .pointer (some ⟨b34, 0, none⟩), .pointer (some ⟨b34, 0, none⟩), iV vt40, .agg #[iV vt47.X, iV vt47.Y, iV vt47.Z], .agg #[iV vt54.ID, iV vt54.Was.X, iV vt54.Was.Y, iV vt54.Was.Z, iV vt54.Here.X, iV vt54.Here.Y, iV vt54.Here.Z, iV vt54.Rate], iV day5, iV vt69, iV vt69, iV (w64 (0 - vt69)), iV d97, iV vt69, .bool true, iV d97, iV (w64 (d97 + 1)), .tuple #[.agg #[iV vt115.X, iV vt115.Y, iV vt115.Z], .agg #[iV vt116.X, iV vt116.Y, iV vt116.Z], iV vt117], .agg #[iV vt54.ID, iV vt54.Was.X, iV vt54.Was.Y, iV vt54.Was.Z, iV vt54.Here.X, iV vt54.Here.Y, iV vt54.Here.Z, iV vt54.Rate], iV d97, .tuple #[.agg #[iV vt115.X, iV vt115.Y, iV vt115.Z], .agg #[iV vt116.X, iV vt116.Y, iV vt116.Z], iV vt117], .agg #[iV vt115.X, iV vt115.Y, iV vt115.Z], .agg #[iV vt116.X, iV vt116.Y, iV vt116.Z], iV vt117, .tuple #[.agg #[iV vt139.X, iV vt139.Y, iV vt139.Z], .agg #[iV vt140.X, iV vt140.Y, iV vt140.Z], iV vt141], .agg #[iV vt54.ID, iV vt54.Was.X, iV vt54.Was.Y, iV vt54.Was.Z, iV vt54.Here.X, iV vt54.Here.Y, iV vt54.Here.Z, iV vt54.Rate], iV d97, iV (w64 (d97 + 1)), .tuple #[.agg #[iV vt139.X, iV vt139.Y, iV vt139.Z], .agg #[iV vt140.X, iV vt140.Y, iV vt140.Z], iV vt141], .agg #[iV vt139.X, iV vt139.Y, iV vt139.Z], .agg #[iV vt140.X, iV vt140.Y, iV vt140.Z], iV vt141, iV vt117, .bool true, .bool true, uV, uV, .bool true, iV vt117, .bool true, .bool true, iV vt117, .bool false, .bool false, .bool false, iV vt141, .bool false, .bool false, uV, uV, .bool false, .bool false, (j96 48), (j96 49), (j96 50), (j96 51), (j96 52), (j96 53), (j96 54), (j96 55), (j96 56), (j96 57), (j96 58), (j96 59), (j96 60), (j96 61), (j96 62), (j96 63), (j96 64), (j96 65), uV, uV, uV, uV, uV, uV, uV, uV, uV, uV, uV, uV, uV, uV, uV, uV, uV, uV, uV, uV, uV, uV, uV, uV, uV, uV, uV, uV, uV, uV, uV, uV, uV, uV, uV, uV, uV, uV, uV, uV, uV, uV, uV, uV, uV, uV], []⟩) (by kernel_rfl) ?_
            refine wpList_nil ?_
            refine hK90 n91 _ _ (Nat.lt_succ_self _) ?_
            have HS254 := HS160.u7
            have HS255 := HS254.u7
            have HS256 := HS255.u7
            have HS257 := HS256.u7
            have HS258 := HS257.u7
            have HS259 := HS258.u7
            have HS260 := HS259.u7
            have HS261 := HS260.u7
            have HS262 := HS261.drop
            have HS263 := HS262.drop
            have HS264 := HS263.drop
            have HS265 := HS264.drop
            exact ⟨f143, (w64 (d97 + 1)), (fun i_ => [Value.pointer (some ⟨b123, 0, none⟩), Value.pointer (some ⟨b127, 0, none⟩), Value.int .i64 vt117, Value.pointer (some ⟨b147, 0, none⟩), Value.pointer (some ⟨b151, 0, none⟩), Value.int .i64 vt141, (j96 6), (j96 7), Value.int .i64 d97, Value.int .i64 vt69, Value.bool true, Value.int .i64 d97, Value.int .i64 (w64 (d97 + 1)), Value.tuple #[.agg #[.int .i64 vt115.X, .int .i64 vt115.Y, .int .i64 vt115.Z], .agg #[.int .i64 vt116.X, .int .i64 vt116.Y, .int .i64 vt116.Z], .int .i64 vt117], Value.agg #[.int .i64 vt54.ID, .int .i64 vt54.Was.X, .int .i64 vt54.Was.Y, .int .i64 vt54.Was.Z, .int .i64 vt54.Here.X, .int .i64 vt54.Here.Y, .int .i64 vt54.Here.Z, .int .i64 vt54.Rate], Value.int .i64 d97, Value.tuple #[.agg #[.int .i64 vt115.X, .int .i64 vt115.Y, .int .i64 vt115.Z], .agg #[.int .i64 vt116.X, .int .i64 vt116.Y, .int .i64 vt116.Z], .int .i64 vt117], Value.agg #[.int .i64 vt115.X, .int .i64 vt115.Y, .int .i64 vt115.Z], Value.agg #[.int .i64 vt116.X, .int .i64 vt116.Y, .int .i64 vt116.Z], Value.int .i64 vt117, Value.tuple #[.agg #[.int .i64 vt139.X, .int .i64 vt139.Y, .int .i64 vt139.Z], .agg #[.int .i64 vt140.X, .int .i64 vt140.Y, .int .i64 vt140.Z], .int .i64 vt141], Value.agg #[.int .i64 vt54.ID, .int .i64 vt54.Was.X, .int .i64 vt54.Was.Y, .int .i64 vt54.Was.Z, .int .i64 vt54.Here.X, .int .i64 vt54.Here.Y, .int .i64 vt54.Here.Z, .int .i64 vt54.Rate], Value.int .i64 d97, Value.int .i64 (w64 (d97 + 1)), Value.tuple #[.agg #[.int .i64 vt139.X, .int .i64 vt139.Y, .int .i64 vt139.Z], .agg #[.int .i64 vt140.X, .int .i64 vt140.Y, .int .i64 vt140.Z], .int .i64 vt141], Value.agg #[.int .i64 vt139.X, .int .i64 vt139.Y, .int .i64 vt139.Z], Value.agg #[.int .i64 vt140.X, .int .i64 vt140.Y, .int .i64 vt140.Z], Value.int .i64 vt141, Value.int .i64 vt117, Value.bool true, Value.bool true, undef, undef, Value.bool true, Value.int .i64 vt117, Value.bool true, Value.bool true, Value.int .i64 vt117, Value.bool false, Value.bool false, Value.bool false, Value.int .i64 vt141, Value.bool false, Value.bool false, undef, undef, Value.bool false, Value.bool false, (j96 48), (j96 49), (j96 50), (j96 51), (j96 52), (j96 53), (j96 54), (j96 55), (j96 56), (j96 57), (j96 58), (j96 59), (j96 60), (j96 61), (j96 62), (j96 63), (j96 64), (j96 65)].getD i_ undef), (L93.trans (L120.trans L144)), HS265, h, (by kernel_rfl)⟩
      · have c165 : ¬ (vt117 ≠ 0) := c165
        refine seqRwI 61 (x := (vt117 != 0)) (v := false) (by kernel_rfl) (bne_eq_false_iff_eq.mpr (Decidable.of_not_not c165)) ?_
        refine seqRwI 62 (x := (vt117 != 0)) (v := false) (by kernel_rfl) (bne_eq_false_iff_eq.mpr (Decidable.of_not_not c165)) ?_
        refine seqS3 (a' := ⟨#[.slice A2 l1.length c3, iV day5, uV, .pointer (some ⟨b8, 0, none⟩), .pointer (some ⟨b12, 0, none⟩), .pointer (some ⟨b34, 0, none⟩), .pointer (some ⟨b61, 0, none⟩), iV d97, .pointer (some ⟨b123, 0, none⟩), .pointer (some ⟨b127, 0, none⟩), iV vt117, .pointer (some ⟨b147, 0, none⟩), .pointer (some ⟨b151, 0, none⟩), iV vt141, (j96 6), (j96 7), uV, uV, uV, uV, uV, uV, uV, uV, uV, .bool vt20, .bool false, .slice A2 l1.length c3, .agg #[.slice A2 l1.length c3, iV 0], .pointer (some ⟨b34, 0, none⟩), .pointer (some ⟨b34, 0, none⟩), .pointer (some ⟨b34, 0, none⟩), .pointer (some ⟨b34, 0, none⟩), iV vt40, .agg #[iV vt47.X, iV vt47.Y, iV vt47.Z], .agg #[iV vt54.ID, iV vt54.Was.X, iV vt54.Was.Y, iV vt54.Was.Z, iV vt54.Here.X, iV vt54.Here.Y, iV vt54.Here.Z, iV vt54.Rate], iV day5, iV vt69, iV vt69, iV (w64 (0 - vt69)), iV d97, iV vt69, .bool true, (j96 11), (j96 12), .tuple #[.agg #[iV vt115.X, iV vt115.Y, iV vt115.Z], .agg #[iV vt116.X, iV vt116.Y, iV vt116.Z], iV vt117], .agg #[iV vt54.ID, iV vt54.Was.X, iV vt54.Was.Y, iV vt54.Was.Z, iV vt54.Here.X, iV vt54.Here.Y, iV vt54.Here.Z, iV vt54.Rate], iV d97, .tuple #[.agg #[iV vt115.X, iV vt115.Y, iV vt115.Z], .agg #[iV vt116.X, iV vt116.Y, iV vt116.Z], iV vt117], .agg #[iV vt115.X, iV vt115.Y, iV vt115.Z], .agg #[iV vt116.X, iV vt116.Y, iV vt116.Z], iV vt117, .tuple #[.agg #[iV vt139.X, iV vt139.Y, iV vt139.Z], .agg #[iV vt140.X, iV vt140.Y, iV vt140.Z], iV vt141], .agg #[iV vt54.ID, iV vt54.Was.X, iV vt54.Was.Y, iV vt54.Was.Z, iV vt54.Here.X, iV vt54.Here.Y, iV vt54.Here.Z, iV vt54.Rate], iV d97, iV (w64 (d97 + 1)), .tuple #[.agg #[iV vt139.X, iV vt139.Y, iV vt139.Z], .agg #[iV vt140.X, iV vt140.Y, iV vt140.Z], iV vt141], .agg #[iV vt139.X, iV vt139.Y, iV vt139.Z], .agg #[iV vt140.X, iV vt140.Y, iV vt140.Z], iV vt141, iV vt117, .bool false, .bool false, iV vt141, .bool (vt141 != 0), .bool (vt141 != 0), (j96 34), (j96 35), (j96 36), (j96 37), (j96 38), (j96 39), (j96 40), (j96 41), (j96 42), (j96 43), (j96 44), (j96 45), (j96 46), (j96 47), (j96 48), (j96 49), (j96 50), (j96 51), (j96 52), (j96 53), (j96 54), (j96 55), (j96 56), (j96 57), (j96 58), (j96 59), (j96 60), (j96 61), (j96 62), (j96 63), (j96 64), (j96 65), uV, uV, uV, uV, uV, uV, uV, uV, uV, uV, uV, uV, uV, uV, uV, uV, uV, uV, uV, uV, uV, uV, uV, uV, uV, uV, uV, uV, uV, uV, uV, uV, uV, uV, uV, uV, uV, uV, uV, uV, uV, uV, uV, uV, uV, uV], []⟩) (by kernel_rfl) ?_
        refine wpList_nil ?_
        refine hK164 _ _ ?_
        have hq_ := ite_some h; clear h; rcases hq_ with ⟨c185, h⟩ | ⟨c185, h⟩
        · have c185 : vt141 ≠ 0 := c185
          refine wpRwI 64 (x := (vt141 != 0)) (v := true) (by kernel_rfl) (bne_iff_ne.mpr c185) ?_
          refine wpRwI 65 (x := (vt141 != 0)) (v := true) (by kernel_rfl) (bne_iff_ne.mpr c185) ?_
          refine condT (by kernel_rfl) ?_
          refine wp_seq_k (fun K186 hK187 => ?_)
          refine wp_seq_k (fun K188 hK189 => ?_)
          refine wp_region_lit ?_
          refine seqS3 (a' := ⟨#[.slice A2 l1.length c3, iV day5, uV, .pointer (some ⟨b8, 0, none⟩), .pointer (some ⟨b12, 0, none⟩), .pointer (some ⟨b34, 0, none⟩), .pointer (some ⟨b61, 0, none⟩), iV d97, .pointer (some ⟨b123, 0, none⟩), .pointer (some ⟨b127, 0, none⟩), iV vt117, .pointer (some ⟨b147, 0, none⟩), .pointer (some ⟨b151, 0, none⟩), iV vt141, (j96 6), (j96 7), uV, uV, uV, uV, uV, uV, uV, uV, uV, .bool vt20, .bool false, .slice A2 l1.length c3, .agg #[.slice A2 l1.length c3, iV 0], .pointer (some ⟨b34, 0, none⟩), .pointer (some ⟨b34, 0, none⟩), .pointer (some ⟨b34, 0, none⟩), .pointer (some ⟨b34, 0, none⟩), iV vt40, .agg #[iV vt47.X, iV vt47.Y, iV vt47.Z], .agg #[iV vt54.ID, iV vt54.Was.X, iV vt54.Was.Y, iV vt54.Was.Z, iV vt54.Here.X, iV vt54.Here.Y, iV vt54.Here.Z, iV vt54.Rate], iV day5, iV vt69, iV vt69, iV (w64 (0 - vt69)), iV d97, iV vt69, .bool true, (j96 11), (j96 12), .tuple #[.agg #[iV vt115.X, iV vt115.Y, iV vt115.Z], .agg #[iV vt116.X, iV vt116.Y, iV vt116.Z], iV vt117], .agg #[iV vt54.ID, iV vt54.Was.X, iV vt54.Was.Y, iV vt54.Was.Z, iV vt54.Here.X, iV vt54.Here.Y, iV vt54.Here.Z, iV vt54.Rate], iV d97, .tuple #[.agg #[iV vt115.X, iV vt115.Y, iV vt115.Z], .agg #[iV vt116.X, iV vt116.Y, iV vt116.Z], iV vt117], .agg #[iV vt115.X, iV vt115.Y, iV vt115.Z], .agg #[iV vt116.X, iV vt116.Y, iV vt116.Z], iV vt117, .tuple #[.agg #[iV vt139.X, iV vt139.Y, iV vt139.Z], .agg #[iV vt140.X, iV vt140.Y, iV vt140.Z], iV vt141], .agg #[iV vt54.ID, iV vt54.Was.X, iV vt54.Was.Y, iV vt54.Was.Z, iV vt54.Here.X, iV vt54.Here.Y, iV vt54.Here.Z, iV vt54.Rate], iV d97, iV (w64 (d97 + 1)), .tuple #[.agg #[iV vt139.X, iV vt139.Y, iV vt139.Z], .agg #[iV vt140.X, iV vt140.Y, iV vt140.Z], iV vt141], .agg #[iV vt139.X, iV vt139.Y, iV vt139.Z], .agg #[iV vt140.X, iV vt140.Y, iV vt140.Z], iV vt141, iV vt117, .bool false, .bool false, iV vt141, .bool true, .bool true, iV vt117, .bool (vt117 != 0), .bool (vt117 != 0), (j96 37), (j96 38), (j96 39), (j96 40), (j96 41), (j96 42), (j96 43), (j96 44), (j96 45), (j96 46), (j96 47), (j96 48), (j96 49), (j96 50), (j96 51), (j96 52), (j96 53), (j96 54), (j96 55), (j96 56), (j96 57), (j96 58), (j96 59), (j96 60), (j96 61), (j96 62), (j96 63), (j96 64), (j96 65), uV, uV, uV, uV, uV, uV, uV, uV, uV, uV, uV, uV, uV, uV, uV, uV, uV, uV, uV, uV, uV, uV, uV, uV, uV, uV, uV, uV, uV, uV, uV, uV, uV, uV, uV, uV, uV, uV, uV, uV, uV, uV, uV, uV, uV, uV], []⟩) (by kernel_rfl) ?_
          refine seqRwI 67 (x := (vt117 != 0)) (v := false) (by kernel_rfl) (bne_eq_false_iff_eq.mpr (Decidable.of_not_not c165)) ?_
          refine seqRwI 68 (x := (vt117 != 0)) (v := false) (by kernel_rfl) (bne_eq_false_iff_eq.mpr (Decidable.of_not_not c165)) ?_
          refine seqS7 (a' := ⟨#[.slice A2 l1.length c3, iV day5, uV, .pointer (some ⟨b8, 0, none⟩), .pointer (some ⟨b12, 0, none⟩), .pointer (some ⟨b34, 0, none⟩), .pointer (some ⟨b61, 0, none⟩), iV d97, .pointer (some ⟨b123, 0, none⟩), .pointer (some ⟨b127, 0, none⟩), iV vt117, .pointer (some ⟨b147, 0, none⟩), .pointer (some ⟨b151, 0, none⟩), iV vt141, (j96 6), (j96 7), uV, uV, uV, uV, uV, uV, uV, uV, uV, .bool vt20, .bool false, .slice A2 l1.length c3, .agg #[.slice A2 l1.length c3, iV 0], .pointer (some ⟨b34, 0, none⟩), .pointer (some ⟨b34, 0, none⟩), .pointer (some ⟨b34, 0, none⟩), .pointer (some ⟨b34, 0, none⟩), iV vt40, .agg #[iV vt47.X, iV vt47.Y, iV vt47.Z], .agg #[iV vt54.ID, iV vt54.Was.X, iV vt54.Was.Y, iV vt54.Was.Z, iV vt54.Here.X, iV vt54.Here.Y, iV vt54.Here.Z, iV vt54.Rate], iV day5, iV vt69, iV vt69, iV (w64 (0 - vt69)), iV d97, iV vt69, .bool true, (j96 11), (j96 12), .tuple #[.agg #[iV vt115.X, iV vt115.Y, iV vt115.Z], .agg #[iV vt116.X, iV vt116.Y, iV vt116.Z], iV vt117], .agg #[iV vt54.ID, iV vt54.Was.X, iV vt54.Was.Y, iV vt54.Was.Z, iV vt54.Here.X, iV vt54.Here.Y, iV vt54.Here.Z, iV vt54.Rate], iV d97, .tuple #[.agg #[iV vt115.X, iV vt115.Y, iV vt115.Z], .agg #[iV vt116.X, iV vt116.Y, iV vt116.Z], iV vt117], .agg #[iV vt115.X, iV vt115.Y, iV vt115.Z], .agg #[iV vt116.X, iV vt116.Y, iV vt116.Z], iV vt117, .tuple #[.agg #[iV vt139.X, iV vt139.Y, iV vt139.Z], .agg #[iV vt140.X, iV vt140.Y, iV vt140.Z], iV vt141], .agg #[iV vt54.ID, iV vt54.Was.X, iV vt54.Was.Y, iV vt54.Was.Z, iV vt54.Here.X, iV vt54.Here.Y, iV vt54.Here.Z, iV vt54.Rate], iV d97, iV (w64 (d97 + 1)), .tuple #[.agg #[iV vt139.X, iV vt139.Y, iV vt139.Z], .agg #[iV vt140.X, iV vt140.Y, iV vt140.Z], iV vt141], .agg #[iV vt139.X, iV vt139.Y, iV vt139.Z], .agg #[iV vt140.X, iV vt140.Y, iV vt140.Z], iV vt141, iV vt117, .bool false, .bool false, iV vt141, .bool true, .bool true, iV vt117, .bool false, .bool false, uV, uV, .bool false, .bool false, iV vt141, .bool (vt141 != 0), .bool (vt141 != 0), (j96 44), (j96 45), (j96 46), (j96 47), (j96 48), (j96 49), (j96 50), (j96 51), (j96 52), (j96 53), (j96 54), (j96 55), (j96 56), (j96 57), (j96 58), (j96 59), (j96 60), (j96 61), (j96 62), (j96 63), (j96 64), (j96 65), uV, uV, uV, uV, uV, uV, uV, uV, uV, uV, uV, uV, uV, uV, uV, uV, uV, uV, uV, uV, uV, uV, uV, uV, uV, uV, uV, uV, uV, uV, uV, uV, uV, uV, uV, uV, uV, uV, uV, uV, uV, uV, uV, uV, uV, uV], []⟩) (by kernel_rfl) ?_
          refine seqRwI 74 (x := (vt141 != 0)) (v := true) (by kernel_rfl) (bne_iff_ne.mpr c185) ?_
          refine seqRwI 75 (x := (vt141 != 0)) (v := true) (by kernel_rfl) (bne_iff_ne.mpr c185) ?_
          refine seqS4 (a' := ⟨#[.slice A2 l1.length c3, iV day5, uV, .pointer (some ⟨b8, 0, none⟩), .pointer (some ⟨b12, 0, none⟩), .pointer (some ⟨b34, 0, none⟩), .pointer (some ⟨b61, 0, none⟩), iV d97, .pointer (some ⟨b123, 0, none⟩), .pointer (some ⟨b127, 0, none⟩), iV vt117, .pointer (some ⟨b147, 0, none⟩), .pointer (some ⟨b151, 0, none⟩), iV vt141, (j96 6), (j96 7), uV, uV, uV, uV, uV, uV, uV, uV, uV, .bool vt20, .bool false, .slice A2 l1.length c3, .agg #[.slice A2 l1.length c3, iV 0], .pointer (some ⟨b34, 0, none⟩), .pointer (some ⟨b34, 0, none⟩), .pointer (some ⟨b34, 0, none⟩), .pointer (some ⟨b34, 0, none⟩), iV vt40, .agg #[iV vt47.X, iV vt47.Y, iV vt47.Z], .agg #[iV vt54.ID, iV vt54.Was.X, iV vt54.Was.Y, iV vt54.Was.Z, iV vt54.Here.X, iV vt54.Here.Y, iV vt54.Here.Z, iV vt54.Rate], iV day5, iV vt69, iV vt69, iV (w64 (0 - vt69)), iV d97, iV vt69, .bool true, (j96 11), (j96 12), .tuple #[.agg #[iV vt115.X, iV vt115.Y, iV vt115.Z], .agg #[iV vt116.X, iV vt116.Y, iV vt116.Z], iV vt117], .agg #[iV vt54.ID, iV vt54.Was.X, iV vt54.Was.Y, iV vt54.Was.Z, iV vt54.Here.X, iV vt54.Here.Y, iV vt54.Here.Z, iV vt54.Rate], iV d97, .tuple #[.agg #[iV vt115.X, iV vt115.Y, iV vt115.Z], .agg #[iV vt116.X, iV vt116.Y, iV vt116.Z], iV vt117], .agg #[iV vt115.X, iV vt115.Y, iV vt115.Z], .agg #[iV vt116.X, iV vt116.Y, iV vt116.Z], iV vt117, .tuple #[.agg #[iV vt139.X, iV vt139.Y, iV vt139.Z], .agg #[iV vt140.X, iV vt140.Y, iV vt140.Z], iV vt141], .agg #[iV vt54.ID, iV vt54.Was.X, iV vt54.Was.Y, iV vt54.Was.Z, iV vt54.Here.X, iV vt54.Here.Y, iV vt54.Here.Z, iV vt54.Rate], iV d97, iV (w64 (d97 + 1)), .tuple #[.agg #[iV vt139.X, iV vt139.Y, iV vt139.Z], .agg #[iV vt140.X, iV vt140.Y, iV vt140.Z], iV vt141], .agg #[iV vt139.X, iV vt139.Y, iV vt139.Z], .agg #[iV vt140.X, iV vt140.Y, iV vt140.Z], iV vt141, iV vt117, .bool false, .bool false, iV vt141, .bool true, .bool true, iV vt117, .bool false, .bool false, uV, uV, .bool false, .bool false, iV vt141, .bool true, .bool true, iV vt141, .bool (vt141 != 18), .bool (vt141 != 18), .bool (vt141 != 18), (j96 48), (j96 49), (j96 50), (j96 51), (j96 52), (j96 53), (j96 54), (j96 55), (j96 56), (j96 57), (j96 58), (j96 59), (j96 60), (j96 61), (j96 62), (j96 63), (j96 64), (j96 65), uV, uV, uV, uV, uV, uV, uV, uV, uV, uV, uV, uV, uV, uV, uV, uV, uV, uV, uV, uV, uV, uV, uV, uV, uV, uV, uV, uV, uV, uV, uV, uV, uV, uV, uV, uV, uV, uV, uV, uV, uV, uV, uV, uV, uV, uV], []⟩) (by kernel_rfl) ?_
          refine wpList_nil ?_
          refine hK189 _ _ ?_
          have hq_ := ite_some h; clear h; rcases hq_ with ⟨c191, h⟩ | ⟨c191, h⟩
          · have c191 : vt141 ≠ 18 := c191
            refine wpRwI 77 (x := (vt141 != 18)) (v := true) (by kernel_rfl) (bne_iff_ne.mpr c191) ?_
            refine wpRwI 78 (x := (vt141 != 18)) (v := true) (by kernel_rfl) (bne_iff_ne.mpr c191) ?_
            refine wpRwI 79 (x := (vt141 != 18)) (v := true) (by kernel_rfl) (bne_iff_ne.mpr c191) ?_
            refine condT (by kernel_rfl) ?_
            refine wp_seq_k (fun K192 hK193 => ?_)
            refine wp_region_lit ?_
            have HS194 := HS160.u7
            refine seqK rfl (does_store (n := 1) (vs := [.bool false]) (cs' := #[.bool false]) rfl (by kernel_rfl) (by kernel_rfl : _ = Value.pointer (some ⟨b12, 0, none⟩)) (by kernel_rfl : _ = Value.bool false) rfl rfl (by intro u_ hu_; simp only [List.mem_cons, List.not_mem_nil, or_false] at hu_; subst hu_; rfl) HS194 (Nat.le_of_ble_eq_true rfl) (by kernel_rfl) ?_)
            intro W195 HS196
            refine wpList_nil ?_
            refine hK193 _ _ ?_
            refine wp_ret ?_
            refine hr109 _ _ ?_
            refine hr85 _ _ ?_
            refine hret _ _ ?_
            refine endsM (v := Value.bool false) (results1 (q1 := .cell 4 4) (by kernel_rfl) (resC (by kernel_rfl : _ = Value.pointer (some ⟨b12, 0, none⟩)) Try.underlying4 rfl (HS196.cell 0))) (by kernel_rfl) ?_
            have HS623 := HS196.drop
            have HS624 := HS623.drop
            have HS625 := HS624.drop
            have HS626 := HS625.drop
            have HS627 := HS626.drop
            have HS628 := HS627.drop
            have HS629 := HS628.drop
            have HS630 := HS629.drop
            replace h := JR240 _ h
            injection h with h
            subst h
            exact ⟨f143, rfl, (L23.trans (L44.trans (L51.trans (L58.trans (L72.trans (L93.trans (L120.trans L144))))))), HS630⟩
          · have c191 : ¬ (vt141 ≠ 18) := c191
            refine wpRwI 77 (x := (vt141 != 18)) (v := false) (by kernel_rfl) (bne_eq_false_iff_eq.mpr (Decidable.of_not_not c191)) ?_
            refine wpRwI 78 (x := (vt141 != 18)) (v := false) (by kernel_rfl) (bne_eq_false_iff_eq.mpr (Decidable.of_not_not c191)) ?_
            refine wpRwI 79 (x := (vt141 != 18)) (v := false) (by kernel_rfl) (bne_eq_false_iff_eq.mpr (Decidable.of_not_not c191)) ?_
            refine condF (by kernel_rfl) ?_
            refine wp_skip ?_
            refine hK187 _ _ ?_
            refine wp_exit ?_
            refine hx107 _ _ ?_
            refine hK105 _ _ ?_
            refine wp_region_lit ?_
            refine seqS3 (a' := ⟨#[.slice A2 l1.length c3, iV day5, uV, .pointer (some ⟨b8, 0, none⟩), .pointer (some ⟨b12, 0, none⟩), .pointer (some ⟨b34, 0, none⟩), .pointer (some ⟨b61, 0, none⟩), iV (w64 (d97 + 1)), .pointer (some ⟨b123, 0, none⟩), .pointer (some ⟨b127, 0, none⟩), iV vt117, .pointer (some ⟨b147, 0, none⟩), .pointer (some ⟨b151, 0, none⟩), iV vt141, (j96 6), (j96 7), uV, uV, uV, uV, uV, uV, uV, uV, uV, .bool vt20, .bool false, .slice A2 l1.length c3, .agg #[.slice A2 l1.length c3, iV 0], .pointer (some ⟨b34, 0, none⟩), .pointer (some ⟨b34, 0, none⟩), .pointer (some ⟨b34, 0, none⟩), .pointer (some ⟨b34, 0, none⟩), iV vt40, .agg #[iV vt47.X, iV vt47.Y, iV vt47.Z], .agg #[iV vt54.ID, iV vt54.Was.X, iV vt54.Was.Y, iV vt54.Was.Z, iV vt54.Here.X, iV vt54.Here.Y, iV vt54.Here.Z, iV vt54.Rate], iV day5, iV vt69, iV vt69, iV (w64 (0 - vt69)), iV d97, iV vt69, .bool true, iV d97, iV (w64 (d97 + 1)), .tuple #[.agg #[iV vt115.X, iV vt115.Y, iV vt115.Z], .agg #[iV vt116.X, iV vt116.Y, iV vt116.Z], iV vt117], .agg #[iV vt54.ID, iV vt54.Was.X, iV vt54.Was.Y, iV vt54.Was.Z, iV vt54.Here.X, iV vt54.Here.Y, iV vt54.Here.Z, iV vt54.Rate], iV d97, .tuple #[.agg #[iV vt115.X, iV vt115.Y, iV vt115.Z], .agg #[iV vt116.X, iV vt116.Y, iV vt116.Z], iV vt117], .agg #[iV vt115.X, iV vt115.Y, iV vt115.Z], .agg #[iV vt116.X, iV vt116.Y, iV vt116.Z], iV vt117, .tuple #[.agg #[iV vt139.X, iV vt139.Y, iV vt139.Z], .agg #[iV vt140.X, iV vt140.Y, iV vt140.Z], iV vt141], .agg #[iV vt54.ID, iV vt54.Was.X, iV vt54.Was.Y, iV vt54.Was.Z, iV vt54.Here.X, iV vt54.Here.Y, iV vt54.Here.Z, iV vt54.Rate], iV d97, iV (w64 (d97 + 1)), .tuple #[.agg #[iV vt139.X, iV vt139.Y, iV vt139.Z], .agg #[iV vt140.X, iV vt140.Y, iV vt140.Z], iV vt141], .agg #[iV vt139.X, iV vt139.Y, iV vt139.Z], .agg #[iV vt140.X, iV vt140.Y, iV vt140.Z], iV vt141, iV vt117, .bool false, .bool false, iV vt141, .bool true, .bool true, iV vt117, .bool false, .bool false, uV, uV, .bool false, .bool false, iV vt141, .bool true, .bool true, iV vt141, .bool false, .bool false, .bool false, (j96 48), (j96 49), (j96 50), (j96 51), (j96 52), (j96 53), (j96 54), (j96 55), (j96 56), (j96 57), (j96 58), (j96 59), (j96 60), (j96 61), (j96 62), (j96 63), (j96 64), (j96 65), uV, uV, uV, uV, uV, uV, uV, uV, uV, uV, uV, uV, uV, uV, uV, uV, uV, uV, uV, uV, uV, uV, uV, uV, uV, uV, uV, uV, uV, uV, uV, uV, uV, uV, uV, uV, uV, uV, uV, uV, uV, uV, uV, uV, uV, uV], []⟩) (by kernel_rfl) ?_
            refine wpList_nil ?_
            refine hK90 n91 _ _ (Nat.lt_succ_self _) ?_
            have HS266 := HS160.u7
            have HS267 := HS266.u7
            have HS268 := HS267.u7
            have HS269 := HS268.u7
            have HS270 := HS269.u7
            have HS271 := HS270.u7
            have HS272 := HS271.u7
            have HS273 := HS272.u7
            have HS274 := HS273.drop
            have HS275 := HS274.drop
            have HS276 := HS275.drop
            have HS277 := HS276.drop
            exact ⟨f143, (w64 (d97 + 1)), (fun i_ => [Value.pointer (some ⟨b123, 0, none⟩), Value.pointer (some ⟨b127, 0, none⟩), Value.int .i64 vt117, Value.pointer (some ⟨b147, 0, none⟩), Value.pointer (some ⟨b151, 0, none⟩), Value.int .i64 vt141, (j96 6), (j96 7), Value.int .i64 d97, Value.int .i64 vt69, Value.bool true, Value.int .i64 d97, Value.int .i64 (w64 (d97 + 1)), Value.tuple #[.agg #[.int .i64 vt115.X, .int .i64 vt115.Y, .int .i64 vt115.Z], .agg #[.int .i64 vt116.X, .int .i64 vt116.Y, .int .i64 vt116.Z], .int .i64 vt117], Value.agg #[.int .i64 vt54.ID, .int .i64 vt54.Was.X, .int .i64 vt54.Was.Y, .int .i64 vt54.Was.Z, .int .i64 vt54.Here.X, .int .i64 vt54.Here.Y, .int .i64 vt54.Here.Z, .int .i64 vt54.Rate], Value.int .i64 d97, Value.tuple #[.agg #[.int .i64 vt115.X, .int .i64 vt115.Y, .int .i64 vt115.Z], .agg #[.int .i64 vt116.X, .int .i64 vt116.Y, .int .i64 vt116.Z], .int .i64 vt117], Value.agg #[.int .i64 vt115.X, .int .i64 vt115.Y, .int .i64 vt115.Z], Value.agg #[.int .i64 vt116.X, .int .i64 vt116.Y, .int .i64 vt116.Z], Value.int .i64 vt117, Value.tuple #[.agg #[.int .i64 vt139.X, .int .i64 vt139.Y, .int .i64 vt139.Z], .agg #[.int .i64 vt140.X, .int .i64 vt140.Y, .int .i64 vt140.Z], .int .i64 vt141], Value.agg #[.int .i64 vt54.ID, .int .i64 vt54.Was.X, .int .i64 vt54.Was.Y, .int .i64 vt54.Was.Z, .int .i64 vt54.Here.X, .int .i64 vt54.Here.Y, .int .i64 vt54.Here.Z, .int .i64 vt54.Rate], Value.int .i64 d97, Value.int .i64 (w64 (d97 + 1)), Value.tuple #[.agg #[.int .i64 vt139.X, .int .i64 vt139.Y, .int .i64 vt139.Z], .agg #[.int .i64 vt140.X, .int .i64 vt140.Y, .int .i64 vt140.Z], .int .i64 vt141], Value.agg #[.int .i64 vt139.X, .int .i64 vt139.Y, .int .i64 vt139.Z], Value.agg #[.int .i64 vt140.X, .int .i64 vt140.Y, .int .i64 vt140.Z], Value.int .i64 vt141, Value.int .i64 vt117, Value.bool false, Value.bool false, Value.int .i64 vt141, Value.bool true, Value.bool true, Value.int .i64 vt117, Value.bool false, Value.bool false, undef, undef, Value.bool false, Value.bool false, Value.int .i64 vt141, Value.bool true, Value.bool true, Value.int .i64 vt141, Value.bool false, Value.bool false, Value.bool false, (j96 48), (j96 49), (j96 50), (j96 51), (j96 52), (j96 53), (j96 54), (j96 55), (j96 56), (j96 57), (j96 58), (j96 59), (j96 60), (j96 61), (j96 62), (j96 63), (j96 64), (j96 65)].getD i_ undef), (L93.trans (L120.trans L144)), HS277, h, (by kernel_rfl)⟩
        · have c185 : ¬ (vt141 ≠ 0) := c185
          refine wpRwI 64 (x := (vt141 != 0)) (v := false) (by kernel_rfl) (bne_eq_false_iff_eq.mpr (Decidable.of_not_not c185)) ?_
          refine wpRwI 65 (x := (vt141 != 0)) (v := false) (by kernel_rfl) (bne_eq_false_iff_eq.mpr (Decidable.of_not_not c185)) ?_
          refine condF (by kernel_rfl) ?_
          refine wp_skip ?_
          refine hK162 _ _ ?_
          refine wp_seq_k (fun K197 hK198 => ?_)
          refine wp_region_lit ?_
          refine seqK rfl (does_run (run_loadN (n := 3) rfl Try.underlying23 rfl (by kernel_rfl) (by kernel_rfl : _ = Value.pointer (some ⟨b123, 0, none⟩)) (cs := [.int .i64 vt115.X, .int .i64 vt115.Y, .int .i64 vt115.Z]) rfl (HS160.u3.cells 0 3 _ rfl)) ?_)
          refine seqK rfl (does_run (run_loadN (n := 3) rfl Try.underlying23 rfl (by kernel_rfl) (by kernel_rfl : _ = Value.pointer (some ⟨b127, 0, none⟩)) (cs := [.int .i64 vt116.X, .int .i64 vt116.Y, .int .i64 vt116.Z]) rfl (HS160.u2.cells 0 3 _ rfl)) ?_)
          have hq_ := bind_some h; clear h; obtain ⟨⟨vt199, vt200⟩, hc201, h⟩ := hq_
          refine seqK rfl (does_call (f := 8) (args := #[.agg #[.int .i64 vt115.X, .int .i64 vt115.Y, .int .i64 vt115.Z], .agg #[.int .i64 vt116.X, .int .i64 vt116.Y, .int .i64 vt116.Z]]) (by kernel_rfl) (sky_Step.calls k vt115 vt116 HS160 vt199 vt200 hc201) ?_)
          rintro _ W204 ⟨f202, rfl, L203, HS205⟩
          refine ⟨_, rfl, ?_⟩
          refine seqL3 (by kernel_rfl) ?_
          refine seqK rfl (does_alloc (z := Value.agg #[.int .i64 0, .int .i64 0, .int .i64 0]) (cs := #[.int .i64 0, .int .i64 0, .int .i64 0]) rfl (by kernel_rfl) rfl HS205 ?_)
          intro b206 W207 HS208
          refine seqK rfl (does_store (n := 3) (vs := [.int .i64 vt199.X, .int .i64 vt199.Y, .int .i64 vt199.Z]) (cs' := #[.int .i64 vt199.X, .int .i64 vt199.Y, .int .i64 vt199.Z]) rfl (by kernel_rfl) (by kernel_rfl : _ = Value.pointer (some ⟨b206, 0, none⟩)) (by kernel_rfl : _ = Value.agg #[.int .i64 vt199.X, .int .i64 vt199.Y, .int .i64 vt199.Z]) rfl rfl (by intro u_ hu_; simp only [List.mem_cons, List.not_mem_nil, or_false] at hu_; rcases hu_ with rfl | rfl | rfl <;> rfl) HS208 (Nat.le_of_ble_eq_true rfl) (by kernel_rfl) ?_)
          intro W210 HS211
          refine seqS1 (a' := ⟨#[.slice A2 l1.length c3, iV day5, uV, .pointer (some ⟨b8, 0, none⟩), .pointer (some ⟨b12, 0, none⟩), .pointer (some ⟨b34, 0, none⟩), .pointer (some ⟨b61, 0, none⟩), iV d97, .pointer (some ⟨b123, 0, none⟩), .pointer (some ⟨b127, 0, none⟩), iV vt117, .pointer (some ⟨b147, 0, none⟩), .pointer (some ⟨b151, 0, none⟩), iV vt141, .pointer (some ⟨b206, 0, none⟩), iV vt200, uV, uV, uV, uV, uV, uV, uV, uV, uV, .bool vt20, .bool false, .slice A2 l1.length c3, .agg #[.slice A2 l1.length c3, iV 0], .pointer (some ⟨b34, 0, none⟩), .pointer (some ⟨b34, 0, none⟩), .pointer (some ⟨b34, 0, none⟩), .pointer (some ⟨b34, 0, none⟩), iV vt40, .agg #[iV vt47.X, iV vt47.Y, iV vt47.Z], .agg #[iV vt54.ID, iV vt54.Was.X, iV vt54.Was.Y, iV vt54.Was.Z, iV vt54.Here.X, iV vt54.Here.Y, iV vt54.Here.Z, iV vt54.Rate], iV day5, iV vt69, iV vt69, iV (w64 (0 - vt69)), iV d97, iV vt69, .bool true, (j96 11), (j96 12), .tuple #[.agg #[iV vt115.X, iV vt115.Y, iV vt115.Z], .agg #[iV vt116.X, iV vt116.Y, iV vt116.Z], iV vt117], .agg #[iV vt54.ID, iV vt54.Was.X, iV vt54.Was.Y, iV vt54.Was.Z, iV vt54.Here.X, iV vt54.Here.Y, iV vt54.Here.Z, iV vt54.Rate], iV d97, .tuple #[.agg #[iV vt115.X, iV vt115.Y, iV vt115.Z], .agg #[iV vt116.X, iV vt116.Y, iV vt116.Z], iV vt117], .agg #[iV vt115.X, iV vt115.Y, iV vt115.Z], .agg #[iV vt116.X, iV vt116.Y, iV vt116.Z], iV vt117, .tuple #[.agg #[iV vt139.X, iV vt139.Y, iV vt139.Z], .agg #[iV vt140.X, iV vt140.Y, iV vt140.Z], iV vt141], .agg #[iV vt54.ID, iV vt54.Was.X, iV vt54.Was.Y, iV vt54.Was.Z, iV vt54.Here.X, iV vt54.Here.Y, iV vt54.Here.Z, iV vt54.Rate], iV d97, iV (w64 (d97 + 1)), .tuple #[.agg #[iV vt139.X, iV vt139.Y, iV vt139.Z], .agg #[iV vt140.X, iV vt140.Y, iV vt140.Z], iV vt141], .agg #[iV vt139.X, iV vt139.Y, iV vt139.Z], .agg #[iV vt140.X, iV vt140.Y, iV vt140.Z], iV vt141, iV vt117, .bool false, .bool false, iV vt141, .bool false, .bool false, (j96 34), (j96 35), (j96 36), (j96 37), (j96 38), (j96 39), (j96 40), (j96 41), (j96 42), (j96 43), (j96 44), (j96 45), (j96 46), (j96 47), .tuple #[.agg #[iV vt199.X, iV vt199.Y, iV vt199.Z], iV vt200], .agg #[iV vt115.X, iV vt115.Y, iV vt115.Z], .agg #[iV vt116.X, iV vt116.Y, iV vt116.Z], .tuple #[.agg #[iV vt199.X, iV vt199.Y, iV vt199.Z], iV vt200], .agg #[iV vt199.X, iV vt199.Y, iV vt199.Z], iV vt200, (j96 54), (j96 55), (j96 56), (j96 57), (j96 58), (j96 59), (j96 60), (j96 61), (j96 62), (j96 63), (j96 64), (j96 65), uV, uV, uV, uV, uV, uV, uV, uV, uV, uV, uV, uV, uV, uV, uV, uV, uV, uV, uV, uV, uV, uV, uV, uV, uV, uV, uV, uV, uV, uV, uV, uV, uV, uV, uV, uV, uV, uV, uV, uV, uV, uV, uV, uV, uV, uV], []⟩) (by kernel_rfl) ?_
          refine wpList_nil ?_
          refine hK198 _ _ ?_
          refine wp_seq_k (fun K212 hK213 => ?_)
          refine wp_region_lit ?_
          refine seqS3 (a' := ⟨#[.slice A2 l1.length c3, iV day5, uV, .pointer (some ⟨b8, 0, none⟩), .pointer (some ⟨b12, 0, none⟩), .pointer (some ⟨b34, 0, none⟩), .pointer (some ⟨b61, 0, none⟩), iV d97, .pointer (some ⟨b123, 0, none⟩), .pointer (some ⟨b127, 0, none⟩), iV vt117, .pointer (some ⟨b147, 0, none⟩), .pointer (some ⟨b151, 0, none⟩), iV vt141, .pointer (some ⟨b206, 0, none⟩), iV vt200, uV, uV, uV, uV, uV, uV, uV, uV, uV, .bool vt20, .bool false, .slice A2 l1.length c3, .agg #[.slice A2 l1.length c3, iV 0], .pointer (some ⟨b34, 0, none⟩), .pointer (some ⟨b34, 0, none⟩), .pointer (some ⟨b34, 0, none⟩), .pointer (some ⟨b34, 0, none⟩), iV vt40, .agg #[iV vt47.X, iV vt47.Y, iV vt47.Z], .agg #[iV vt54.ID, iV vt54.Was.X, iV vt54.Was.Y, iV vt54.Was.Z, iV vt54.Here.X, iV vt54.Here.Y, iV vt54.Here.Z, iV vt54.Rate], iV day5, iV vt69, iV vt69, iV (w64 (0 - vt69)), iV d97, iV vt69, .bool true, (j96 11), (j96 12), .tuple #[.agg #[iV vt115.X, iV vt115.Y, iV vt115.Z], .agg #[iV vt116.X, iV vt116.Y, iV vt116.Z], iV vt117], .agg #[iV vt54.ID, iV vt54.Was.X, iV vt54.Was.Y, iV vt54.Was.Z, iV vt54.Here.X, iV vt54.Here.Y, iV vt54.Here.Z, iV vt54.Rate], iV d97, .tuple #[.agg #[iV vt115.X, iV vt115.Y, iV vt115.Z], .agg #[iV vt116.X, iV vt116.Y, iV vt116.Z], iV vt117], .agg #[iV vt115.X, iV vt115.Y, iV vt115.Z], .agg #[iV vt116.X, iV vt116.Y, iV vt116.Z], iV vt117, .tuple #[.agg #[iV vt139.X, iV vt139.Y, iV vt139.Z], .agg #[iV vt140.X, iV vt140.Y, iV vt140.Z], iV vt141], .agg #[iV vt54.ID, iV vt54.Was.X, iV vt54.Was.Y, iV vt54.Was.Z, iV vt54.Here.X, iV vt54.Here.Y, iV vt54.Here.Z, iV vt54.Rate], iV d97, iV (w64 (d97 + 1)), .tuple #[.agg #[iV vt139.X, iV vt139.Y, iV vt139.Z], .agg #[iV vt140.X, iV vt140.Y, iV vt140.Z], iV vt141], .agg #[iV vt139.X, iV vt139.Y, iV vt139.Z], .agg #[iV vt140.X, iV vt140.Y, iV vt140.Z], iV vt141, iV vt117, .bool false, .bool false, iV vt141, .bool false, .bool false, (j96 34), (j96 35), (j96 36), (j96 37), (j96 38), (j96 39), (j96 40), (j96 41), (j96 42), (j96 43), (j96 44), (j96 45), (j96 46), (j96 47), .tuple #[.agg #[iV vt199.X, iV vt199.Y, iV vt199.Z], iV vt200], .agg #[iV vt115.X, iV vt115.Y, iV vt115.Z], .agg #[iV vt116.X, iV vt116.Y, iV vt116.Z], .tuple #[.agg #[iV vt199.X, iV vt199.Y, iV vt199.Z], iV vt200], .agg #[iV vt199.X, iV vt199.Y, iV vt199.Z], iV vt200, iV vt200, .bool (vt200 != 0), .bool (vt200 != 0), (j96 57), (j96 58), (j96 59), (j96 60), (j96 61), (j96 62), (j96 63), (j96 64), (j96 65), uV, uV, uV, uV, uV, uV, uV, uV, uV, uV, uV, uV, uV, uV, uV, uV, uV, uV, uV, uV, uV, uV, uV, uV, uV, uV, uV, uV, uV, uV, uV, uV, uV, uV, uV, uV, uV, uV, uV, uV, uV, uV, uV, uV, uV, uV], []⟩) (by kernel_rfl) ?_
          have hq_ := ite_some h; clear h; rcases hq_ with ⟨c214, h⟩ | ⟨c214, h⟩
          · have c214 : vt200 ≠ 0 := c214
            refine seqRwI 87 (x := (vt200 != 0)) (v := true) (by kernel_rfl) (bne_iff_ne.mpr c214) ?_
            refine seqRwI 88 (x := (vt200 != 0)) (v := true) (by kernel_rfl) (bne_iff_ne.mpr c214) ?_
            refine seqS9 (a' := ⟨#[.slice A2 l1.length c3, iV day5, uV, .pointer (some ⟨b8, 0, none⟩), .pointer (some ⟨b12, 0, none⟩), .pointer (some ⟨b34, 0, none⟩), .pointer (some ⟨b61, 0, none⟩), iV d97, .pointer (some ⟨b123, 0, none⟩), .pointer (some ⟨b127, 0, none⟩), iV vt117, .pointer (some ⟨b147, 0, none⟩), .pointer (some ⟨b151, 0, none⟩), iV vt141, .pointer (some ⟨b206, 0, none⟩), iV vt200, uV, uV, uV, uV, uV, uV, uV, uV, uV, .bool vt20, .bool false, .slice A2 l1.length c3, .agg #[.slice A2 l1.length c3, iV 0], .pointer (some ⟨b34, 0, none⟩), .pointer (some ⟨b34, 0, none⟩), .pointer (some ⟨b34, 0, none⟩), .pointer (some ⟨b34, 0, none⟩), iV vt40, .agg #[iV vt47.X, iV vt47.Y, iV vt47.Z], .agg #[iV vt54.ID, iV vt54.Was.X, iV vt54.Was.Y, iV vt54.Was.Z, iV vt54.Here.X, iV vt54.Here.Y, iV vt54.Here.Z, iV vt54.Rate], iV day5, iV vt69, iV vt69, iV (w64 (0 - vt69)), iV d97, iV vt69, .bool true, (j96 11), (j96 12), .tuple #[.agg #[iV vt115.X, iV vt115.Y, iV vt115.Z], .agg #[iV vt116.X, iV vt116.Y, iV vt116.Z], iV vt117], .agg #[iV vt54.ID, iV vt54.Was.X, iV vt54.Was.Y, iV vt54.Was.Z, iV vt54.Here.X, iV vt54.Here.Y, iV vt54.Here.Z, iV vt54.Rate], iV d97, .tuple #[.agg #[iV vt115.X, iV vt115.Y, iV vt115.Z], .agg #[iV vt116.X, iV vt116.Y, iV vt116.Z], iV vt117], .agg #[iV vt115.X, iV vt115.Y, iV vt115.Z], .agg #[iV vt116.X, iV vt116.Y, iV vt116.Z], iV vt117, .tuple #[.agg #[iV vt139.X, iV vt139.Y, iV vt139.Z], .agg #[iV vt140.X, iV vt140.Y, iV vt140.Z], iV vt141], .agg #[iV vt54.ID, iV vt54.Was.X, iV vt54.Was.Y, iV vt54.Was.Z, iV vt54.Here.X, iV vt54.Here.Y, iV vt54.Here.Z, iV vt54.Rate], iV d97, iV (w64 (d97 + 1)), .tuple #[.agg #[iV vt139.X, iV vt139.Y, iV vt139.Z], .agg #[iV vt140.X, iV vt140.Y, iV vt140.Z], iV vt141], .agg #[iV vt139.X, iV vt139.Y, iV vt139.Z], .agg #[iV vt140.X, iV vt140.Y, iV vt140.Z], iV vt141, iV vt117, .bool false, .bool false, iV vt141, .bool false, .bool false, (j96 34), (j96 35), (j96 36), (j96 37), (j96 38), (j96 39), (j96 40), (j96 41), (j96 42), (j96 43), (j96 44), (j96 45), (j96 46), (j96 47), .tuple #[.agg #[iV vt199.X, iV vt199.Y, iV vt199.Z], iV vt200], .agg #[iV vt115.X, iV vt115.Y, iV vt115.Z], .agg #[iV vt116.X, iV vt116.Y, iV vt116.Z], .tuple #[.agg #[iV vt199.X, iV vt199.Y, iV vt199.Z], iV vt200], .agg #[iV vt199.X, iV vt199.Y, iV vt199.Z], iV vt200, iV vt200, .bool true, .bool true, uV, uV, uV, .bool true, .bool true, uV, uV, uV, .bool true, uV, uV, uV, uV, uV, uV, uV, uV, uV, uV, uV, uV, uV, uV, uV, uV, uV, uV, uV, uV, uV, uV, uV, uV, uV, uV, uV, uV, uV, uV, uV, uV, uV, uV, uV, uV, uV, uV, uV, uV, uV, uV, uV, uV, uV, uV], []⟩) (by kernel_rfl) ?_
            refine wpList_nil ?_
            refine hK213 _ _ ?_
            refine condT (by kernel_rfl) ?_
            refine wp_seq_k (fun K215 hK216 => ?_)
            refine wp_region_lit ?_
            have HS217 := HS211.u8
            refine seqK rfl (does_store (n := 1) (vs := [.bool false]) (cs' := #[.bool false]) rfl (by kernel_rfl) (by kernel_rfl : _ = Value.pointer (some ⟨b12, 0, none⟩)) (by kernel_rfl : _ = Value.bool false) rfl rfl (by intro u_ hu_; simp only [List.mem_cons, List.not_mem_nil, or_false] at hu_; subst hu_; rfl) HS217 (Nat.le_of_ble_eq_true rfl) (by kernel_rfl) ?_)
            intro W218 HS219
            refine wpList_nil ?_
            refine hK216 _ _ ?_
            refine wp_ret ?_
            refine hr109 _ _ ?_
            refine hr85 _ _ ?_
            refine hret _ _ ?_
            refine endsM (v := Value.bool false) (results1 (q1 := .cell 4 4) (by kernel_rfl) (resC (by kernel_rfl : _ = Value.pointer (some ⟨b12, 0, none⟩)) Try.underlying4 rfl (HS219.cell 0))) (by kernel_rfl) ?_
            have HS631 := HS219.drop
            have HS632 := HS631.drop
            have HS633 := HS632.drop
            have HS634 := HS633.drop
            have HS635 := HS634.drop
            have HS636 := HS635.drop
            have HS637 := HS636.drop
            have HS638 := HS637.drop
            have HS639 := HS638.drop
            replace h := JR240 _ h
            injection h with h
            subst h
            exact ⟨f202, rfl, (L23.trans (L44.trans (L51.trans (L58.trans (L72.trans (L93.trans (L120.trans (L144.trans L203)))))))), HS639⟩
          · have c214 : ¬ (vt200 ≠ 0) := c214
            refine seqRwI 87 (x := (vt200 != 0)) (v := false) (by kernel_rfl) (bne_eq_false_iff_eq.mpr (Decidable.of_not_not c214)) ?_
            refine seqRwI 88 (x := (vt200 != 0)) (v := false) (by kernel_rfl) (bne_eq_false_iff_eq.mpr (Decidable.of_not_not c214)) ?_
            refine seqG (by kernel_rfl) (does_run (run_loadN (n := 3) rfl Try.underlying23 rfl (by kernel_rfl) (by kernel_rfl : _ = Value.pointer (some ⟨b147, 0, none⟩)) (cs := [.int .i64 vt139.X, .int .i64 vt139.Y, .int .i64 vt139.Z]) rfl (HS211.u2.cells 0 3 _ rfl)) ?_)
            refine seqG (by kernel_rfl) (does_run (run_loadN (n := 3) rfl Try.underlying23 rfl (by kernel_rfl) (by kernel_rfl : _ = Value.pointer (some ⟨b127, 0, none⟩)) (cs := [.int .i64 vt116.X, .int .i64 vt116.Y, .int .i64 vt116.Z]) rfl (HS211.u3.cells 0 3 _ rfl)) ?_)
            refine seqG (by kernel_rfl) (does_run (run_neS (b := ((vt139.X == vt116.X) && ((vt139.Y == vt116.Y) && ((vt139.Z == vt116.Z) && true)))) rfl (by kernel_rfl : _ = Value.agg #[.int .i64 vt139.X, .int .i64 vt139.Y, .int .i64 vt139.Z]) (by kernel_rfl : _ = Value.agg #[.int .i64 vt116.X, .int .i64 vt116.Y, .int .i64 vt116.Z]) (by kernel_rfl) (by kernel_rfl) W210) ?_)
            refine seqS2 (a' := ⟨#[.slice A2 l1.length c3, iV day5, uV, .pointer (some ⟨b8, 0, none⟩), .pointer (some ⟨b12, 0, none⟩), .pointer (some ⟨b34, 0, none⟩), .pointer (some ⟨b61, 0, none⟩), iV d97, .pointer (some ⟨b123, 0, none⟩), .pointer (some ⟨b127, 0, none⟩), iV vt117, .pointer (some ⟨b147, 0, none⟩), .pointer (some ⟨b151, 0, none⟩), iV vt141, .pointer (some ⟨b206, 0, none⟩), iV vt200, uV, uV, uV, uV, uV, uV, uV, uV, uV, .bool vt20, .bool false, .slice A2 l1.length c3, .agg #[.slice A2 l1.length c3, iV 0], .pointer (some ⟨b34, 0, none⟩), .pointer (some ⟨b34, 0, none⟩), .pointer (some ⟨b34, 0, none⟩), .pointer (some ⟨b34, 0, none⟩), iV vt40, .agg #[iV vt47.X, iV vt47.Y, iV vt47.Z], .agg #[iV vt54.ID, iV vt54.Was.X, iV vt54.Was.Y, iV vt54.Was.Z, iV vt54.Here.X, iV vt54.Here.Y, iV vt54.Here.Z, iV vt54.Rate], iV day5, iV vt69, iV vt69, iV (w64 (0 - vt69)), iV d97, iV vt69, .bool true, (j96 11), (j96 12), .tuple #[.agg #[iV vt115.X, iV vt115.Y, iV vt115.Z], .agg #[iV vt116.X, iV vt116.Y, iV vt116.Z], iV vt117], .agg #[iV vt54.ID, iV vt54.Was.X, iV vt54.Was.Y, iV vt54.Was.Z, iV vt54.Here.X, iV vt54.Here.Y, iV vt54.Here.Z, iV vt54.Rate], iV d97, .tuple #[.agg #[iV vt115.X, iV vt115.Y, iV vt115.Z], .agg #[iV vt116.X, iV vt116.Y, iV vt116.Z], iV vt117], .agg #[iV vt115.X, iV vt115.Y, iV vt115.Z], .agg #[iV vt116.X, iV vt116.Y, iV vt116.Z], iV vt117, .tuple #[.agg #[iV vt139.X, iV vt139.Y, iV vt139.Z], .agg #[iV vt140.X, iV vt140.Y, iV vt140.Z], iV vt141], .agg #[iV vt54.ID, iV vt54.Was.X, iV vt54.Was.Y, iV vt54.Was.Z, iV vt54.Here.X, iV vt54.Here.Y, iV vt54.Here.Z, iV vt54.Rate], iV d97, iV (w64 (d97 + 1)), .tuple #[.agg #[iV vt139.X, iV vt139.Y, iV vt139.Z], .agg #[iV vt140.X, iV vt140.Y, iV vt140.Z], iV vt141], .agg #[iV vt139.X, iV vt139.Y, iV vt139.Z], .agg #[iV vt140.X, iV vt140.Y, iV vt140.Z], iV vt141, iV vt117, .bool false, .bool false, iV vt141, .bool false, .bool false, (j96 34), (j96 35), (j96 36), (j96 37), (j96 38), (j96 39), (j96 40), (j96 41), (j96 42), (j96 43), (j96 44), (j96 45), (j96 46), (j96 47), .tuple #[.agg #[iV vt199.X, iV vt199.Y, iV vt199.Z], iV vt200], .agg #[iV vt115.X, iV vt115.Y, iV vt115.Z], .agg #[iV vt116.X, iV vt116.Y, iV vt116.Z], .tuple #[.agg #[iV vt199.X, iV vt199.Y, iV vt199.Z], iV vt200], .agg #[iV vt199.X, iV vt199.Y, iV vt199.Z], iV vt200, iV vt200, .bool false, .bool false, .agg #[iV vt139.X, iV vt139.Y, iV vt139.Z], .agg #[iV vt116.X, iV vt116.Y, iV vt116.Z], .bool (!((vt139.X == vt116.X) && ((vt139.Y == vt116.Y) && ((vt139.Z == vt116.Z) && true)))), .bool (!((vt139.X == vt116.X) && ((vt139.Y == vt116.Y) && ((vt139.Z == vt116.Z) && true)))), .bool (!((vt139.X == vt116.X) && ((vt139.Y == vt116.Y) && ((vt139.Z == vt116.Z) && true)))), (j96 62), (j96 63), (j96 64), (j96 65), uV, uV, uV, uV, uV, uV, uV, uV, uV, uV, uV, uV, uV, uV, uV, uV, uV, uV, uV, uV, uV, uV, uV, uV, uV, uV, uV, uV, uV, uV, uV, uV, uV, uV, uV, uV, uV, uV, uV, uV, uV, uV, uV, uV, uV, uV], []⟩) (by kernel_rfl) ?_
            have hq_ := ite_some h; clear h; rcases hq_ with ⟨c220, h⟩ | ⟨c220, h⟩
            · have c220 : (!((vt139.X == vt116.X) && ((vt139.Y == vt116.Y) && ((vt139.Z == vt116.Z) && true)))) = true := c220
              refine seqRwI 91 (x := (!((vt139.X == vt116.X) && ((vt139.Y == vt116.Y) && ((vt139.Z == vt116.Z) && true))))) (v := true) (by kernel_rfl) c220 ?_
              refine seqRwI 92 (x := (!((vt139.X == vt116.X) && ((vt139.Y == vt116.Y) && ((vt139.Z == vt116.Z) && true))))) (v := true) (by kernel_rfl) c220 ?_
              refine seqRwI 93 (x := (!((vt139.X == vt116.X) && ((vt139.Y == vt116.Y) && ((vt139.Z == vt116.Z) && true))))) (v := true) (by kernel_rfl) c220 ?_
              refine seqS4 (a' := ⟨#[.slice A2 l1.length c3, iV day5, uV, .pointer (some ⟨b8, 0, none⟩), .pointer (some ⟨b12, 0, none⟩), .pointer (some ⟨b34, 0, none⟩), .pointer (some ⟨b61, 0, none⟩), iV d97, .pointer (some ⟨b123, 0, none⟩), .pointer (some ⟨b127, 0, none⟩), iV vt117, .pointer (some ⟨b147, 0, none⟩), .pointer (some ⟨b151, 0, none⟩), iV vt141, .pointer (some ⟨b206, 0, none⟩), iV vt200, uV, uV, uV, uV, uV, uV, uV, uV, uV, .bool vt20, .bool false, .slice A2 l1.length c3, .agg #[.slice A2 l1.length c3, iV 0], .pointer (some ⟨b34, 0, none⟩), .pointer (some ⟨b34, 0, none⟩), .pointer (some ⟨b34, 0, none⟩), .pointer (some ⟨b34, 0, none⟩), iV vt40, .agg #[iV vt47.X, iV vt47.Y, iV vt47.Z], .agg #[iV vt54.ID, iV vt54.Was.X, iV vt54.Was.Y, iV vt54.Was.Z, iV vt54.Here.X, iV vt54.Here.Y, iV vt54.Here.Z, iV vt54.Rate], iV day5, iV vt69, iV vt69, iV (w64 (0 - vt69)), iV d97, iV vt69, .bool true, (j96 11), (j96 12), .tuple #[.agg #[iV vt115.X, iV vt115.Y, iV vt115.Z], .agg #[iV vt116.X, iV vt116.Y, iV vt116.Z], iV vt117], .agg #[iV vt54.ID, iV vt54.Was.X, iV vt54.Was.Y, iV vt54.Was.Z, iV vt54.Here.X, iV vt54.Here.Y, iV vt54.Here.Z, iV vt54.Rate], iV d97, .tuple #[.agg #[iV vt115.X, iV vt115.Y, iV vt115.Z], .agg #[iV vt116.X, iV vt116.Y, iV vt116.Z], iV vt117], .agg #[iV vt115.X, iV vt115.Y, iV vt115.Z], .agg #[iV vt116.X, iV vt116.Y, iV vt116.Z], iV vt117, .tuple #[.agg #[iV vt139.X, iV vt139.Y, iV vt139.Z], .agg #[iV vt140.X, iV vt140.Y, iV vt140.Z], iV vt141], .agg #[iV vt54.ID, iV vt54.Was.X, iV vt54.Was.Y, iV vt54.Was.Z, iV vt54.Here.X, iV vt54.Here.Y, iV vt54.Here.Z, iV vt54.Rate], iV d97, iV (w64 (d97 + 1)), .tuple #[.agg #[iV vt139.X, iV vt139.Y, iV vt139.Z], .agg #[iV vt140.X, iV vt140.Y, iV vt140.Z], iV vt141], .agg #[iV vt139.X, iV vt139.Y, iV vt139.Z], .agg #[iV vt140.X, iV vt140.Y, iV vt140.Z], iV vt141, iV vt117, .bool false, .bool false, iV vt141, .bool false, .bool false, (j96 34), (j96 35), (j96 36), (j96 37), (j96 38), (j96 39), (j96 40), (j96 41), (j96 42), (j96 43), (j96 44), (j96 45), (j96 46), (j96 47), .tuple #[.agg #[iV vt199.X, iV vt199.Y, iV vt199.Z], iV vt200], .agg #[iV vt115.X, iV vt115.Y, iV vt115.Z], .agg #[iV vt116.X, iV vt116.Y, iV vt116.Z], .tuple #[.agg #[iV vt199.X, iV vt199.Y, iV vt199.Z], iV vt200], .agg #[iV vt199.X, iV vt199.Y, iV vt199.Z], iV vt200, iV vt200, .bool false, .bool false, .agg #[iV vt139.X, iV vt139.Y, iV vt139.Z], .agg #[iV vt116.X, iV vt116.Y, iV vt116.Z], .bool true, .bool true, .bool true, uV, uV, uV, .bool true, uV, uV, uV, uV, uV, uV, uV, uV, uV, uV, uV, uV, uV, uV, uV, uV, uV, uV, uV, uV, uV, uV, uV, uV, uV, uV, uV, uV, uV, uV, uV, uV, uV, uV, uV, uV, uV, uV, uV, uV, uV, uV, uV, uV, uV, uV], []⟩) (by kernel_rfl) ?_
              refine wpList_nil ?_
              refine hK213 _ _ ?_
              refine condT (by kernel_rfl) ?_
              refine wp_seq_k (fun K221 hK222 => ?_)
              refine wp_region_lit ?_
              have HS223 := HS211.u8
              refine seqK rfl (does_store (n := 1) (vs := [.bool false]) (cs' := #[.bool false]) rfl (by kernel_rfl) (by kernel_rfl : _ = Value.pointer (some ⟨b12, 0, none⟩)) (by kernel_rfl : _ = Value.bool false) rfl rfl (by intro u_ hu_; simp only [List.mem_cons, List.not_mem_nil, or_false] at hu_; subst hu_; rfl) HS223 (Nat.le_of_ble_eq_true rfl) (by kernel_rfl) ?_)
              intro W224 HS225
              refine wpList_nil ?_
              refine hK222 _ _ ?_
              refine wp_ret ?_
              refine hr109 _ _ ?_
              refine hr85 _ _ ?_
              refine hret _ _ ?_
              refine endsM (v := Value.bool false) (results1 (q1 := .cell 4 4) (by kernel_rfl) (resC (by kernel_rfl : _ = Value.pointer (some ⟨b12, 0, none⟩)) Try.underlying4 rfl (HS225.cell 0))) (by kernel_rfl) ?_
              have HS640 := HS225.drop
              have HS641 := HS640.drop
              have HS642 := HS641.drop
              have HS643 := HS642.drop
              have HS644 := HS643.drop
              have HS645 := HS644.drop
              have HS646 := HS645.drop
              have HS647 := HS646.drop
              have HS648 := HS647.drop
              replace h := JR240 _ h
              injection h with h
              subst h
              exact ⟨f202, rfl, (L23.trans (L44.trans (L51.trans (L58.trans (L72.trans (L93.trans (L120.trans (L144.trans L203)))))))), HS648⟩
            · have c220 : ¬ ((!((vt139.X == vt116.X) && ((vt139.Y == vt116.Y) && ((vt139.Z == vt116.Z) && true)))) = true) := c220
              refine seqRwI 91 (x := (!((vt139.X == vt116.X) && ((vt139.Y == vt116.Y) && ((vt139.Z == vt116.Z) && true))))) (v := false) (by kernel_rfl) (Bool.eq_false_iff.mpr c220) ?_
              refine seqRwI 92 (x := (!((vt139.X == vt116.X) && ((vt139.Y == vt116.Y) && ((vt139.Z == vt116.Z) && true))))) (v := false) (by kernel_rfl) (Bool.eq_false_iff.mpr c220) ?_
              refine seqRwI 93 (x := (!((vt139.X == vt116.X) && ((vt139.Y == vt116.Y) && ((vt139.Z == vt116.Z) && true))))) (v := false) (by kernel_rfl) (Bool.eq_false_iff.mpr c220) ?_
              refine seqG (by kernel_rfl) (does_run (run_loadN (n := 3) rfl Try.underlying23 rfl (by kernel_rfl) (by kernel_rfl : _ = Value.pointer (some ⟨b206, 0, none⟩)) (cs := [.int .i64 vt199.X, .int .i64 vt199.Y, .int .i64 vt199.Z]) rfl (HS211.cells 0 3 _ rfl)) ?_)
              refine seqG (by kernel_rfl) (does_run (run_loadN (n := 3) rfl Try.underlying23 rfl (by kernel_rfl) (by kernel_rfl : _ = Value.pointer (some ⟨b151, 0, none⟩)) (cs := [.int .i64 vt140.X, .int .i64 vt140.Y, .int .i64 vt140.Z]) rfl (HS211.u1.cells 0 3 _ rfl)) ?_)
              refine seqG (by kernel_rfl) (does_run (run_neS (b := ((vt199.X == vt140.X) && ((vt199.Y == vt140.Y) && ((vt199.Z == vt140.Z) && true)))) rfl (by kernel_rfl : _ = Value.agg #[.int .i64 vt199.X, .int .i64 vt199.Y, .int .i64 vt199.Z]) (by kernel_rfl : _ = Value.agg #[.int .i64 vt140.X, .int .i64 vt140.Y, .int .i64 vt140.Z]) (by kernel_rfl) (by kernel_rfl) W210) ?_)
              refine seqS1 (a' := ⟨#[.slice A2 l1.length c3, iV day5, uV, .pointer (some ⟨b8, 0, none⟩), .pointer (some ⟨b12, 0, none⟩), .pointer (some ⟨b34, 0, none⟩), .pointer (some ⟨b61, 0, none⟩), iV d97, .pointer (some ⟨b123, 0, none⟩), .pointer (some ⟨b127, 0, none⟩), iV vt117, .pointer (some ⟨b147, 0, none⟩), .pointer (some ⟨b151, 0, none⟩), iV vt141, .pointer (some ⟨b206, 0, none⟩), iV vt200, uV, uV, uV, uV, uV, uV, uV, uV, uV, .bool vt20, .bool false, .slice A2 l1.length c3, .agg #[.slice A2 l1.length c3, iV 0], .pointer (some ⟨b34, 0, none⟩), .pointer (some ⟨b34, 0, none⟩), .pointer (some ⟨b34, 0, none⟩), .pointer (some ⟨b34, 0, none⟩), iV vt40, .agg #[iV vt47.X, iV vt47.Y, iV vt47.Z], .agg #[iV vt54.ID, iV vt54.Was.X, iV vt54.Was.Y, iV vt54.Was.Z, iV vt54.Here.X, iV vt54.Here.Y, iV vt54.Here.Z, iV vt54.Rate], iV day5, iV vt69, iV vt69, iV (w64 (0 - vt69)), iV d97, iV vt69, .bool true, (j96 11), (j96 12), .tuple #[.agg #[iV vt115.X, iV vt115.Y, iV vt115.Z], .agg #[iV vt116.X, iV vt116.Y, iV vt116.Z], iV vt117], .agg #[iV vt54.ID, iV vt54.Was.X, iV vt54.Was.Y, iV vt54.Was.Z, iV vt54.Here.X, iV vt54.Here.Y, iV vt54.Here.Z, iV vt54.Rate], iV d97, .tuple #[.agg #[iV vt115.X, iV vt115.Y, iV vt115.Z], .agg #[iV vt116.X, iV vt116.Y, iV vt116.Z], iV vt117], .agg #[iV vt115.X, iV vt115.Y, iV vt115.Z], .agg #[iV vt116.X, iV vt116.Y, iV vt116.Z], iV vt117, .tuple #[.agg #[iV vt139.X, iV vt139.Y, iV vt139.Z], .agg #[iV vt140.X, iV vt140.Y, iV vt140.Z], iV vt141], .agg #[iV vt54.ID, iV vt54.Was.X, iV vt54.Was.Y, iV vt54.Was.Z, iV vt54.Here.X, iV vt54.Here.Y, iV vt54.Here.Z, iV vt54.Rate], iV d97, iV (w64 (d97 + 1)), .tuple #[.agg #[iV vt139.X, iV vt139.Y, iV vt139.Z], .agg #[iV vt140.X, iV vt140.Y, iV vt140.Z], iV vt141], .agg #[iV vt139.X, iV vt139.Y, iV vt139.Z], .agg #[iV vt140.X, iV vt140.Y, iV vt140.Z], iV vt141, iV vt117, .bool false, .bool false, iV vt141, .bool false, .bool false, (j96 34), (j96 35), (j96 36), (j96 37), (j96 38), (j96 39), (j96 40), (j96 41), (j96 42), (j96 43), (j96 44), (j96 45), (j96 46), (j96 47), .tuple #[.agg #[iV vt199.X, iV vt199.Y, iV vt199.Z], iV vt200], .agg #[iV vt115.X, iV vt115.Y, iV vt115.Z], .agg #[iV vt116.X, iV vt116.Y, iV vt116.Z], .tuple #[.agg #[iV vt199.X, iV vt199.Y, iV vt199.Z], iV vt200], .agg #[iV vt199.X, iV vt199.Y, iV vt199.Z], iV vt200, iV vt200, .bool false, .bool false, .agg #[iV vt139.X, iV vt139.Y, iV vt139.Z], .agg #[iV vt116.X, iV vt116.Y, iV vt116.Z], .bool false, .bool false, .bool false, .agg #[iV vt199.X, iV vt199.Y, iV vt199.Z], .agg #[iV vt140.X, iV vt140.Y, iV vt140.Z], .bool (!((vt199.X == vt140.X) && ((vt199.Y == vt140.Y) && ((vt199.Z == vt140.Z) && true)))), .bool (!((vt199.X == vt140.X) && ((vt199.Y == vt140.Y) && ((vt199.Z == vt140.Z) && true)))), uV, uV, uV, uV, uV, uV, uV, uV, uV, uV, uV, uV, uV, uV, uV, uV, uV, uV, uV, uV, uV, uV, uV, uV, uV, uV, uV, uV, uV, uV, uV, uV, uV, uV, uV, uV, uV, uV, uV, uV, uV, uV, uV, uV, uV, uV], []⟩) (by kernel_rfl) ?_
              refine wpList_nil ?_
              refine hK213 _ _ ?_
              have hq_ := ite_some h; clear h; rcases hq_ with ⟨c227, h⟩ | ⟨c227, h⟩
              · have c227 : (!((vt199.X == vt140.X) && ((vt199.Y == vt140.Y) && ((vt199.Z == vt140.Z) && true)))) = true := c227
                refine wpRwI 96 (x := (!((vt199.X == vt140.X) && ((vt199.Y == vt140.Y) && ((vt199.Z == vt140.Z) && true))))) (v := true) (by kernel_rfl) c227 ?_
                refine wpRwI 97 (x := (!((vt199.X == vt140.X) && ((vt199.Y == vt140.Y) && ((vt199.Z == vt140.Z) && true))))) (v := true) (by kernel_rfl) c227 ?_
                refine condT (by kernel_rfl) ?_
                refine wp_seq_k (fun K228 hK229 => ?_)
                refine wp_region_lit ?_
                have HS230 := HS211.u8
                refine seqK rfl (does_store (n := 1) (vs := [.bool false]) (cs' := #[.bool false]) rfl (by kernel_rfl) (by kernel_rfl : _ = Value.pointer (some ⟨b12, 0, none⟩)) (by kernel_rfl : _ = Value.bool false) rfl rfl (by intro u_ hu_; simp only [List.mem_cons, List.not_mem_nil, or_false] at hu_; subst hu_; rfl) HS230 (Nat.le_of_ble_eq_true rfl) (by kernel_rfl) ?_)
                intro W231 HS232
                refine wpList_nil ?_
                refine hK229 _ _ ?_
                refine wp_ret ?_
                refine hr109 _ _ ?_
                refine hr85 _ _ ?_
                refine hret _ _ ?_
                refine endsM (v := Value.bool false) (results1 (q1 := .cell 4 4) (by kernel_rfl) (resC (by kernel_rfl : _ = Value.pointer (some ⟨b12, 0, none⟩)) Try.underlying4 rfl (HS232.cell 0))) (by kernel_rfl) ?_
                have HS649 := HS232.drop
                have HS650 := HS649.drop
                have HS651 := HS650.drop
                have HS652 := HS651.drop
                have HS653 := HS652.drop
                have HS654 := HS653.drop
                have HS655 := HS654.drop
                have HS656 := HS655.drop
                have HS657 := HS656.drop
                replace h := JR240 _ h
                injection h with h
                subst h
                exact ⟨f202, rfl, (L23.trans (L44.trans (L51.trans (L58.trans (L72.trans (L93.trans (L120.trans (L144.trans L203)))))))), HS657⟩
              · have c227 : ¬ ((!((vt199.X == vt140.X) && ((vt199.Y == vt140.Y) && ((vt199.Z == vt140.Z) && true)))) = true) := c227
                refine wpRwI 96 (x := (!((vt199.X == vt140.X) && ((vt199.Y == vt140.Y) && ((vt199.Z == vt140.Z) && true))))) (v := false) (by kernel_rfl) (Bool.eq_false_iff.mpr c227) ?_
                refine wpRwI 97 (x := (!((vt199.X == vt140.X) && ((vt199.Y == vt140.Y) && ((vt199.Z == vt140.Z) && true))))) (v := false) (by kernel_rfl) (Bool.eq_false_iff.mpr c227) ?_
                refine condF (by kernel_rfl) ?_
                refine wp_skip ?_
                refine hn108 _ _ ?_
                refine hK105 _ _ ?_
                refine wp_region_lit ?_
                refine seqS3 (a' := ⟨#[.slice A2 l1.length c3, iV day5, uV, .pointer (some ⟨b8, 0, none⟩), .pointer (some ⟨b12, 0, none⟩), .pointer (some ⟨b34, 0, none⟩), .pointer (some ⟨b61, 0, none⟩), iV (w64 (d97 + 1)), .pointer (some ⟨b123, 0, none⟩), .pointer (some ⟨b127, 0, none⟩), iV vt117, .pointer (some ⟨b147, 0, none⟩), .pointer (some ⟨b151, 0, none⟩), iV vt141, .pointer (some ⟨b206, 0, none⟩), iV vt200, uV, uV, uV, uV, uV, uV, uV, uV, uV, .bool vt20, .bool false, .slice A2 l1.length c3, .agg #[.slice A2 l1.length c3, iV 0], .pointer (some ⟨b34, 0, none⟩), .pointer (some ⟨b34, 0, none⟩), .pointer (some ⟨b34, 0, none⟩), .pointer (some ⟨b34, 0, none⟩), iV vt40, .agg #[iV vt47.X, iV vt47.Y, iV vt47.Z], .agg #[iV vt54.ID, iV vt54.Was.X, iV vt54.Was.Y, iV vt54.Was.Z, iV vt54.Here.X, iV vt54.Here.Y, iV vt54.Here.Z, iV vt54.Rate], iV day5, iV vt69, iV vt69, iV (w64 (0 - vt69)), iV d97, iV vt69, .bool true, iV d97, iV (w64 (d97 + 1)), .tuple #[.agg #[iV vt115.X, iV vt115.Y, iV vt115.Z], .agg #[iV vt116.X, iV vt116.Y, iV vt116.Z], iV vt117], .agg #[iV vt54.ID, iV vt54.Was.X, iV vt54.Was.Y, iV vt54.Was.Z, iV vt54.Here.X, iV vt54.Here.Y, iV vt54.Here.Z, iV vt54.Rate], iV d97, .tuple #[.agg #[iV vt115.X, iV vt115.Y, iV vt115.Z], .agg #[iV vt116.X, iV vt116.Y, iV vt116.Z], iV vt117], .agg #[iV vt115.X, iV vt115.Y, iV vt115.Z], .agg #[iV vt116.X, iV vt116.Y, iV vt116.Z], iV vt117, .tuple #[.agg #[iV vt139.X, iV vt139.Y, iV vt139.Z], .agg #[iV vt140.X, iV vt140.Y, iV vt140.Z], iV vt141], .agg #[iV vt54.ID, iV vt54.Was.X, iV vt54.Was.Y, iV vt54.Was.Z, iV vt54.Here.X, iV vt54.Here.Y, iV vt54.Here.Z, iV vt54.Rate], iV d97, iV (w64 (d97 + 1)), .tuple #[.agg #[iV vt139.X, iV vt139.Y, iV vt139.Z], .agg #[iV vt140.X, iV vt140.Y, iV vt140.Z], iV vt141], .agg #[iV vt139.X, iV vt139.Y, iV vt139.Z], .agg #[iV vt140.X, iV vt140.Y, iV vt140.Z], iV vt141, iV vt117, .bool false, .bool false, iV vt141, .bool false, .bool false, (j96 34), (j96 35), (j96 36), (j96 37), (j96 38), (j96 39), (j96 40), (j96 41), (j96 42), (j96 43), (j96 44), (j96 45), (j96 46), (j96 47), .tuple #[.agg #[iV vt199.X, iV vt199.Y, iV vt199.Z], iV vt200], .agg #[iV vt115.X, iV vt115.Y, iV vt115.Z], .agg #[iV vt116.X, iV vt116.Y, iV vt116.Z], .tuple #[.agg #[iV vt199.X, iV vt199.Y, iV vt199.Z], iV vt200], .agg #[iV vt199.X, iV vt199.Y, iV vt199.Z], iV vt200, iV vt200, .bool false, .bool false, .agg #[iV vt139.X, iV vt139.Y, iV vt139.Z], .agg #[iV vt116.X, iV vt116.Y, iV vt116.Z], .bool false, .bool false, .bool false, .agg #[iV vt199.X, iV vt199.Y, iV vt199.Z], .agg #[iV vt140.X, iV vt140.Y, iV vt140.Z], .bool false, .bool false, uV, uV, uV, uV, uV, uV, uV, uV, uV, uV, uV, uV, uV, uV, uV, uV, uV, uV, uV, uV, uV, uV, uV, uV, uV, uV, uV, uV, uV, uV, uV, uV, uV, uV, uV, uV, uV, uV, uV, uV, uV, uV, uV, uV, uV, uV], []⟩) (by kernel_rfl) ?_
                refine wpList_nil ?_
                refine hK90 n91 _ _ (Nat.lt_succ_self _) ?_
                have HS278 := HS211.u8
                have HS279 := HS278.u8
                have HS280 := HS279.u8
                have HS281 := HS280.u8
                have HS282 := HS281.u8
                have HS283 := HS282.u8
                have HS284 := HS283.u8
                have HS285 := HS284.u8
                have HS286 := HS285.u8
                have HS287 := HS286.drop
                have HS288 := HS287.drop
                have HS289 := HS288.drop
                have HS290 := HS289.drop
                have HS291 := HS290.drop
                exact ⟨f202, (w64 (d97 + 1)), (fun i_ => [Value.pointer (some ⟨b123, 0, none⟩), Value.pointer (some ⟨b127, 0, none⟩), Value.int .i64 vt117, Value.pointer (some ⟨b147, 0, none⟩), Value.pointer (some ⟨b151, 0, none⟩), Value.int .i64 vt141, Value.pointer (some ⟨b206, 0, none⟩), Value.int .i64 vt200, Value.int .i64 d97, Value.int .i64 vt69, Value.bool true, Value.int .i64 d97, Value.int .i64 (w64 (d97 + 1)), Value.tuple #[.agg #[.int .i64 vt115.X, .int .i64 vt115.Y, .int .i64 vt115.Z], .agg #[.int .i64 vt116.X, .int .i64 vt116.Y, .int .i64 vt116.Z], .int .i64 vt117], Value.agg #[.int .i64 vt54.ID, .int .i64 vt54.Was.X, .int .i64 vt54.Was.Y, .int .i64 vt54.Was.Z, .int .i64 vt54.Here.X, .int .i64 vt54.Here.Y, .int .i64 vt54.Here.Z, .int .i64 vt54.Rate], Value.int .i64 d97, Value.tuple #[.agg #[.int .i64 vt115.X, .int .i64 vt115.Y, .int .i64 vt115.Z], .agg #[.int .i64 vt116.X, .int .i64 vt116.Y, .int .i64 vt116.Z], .int .i64 vt117], Value.agg #[.int .i64 vt115.X, .int .i64 vt115.Y, .int .i64 vt115.Z], Value.agg #[.int .i64 vt116.X, .int .i64 vt116.Y, .int .i64 vt116.Z], Value.int .i64 vt117, Value.tuple #[.agg #[.int .i64 vt139.X, .int .i64 vt139.Y, .int .i64 vt139.Z], .agg #[.int .i64 vt140.X, .int .i64 vt140.Y, .int .i64 vt140.Z], .int .i64 vt141], Value.agg #[.int .i64 vt54.ID, .int .i64 vt54.Was.X, .int .i64 vt54.Was.Y, .int .i64 vt54.Was.Z, .int .i64 vt54.Here.X, .int .i64 vt54.Here.Y, .int .i64 vt54.Here.Z, .int .i64 vt54.Rate], Value.int .i64 d97, Value.int .i64 (w64 (d97 + 1)), Value.tuple #[.agg #[.int .i64 vt139.X, .int .i64 vt139.Y, .int .i64 vt139.Z], .agg #[.int .i64 vt140.X, .int .i64 vt140.Y, .int .i64 vt140.Z], .int .i64 vt141], Value.agg #[.int .i64 vt139.X, .int .i64 vt139.Y, .int .i64 vt139.Z], Value.agg #[.int .i64 vt140.X, .int .i64 vt140.Y, .int .i64 vt140.Z], Value.int .i64 vt141, Value.int .i64 vt117, Value.bool false, Value.bool false, Value.int .i64 vt141, Value.bool false, Value.bool false, (j96 34), (j96 35), (j96 36), (j96 37), (j96 38), (j96 39), (j96 40), (j96 41), (j96 42), (j96 43), (j96 44), (j96 45), (j96 46), (j96 47), Value.tuple #[.agg #[.int .i64 vt199.X, .int .i64 vt199.Y, .int .i64 vt199.Z], .int .i64 vt200], Value.agg #[.int .i64 vt115.X, .int .i64 vt115.Y, .int .i64 vt115.Z], Value.agg #[.int .i64 vt116.X, .int .i64 vt116.Y, .int .i64 vt116.Z], Value.tuple #[.agg #[.int .i64 vt199.X, .int .i64 vt199.Y, .int .i64 vt199.Z], .int .i64 vt200], Value.agg #[.int .i64 vt199.X, .int .i64 vt199.Y, .int .i64 vt199.Z], Value.int .i64 vt200, Value.int .i64 vt200, Value.bool false, Value.bool false, Value.agg #[.int .i64 vt139.X, .int .i64 vt139.Y, .int .i64 vt139.Z], Value.agg #[.int .i64 vt116.X, .int .i64 vt116.Y, .int .i64 vt116.Z], Value.bool false, Value.bool false, Value.bool false, Value.agg #[.int .i64 vt199.X, .int .i64 vt199.Y, .int .i64 vt199.Z], Value.agg #[.int .i64 vt140.X, .int .i64 vt140.Y, .int .i64 vt140.Z], Value.bool false, Value.bool false].getD i_ undef), (L93.trans (L120.trans (L144.trans L203))), HS291, h, (by kernel_rfl)⟩
    · have c103 : ¬ (d97 < vt69) := c103
      refine wpRwI 42 (x := (decide (d97 < vt69))) (v := false) (by kernel_rfl) (decide_eq_false c103) ?_
      refine condF (by kernel_rfl) ?_
      refine wp_exit ?_
      refine hx83 _ _ ?_
      exact J239 f92 (fun i_ => [Value.int .i64 d97, (j96 0), (j96 1), (j96 2), (j96 3), (j96 4), (j96 5), (j96 6), (j96 7), Value.int .i64 d97, Value.int .i64 vt69, Value.bool false, (j96 11), (j96 12), (j96 13), (j96 14), (j96 15), (j96 16), (j96 17), (j96 18), (j96 19), (j96 20), (j96 21), (j96 22), (j96 23), (j96 24), (j96 25), (j96 26), (j96 27), (j96 28), (j96 29), (j96 30), (j96 31), (j96 32), (j96 33), (j96 34), (j96 35), (j96 36), (j96 37), (j96 38), (j96 39), (j96 40), (j96 41), (j96 42), (j96 43), (j96 44), (j96 45), (j96 46), (j96 47), (j96 48), (j96 49), (j96 50), (j96 51), (j96 52), (j96 53), (j96 54), (j96 55), (j96 56), (j96 57), (j96 58), (j96 59), (j96 60), (j96 61), (j96 62), (j96 63), (j96 64), (j96 65)].getD i_ undef) W94 _ L93 h HS95 (by kernel_rfl)

end Go.Sp.W4
