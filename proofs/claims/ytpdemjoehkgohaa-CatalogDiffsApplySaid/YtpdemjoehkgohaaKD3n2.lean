import Derived.Test.YtpdemjoehkgohaaProg
import Derived.Test.YtpdemjoehkgohaaSpCopy
import Derived.Test.YtpdemjoehkgohaaFD3
import Derived.Test.YtpdemjoehkgohaaSpSort
import Derived.Test.YtpdemjoehkgohaaShelf
import Derived.Test.YtpdemjoehkgohaaSpMapR
import Derived.Test.YtpdemjoehkgohaaSpKeys
import Derived.Test.YtpdemjoehkgohaaKD3n0
import Derived.Test.YtpdemjoehkgohaaKD3n1
namespace Go.Sp.D3
open Go Go.Sp Go.Proofs
set_option linter.unusedVariables false
attribute [local irreducible] wpList AnyL Code.wp Calls Does
set_option maxRecDepth 100000 in
set_option maxHeartbeats 4000000 in
theorem catalog_CheckRow.calls (k : Nat) (A2 : Option Addr) (c3 : Nat) (r1 : S_Row) {t w : World} {f : FM} {H : List Seg} (HS : St t w f (H)) (HR4 : SlR (tInt .i64) f A2 c3 r1.Frames) (rr1 : Int) (h : catalog_CheckRow k r1 = some rr1) :
    Calls Try.prog 44 #[.agg #[.int .i64 r1.ID, .int .i64 r1.Box.X.Lo, .int .i64 r1.Box.X.Hi, .bool r1.Box.X.Unknown, .int .i64 r1.Box.Y.Lo, .int .i64 r1.Box.Y.Hi, .bool r1.Box.Y.Unknown, .int .i64 r1.Box.Z.Lo, .int .i64 r1.Box.Z.Hi, .bool r1.Box.Z.Unknown, .int .i64 r1.Flux.Lo, .int .i64 r1.Flux.Hi, .bool r1.Flux.Unknown, .int .i64 r1.When.Lo, .int .i64 r1.When.Hi, .bool r1.When.Unknown, .slice A2 r1.Frames.length c3, .int .i64 r1.Marks]] w (fun e w' => ∃ (g : FM), e = .returned (Value.int .i64 rr1) ∧ FM.le f g ∧ St t w' g (H)) := by
  unfold catalog_CheckRow at h
  refine enter Try.func44 rfl (tm := #[(ag_Row r1 A2 c3), uV, uV, uV, uV, uV, uV, uV, uV, uV, uV, uV, uV, uV, uV, uV, uV, uV, uV, uV, uV, uV, uV, uV, uV, uV, uV, uV, uV, uV, uV, uV, uV, uV, uV, uV, uV, uV, uV, uV, uV, uV, uV, uV, uV, uV, uV, uV, uV, uV, uV, uV, uV, uV, uV, uV, uV, uV, uV, uV, uV, uV, uV, uV, uV, uV, uV, uV, uV, uV, uV, uV, uV, uV, uV, uV, uV, uV, uV, uV, uV, uV, uV, uV, uV, uV, uV, uV, uV, uV, uV, uV, uV, uV]) (by kernel_rfl) ?_
  intro B hret hnor hnp
  refine wp_seq_k (fun K5 hK6 => ?_)
  refine wp_region_lit ?_
  refine seqK rfl (does_box (cs := #[.int .i64 r1.ID, .int .i64 r1.Box.X.Lo, .int .i64 r1.Box.X.Hi, .bool r1.Box.X.Unknown, .int .i64 r1.Box.Y.Lo, .int .i64 r1.Box.Y.Hi, .bool r1.Box.Y.Unknown, .int .i64 r1.Box.Z.Lo, .int .i64 r1.Box.Z.Hi, .bool r1.Box.Z.Unknown, .int .i64 r1.Flux.Lo, .int .i64 r1.Flux.Hi, .bool r1.Flux.Unknown, .int .i64 r1.When.Lo, .int .i64 r1.When.Hi, .bool r1.When.Unknown, .slice A2 r1.Frames.length c3, .int .i64 r1.Marks]) rfl (by kernel_rfl : _ = Value.agg #[.int .i64 r1.ID, .int .i64 r1.Box.X.Lo, .int .i64 r1.Box.X.Hi, .bool r1.Box.X.Unknown, .int .i64 r1.Box.Y.Lo, .int .i64 r1.Box.Y.Hi, .bool r1.Box.Y.Unknown, .int .i64 r1.Box.Z.Lo, .int .i64 r1.Box.Z.Hi, .bool r1.Box.Z.Unknown, .int .i64 r1.Flux.Lo, .int .i64 r1.Flux.Hi, .bool r1.Flux.Unknown, .int .i64 r1.When.Lo, .int .i64 r1.When.Hi, .bool r1.When.Unknown, .slice A2 r1.Frames.length c3, .int .i64 r1.Marks]) rfl HS ?_)
  intro b7 W8 HS9
  refine seqS1 (a' := ⟨#[(ag_Row r1 A2 c3), .pointer (some ⟨b7, 0, none⟩), iV 0, uV, uV, uV, uV, uV, uV, uV, uV, uV, uV, uV, uV, uV, uV, uV, uV, uV, uV, uV, uV, uV, uV, uV, uV, uV, uV, uV, uV, uV, uV, uV, uV, uV, uV, uV, uV, uV, uV, uV, uV, uV, uV, uV, uV, uV, uV, uV, uV, uV, uV, uV, uV, uV, uV, uV, uV, uV, uV, uV, uV, uV, uV, uV, uV, uV, uV, uV, uV, uV, uV, uV, uV, uV, uV, uV, uV, uV, uV, uV, uV, uV, uV, uV, uV, uV, uV, uV, uV, uV, uV, uV], []⟩) (by kernel_rfl) ?_
  refine wpList_nil ?_
  refine hK6 _ _ ?_
  refine wp_seq_k (fun K11 hK12 => ?_)
  refine wp_seq_k (fun K13 hK14 => ?_)
  refine wp_region_lit ?_
  refine seqL1 (by kernel_rfl) ?_
  refine seqK rfl (does_run (run_load rfl Try.underlying3 rfl (by kernel_rfl : _ = Value.pointer (some ⟨b7, 0, none⟩)) (HS9.cell 0)) ?_)
  refine seqS2 (a' := ⟨#[(ag_Row r1 A2 c3), .pointer (some ⟨b7, 0, none⟩), iV 0, uV, uV, uV, uV, uV, uV, .pointer (some ⟨b7, 0, none⟩), iV r1.ID, .bool (decide (r1.ID < 1)), .bool (decide (r1.ID < 1)), uV, uV, uV, uV, uV, uV, uV, uV, uV, uV, uV, uV, uV, uV, uV, uV, uV, uV, uV, uV, uV, uV, uV, uV, uV, uV, uV, uV, uV, uV, uV, uV, uV, uV, uV, uV, uV, uV, uV, uV, uV, uV, uV, uV, uV, uV, uV, uV, uV, uV, uV, uV, uV, uV, uV, uV, uV, uV, uV, uV, uV, uV, uV, uV, uV, uV, uV, uV, uV, uV, uV, uV, uV, uV, uV, uV, uV, uV, uV, uV, uV], []⟩) (by kernel_rfl) ?_
  have hq_ := ite_some h; clear h; rcases hq_ with ⟨c15, h⟩ | ⟨c15, h⟩
  · have c15 : r1.ID < 1 := c15
    refine seqRwI 11 (x := (decide (r1.ID < 1))) (v := true) (by kernel_rfl) (decide_eq_true c15) ?_
    refine seqRwI 12 (x := (decide (r1.ID < 1))) (v := true) (by kernel_rfl) (decide_eq_true c15) ?_
    refine seqS4 (a' := ⟨#[(ag_Row r1 A2 c3), .pointer (some ⟨b7, 0, none⟩), iV 0, uV, uV, uV, uV, uV, uV, .pointer (some ⟨b7, 0, none⟩), iV r1.ID, .bool true, .bool true, uV, uV, uV, .bool true, uV, uV, uV, uV, uV, uV, uV, uV, uV, uV, uV, uV, uV, uV, uV, uV, uV, uV, uV, uV, uV, uV, uV, uV, uV, uV, uV, uV, uV, uV, uV, uV, uV, uV, uV, uV, uV, uV, uV, uV, uV, uV, uV, uV, uV, uV, uV, uV, uV, uV, uV, uV, uV, uV, uV, uV, uV, uV, uV, uV, uV, uV, uV, uV, uV, uV, uV, uV, uV, uV, uV, uV, uV, uV, uV, uV, uV], []⟩) (by kernel_rfl) ?_
    refine wpList_nil ?_
    refine hK14 _ _ ?_
    refine condT (by kernel_rfl) ?_
    refine wp_seq_k (fun K16 hK17 => ?_)
    refine wp_region_lit ?_
    refine seqS1 (a' := ⟨#[(ag_Row r1 A2 c3), .pointer (some ⟨b7, 0, none⟩), iV 4, uV, uV, uV, uV, uV, uV, .pointer (some ⟨b7, 0, none⟩), iV r1.ID, .bool true, .bool true, uV, uV, uV, .bool true, uV, uV, uV, uV, uV, uV, uV, uV, uV, uV, uV, uV, uV, uV, uV, uV, uV, uV, uV, uV, uV, uV, uV, uV, uV, uV, uV, uV, uV, uV, uV, uV, uV, uV, uV, uV, uV, uV, uV, uV, uV, uV, uV, uV, uV, uV, uV, uV, uV, uV, uV, uV, uV, uV, uV, uV, uV, uV, uV, uV, uV, uV, uV, uV, uV, uV, uV, uV, uV, uV, uV, uV, uV, uV, uV, uV, uV], []⟩) (by kernel_rfl) ?_
    refine wpList_nil ?_
    refine hK17 _ _ ?_
    refine wp_ret ?_
    refine hret _ _ ?_
    refine ends_still (v := Value.int .i64 4) (by kernel_rfl) (by kernel_rfl) ?_
    have HS254 := HS9.drop
    injection h with h
    subst h
    exact ⟨f, rfl, FM.le.refl _, HS254⟩
  · have c15 : ¬ (r1.ID < 1) := c15
    refine seqRwI 11 (x := (decide (r1.ID < 1))) (v := false) (by kernel_rfl) (decide_eq_false c15) ?_
    refine seqRwI 12 (x := (decide (r1.ID < 1))) (v := false) (by kernel_rfl) (decide_eq_false c15) ?_
    refine seqL1 (by kernel_rfl) ?_
    refine seqG (by kernel_rfl) (does_run (run_load rfl Try.underlying3 rfl (by kernel_rfl : _ = Value.pointer (some ⟨b7, 0, none⟩)) (HS9.cell 0)) ?_)
    refine seqS2 (a' := ⟨#[(ag_Row r1 A2 c3), .pointer (some ⟨b7, 0, none⟩), iV 0, uV, uV, uV, uV, uV, uV, .pointer (some ⟨b7, 0, none⟩), iV r1.ID, .bool false, .bool false, .pointer (some ⟨b7, 0, none⟩), iV r1.ID, .bool (decide (r1.ID > 2147483647)), .bool (decide (r1.ID > 2147483647)), uV, uV, uV, uV, uV, uV, uV, uV, uV, uV, uV, uV, uV, uV, uV, uV, uV, uV, uV, uV, uV, uV, uV, uV, uV, uV, uV, uV, uV, uV, uV, uV, uV, uV, uV, uV, uV, uV, uV, uV, uV, uV, uV, uV, uV, uV, uV, uV, uV, uV, uV, uV, uV, uV, uV, uV, uV, uV, uV, uV, uV, uV, uV, uV, uV, uV, uV, uV, uV, uV, uV, uV, uV, uV, uV, uV, uV], []⟩) (by kernel_rfl) ?_
    refine wpList_nil ?_
    refine hK14 _ _ ?_
    have hq_ := ite_some h; clear h; rcases hq_ with ⟨c19, h⟩ | ⟨c19, h⟩
    · have c19 : r1.ID > 2147483647 := c19
      refine wpRwI 15 (x := (decide (r1.ID > 2147483647))) (v := true) (by kernel_rfl) (decide_eq_true c19) ?_
      refine wpRwI 16 (x := (decide (r1.ID > 2147483647))) (v := true) (by kernel_rfl) (decide_eq_true c19) ?_
      refine condT (by kernel_rfl) ?_
      refine wp_seq_k (fun K20 hK21 => ?_)
      refine wp_region_lit ?_
      refine seqS1 (a' := ⟨#[(ag_Row r1 A2 c3), .pointer (some ⟨b7, 0, none⟩), iV 4, uV, uV, uV, uV, uV, uV, .pointer (some ⟨b7, 0, none⟩), iV r1.ID, .bool false, .bool false, .pointer (some ⟨b7, 0, none⟩), iV r1.ID, .bool true, .bool true, uV, uV, uV, uV, uV, uV, uV, uV, uV, uV, uV, uV, uV, uV, uV, uV, uV, uV, uV, uV, uV, uV, uV, uV, uV, uV, uV, uV, uV, uV, uV, uV, uV, uV, uV, uV, uV, uV, uV, uV, uV, uV, uV, uV, uV, uV, uV, uV, uV, uV, uV, uV, uV, uV, uV, uV, uV, uV, uV, uV, uV, uV, uV, uV, uV, uV, uV, uV, uV, uV, uV, uV, uV, uV, uV, uV, uV], []⟩) (by kernel_rfl) ?_
      refine wpList_nil ?_
      refine hK21 _ _ ?_
      refine wp_ret ?_
      refine hret _ _ ?_
      refine ends_still (v := Value.int .i64 4) (by kernel_rfl) (by kernel_rfl) ?_
      have HS255 := HS9.drop
      injection h with h
      subst h
      exact ⟨f, rfl, FM.le.refl _, HS255⟩
    · have c19 : ¬ (r1.ID > 2147483647) := c19
      refine wpRwI 15 (x := (decide (r1.ID > 2147483647))) (v := false) (by kernel_rfl) (decide_eq_false c19) ?_
      refine wpRwI 16 (x := (decide (r1.ID > 2147483647))) (v := false) (by kernel_rfl) (decide_eq_false c19) ?_
      refine condF (by kernel_rfl) ?_
      refine wp_skip ?_
      refine hK12 _ _ ?_
      refine wp_seq_k (fun K22 hK23 => ?_)
      refine wp_seq_k (fun K24 hK25 => ?_)
      refine wp_region_lit ?_
      refine seqL2 (by kernel_rfl) ?_
      refine seqK rfl (does_run (run_loadN (n := 3) rfl Try.underlying55 rfl (by kernel_rfl) (by kernel_rfl : _ = Value.pointer (some ⟨b7, 1, none⟩)) (cs := [.int .i64 r1.Box.X.Lo, .int .i64 r1.Box.X.Hi, .bool r1.Box.X.Unknown]) rfl (HS9.cells 1 3 _ rfl)) ?_)
      refine seqL2 (by kernel_rfl) ?_
      refine seqK rfl (does_run (run_loadN (n := 3) rfl Try.underlying55 rfl (by kernel_rfl) (by kernel_rfl : _ = Value.pointer (some ⟨b7, 4, none⟩)) (cs := [.int .i64 r1.Box.Y.Lo, .int .i64 r1.Box.Y.Hi, .bool r1.Box.Y.Unknown]) rfl (HS9.cells 4 3 _ rfl)) ?_)
      refine seqL2 (by kernel_rfl) ?_
      refine seqK rfl (does_run (run_loadN (n := 3) rfl Try.underlying55 rfl (by kernel_rfl) (by kernel_rfl : _ = Value.pointer (some ⟨b7, 7, none⟩)) (cs := [.int .i64 r1.Box.Z.Lo, .int .i64 r1.Box.Z.Hi, .bool r1.Box.Z.Unknown]) rfl (HS9.cells 7 3 _ rfl)) ?_)
      refine seqS2 (a' := ⟨#[(ag_Row r1 A2 c3), .pointer (some ⟨b7, 0, none⟩), iV 0, uV, uV, uV, uV, uV, uV, .pointer (some ⟨b7, 0, none⟩), iV r1.ID, .bool false, .bool false, .pointer (some ⟨b7, 0, none⟩), iV r1.ID, .bool false, .bool false, .pointer (some ⟨b7, 1, none⟩), .pointer (some ⟨b7, 1, none⟩), (ag_Bound r1.Box.X), .pointer (some ⟨b7, 1, none⟩), .pointer (some ⟨b7, 4, none⟩), (ag_Bound r1.Box.Y), .pointer (some ⟨b7, 1, none⟩), .pointer (some ⟨b7, 7, none⟩), (ag_Bound r1.Box.Z), .agg #[iV r1.Box.X.Lo, iV r1.Box.X.Hi, .bool r1.Box.X.Unknown, iV r1.Box.Y.Lo, iV r1.Box.Y.Hi, .bool r1.Box.Y.Unknown, iV r1.Box.Z.Lo, iV r1.Box.Z.Hi, .bool r1.Box.Z.Unknown], iV 0, uV, uV, uV, uV, uV, uV, uV, uV, uV, uV, uV, uV, uV, uV, uV, uV, uV, uV, uV, uV, uV, uV, uV, uV, uV, uV, uV, uV, uV, uV, uV, uV, uV, uV, uV, uV, uV, uV, uV, uV, uV, uV, uV, uV, uV, uV, uV, uV, uV, uV, uV, uV, uV, uV, uV, uV, uV, uV, uV, uV, uV, uV, uV, uV, uV, uV], []⟩) (by kernel_rfl) ?_
      refine wpList_nil ?_
      refine hK25 _ _ ?_
      refine blockK (fun B26 hx27 hn28 hr29 ho30 hp31 => ?_)
      have hq_ := bind_some h; clear h; obtain ⟨o32, hv85, h⟩ := hq_
      have JR87 : ∀ z_, some (Sum.inl z_) = some o32 → some z_ = some rr1 := by
        intro z_ e_; injection e_ with e_; subst e_; exact h
      have J86 : ∀ (f80 : FM) (j84 : Nat → Value) (W82 : World) (a_ : Act), FM.le f f80 → some (Sum.inr ()) = some o32 → St t W82 f80 ([(b7, .cells #[.int .i64 r1.ID, .int .i64 r1.Box.X.Lo, .int .i64 r1.Box.X.Hi, .bool r1.Box.X.Unknown, .int .i64 r1.Box.Y.Lo, .int .i64 r1.Box.Y.Hi, .bool r1.Box.Y.Unknown, .int .i64 r1.Box.Z.Lo, .int .i64 r1.Box.Z.Hi, .bool r1.Box.Z.Unknown, .int .i64 r1.Flux.Lo, .int .i64 r1.Flux.Hi, .bool r1.Flux.Unknown, .int .i64 r1.When.Lo, .int .i64 r1.When.Hi, .bool r1.When.Unknown, .slice A2 r1.Frames.length c3, .int .i64 r1.Marks] 65 (0, 0))] :: H) → a_ = ⟨#[(ag_Row r1 A2 c3), .pointer (some ⟨b7, 0, none⟩), (j84 0), uV, (j84 1), (j84 2), uV, uV, uV, .pointer (some ⟨b7, 0, none⟩), iV r1.ID, .bool false, .bool false, .pointer (some ⟨b7, 0, none⟩), iV r1.ID, .bool false, .bool false, .pointer (some ⟨b7, 1, none⟩), .pointer (some ⟨b7, 1, none⟩), (ag_Bound r1.Box.X), .pointer (some ⟨b7, 1, none⟩), .pointer (some ⟨b7, 4, none⟩), (ag_Bound r1.Box.Y), .pointer (some ⟨b7, 1, none⟩), .pointer (some ⟨b7, 7, none⟩), (ag_Bound r1.Box.Z), .agg #[iV r1.Box.X.Lo, iV r1.Box.X.Hi, .bool r1.Box.X.Unknown, iV r1.Box.Y.Lo, iV r1.Box.Y.Hi, .bool r1.Box.Y.Unknown, iV r1.Box.Z.Lo, iV r1.Box.Z.Hi, .bool r1.Box.Z.Unknown], (j84 3), (j84 4), (j84 5), (j84 6), (j84 7), (j84 8), (j84 9), (j84 10), (j84 11), uV, uV, uV, uV, uV, uV, uV, uV, uV, uV, uV, uV, uV, uV, uV, uV, uV, uV, uV, uV, uV, uV, uV, uV, uV, uV, uV, uV, uV, uV, uV, uV, uV, uV, uV, uV, uV, uV, uV, uV, uV, uV, uV, uV, uV, uV, uV, uV, uV, uV, uV, uV, uV, uV, uV, uV, uV, uV], []⟩ → K22 a_ W82 := by
        intro f80 j84 W82 a_ L81 hj88 HS83  hfr_; subst hfr_
        injection hj88 with hj88; subst hj88; try dsimp only at h
        simp only [Sum.elim_inr] at h
        refine hK23 _ _ ?_
        refine wp_seq_k (fun K92 hK93 => ?_)
        refine wp_seq_k (fun K94 hK95 => ?_)
        refine heldG (S := Sg t f80 ([(b7, .cells #[.int .i64 r1.ID, .int .i64 r1.Box.X.Lo, .int .i64 r1.Box.X.Hi, .bool r1.Box.X.Unknown, .int .i64 r1.Box.Y.Lo, .int .i64 r1.Box.Y.Hi, .bool r1.Box.Y.Unknown, .int .i64 r1.Box.Z.Lo, .int .i64 r1.Box.Z.Hi, .bool r1.Box.Z.Unknown, .int .i64 r1.Flux.Lo, .int .i64 r1.Flux.Hi, .bool r1.Flux.Unknown, .int .i64 r1.When.Lo, .int .i64 r1.When.Hi, .bool r1.When.Unknown, .slice A2 r1.Frames.length c3, .int .i64 r1.Marks] 65 (0, 0))] :: H) []) (n := 9) (by kernel_rfl) rfl HS83 ?_
        intro W96 HS97
        refine takeG [0] (n := 9) (fuel := 8) (l' := #[true, false, false, false, false, false, false, false, false]) (a' := ⟨#[(ag_Row r1 A2 c3), .pointer (some ⟨b7, 0, none⟩), (j84 0), uV, (j84 1), (j84 2), uV, uV, uV, .pointer (some ⟨b7, 0, none⟩), iV r1.ID, .bool false, .bool false, .pointer (some ⟨b7, 0, none⟩), iV r1.ID, .bool false, .bool false, .pointer (some ⟨b7, 1, none⟩), .pointer (some ⟨b7, 1, none⟩), (ag_Bound r1.Box.X), .pointer (some ⟨b7, 1, none⟩), .pointer (some ⟨b7, 4, none⟩), (ag_Bound r1.Box.Y), .pointer (some ⟨b7, 1, none⟩), .pointer (some ⟨b7, 7, none⟩), (ag_Bound r1.Box.Z), .agg #[iV r1.Box.X.Lo, iV r1.Box.X.Hi, .bool r1.Box.X.Unknown, iV r1.Box.Y.Lo, iV r1.Box.Y.Hi, .bool r1.Box.Y.Unknown, iV r1.Box.Z.Lo, iV r1.Box.Z.Hi, .bool r1.Box.Z.Unknown], (j84 3), (j84 4), (j84 5), (j84 6), (j84 7), (j84 8), (j84 9), (j84 10), (j84 11), .pointer (some ⟨b7, 10, none⟩), uV, uV, uV, uV, uV, uV, uV, uV, uV, uV, uV, uV, uV, uV, uV, uV, uV, uV, uV, uV, uV, uV, uV, uV, uV, uV, uV, uV, uV, uV, uV, uV, uV, uV, uV, uV, uV, uV, uV, uV, uV, uV, uV, uV, uV, uV, uV, uV, uV, uV, uV, uV, uV, uV, uV, uV, uV], []⟩) rfl (by kernel_rfl) (by kernel_rfl) (by kernel_rfl) hnp (Sg.g0 (Sx.of [] (FM.le.refl _) HS97)) ?_
        refine takeGQ 1 [] rfl (by kernel_rfl) (by kernel_rfl) (by kernel_rfl) (by kernel_rfl) (by kernel_rfl) (by kernel_rfl) hnp (Sg.g0 (Sx.of [] (FM.le.refl _) HS97)) (fun w_ hw_ => by obtain ⟨g_, hl_, hS_⟩ := hw_.st; exact run_loadN (n := 3) rfl Try.underlying60 rfl (by kernel_rfl) (by kernel_rfl : _ = Value.pointer (some ⟨b7, 10, none⟩)) (cs := [.int .i64 r1.Flux.Lo, .int .i64 r1.Flux.Hi, .bool r1.Flux.Unknown]) rfl (hS_.cells 10 3 _ rfl)) ?_
        refine takeG [3] (n := 7) (fuel := 6) (l' := #[true, true, false, true, false, false, false, false, false]) (a' := ⟨#[(ag_Row r1 A2 c3), .pointer (some ⟨b7, 0, none⟩), (j84 0), uV, (j84 1), (j84 2), uV, uV, uV, .pointer (some ⟨b7, 0, none⟩), iV r1.ID, .bool false, .bool false, .pointer (some ⟨b7, 0, none⟩), iV r1.ID, .bool false, .bool false, .pointer (some ⟨b7, 1, none⟩), .pointer (some ⟨b7, 1, none⟩), (ag_Bound r1.Box.X), .pointer (some ⟨b7, 1, none⟩), .pointer (some ⟨b7, 4, none⟩), (ag_Bound r1.Box.Y), .pointer (some ⟨b7, 1, none⟩), .pointer (some ⟨b7, 7, none⟩), (ag_Bound r1.Box.Z), .agg #[iV r1.Box.X.Lo, iV r1.Box.X.Hi, .bool r1.Box.X.Unknown, iV r1.Box.Y.Lo, iV r1.Box.Y.Hi, .bool r1.Box.Y.Unknown, iV r1.Box.Z.Lo, iV r1.Box.Z.Hi, .bool r1.Box.Z.Unknown], (j84 3), (j84 4), (j84 5), (j84 6), (j84 7), (j84 8), (j84 9), (j84 10), (j84 11), .pointer (some ⟨b7, 10, none⟩), (ag_Bound r1.Flux), uV, .pointer (some ⟨b7, 13, none⟩), uV, uV, uV, uV, uV, uV, uV, uV, uV, uV, uV, uV, uV, uV, uV, uV, uV, uV, uV, uV, uV, uV, uV, uV, uV, uV, uV, uV, uV, uV, uV, uV, uV, uV, uV, uV, uV, uV, uV, uV, uV, uV, uV, uV, uV, uV, uV, uV, uV, uV, uV, uV, uV, uV], []⟩) rfl (by kernel_rfl) (by kernel_rfl) (by kernel_rfl) hnp (Sg.g0 (Sx.of [] (FM.le.refl _) HS97)) ?_
        refine takeGQ 4 [] rfl (by kernel_rfl) (by kernel_rfl) (by kernel_rfl) (by kernel_rfl) (by kernel_rfl) (by kernel_rfl) hnp (Sg.g0 (Sx.of [] (FM.le.refl _) HS97)) (fun w_ hw_ => by obtain ⟨g_, hl_, hS_⟩ := hw_.st; exact run_loadN (n := 3) rfl Try.underlying63 rfl (by kernel_rfl) (by kernel_rfl : _ = Value.pointer (some ⟨b7, 13, none⟩)) (cs := [.int .i64 r1.When.Lo, .int .i64 r1.When.Hi, .bool r1.When.Unknown]) rfl (hS_.cells 13 3 _ rfl)) ?_
        have hq_ := bind_some h; clear h; obtain ⟨vt98, hc99, h⟩ := hq_
        refine takeGE 2 (by kernel_rfl) rfl (by kernel_rfl) (does_call (f := 55) (args := #[.agg #[.int .i64 r1.Flux.Lo, .int .i64 r1.Flux.Hi, .bool r1.Flux.Unknown], .int .i64 1125899906842624]) (by kernel_rfl) (catalog_ends_Quanta.calls k r1.Flux 1125899906842624 HS97 vt98 hc99) ?_)
        rintro _ W102 ⟨f100, rfl, L101, HS103⟩
        refine ⟨_, rfl, ?_⟩
        refine ⟨(Sg.g0 (Sx.of [] L101 HS103)), ?_⟩
        have hq_ := bind_some h; clear h; obtain ⟨vt104, hc105, h⟩ := hq_
        refine takeGE 5 (by kernel_rfl) rfl (by kernel_rfl) (does_call (f := 56) (args := #[.agg #[.int .i64 r1.When.Lo, .int .i64 r1.When.Hi, .bool r1.When.Unknown], .int .i64 17592186044416]) (by kernel_rfl) (catalog_ends_Tick.calls k r1.When 17592186044416 HS103 vt104 hc105) ?_)
        rintro _ W108 ⟨f106, rfl, L107, HS109⟩
        refine ⟨_, rfl, ?_⟩
        refine ⟨(Sg.g0 (Sx.of [] (L101.trans L107) HS109)), ?_⟩
        refine takeGE 6 (by kernel_rfl) rfl (by kernel_rfl) (does_lit (e := (tInt .i64)) (E := 29) (vs := #[(0, Value.int .i64 vt98), (1, Value.int .i64 vt104)]) (cs := #[.int .i64 vt98, .int .i64 vt104]) (xs := ([vt98, vt104] : List Int)) rfl Try.underlying102 (by kernel_rfl) (by kernel_rfl) ⟨[.int .i64 vt98], _, rfl, rfl, ⟨[.int .i64 vt104], _, rfl, rfl, rfl⟩⟩ rfl HS109 ?_ (by decide))
        intro b110 W111 s112 HS113 _ HO114
        refine ⟨(Sg.g0 (Sx.of [s112] (L101.trans L107) HS113)), ?_⟩
        obtain ⟨f116, L117, HS118, HR119, th120⟩ := HO114.lend HS113
        have hq_ := bind_some h; clear h; obtain ⟨vt121, hc122, h⟩ := hq_
        refine takeGE 7 (by kernel_rfl) rfl (by kernel_rfl) (does_call (f := 25) (args := #[.slice (some ⟨b110, 0, none⟩) ([vt98, vt104] : List Int).length 2]) (by kernel_rfl) (cmp_Or_Errno.calls k (some ⟨b110, 0, none⟩) 2 ([vt98, vt104] : List Int) HS118 HR119 vt121 hc122) ?_)
        rintro _ W125 ⟨f123, rfl, L124, HS126⟩
        refine ⟨_, rfl, ?_⟩
        obtain ⟨f127, L128, HS129⟩ := th120 L124 HS126
        refine ⟨(Sg.g0 (Sx.of [s112] (L101.trans (L107.trans L128)) HS129)), ?_⟩
        refine takeG [8] (n := 1) (fuel := 0) (l' := #[true, true, true, true, true, true, true, true, true]) (a' := ⟨#[(ag_Row r1 A2 c3), .pointer (some ⟨b7, 0, none⟩), (j84 0), uV, (j84 1), (j84 2), iV vt121, uV, uV, .pointer (some ⟨b7, 0, none⟩), iV r1.ID, .bool false, .bool false, .pointer (some ⟨b7, 0, none⟩), iV r1.ID, .bool false, .bool false, .pointer (some ⟨b7, 1, none⟩), .pointer (some ⟨b7, 1, none⟩), (ag_Bound r1.Box.X), .pointer (some ⟨b7, 1, none⟩), .pointer (some ⟨b7, 4, none⟩), (ag_Bound r1.Box.Y), .pointer (some ⟨b7, 1, none⟩), .pointer (some ⟨b7, 7, none⟩), (ag_Bound r1.Box.Z), .agg #[iV r1.Box.X.Lo, iV r1.Box.X.Hi, .bool r1.Box.X.Unknown, iV r1.Box.Y.Lo, iV r1.Box.Y.Hi, .bool r1.Box.Y.Unknown, iV r1.Box.Z.Lo, iV r1.Box.Z.Hi, .bool r1.Box.Z.Unknown], (j84 3), (j84 4), (j84 5), (j84 6), (j84 7), (j84 8), (j84 9), (j84 10), (j84 11), .pointer (some ⟨b7, 10, none⟩), (ag_Bound r1.Flux), iV vt98, .pointer (some ⟨b7, 13, none⟩), (ag_Bound r1.When), iV vt104, .slice (some ⟨b110, 0, none⟩) ([vt98, vt104] : List Int).length 2, iV vt121, uV, uV, uV, uV, uV, uV, uV, uV, uV, uV, uV, uV, uV, uV, uV, uV, uV, uV, uV, uV, uV, uV, uV, uV, uV, uV, uV, uV, uV, uV, uV, uV, uV, uV, uV, uV, uV, uV, uV, uV, uV, uV, uV, uV, uV, uV, uV, uV, uV, uV], []⟩) rfl (by kernel_rfl) (by kernel_rfl) (by kernel_rfl) hnp (Sg.g0 (Sx.of [s112] (L101.trans (L107.trans L128)) HS129)) ?_
        refine doneG (by kernel_rfl) ?_ _
        refine hK95 _ _ ?_
        refine wp_seq_k (fun K130 hK131 => ?_)
        refine wp_region_lit ?_
        refine seqS2 (a' := ⟨#[(ag_Row r1 A2 c3), .pointer (some ⟨b7, 0, none⟩), (j84 0), uV, (j84 1), (j84 2), iV vt121, uV, uV, .pointer (some ⟨b7, 0, none⟩), iV r1.ID, .bool false, .bool false, .pointer (some ⟨b7, 0, none⟩), iV r1.ID, .bool false, .bool false, .pointer (some ⟨b7, 1, none⟩), .pointer (some ⟨b7, 1, none⟩), (ag_Bound r1.Box.X), .pointer (some ⟨b7, 1, none⟩), .pointer (some ⟨b7, 4, none⟩), (ag_Bound r1.Box.Y), .pointer (some ⟨b7, 1, none⟩), .pointer (some ⟨b7, 7, none⟩), (ag_Bound r1.Box.Z), .agg #[iV r1.Box.X.Lo, iV r1.Box.X.Hi, .bool r1.Box.X.Unknown, iV r1.Box.Y.Lo, iV r1.Box.Y.Hi, .bool r1.Box.Y.Unknown, iV r1.Box.Z.Lo, iV r1.Box.Z.Hi, .bool r1.Box.Z.Unknown], (j84 3), (j84 4), (j84 5), (j84 6), (j84 7), (j84 8), (j84 9), (j84 10), (j84 11), .pointer (some ⟨b7, 10, none⟩), (ag_Bound r1.Flux), iV vt98, .pointer (some ⟨b7, 13, none⟩), (ag_Bound r1.When), iV vt104, .slice (some ⟨b110, 0, none⟩) ([vt98, vt104] : List Int).length 2, iV vt121, iV vt121, .bool (vt121 != 0), uV, uV, uV, uV, uV, uV, uV, uV, uV, uV, uV, uV, uV, uV, uV, uV, uV, uV, uV, uV, uV, uV, uV, uV, uV, uV, uV, uV, uV, uV, uV, uV, uV, uV, uV, uV, uV, uV, uV, uV, uV, uV, uV, uV, uV, uV, uV, uV], []⟩) (by kernel_rfl) ?_
        refine wpList_nil ?_
        refine hK131 _ _ ?_
        have hq_ := ite_some h; clear h; rcases hq_ with ⟨c133, h⟩ | ⟨c133, h⟩
        · have c133 : vt121 ≠ 0 := c133
          refine wpRwI 45 (x := (vt121 != 0)) (v := true) (by kernel_rfl) (bne_iff_ne.mpr c133) ?_
          refine condT (by kernel_rfl) ?_
          refine wp_seq_k (fun K134 hK135 => ?_)
          refine wp_region_lit ?_
          refine seqS2 (a' := ⟨#[(ag_Row r1 A2 c3), .pointer (some ⟨b7, 0, none⟩), iV vt121, uV, (j84 1), (j84 2), iV vt121, uV, uV, .pointer (some ⟨b7, 0, none⟩), iV r1.ID, .bool false, .bool false, .pointer (some ⟨b7, 0, none⟩), iV r1.ID, .bool false, .bool false, .pointer (some ⟨b7, 1, none⟩), .pointer (some ⟨b7, 1, none⟩), (ag_Bound r1.Box.X), .pointer (some ⟨b7, 1, none⟩), .pointer (some ⟨b7, 4, none⟩), (ag_Bound r1.Box.Y), .pointer (some ⟨b7, 1, none⟩), .pointer (some ⟨b7, 7, none⟩), (ag_Bound r1.Box.Z), .agg #[iV r1.Box.X.Lo, iV r1.Box.X.Hi, .bool r1.Box.X.Unknown, iV r1.Box.Y.Lo, iV r1.Box.Y.Hi, .bool r1.Box.Y.Unknown, iV r1.Box.Z.Lo, iV r1.Box.Z.Hi, .bool r1.Box.Z.Unknown], (j84 3), (j84 4), (j84 5), (j84 6), (j84 7), (j84 8), (j84 9), (j84 10), (j84 11), .pointer (some ⟨b7, 10, none⟩), (ag_Bound r1.Flux), iV vt98, .pointer (some ⟨b7, 13, none⟩), (ag_Bound r1.When), iV vt104, .slice (some ⟨b110, 0, none⟩) ([vt98, vt104] : List Int).length 2, iV vt121, iV vt121, .bool true, iV vt121, uV, uV, uV, uV, uV, uV, uV, uV, uV, uV, uV, uV, uV, uV, uV, uV, uV, uV, uV, uV, uV, uV, uV, uV, uV, uV, uV, uV, uV, uV, uV, uV, uV, uV, uV, uV, uV, uV, uV, uV, uV, uV, uV, uV, uV, uV, uV], []⟩) (by kernel_rfl) ?_
          refine wpList_nil ?_
          refine hK135 _ _ ?_
          refine wp_ret ?_
          refine hret _ _ ?_
          refine ends_still (v := Value.int .i64 vt121) (by kernel_rfl) (by kernel_rfl) ?_
          have HS258 := HS129.drop
          have HS259 := HS258.drop
          injection h with h
          subst h
          exact ⟨f127, rfl, (L81.trans (L101.trans (L107.trans L128))), HS259⟩
        · have c133 : ¬ (vt121 ≠ 0) := c133
          refine wpRwI 45 (x := (vt121 != 0)) (v := false) (by kernel_rfl) (bne_eq_false_iff_eq.mpr (Decidable.of_not_not c133)) ?_
          refine condF (by kernel_rfl) ?_
          refine wp_skip ?_
          refine hK93 _ _ ?_
          refine wp_seq_k (fun K136 hK137 => ?_)
          refine blockK (fun B138 hx139 hn140 hr141 ho142 hp143 => ?_)
          refine wp_seq_k (fun K145 hK146 => ?_)
          refine wp_region_lit ?_
          refine seqL1 (by kernel_rfl) ?_
          refine seqK rfl (does_run (run_load rfl Try.underlying22 rfl (by kernel_rfl : _ = Value.pointer (some ⟨b7, 16, none⟩)) (HS129.u1.cell 16)) ?_)
          refine seqS3 (a' := ⟨#[(ag_Row r1 A2 c3), .pointer (some ⟨b7, 0, none⟩), (j84 0), uV, (j84 1), (j84 2), iV vt121, uV, uV, .pointer (some ⟨b7, 0, none⟩), iV r1.ID, .bool false, .bool false, .pointer (some ⟨b7, 0, none⟩), iV r1.ID, .bool false, .bool false, .pointer (some ⟨b7, 1, none⟩), .pointer (some ⟨b7, 1, none⟩), (ag_Bound r1.Box.X), .pointer (some ⟨b7, 1, none⟩), .pointer (some ⟨b7, 4, none⟩), (ag_Bound r1.Box.Y), .pointer (some ⟨b7, 1, none⟩), .pointer (some ⟨b7, 7, none⟩), (ag_Bound r1.Box.Z), .agg #[iV r1.Box.X.Lo, iV r1.Box.X.Hi, .bool r1.Box.X.Unknown, iV r1.Box.Y.Lo, iV r1.Box.Y.Hi, .bool r1.Box.Y.Unknown, iV r1.Box.Z.Lo, iV r1.Box.Z.Hi, .bool r1.Box.Z.Unknown], (j84 3), (j84 4), (j84 5), (j84 6), (j84 7), (j84 8), (j84 9), (j84 10), (j84 11), .pointer (some ⟨b7, 10, none⟩), (ag_Bound r1.Flux), iV vt98, .pointer (some ⟨b7, 13, none⟩), (ag_Bound r1.When), iV vt104, .slice (some ⟨b110, 0, none⟩) ([vt98, vt104] : List Int).length 2, iV vt121, iV vt121, .bool false, uV, .bool ((r1.Frames.length : Int) == 0), .pointer (some ⟨b7, 16, none⟩), .slice A2 r1.Frames.length c3, iV (r1.Frames.length : Int), .bool ((r1.Frames.length : Int) == 0), uV, uV, uV, uV, uV, uV, uV, uV, uV, uV, uV, uV, uV, uV, uV, uV, uV, uV, uV, uV, uV, uV, uV, uV, uV, uV, uV, uV, uV, uV, uV, uV, uV, uV, uV, uV, uV, uV, uV, uV, uV, uV], []⟩) (by kernel_rfl) ?_
          refine wpList_nil ?_
          refine hK146 _ _ ?_
          have hq_ := ite_some h; clear h; rcases hq_ with ⟨c148, h⟩ | ⟨c148, h⟩
          · have c148 : (r1.Frames.length : Int) = 0 := c148
            refine wpRwI 47 (x := ((r1.Frames.length : Int) == 0)) (v := true) (by kernel_rfl) (beq_iff_eq.mpr c148) ?_
            refine wpRwI 51 (x := ((r1.Frames.length : Int) == 0)) (v := true) (by kernel_rfl) (beq_iff_eq.mpr c148) ?_
            refine condT (by kernel_rfl) ?_
            refine wp_seq_k (fun K149 hK150 => ?_)
            refine wp_region_lit ?_
            refine seqS1 (a' := ⟨#[(ag_Row r1 A2 c3), .pointer (some ⟨b7, 0, none⟩), iV 3, uV, (j84 1), (j84 2), iV vt121, uV, uV, .pointer (some ⟨b7, 0, none⟩), iV r1.ID, .bool false, .bool false, .pointer (some ⟨b7, 0, none⟩), iV r1.ID, .bool false, .bool false, .pointer (some ⟨b7, 1, none⟩), .pointer (some ⟨b7, 1, none⟩), (ag_Bound r1.Box.X), .pointer (some ⟨b7, 1, none⟩), .pointer (some ⟨b7, 4, none⟩), (ag_Bound r1.Box.Y), .pointer (some ⟨b7, 1, none⟩), .pointer (some ⟨b7, 7, none⟩), (ag_Bound r1.Box.Z), .agg #[iV r1.Box.X.Lo, iV r1.Box.X.Hi, .bool r1.Box.X.Unknown, iV r1.Box.Y.Lo, iV r1.Box.Y.Hi, .bool r1.Box.Y.Unknown, iV r1.Box.Z.Lo, iV r1.Box.Z.Hi, .bool r1.Box.Z.Unknown], (j84 3), (j84 4), (j84 5), (j84 6), (j84 7), (j84 8), (j84 9), (j84 10), (j84 11), .pointer (some ⟨b7, 10, none⟩), (ag_Bound r1.Flux), iV vt98, .pointer (some ⟨b7, 13, none⟩), (ag_Bound r1.When), iV vt104, .slice (some ⟨b110, 0, none⟩) ([vt98, vt104] : List Int).length 2, iV vt121, iV vt121, .bool false, uV, .bool true, .pointer (some ⟨b7, 16, none⟩), .slice A2 r1.Frames.length c3, iV (r1.Frames.length : Int), .bool true, uV, uV, uV, uV, uV, uV, uV, uV, uV, uV, uV, uV, uV, uV, uV, uV, uV, uV, uV, uV, uV, uV, uV, uV, uV, uV, uV, uV, uV, uV, uV, uV, uV, uV, uV, uV, uV, uV, uV, uV, uV, uV], []⟩) (by kernel_rfl) ?_
            refine wpList_nil ?_
            refine hK150 _ _ ?_
            refine wp_ret ?_
            refine hr141 _ _ ?_
            refine hret _ _ ?_
            refine ends_still (v := Value.int .i64 3) (by kernel_rfl) (by kernel_rfl) ?_
            have HS260 := HS129.drop
            have HS261 := HS260.drop
            injection h with h
            subst h
            exact ⟨f127, rfl, (L81.trans (L101.trans (L107.trans L128))), HS261⟩
          · have c148 : ¬ ((r1.Frames.length : Int) = 0) := c148
            refine wpRwI 47 (x := ((r1.Frames.length : Int) == 0)) (v := false) (by kernel_rfl) (beq_eq_false_iff_ne.mpr c148) ?_
            refine wpRwI 51 (x := ((r1.Frames.length : Int) == 0)) (v := false) (by kernel_rfl) (beq_eq_false_iff_ne.mpr c148) ?_
            refine condF (by kernel_rfl) ?_
            refine wp_seq_k (fun K151 hK152 => ?_)
            refine wp_region_lit ?_
            refine seqL1 (by kernel_rfl) ?_
            refine seqK rfl (does_run (run_load rfl Try.underlying22 rfl (by kernel_rfl : _ = Value.pointer (some ⟨b7, 16, none⟩)) (HS129.u1.cell 16)) ?_)
            refine seqS3 (a' := ⟨#[(ag_Row r1 A2 c3), .pointer (some ⟨b7, 0, none⟩), (j84 0), uV, (j84 1), (j84 2), iV vt121, uV, uV, .pointer (some ⟨b7, 0, none⟩), iV r1.ID, .bool false, .bool false, .pointer (some ⟨b7, 0, none⟩), iV r1.ID, .bool false, .bool false, .pointer (some ⟨b7, 1, none⟩), .pointer (some ⟨b7, 1, none⟩), (ag_Bound r1.Box.X), .pointer (some ⟨b7, 1, none⟩), .pointer (some ⟨b7, 4, none⟩), (ag_Bound r1.Box.Y), .pointer (some ⟨b7, 1, none⟩), .pointer (some ⟨b7, 7, none⟩), (ag_Bound r1.Box.Z), .agg #[iV r1.Box.X.Lo, iV r1.Box.X.Hi, .bool r1.Box.X.Unknown, iV r1.Box.Y.Lo, iV r1.Box.Y.Hi, .bool r1.Box.Y.Unknown, iV r1.Box.Z.Lo, iV r1.Box.Z.Hi, .bool r1.Box.Z.Unknown], (j84 3), (j84 4), (j84 5), (j84 6), (j84 7), (j84 8), (j84 9), (j84 10), (j84 11), .pointer (some ⟨b7, 10, none⟩), (ag_Bound r1.Flux), iV vt98, .pointer (some ⟨b7, 13, none⟩), (ag_Bound r1.When), iV vt104, .slice (some ⟨b110, 0, none⟩) ([vt98, vt104] : List Int).length 2, iV vt121, iV vt121, .bool false, uV, .bool false, .pointer (some ⟨b7, 16, none⟩), .slice A2 r1.Frames.length c3, iV (r1.Frames.length : Int), .bool false, .bool (decide ((r1.Frames.length : Int) > 8)), .pointer (some ⟨b7, 16, none⟩), .slice A2 r1.Frames.length c3, iV (r1.Frames.length : Int), .bool (decide ((r1.Frames.length : Int) > 8)), uV, uV, uV, uV, uV, uV, uV, uV, uV, uV, uV, uV, uV, uV, uV, uV, uV, uV, uV, uV, uV, uV, uV, uV, uV, uV, uV, uV, uV, uV, uV, uV, uV, uV, uV, uV, uV], []⟩) (by kernel_rfl) ?_
            refine wpList_nil ?_
            refine hK152 _ _ ?_
            have hq_ := ite_some h; clear h; rcases hq_ with ⟨c154, h⟩ | ⟨c154, h⟩
            · have c154 : (r1.Frames.length : Int) > 8 := c154
              refine wpRwI 52 (x := (decide ((r1.Frames.length : Int) > 8))) (v := true) (by kernel_rfl) (decide_eq_true c154) ?_
              refine wpRwI 56 (x := (decide ((r1.Frames.length : Int) > 8))) (v := true) (by kernel_rfl) (decide_eq_true c154) ?_
              refine condT (by kernel_rfl) ?_
              refine wp_seq_k (fun K155 hK156 => ?_)
              refine wp_region_lit ?_
              refine seqS1 (a' := ⟨#[(ag_Row r1 A2 c3), .pointer (some ⟨b7, 0, none⟩), iV 2, uV, (j84 1), (j84 2), iV vt121, uV, uV, .pointer (some ⟨b7, 0, none⟩), iV r1.ID, .bool false, .bool false, .pointer (some ⟨b7, 0, none⟩), iV r1.ID, .bool false, .bool false, .pointer (some ⟨b7, 1, none⟩), .pointer (some ⟨b7, 1, none⟩), (ag_Bound r1.Box.X), .pointer (some ⟨b7, 1, none⟩), .pointer (some ⟨b7, 4, none⟩), (ag_Bound r1.Box.Y), .pointer (some ⟨b7, 1, none⟩), .pointer (some ⟨b7, 7, none⟩), (ag_Bound r1.Box.Z), .agg #[iV r1.Box.X.Lo, iV r1.Box.X.Hi, .bool r1.Box.X.Unknown, iV r1.Box.Y.Lo, iV r1.Box.Y.Hi, .bool r1.Box.Y.Unknown, iV r1.Box.Z.Lo, iV r1.Box.Z.Hi, .bool r1.Box.Z.Unknown], (j84 3), (j84 4), (j84 5), (j84 6), (j84 7), (j84 8), (j84 9), (j84 10), (j84 11), .pointer (some ⟨b7, 10, none⟩), (ag_Bound r1.Flux), iV vt98, .pointer (some ⟨b7, 13, none⟩), (ag_Bound r1.When), iV vt104, .slice (some ⟨b110, 0, none⟩) ([vt98, vt104] : List Int).length 2, iV vt121, iV vt121, .bool false, uV, .bool false, .pointer (some ⟨b7, 16, none⟩), .slice A2 r1.Frames.length c3, iV (r1.Frames.length : Int), .bool false, .bool true, .pointer (some ⟨b7, 16, none⟩), .slice A2 r1.Frames.length c3, iV (r1.Frames.length : Int), .bool true, uV, uV, uV, uV, uV, uV, uV, uV, uV, uV, uV, uV, uV, uV, uV, uV, uV, uV, uV, uV, uV, uV, uV, uV, uV, uV, uV, uV, uV, uV, uV, uV, uV, uV, uV, uV, uV], []⟩) (by kernel_rfl) ?_
              refine wpList_nil ?_
              refine hK156 _ _ ?_
              refine wp_ret ?_
              refine hr141 _ _ ?_
              refine hret _ _ ?_
              refine ends_still (v := Value.int .i64 2) (by kernel_rfl) (by kernel_rfl) ?_
              have HS262 := HS129.drop
              have HS263 := HS262.drop
              injection h with h
              subst h
              exact ⟨f127, rfl, (L81.trans (L101.trans (L107.trans L128))), HS263⟩
            · have c154 : ¬ ((r1.Frames.length : Int) > 8) := c154
              refine wpRwI 52 (x := (decide ((r1.Frames.length : Int) > 8))) (v := false) (by kernel_rfl) (decide_eq_false c154) ?_
              refine wpRwI 56 (x := (decide ((r1.Frames.length : Int) > 8))) (v := false) (by kernel_rfl) (decide_eq_false c154) ?_
              refine condF (by kernel_rfl) ?_
              refine wp_skip ?_
              refine hn140 _ _ ?_
              refine hK137 _ _ ?_
              refine wp_seq_k (fun K157 hK158 => ?_)
              refine wp_seq_k (fun K159 hK160 => ?_)
              refine wp_region_lit ?_
              refine seqL1 (by kernel_rfl) ?_
              refine seqK rfl (does_run (run_load rfl Try.underlying22 rfl (by kernel_rfl : _ = Value.pointer (some ⟨b7, 16, none⟩)) (HS129.u1.cell 16)) ?_)
              refine seqS2 (a' := ⟨#[(ag_Row r1 A2 c3), .pointer (some ⟨b7, 0, none⟩), (j84 0), uV, (j84 1), (j84 2), iV vt121, uV, uV, .pointer (some ⟨b7, 0, none⟩), iV r1.ID, .bool false, .bool false, .pointer (some ⟨b7, 0, none⟩), iV r1.ID, .bool false, .bool false, .pointer (some ⟨b7, 1, none⟩), .pointer (some ⟨b7, 1, none⟩), (ag_Bound r1.Box.X), .pointer (some ⟨b7, 1, none⟩), .pointer (some ⟨b7, 4, none⟩), (ag_Bound r1.Box.Y), .pointer (some ⟨b7, 1, none⟩), .pointer (some ⟨b7, 7, none⟩), (ag_Bound r1.Box.Z), .agg #[iV r1.Box.X.Lo, iV r1.Box.X.Hi, .bool r1.Box.X.Unknown, iV r1.Box.Y.Lo, iV r1.Box.Y.Hi, .bool r1.Box.Y.Unknown, iV r1.Box.Z.Lo, iV r1.Box.Z.Hi, .bool r1.Box.Z.Unknown], (j84 3), (j84 4), (j84 5), (j84 6), (j84 7), (j84 8), (j84 9), (j84 10), (j84 11), .pointer (some ⟨b7, 10, none⟩), (ag_Bound r1.Flux), iV vt98, .pointer (some ⟨b7, 13, none⟩), (ag_Bound r1.When), iV vt104, .slice (some ⟨b110, 0, none⟩) ([vt98, vt104] : List Int).length 2, iV vt121, iV vt121, .bool false, uV, .bool false, .pointer (some ⟨b7, 16, none⟩), .slice A2 r1.Frames.length c3, iV (r1.Frames.length : Int), .bool false, .bool false, .pointer (some ⟨b7, 16, none⟩), .slice A2 r1.Frames.length c3, iV (r1.Frames.length : Int), .bool false, .pointer (some ⟨b7, 16, none⟩), .slice A2 r1.Frames.length c3, iV (r1.Frames.length : Int), iV 0, uV, uV, uV, uV, uV, uV, uV, uV, uV, uV, uV, uV, uV, uV, uV, uV, uV, uV, uV, uV, uV, uV, uV, uV, uV, uV, uV, uV, uV, uV, uV, uV, uV], []⟩) (by kernel_rfl) ?_
              refine wpList_nil ?_
              refine hK160 _ _ ?_
              refine blockK (fun B161 hx162 hn163 hr164 ho165 hp166 => ?_)
              have hq_ := bind_some h; clear h; obtain ⟨o167, hv237, h⟩ := hq_
              have JR239 : ∀ z_, some (Sum.inl z_) = some o167 → some z_ = some rr1 := by
                intro z_ e_; injection e_ with e_; subst e_; exact h
              have J238 : ∀ (f232 : FM) (j236 : Nat → Value) (W234 : World) (a_ : Act), FM.le f127 f232 → some (Sum.inr ()) = some o167 → St t W234 f232 (s112 :: [(b7, .cells #[.int .i64 r1.ID, .int .i64 r1.Box.X.Lo, .int .i64 r1.Box.X.Hi, .bool r1.Box.X.Unknown, .int .i64 r1.Box.Y.Lo, .int .i64 r1.Box.Y.Hi, .bool r1.Box.Y.Unknown, .int .i64 r1.Box.Z.Lo, .int .i64 r1.Box.Z.Hi, .bool r1.Box.Z.Unknown, .int .i64 r1.Flux.Lo, .int .i64 r1.Flux.Hi, .bool r1.Flux.Unknown, .int .i64 r1.When.Lo, .int .i64 r1.When.Hi, .bool r1.When.Unknown, .slice A2 r1.Frames.length c3, .int .i64 r1.Marks] 65 (0, 0))] :: H) → a_ = ⟨#[(ag_Row r1 A2 c3), .pointer (some ⟨b7, 0, none⟩), (j236 0), uV, (j84 1), (j84 2), iV vt121, (j236 1), (j236 2), .pointer (some ⟨b7, 0, none⟩), iV r1.ID, .bool false, .bool false, .pointer (some ⟨b7, 0, none⟩), iV r1.ID, .bool false, .bool false, .pointer (some ⟨b7, 1, none⟩), .pointer (some ⟨b7, 1, none⟩), (ag_Bound r1.Box.X), .pointer (some ⟨b7, 1, none⟩), .pointer (some ⟨b7, 4, none⟩), (ag_Bound r1.Box.Y), .pointer (some ⟨b7, 1, none⟩), .pointer (some ⟨b7, 7, none⟩), (ag_Bound r1.Box.Z), .agg #[iV r1.Box.X.Lo, iV r1.Box.X.Hi, .bool r1.Box.X.Unknown, iV r1.Box.Y.Lo, iV r1.Box.Y.Hi, .bool r1.Box.Y.Unknown, iV r1.Box.Z.Lo, iV r1.Box.Z.Hi, .bool r1.Box.Z.Unknown], (j84 3), (j84 4), (j84 5), (j84 6), (j84 7), (j84 8), (j84 9), (j84 10), (j84 11), .pointer (some ⟨b7, 10, none⟩), (ag_Bound r1.Flux), iV vt98, .pointer (some ⟨b7, 13, none⟩), (ag_Bound r1.When), iV vt104, .slice (some ⟨b110, 0, none⟩) ([vt98, vt104] : List Int).length 2, iV vt121, iV vt121, .bool false, uV, .bool false, .pointer (some ⟨b7, 16, none⟩), .slice A2 r1.Frames.length c3, iV (r1.Frames.length : Int), .bool false, .bool false, .pointer (some ⟨b7, 16, none⟩), .slice A2 r1.Frames.length c3, iV (r1.Frames.length : Int), .bool false, .pointer (some ⟨b7, 16, none⟩), .slice A2 r1.Frames.length c3, iV (r1.Frames.length : Int), (j236 3), (j236 4), (j236 5), (j236 6), (j236 7), (j236 8), (j236 9), (j236 10), (j236 11), (j236 12), (j236 13), (j236 14), (j236 15), (j236 16), (j236 17), (j236 18), (j236 19), (j236 20), (j236 21), (j236 22), (j236 23), (j236 24), (j236 25), (j236 26), (j236 27), (j236 28), uV, uV, uV, uV, uV, uV, uV, uV], []⟩ → K157 a_ W234 := by
                intro f232 j236 W234 a_ L233 hj240 HS235  hfr_; subst hfr_
                injection hj240 with hj240; subst hj240; try dsimp only at h
                simp only [Sum.elim_inr] at h
                refine hK158 _ _ ?_
                refine wp_seq_k (fun K241 hK242 => ?_)
                refine wp_seq_k (fun K243 hK244 => ?_)
                refine wp_region_lit ?_
                refine seqL1 (by kernel_rfl) ?_
                refine seqK rfl (does_run (run_load rfl Try.underlying3 rfl (by kernel_rfl : _ = Value.pointer (some ⟨b7, 17, none⟩)) (HS235.u1.cell 17)) ?_)
                refine seqS2 (a' := ⟨#[(ag_Row r1 A2 c3), .pointer (some ⟨b7, 0, none⟩), (j236 0), uV, (j84 1), (j84 2), iV vt121, (j236 1), (j236 2), .pointer (some ⟨b7, 0, none⟩), iV r1.ID, .bool false, .bool false, .pointer (some ⟨b7, 0, none⟩), iV r1.ID, .bool false, .bool false, .pointer (some ⟨b7, 1, none⟩), .pointer (some ⟨b7, 1, none⟩), (ag_Bound r1.Box.X), .pointer (some ⟨b7, 1, none⟩), .pointer (some ⟨b7, 4, none⟩), (ag_Bound r1.Box.Y), .pointer (some ⟨b7, 1, none⟩), .pointer (some ⟨b7, 7, none⟩), (ag_Bound r1.Box.Z), .agg #[iV r1.Box.X.Lo, iV r1.Box.X.Hi, .bool r1.Box.X.Unknown, iV r1.Box.Y.Lo, iV r1.Box.Y.Hi, .bool r1.Box.Y.Unknown, iV r1.Box.Z.Lo, iV r1.Box.Z.Hi, .bool r1.Box.Z.Unknown], (j84 3), (j84 4), (j84 5), (j84 6), (j84 7), (j84 8), (j84 9), (j84 10), (j84 11), .pointer (some ⟨b7, 10, none⟩), (ag_Bound r1.Flux), iV vt98, .pointer (some ⟨b7, 13, none⟩), (ag_Bound r1.When), iV vt104, .slice (some ⟨b110, 0, none⟩) ([vt98, vt104] : List Int).length 2, iV vt121, iV vt121, .bool false, uV, .bool false, .pointer (some ⟨b7, 16, none⟩), .slice A2 r1.Frames.length c3, iV (r1.Frames.length : Int), .bool false, .bool false, .pointer (some ⟨b7, 16, none⟩), .slice A2 r1.Frames.length c3, iV (r1.Frames.length : Int), .bool false, .pointer (some ⟨b7, 16, none⟩), .slice A2 r1.Frames.length c3, iV (r1.Frames.length : Int), (j236 3), (j236 4), (j236 5), (j236 6), (j236 7), (j236 8), (j236 9), (j236 10), (j236 11), (j236 12), (j236 13), (j236 14), (j236 15), (j236 16), (j236 17), (j236 18), (j236 19), (j236 20), (j236 21), (j236 22), (j236 23), (j236 24), (j236 25), (j236 26), (j236 27), (j236 28), .pointer (some ⟨b7, 17, none⟩), iV r1.Marks, .bool (decide (r1.Marks < 0)), .bool (decide (r1.Marks < 0)), uV, uV, uV, uV], []⟩) (by kernel_rfl) ?_
                have hq_ := ite_some h; clear h; rcases hq_ with ⟨c245, h⟩ | ⟨c245, h⟩
                · have c245 : r1.Marks < 0 := c245
                  refine seqRwI 88 (x := (decide (r1.Marks < 0))) (v := true) (by kernel_rfl) (decide_eq_true c245) ?_
                  refine seqRwI 89 (x := (decide (r1.Marks < 0))) (v := true) (by kernel_rfl) (decide_eq_true c245) ?_
                  refine seqS4 (a' := ⟨#[(ag_Row r1 A2 c3), .pointer (some ⟨b7, 0, none⟩), (j236 0), uV, (j84 1), (j84 2), iV vt121, (j236 1), (j236 2), .pointer (some ⟨b7, 0, none⟩), iV r1.ID, .bool false, .bool false, .pointer (some ⟨b7, 0, none⟩), iV r1.ID, .bool false, .bool false, .pointer (some ⟨b7, 1, none⟩), .pointer (some ⟨b7, 1, none⟩), (ag_Bound r1.Box.X), .pointer (some ⟨b7, 1, none⟩), .pointer (some ⟨b7, 4, none⟩), (ag_Bound r1.Box.Y), .pointer (some ⟨b7, 1, none⟩), .pointer (some ⟨b7, 7, none⟩), (ag_Bound r1.Box.Z), .agg #[iV r1.Box.X.Lo, iV r1.Box.X.Hi, .bool r1.Box.X.Unknown, iV r1.Box.Y.Lo, iV r1.Box.Y.Hi, .bool r1.Box.Y.Unknown, iV r1.Box.Z.Lo, iV r1.Box.Z.Hi, .bool r1.Box.Z.Unknown], (j84 3), (j84 4), (j84 5), (j84 6), (j84 7), (j84 8), (j84 9), (j84 10), (j84 11), .pointer (some ⟨b7, 10, none⟩), (ag_Bound r1.Flux), iV vt98, .pointer (some ⟨b7, 13, none⟩), (ag_Bound r1.When), iV vt104, .slice (some ⟨b110, 0, none⟩) ([vt98, vt104] : List Int).length 2, iV vt121, iV vt121, .bool false, uV, .bool false, .pointer (some ⟨b7, 16, none⟩), .slice A2 r1.Frames.length c3, iV (r1.Frames.length : Int), .bool false, .bool false, .pointer (some ⟨b7, 16, none⟩), .slice A2 r1.Frames.length c3, iV (r1.Frames.length : Int), .bool false, .pointer (some ⟨b7, 16, none⟩), .slice A2 r1.Frames.length c3, iV (r1.Frames.length : Int), (j236 3), (j236 4), (j236 5), (j236 6), (j236 7), (j236 8), (j236 9), (j236 10), (j236 11), (j236 12), (j236 13), (j236 14), (j236 15), (j236 16), (j236 17), (j236 18), (j236 19), (j236 20), (j236 21), (j236 22), (j236 23), (j236 24), (j236 25), (j236 26), (j236 27), (j236 28), .pointer (some ⟨b7, 17, none⟩), iV r1.Marks, .bool true, .bool true, uV, uV, uV, .bool true], []⟩) (by kernel_rfl) ?_
                  refine wpList_nil ?_
                  refine hK244 _ _ ?_
                  refine condT (by kernel_rfl) ?_
                  refine wp_seq_k (fun K246 hK247 => ?_)
                  refine wp_region_lit ?_
                  refine seqS1 (a' := ⟨#[(ag_Row r1 A2 c3), .pointer (some ⟨b7, 0, none⟩), iV 4, uV, (j84 1), (j84 2), iV vt121, (j236 1), (j236 2), .pointer (some ⟨b7, 0, none⟩), iV r1.ID, .bool false, .bool false, .pointer (some ⟨b7, 0, none⟩), iV r1.ID, .bool false, .bool false, .pointer (some ⟨b7, 1, none⟩), .pointer (some ⟨b7, 1, none⟩), (ag_Bound r1.Box.X), .pointer (some ⟨b7, 1, none⟩), .pointer (some ⟨b7, 4, none⟩), (ag_Bound r1.Box.Y), .pointer (some ⟨b7, 1, none⟩), .pointer (some ⟨b7, 7, none⟩), (ag_Bound r1.Box.Z), .agg #[iV r1.Box.X.Lo, iV r1.Box.X.Hi, .bool r1.Box.X.Unknown, iV r1.Box.Y.Lo, iV r1.Box.Y.Hi, .bool r1.Box.Y.Unknown, iV r1.Box.Z.Lo, iV r1.Box.Z.Hi, .bool r1.Box.Z.Unknown], (j84 3), (j84 4), (j84 5), (j84 6), (j84 7), (j84 8), (j84 9), (j84 10), (j84 11), .pointer (some ⟨b7, 10, none⟩), (ag_Bound r1.Flux), iV vt98, .pointer (some ⟨b7, 13, none⟩), (ag_Bound r1.When), iV vt104, .slice (some ⟨b110, 0, none⟩) ([vt98, vt104] : List Int).length 2, iV vt121, iV vt121, .bool false, uV, .bool false, .pointer (some ⟨b7, 16, none⟩), .slice A2 r1.Frames.length c3, iV (r1.Frames.length : Int), .bool false, .bool false, .pointer (some ⟨b7, 16, none⟩), .slice A2 r1.Frames.length c3, iV (r1.Frames.length : Int), .bool false, .pointer (some ⟨b7, 16, none⟩), .slice A2 r1.Frames.length c3, iV (r1.Frames.length : Int), (j236 3), (j236 4), (j236 5), (j236 6), (j236 7), (j236 8), (j236 9), (j236 10), (j236 11), (j236 12), (j236 13), (j236 14), (j236 15), (j236 16), (j236 17), (j236 18), (j236 19), (j236 20), (j236 21), (j236 22), (j236 23), (j236 24), (j236 25), (j236 26), (j236 27), (j236 28), .pointer (some ⟨b7, 17, none⟩), iV r1.Marks, .bool true, .bool true, uV, uV, uV, .bool true], []⟩) (by kernel_rfl) ?_
                  refine wpList_nil ?_
                  refine hK247 _ _ ?_
                  refine wp_ret ?_
                  refine hret _ _ ?_
                  refine ends_still (v := Value.int .i64 4) (by kernel_rfl) (by kernel_rfl) ?_
                  have HS270 := HS235.drop
                  have HS271 := HS270.drop
                  injection h with h
                  subst h
                  exact ⟨f232, rfl, (L81.trans (L101.trans (L107.trans (L128.trans L233)))), HS271⟩
                · have c245 : ¬ (r1.Marks < 0) := c245
                  refine seqRwI 88 (x := (decide (r1.Marks < 0))) (v := false) (by kernel_rfl) (decide_eq_false c245) ?_
                  refine seqRwI 89 (x := (decide (r1.Marks < 0))) (v := false) (by kernel_rfl) (decide_eq_false c245) ?_
                  refine seqL1 (by kernel_rfl) ?_
                  refine seqG (by kernel_rfl) (does_run (run_load rfl Try.underlying3 rfl (by kernel_rfl : _ = Value.pointer (some ⟨b7, 17, none⟩)) (HS235.u1.cell 17)) ?_)
                  refine seqS2 (a' := ⟨#[(ag_Row r1 A2 c3), .pointer (some ⟨b7, 0, none⟩), (j236 0), uV, (j84 1), (j84 2), iV vt121, (j236 1), (j236 2), .pointer (some ⟨b7, 0, none⟩), iV r1.ID, .bool false, .bool false, .pointer (some ⟨b7, 0, none⟩), iV r1.ID, .bool false, .bool false, .pointer (some ⟨b7, 1, none⟩), .pointer (some ⟨b7, 1, none⟩), (ag_Bound r1.Box.X), .pointer (some ⟨b7, 1, none⟩), .pointer (some ⟨b7, 4, none⟩), (ag_Bound r1.Box.Y), .pointer (some ⟨b7, 1, none⟩), .pointer (some ⟨b7, 7, none⟩), (ag_Bound r1.Box.Z), .agg #[iV r1.Box.X.Lo, iV r1.Box.X.Hi, .bool r1.Box.X.Unknown, iV r1.Box.Y.Lo, iV r1.Box.Y.Hi, .bool r1.Box.Y.Unknown, iV r1.Box.Z.Lo, iV r1.Box.Z.Hi, .bool r1.Box.Z.Unknown], (j84 3), (j84 4), (j84 5), (j84 6), (j84 7), (j84 8), (j84 9), (j84 10), (j84 11), .pointer (some ⟨b7, 10, none⟩), (ag_Bound r1.Flux), iV vt98, .pointer (some ⟨b7, 13, none⟩), (ag_Bound r1.When), iV vt104, .slice (some ⟨b110, 0, none⟩) ([vt98, vt104] : List Int).length 2, iV vt121, iV vt121, .bool false, uV, .bool false, .pointer (some ⟨b7, 16, none⟩), .slice A2 r1.Frames.length c3, iV (r1.Frames.length : Int), .bool false, .bool false, .pointer (some ⟨b7, 16, none⟩), .slice A2 r1.Frames.length c3, iV (r1.Frames.length : Int), .bool false, .pointer (some ⟨b7, 16, none⟩), .slice A2 r1.Frames.length c3, iV (r1.Frames.length : Int), (j236 3), (j236 4), (j236 5), (j236 6), (j236 7), (j236 8), (j236 9), (j236 10), (j236 11), (j236 12), (j236 13), (j236 14), (j236 15), (j236 16), (j236 17), (j236 18), (j236 19), (j236 20), (j236 21), (j236 22), (j236 23), (j236 24), (j236 25), (j236 26), (j236 27), (j236 28), .pointer (some ⟨b7, 17, none⟩), iV r1.Marks, .bool false, .bool false, .pointer (some ⟨b7, 17, none⟩), iV r1.Marks, .bool (decide (r1.Marks > 3)), .bool (decide (r1.Marks > 3))], []⟩) (by kernel_rfl) ?_
                  refine wpList_nil ?_
                  refine hK244 _ _ ?_
                  have hq_ := ite_some h; clear h; rcases hq_ with ⟨c249, h⟩ | ⟨c249, h⟩
                  · have c249 : r1.Marks > 3 := c249
                    refine wpRwI 92 (x := (decide (r1.Marks > 3))) (v := true) (by kernel_rfl) (decide_eq_true c249) ?_
                    refine wpRwI 93 (x := (decide (r1.Marks > 3))) (v := true) (by kernel_rfl) (decide_eq_true c249) ?_
                    refine condT (by kernel_rfl) ?_
                    refine wp_seq_k (fun K250 hK251 => ?_)
                    refine wp_region_lit ?_
                    refine seqS1 (a' := ⟨#[(ag_Row r1 A2 c3), .pointer (some ⟨b7, 0, none⟩), iV 4, uV, (j84 1), (j84 2), iV vt121, (j236 1), (j236 2), .pointer (some ⟨b7, 0, none⟩), iV r1.ID, .bool false, .bool false, .pointer (some ⟨b7, 0, none⟩), iV r1.ID, .bool false, .bool false, .pointer (some ⟨b7, 1, none⟩), .pointer (some ⟨b7, 1, none⟩), (ag_Bound r1.Box.X), .pointer (some ⟨b7, 1, none⟩), .pointer (some ⟨b7, 4, none⟩), (ag_Bound r1.Box.Y), .pointer (some ⟨b7, 1, none⟩), .pointer (some ⟨b7, 7, none⟩), (ag_Bound r1.Box.Z), .agg #[iV r1.Box.X.Lo, iV r1.Box.X.Hi, .bool r1.Box.X.Unknown, iV r1.Box.Y.Lo, iV r1.Box.Y.Hi, .bool r1.Box.Y.Unknown, iV r1.Box.Z.Lo, iV r1.Box.Z.Hi, .bool r1.Box.Z.Unknown], (j84 3), (j84 4), (j84 5), (j84 6), (j84 7), (j84 8), (j84 9), (j84 10), (j84 11), .pointer (some ⟨b7, 10, none⟩), (ag_Bound r1.Flux), iV vt98, .pointer (some ⟨b7, 13, none⟩), (ag_Bound r1.When), iV vt104, .slice (some ⟨b110, 0, none⟩) ([vt98, vt104] : List Int).length 2, iV vt121, iV vt121, .bool false, uV, .bool false, .pointer (some ⟨b7, 16, none⟩), .slice A2 r1.Frames.length c3, iV (r1.Frames.length : Int), .bool false, .bool false, .pointer (some ⟨b7, 16, none⟩), .slice A2 r1.Frames.length c3, iV (r1.Frames.length : Int), .bool false, .pointer (some ⟨b7, 16, none⟩), .slice A2 r1.Frames.length c3, iV (r1.Frames.length : Int), (j236 3), (j236 4), (j236 5), (j236 6), (j236 7), (j236 8), (j236 9), (j236 10), (j236 11), (j236 12), (j236 13), (j236 14), (j236 15), (j236 16), (j236 17), (j236 18), (j236 19), (j236 20), (j236 21), (j236 22), (j236 23), (j236 24), (j236 25), (j236 26), (j236 27), (j236 28), .pointer (some ⟨b7, 17, none⟩), iV r1.Marks, .bool false, .bool false, .pointer (some ⟨b7, 17, none⟩), iV r1.Marks, .bool true, .bool true], []⟩) (by kernel_rfl) ?_
                    refine wpList_nil ?_
                    refine hK251 _ _ ?_
                    refine wp_ret ?_
                    refine hret _ _ ?_
                    refine ends_still (v := Value.int .i64 4) (by kernel_rfl) (by kernel_rfl) ?_
                    have HS272 := HS235.drop
                    have HS273 := HS272.drop
                    injection h with h
                    subst h
                    exact ⟨f232, rfl, (L81.trans (L101.trans (L107.trans (L128.trans L233)))), HS273⟩
                  · have c249 : ¬ (r1.Marks > 3) := c249
                    refine wpRwI 92 (x := (decide (r1.Marks > 3))) (v := false) (by kernel_rfl) (decide_eq_false c249) ?_
                    refine wpRwI 93 (x := (decide (r1.Marks > 3))) (v := false) (by kernel_rfl) (decide_eq_false c249) ?_
                    refine condF (by kernel_rfl) ?_
                    refine wp_skip ?_
                    refine hK242 _ _ ?_
                    refine wp_seq_k (fun K252 hK253 => ?_)
                    refine wp_region_lit ?_
                    refine seqS1 (a' := ⟨#[(ag_Row r1 A2 c3), .pointer (some ⟨b7, 0, none⟩), iV 0, uV, (j84 1), (j84 2), iV vt121, (j236 1), (j236 2), .pointer (some ⟨b7, 0, none⟩), iV r1.ID, .bool false, .bool false, .pointer (some ⟨b7, 0, none⟩), iV r1.ID, .bool false, .bool false, .pointer (some ⟨b7, 1, none⟩), .pointer (some ⟨b7, 1, none⟩), (ag_Bound r1.Box.X), .pointer (some ⟨b7, 1, none⟩), .pointer (some ⟨b7, 4, none⟩), (ag_Bound r1.Box.Y), .pointer (some ⟨b7, 1, none⟩), .pointer (some ⟨b7, 7, none⟩), (ag_Bound r1.Box.Z), .agg #[iV r1.Box.X.Lo, iV r1.Box.X.Hi, .bool r1.Box.X.Unknown, iV r1.Box.Y.Lo, iV r1.Box.Y.Hi, .bool r1.Box.Y.Unknown, iV r1.Box.Z.Lo, iV r1.Box.Z.Hi, .bool r1.Box.Z.Unknown], (j84 3), (j84 4), (j84 5), (j84 6), (j84 7), (j84 8), (j84 9), (j84 10), (j84 11), .pointer (some ⟨b7, 10, none⟩), (ag_Bound r1.Flux), iV vt98, .pointer (some ⟨b7, 13, none⟩), (ag_Bound r1.When), iV vt104, .slice (some ⟨b110, 0, none⟩) ([vt98, vt104] : List Int).length 2, iV vt121, iV vt121, .bool false, uV, .bool false, .pointer (some ⟨b7, 16, none⟩), .slice A2 r1.Frames.length c3, iV (r1.Frames.length : Int), .bool false, .bool false, .pointer (some ⟨b7, 16, none⟩), .slice A2 r1.Frames.length c3, iV (r1.Frames.length : Int), .bool false, .pointer (some ⟨b7, 16, none⟩), .slice A2 r1.Frames.length c3, iV (r1.Frames.length : Int), (j236 3), (j236 4), (j236 5), (j236 6), (j236 7), (j236 8), (j236 9), (j236 10), (j236 11), (j236 12), (j236 13), (j236 14), (j236 15), (j236 16), (j236 17), (j236 18), (j236 19), (j236 20), (j236 21), (j236 22), (j236 23), (j236 24), (j236 25), (j236 26), (j236 27), (j236 28), .pointer (some ⟨b7, 17, none⟩), iV r1.Marks, .bool false, .bool false, .pointer (some ⟨b7, 17, none⟩), iV r1.Marks, .bool false, .bool false], []⟩) (by kernel_rfl) ?_
                    refine wpList_nil ?_
                    refine hK253 _ _ ?_
                    refine wp_ret ?_
                    refine hret _ _ ?_
                    refine ends_still (v := Value.int .i64 0) (by kernel_rfl) (by kernel_rfl) ?_
                    have HS274 := HS235.drop
                    have HS275 := HS274.drop
                    injection h with h
                    subst h
                    exact ⟨f232, rfl, (L81.trans (L101.trans (L107.trans (L128.trans L233)))), HS275⟩
              clear h; have h := hv237; clear hv237
              refine loopK (fun n_ a_ w_ => ∃ (f171 : FM) (x176 : Int) (j175 : Nat → Value), FM.le f127 f171 ∧ St t w_ f171 (s112 :: [(b7, .cells #[.int .i64 r1.ID, .int .i64 r1.Box.X.Lo, .int .i64 r1.Box.X.Hi, .bool r1.Box.X.Unknown, .int .i64 r1.Box.Y.Lo, .int .i64 r1.Box.Y.Hi, .bool r1.Box.Y.Unknown, .int .i64 r1.Box.Z.Lo, .int .i64 r1.Box.Z.Hi, .bool r1.Box.Z.Unknown, .int .i64 r1.Flux.Lo, .int .i64 r1.Flux.Hi, .bool r1.Flux.Unknown, .int .i64 r1.When.Lo, .int .i64 r1.When.Hi, .bool r1.When.Unknown, .slice A2 r1.Frames.length c3, .int .i64 r1.Marks] 65 (0, 0))] :: H) ∧ catalog_CheckRow.l1 k r1 n_ x176 = some o167 ∧ a_ = ⟨#[(ag_Row r1 A2 c3), .pointer (some ⟨b7, 0, none⟩), (j175 0), uV, (j84 1), (j84 2), iV vt121, (j175 1), (j175 2), .pointer (some ⟨b7, 0, none⟩), iV r1.ID, .bool false, .bool false, .pointer (some ⟨b7, 0, none⟩), iV r1.ID, .bool false, .bool false, .pointer (some ⟨b7, 1, none⟩), .pointer (some ⟨b7, 1, none⟩), (ag_Bound r1.Box.X), .pointer (some ⟨b7, 1, none⟩), .pointer (some ⟨b7, 4, none⟩), (ag_Bound r1.Box.Y), .pointer (some ⟨b7, 1, none⟩), .pointer (some ⟨b7, 7, none⟩), (ag_Bound r1.Box.Z), .agg #[iV r1.Box.X.Lo, iV r1.Box.X.Hi, .bool r1.Box.X.Unknown, iV r1.Box.Y.Lo, iV r1.Box.Y.Hi, .bool r1.Box.Y.Unknown, iV r1.Box.Z.Lo, iV r1.Box.Z.Hi, .bool r1.Box.Z.Unknown], (j84 3), (j84 4), (j84 5), (j84 6), (j84 7), (j84 8), (j84 9), (j84 10), (j84 11), .pointer (some ⟨b7, 10, none⟩), (ag_Bound r1.Flux), iV vt98, .pointer (some ⟨b7, 13, none⟩), (ag_Bound r1.When), iV vt104, .slice (some ⟨b110, 0, none⟩) ([vt98, vt104] : List Int).length 2, iV vt121, iV vt121, .bool false, uV, .bool false, .pointer (some ⟨b7, 16, none⟩), .slice A2 r1.Frames.length c3, iV (r1.Frames.length : Int), .bool false, .bool false, .pointer (some ⟨b7, 16, none⟩), .slice A2 r1.Frames.length c3, iV (r1.Frames.length : Int), .bool false, .pointer (some ⟨b7, 16, none⟩), .slice A2 r1.Frames.length c3, iV (r1.Frames.length : Int), iV x176, (j175 3), (j175 4), (j175 5), (j175 6), (j175 7), (j175 8), (j175 9), (j175 10), (j175 11), (j175 12), (j175 13), (j175 14), (j175 15), (j175 16), (j175 17), (j175 18), (j175 19), (j175 20), (j175 21), (j175 22), (j175 23), (j175 24), (j175 25), (j175 26), (j175 27), uV, uV, uV, uV, uV, uV, uV, uV], []⟩) k ⟨f127, 0, (fun i_ => [(j84 0), undef, undef, undef, undef, undef, undef, undef, undef, undef, undef, undef, undef, undef, undef, undef, undef, undef, undef, undef, undef, undef, undef, undef, undef, undef, undef, undef].getD i_ undef), (FM.le.refl _), HS129, h, (by kernel_rfl)⟩ ?_
              clear h
              rintro n170 _ W173 ⟨f171, x176, j175, L172, HS174, h, rfl⟩ K168 hK169
              obtain _ | n170 := n170
              · exact nomatch h
              simp only [catalog_CheckRow.l1] at h
              refine wp_seq_k (fun K177 hK178 => ?_)
              refine wp_region_lit ?_
              refine seqS1 (a' := ⟨#[(ag_Row r1 A2 c3), .pointer (some ⟨b7, 0, none⟩), (j175 0), uV, (j84 1), (j84 2), iV vt121, (j175 1), (j175 2), .pointer (some ⟨b7, 0, none⟩), iV r1.ID, .bool false, .bool false, .pointer (some ⟨b7, 0, none⟩), iV r1.ID, .bool false, .bool false, .pointer (some ⟨b7, 1, none⟩), .pointer (some ⟨b7, 1, none⟩), (ag_Bound r1.Box.X), .pointer (some ⟨b7, 1, none⟩), .pointer (some ⟨b7, 4, none⟩), (ag_Bound r1.Box.Y), .pointer (some ⟨b7, 1, none⟩), .pointer (some ⟨b7, 7, none⟩), (ag_Bound r1.Box.Z), .agg #[iV r1.Box.X.Lo, iV r1.Box.X.Hi, .bool r1.Box.X.Unknown, iV r1.Box.Y.Lo, iV r1.Box.Y.Hi, .bool r1.Box.Y.Unknown, iV r1.Box.Z.Lo, iV r1.Box.Z.Hi, .bool r1.Box.Z.Unknown], (j84 3), (j84 4), (j84 5), (j84 6), (j84 7), (j84 8), (j84 9), (j84 10), (j84 11), .pointer (some ⟨b7, 10, none⟩), (ag_Bound r1.Flux), iV vt98, .pointer (some ⟨b7, 13, none⟩), (ag_Bound r1.When), iV vt104, .slice (some ⟨b110, 0, none⟩) ([vt98, vt104] : List Int).length 2, iV vt121, iV vt121, .bool false, uV, .bool false, .pointer (some ⟨b7, 16, none⟩), .slice A2 r1.Frames.length c3, iV (r1.Frames.length : Int), .bool false, .bool false, .pointer (some ⟨b7, 16, none⟩), .slice A2 r1.Frames.length c3, iV (r1.Frames.length : Int), .bool false, .pointer (some ⟨b7, 16, none⟩), .slice A2 r1.Frames.length c3, iV (r1.Frames.length : Int), iV x176, .bool (decide (x176 < (r1.Frames.length : Int))), (j175 4), (j175 5), (j175 6), (j175 7), (j175 8), (j175 9), (j175 10), (j175 11), (j175 12), (j175 13), (j175 14), (j175 15), (j175 16), (j175 17), (j175 18), (j175 19), (j175 20), (j175 21), (j175 22), (j175 23), (j175 24), (j175 25), (j175 26), (j175 27), uV, uV, uV, uV, uV, uV, uV, uV], []⟩) (by kernel_rfl) ?_
              refine wpList_nil ?_
              refine hK178 _ _ ?_
              refine wp_seq_k (fun K179 hK180 => ?_)
              have hq_ := ite_some h; clear h; rcases hq_ with ⟨c182, h⟩ | ⟨c182, h⟩
              · have c182 : x176 < (r1.Frames.length : Int) := c182
                refine wpRwI 61 (x := (decide (x176 < (r1.Frames.length : Int)))) (v := true) (by kernel_rfl) (decide_eq_true c182) ?_
                refine condT (by kernel_rfl) ?_
                refine wp_skip ?_
                refine hK180 _ _ ?_
                refine wp_seq_k (fun K183 hK184 => ?_)
                refine blockK (fun B185 hx186 hn187 hr188 ho189 hp190 => ?_)
                refine wp_seq_k (fun K192 hK193 => ?_)
                refine wp_region_lit ?_
                have hq_ := guard_some h; clear h; obtain ⟨c194, h⟩ := hq_
                have c194 : 0 ≤ x176 := c194
                obtain ⟨b198, of199, cs195, hA200, hr196, hc197⟩ := (HR4.mono (L81.trans (L101.trans (L107.trans (L128.trans L172))))).at (i := x176) c194 c182
                obtain rfl := hr196
                refine seqL1 (by kernel_rfl) ?_
                refine seqK rfl (does_run (run_indexE hA200 (sz := 1) rfl Try.underlying22 (by kernel_rfl) (by kernel_rfl : _ = Value.slice A2 r1.Frames.length c3) (by kernel_rfl : _ = Value.int .i64 x176) c194 c182 W173) ?_)
                refine seqK rfl (does_run (run_load rfl Try.underlying3 rfl (by kernel_rfl : _ = Value.pointer (some ⟨b198, of199 + (x176 : Int).toNat * 1, none⟩)) ((hc197 (FM.le.refl _) HS174) 0 (by decide))) ?_)
                refine seqS2 (a' := ⟨#[(ag_Row r1 A2 c3), .pointer (some ⟨b7, 0, none⟩), (j175 0), uV, (j84 1), (j84 2), iV vt121, iV x176, iV (rd r1.Frames x176), .pointer (some ⟨b7, 0, none⟩), iV r1.ID, .bool false, .bool false, .pointer (some ⟨b7, 0, none⟩), iV r1.ID, .bool false, .bool false, .pointer (some ⟨b7, 1, none⟩), .pointer (some ⟨b7, 1, none⟩), (ag_Bound r1.Box.X), .pointer (some ⟨b7, 1, none⟩), .pointer (some ⟨b7, 4, none⟩), (ag_Bound r1.Box.Y), .pointer (some ⟨b7, 1, none⟩), .pointer (some ⟨b7, 7, none⟩), (ag_Bound r1.Box.Z), .agg #[iV r1.Box.X.Lo, iV r1.Box.X.Hi, .bool r1.Box.X.Unknown, iV r1.Box.Y.Lo, iV r1.Box.Y.Hi, .bool r1.Box.Y.Unknown, iV r1.Box.Z.Lo, iV r1.Box.Z.Hi, .bool r1.Box.Z.Unknown], (j84 3), (j84 4), (j84 5), (j84 6), (j84 7), (j84 8), (j84 9), (j84 10), (j84 11), .pointer (some ⟨b7, 10, none⟩), (ag_Bound r1.Flux), iV vt98, .pointer (some ⟨b7, 13, none⟩), (ag_Bound r1.When), iV vt104, .slice (some ⟨b110, 0, none⟩) ([vt98, vt104] : List Int).length 2, iV vt121, iV vt121, .bool false, uV, .bool false, .pointer (some ⟨b7, 16, none⟩), .slice A2 r1.Frames.length c3, iV (r1.Frames.length : Int), .bool false, .bool false, .pointer (some ⟨b7, 16, none⟩), .slice A2 r1.Frames.length c3, iV (r1.Frames.length : Int), .bool false, .pointer (some ⟨b7, 16, none⟩), .slice A2 r1.Frames.length c3, iV (r1.Frames.length : Int), iV x176, .bool true, iV x176, .pointer (some ⟨b198, of199 + (x176 : Int).toNat * 1, none⟩), iV (rd r1.Frames x176), (j175 7), (j175 8), (j175 9), (j175 10), (j175 11), (j175 12), (j175 13), (j175 14), (j175 15), (j175 16), (j175 17), (j175 18), (j175 19), (j175 20), (j175 21), (j175 22), (j175 23), (j175 24), (j175 25), (j175 26), (j175 27), uV, uV, uV, uV, uV, uV, uV, uV], []⟩) (by kernel_rfl) ?_
                refine wpList_nil ?_
                refine hK193 _ _ ?_
                refine blockK (fun B201 hx202 hn203 hr204 ho205 hp206 => ?_)
                refine wp_seq_k (fun K208 hK209 => ?_)
                refine wp_region_lit ?_
                refine seqS3 (a' := ⟨#[(ag_Row r1 A2 c3), .pointer (some ⟨b7, 0, none⟩), (j175 0), uV, (j84 1), (j84 2), iV vt121, iV x176, iV (rd r1.Frames x176), .pointer (some ⟨b7, 0, none⟩), iV r1.ID, .bool false, .bool false, .pointer (some ⟨b7, 0, none⟩), iV r1.ID, .bool false, .bool false, .pointer (some ⟨b7, 1, none⟩), .pointer (some ⟨b7, 1, none⟩), (ag_Bound r1.Box.X), .pointer (some ⟨b7, 1, none⟩), .pointer (some ⟨b7, 4, none⟩), (ag_Bound r1.Box.Y), .pointer (some ⟨b7, 1, none⟩), .pointer (some ⟨b7, 7, none⟩), (ag_Bound r1.Box.Z), .agg #[iV r1.Box.X.Lo, iV r1.Box.X.Hi, .bool r1.Box.X.Unknown, iV r1.Box.Y.Lo, iV r1.Box.Y.Hi, .bool r1.Box.Y.Unknown, iV r1.Box.Z.Lo, iV r1.Box.Z.Hi, .bool r1.Box.Z.Unknown], (j84 3), (j84 4), (j84 5), (j84 6), (j84 7), (j84 8), (j84 9), (j84 10), (j84 11), .pointer (some ⟨b7, 10, none⟩), (ag_Bound r1.Flux), iV vt98, .pointer (some ⟨b7, 13, none⟩), (ag_Bound r1.When), iV vt104, .slice (some ⟨b110, 0, none⟩) ([vt98, vt104] : List Int).length 2, iV vt121, iV vt121, .bool false, uV, .bool false, .pointer (some ⟨b7, 16, none⟩), .slice A2 r1.Frames.length c3, iV (r1.Frames.length : Int), .bool false, .bool false, .pointer (some ⟨b7, 16, none⟩), .slice A2 r1.Frames.length c3, iV (r1.Frames.length : Int), .bool false, .pointer (some ⟨b7, 16, none⟩), .slice A2 r1.Frames.length c3, iV (r1.Frames.length : Int), iV x176, .bool true, iV x176, .pointer (some ⟨b198, of199 + (x176 : Int).toNat * 1, none⟩), iV (rd r1.Frames x176), (j175 7), iV (rd r1.Frames x176), .bool (decide ((rd r1.Frames x176) < 1)), .bool (decide ((rd r1.Frames x176) < 1)), (j175 11), (j175 12), (j175 13), (j175 14), (j175 15), (j175 16), (j175 17), (j175 18), (j175 19), (j175 20), (j175 21), (j175 22), (j175 23), (j175 24), (j175 25), (j175 26), (j175 27), uV, uV, uV, uV, uV, uV, uV, uV], []⟩) (by kernel_rfl) ?_
                have hq_ := ite_some h; clear h; rcases hq_ with ⟨c210, h⟩ | ⟨c210, h⟩
                · have c210 : (rd r1.Frames x176) < 1 := c210
                  refine seqRwI 67 (x := (decide ((rd r1.Frames x176) < 1))) (v := true) (by kernel_rfl) (decide_eq_true c210) ?_
                  refine seqRwI 68 (x := (decide ((rd r1.Frames x176) < 1))) (v := true) (by kernel_rfl) (decide_eq_true c210) ?_
                  refine seqS4 (a' := ⟨#[(ag_Row r1 A2 c3), .pointer (some ⟨b7, 0, none⟩), (j175 0), uV, (j84 1), (j84 2), iV vt121, iV x176, iV (rd r1.Frames x176), .pointer (some ⟨b7, 0, none⟩), iV r1.ID, .bool false, .bool false, .pointer (some ⟨b7, 0, none⟩), iV r1.ID, .bool false, .bool false, .pointer (some ⟨b7, 1, none⟩), .pointer (some ⟨b7, 1, none⟩), (ag_Bound r1.Box.X), .pointer (some ⟨b7, 1, none⟩), .pointer (some ⟨b7, 4, none⟩), (ag_Bound r1.Box.Y), .pointer (some ⟨b7, 1, none⟩), .pointer (some ⟨b7, 7, none⟩), (ag_Bound r1.Box.Z), .agg #[iV r1.Box.X.Lo, iV r1.Box.X.Hi, .bool r1.Box.X.Unknown, iV r1.Box.Y.Lo, iV r1.Box.Y.Hi, .bool r1.Box.Y.Unknown, iV r1.Box.Z.Lo, iV r1.Box.Z.Hi, .bool r1.Box.Z.Unknown], (j84 3), (j84 4), (j84 5), (j84 6), (j84 7), (j84 8), (j84 9), (j84 10), (j84 11), .pointer (some ⟨b7, 10, none⟩), (ag_Bound r1.Flux), iV vt98, .pointer (some ⟨b7, 13, none⟩), (ag_Bound r1.When), iV vt104, .slice (some ⟨b110, 0, none⟩) ([vt98, vt104] : List Int).length 2, iV vt121, iV vt121, .bool false, uV, .bool false, .pointer (some ⟨b7, 16, none⟩), .slice A2 r1.Frames.length c3, iV (r1.Frames.length : Int), .bool false, .bool false, .pointer (some ⟨b7, 16, none⟩), .slice A2 r1.Frames.length c3, iV (r1.Frames.length : Int), .bool false, .pointer (some ⟨b7, 16, none⟩), .slice A2 r1.Frames.length c3, iV (r1.Frames.length : Int), iV x176, .bool true, iV x176, .pointer (some ⟨b198, of199 + (x176 : Int).toNat * 1, none⟩), iV (rd r1.Frames x176), .bool true, iV (rd r1.Frames x176), .bool true, .bool true, uV, uV, .bool true, (j175 14), (j175 15), (j175 16), (j175 17), (j175 18), (j175 19), (j175 20), (j175 21), (j175 22), (j175 23), (j175 24), (j175 25), (j175 26), (j175 27), uV, uV, uV, uV, uV, uV, uV, uV], []⟩) (by kernel_rfl) ?_
                  refine wpList_nil ?_
                  refine hK209 _ _ ?_
                  refine condT (by kernel_rfl) ?_
                  refine wp_seq_k (fun K211 hK212 => ?_)
                  refine wp_region_lit ?_
                  refine seqS1 (a' := ⟨#[(ag_Row r1 A2 c3), .pointer (some ⟨b7, 0, none⟩), iV 4, uV, (j84 1), (j84 2), iV vt121, iV x176, iV (rd r1.Frames x176), .pointer (some ⟨b7, 0, none⟩), iV r1.ID, .bool false, .bool false, .pointer (some ⟨b7, 0, none⟩), iV r1.ID, .bool false, .bool false, .pointer (some ⟨b7, 1, none⟩), .pointer (some ⟨b7, 1, none⟩), (ag_Bound r1.Box.X), .pointer (some ⟨b7, 1, none⟩), .pointer (some ⟨b7, 4, none⟩), (ag_Bound r1.Box.Y), .pointer (some ⟨b7, 1, none⟩), .pointer (some ⟨b7, 7, none⟩), (ag_Bound r1.Box.Z), .agg #[iV r1.Box.X.Lo, iV r1.Box.X.Hi, .bool r1.Box.X.Unknown, iV r1.Box.Y.Lo, iV r1.Box.Y.Hi, .bool r1.Box.Y.Unknown, iV r1.Box.Z.Lo, iV r1.Box.Z.Hi, .bool r1.Box.Z.Unknown], (j84 3), (j84 4), (j84 5), (j84 6), (j84 7), (j84 8), (j84 9), (j84 10), (j84 11), .pointer (some ⟨b7, 10, none⟩), (ag_Bound r1.Flux), iV vt98, .pointer (some ⟨b7, 13, none⟩), (ag_Bound r1.When), iV vt104, .slice (some ⟨b110, 0, none⟩) ([vt98, vt104] : List Int).length 2, iV vt121, iV vt121, .bool false, uV, .bool false, .pointer (some ⟨b7, 16, none⟩), .slice A2 r1.Frames.length c3, iV (r1.Frames.length : Int), .bool false, .bool false, .pointer (some ⟨b7, 16, none⟩), .slice A2 r1.Frames.length c3, iV (r1.Frames.length : Int), .bool false, .pointer (some ⟨b7, 16, none⟩), .slice A2 r1.Frames.length c3, iV (r1.Frames.length : Int), iV x176, .bool true, iV x176, .pointer (some ⟨b198, of199 + (x176 : Int).toNat * 1, none⟩), iV (rd r1.Frames x176), .bool true, iV (rd r1.Frames x176), .bool true, .bool true, uV, uV, .bool true, (j175 14), (j175 15), (j175 16), (j175 17), (j175 18), (j175 19), (j175 20), (j175 21), (j175 22), (j175 23), (j175 24), (j175 25), (j175 26), (j175 27), uV, uV, uV, uV, uV, uV, uV, uV], []⟩) (by kernel_rfl) ?_
                  refine wpList_nil ?_
                  refine hK212 _ _ ?_
                  refine wp_ret ?_
                  refine hr204 _ _ ?_
                  refine hr188 _ _ ?_
                  refine hr164 _ _ ?_
                  refine hret _ _ ?_
                  refine ends_still (v := Value.int .i64 4) (by kernel_rfl) (by kernel_rfl) ?_
                  have HS264 := HS174.drop
                  have HS265 := HS264.drop
                  replace h := JR239 _ h
                  injection h with h
                  subst h
                  exact ⟨f171, rfl, (L81.trans (L101.trans (L107.trans (L128.trans L172)))), HS265⟩
                · have c210 : ¬ ((rd r1.Frames x176) < 1) := c210
                  refine seqRwI 67 (x := (decide ((rd r1.Frames x176) < 1))) (v := false) (by kernel_rfl) (decide_eq_false c210) ?_
                  refine seqRwI 68 (x := (decide ((rd r1.Frames x176) < 1))) (v := false) (by kernel_rfl) (decide_eq_false c210) ?_
                  refine seqS4 (a' := ⟨#[(ag_Row r1 A2 c3), .pointer (some ⟨b7, 0, none⟩), (j175 0), uV, (j84 1), (j84 2), iV vt121, iV x176, iV (rd r1.Frames x176), .pointer (some ⟨b7, 0, none⟩), iV r1.ID, .bool false, .bool false, .pointer (some ⟨b7, 0, none⟩), iV r1.ID, .bool false, .bool false, .pointer (some ⟨b7, 1, none⟩), .pointer (some ⟨b7, 1, none⟩), (ag_Bound r1.Box.X), .pointer (some ⟨b7, 1, none⟩), .pointer (some ⟨b7, 4, none⟩), (ag_Bound r1.Box.Y), .pointer (some ⟨b7, 1, none⟩), .pointer (some ⟨b7, 7, none⟩), (ag_Bound r1.Box.Z), .agg #[iV r1.Box.X.Lo, iV r1.Box.X.Hi, .bool r1.Box.X.Unknown, iV r1.Box.Y.Lo, iV r1.Box.Y.Hi, .bool r1.Box.Y.Unknown, iV r1.Box.Z.Lo, iV r1.Box.Z.Hi, .bool r1.Box.Z.Unknown], (j84 3), (j84 4), (j84 5), (j84 6), (j84 7), (j84 8), (j84 9), (j84 10), (j84 11), .pointer (some ⟨b7, 10, none⟩), (ag_Bound r1.Flux), iV vt98, .pointer (some ⟨b7, 13, none⟩), (ag_Bound r1.When), iV vt104, .slice (some ⟨b110, 0, none⟩) ([vt98, vt104] : List Int).length 2, iV vt121, iV vt121, .bool false, uV, .bool false, .pointer (some ⟨b7, 16, none⟩), .slice A2 r1.Frames.length c3, iV (r1.Frames.length : Int), .bool false, .bool false, .pointer (some ⟨b7, 16, none⟩), .slice A2 r1.Frames.length c3, iV (r1.Frames.length : Int), .bool false, .pointer (some ⟨b7, 16, none⟩), .slice A2 r1.Frames.length c3, iV (r1.Frames.length : Int), iV x176, .bool true, iV x176, .pointer (some ⟨b198, of199 + (x176 : Int).toNat * 1, none⟩), iV (rd r1.Frames x176), .bool (decide ((rd r1.Frames x176) > 1048576)), iV (rd r1.Frames x176), .bool false, .bool false, iV (rd r1.Frames x176), .bool (decide ((rd r1.Frames x176) > 1048576)), .bool (decide ((rd r1.Frames x176) > 1048576)), (j175 14), (j175 15), (j175 16), (j175 17), (j175 18), (j175 19), (j175 20), (j175 21), (j175 22), (j175 23), (j175 24), (j175 25), (j175 26), (j175 27), uV, uV, uV, uV, uV, uV, uV, uV], []⟩) (by kernel_rfl) ?_
                  refine wpList_nil ?_
                  refine hK209 _ _ ?_
                  have hq_ := ite_some h; clear h; rcases hq_ with ⟨c214, h⟩ | ⟨c214, h⟩
                  · have c214 : (rd r1.Frames x176) > 1048576 := c214
                    refine wpRwI 65 (x := (decide ((rd r1.Frames x176) > 1048576))) (v := true) (by kernel_rfl) (decide_eq_true c214) ?_
                    refine wpRwI 70 (x := (decide ((rd r1.Frames x176) > 1048576))) (v := true) (by kernel_rfl) (decide_eq_true c214) ?_
                    refine wpRwI 71 (x := (decide ((rd r1.Frames x176) > 1048576))) (v := true) (by kernel_rfl) (decide_eq_true c214) ?_
                    refine condT (by kernel_rfl) ?_
                    refine wp_seq_k (fun K215 hK216 => ?_)
                    refine wp_region_lit ?_
                    refine seqS1 (a' := ⟨#[(ag_Row r1 A2 c3), .pointer (some ⟨b7, 0, none⟩), iV 4, uV, (j84 1), (j84 2), iV vt121, iV x176, iV (rd r1.Frames x176), .pointer (some ⟨b7, 0, none⟩), iV r1.ID, .bool false, .bool false, .pointer (some ⟨b7, 0, none⟩), iV r1.ID, .bool false, .bool false, .pointer (some ⟨b7, 1, none⟩), .pointer (some ⟨b7, 1, none⟩), (ag_Bound r1.Box.X), .pointer (some ⟨b7, 1, none⟩), .pointer (some ⟨b7, 4, none⟩), (ag_Bound r1.Box.Y), .pointer (some ⟨b7, 1, none⟩), .pointer (some ⟨b7, 7, none⟩), (ag_Bound r1.Box.Z), .agg #[iV r1.Box.X.Lo, iV r1.Box.X.Hi, .bool r1.Box.X.Unknown, iV r1.Box.Y.Lo, iV r1.Box.Y.Hi, .bool r1.Box.Y.Unknown, iV r1.Box.Z.Lo, iV r1.Box.Z.Hi, .bool r1.Box.Z.Unknown], (j84 3), (j84 4), (j84 5), (j84 6), (j84 7), (j84 8), (j84 9), (j84 10), (j84 11), .pointer (some ⟨b7, 10, none⟩), (ag_Bound r1.Flux), iV vt98, .pointer (some ⟨b7, 13, none⟩), (ag_Bound r1.When), iV vt104, .slice (some ⟨b110, 0, none⟩) ([vt98, vt104] : List Int).length 2, iV vt121, iV vt121, .bool false, uV, .bool false, .pointer (some ⟨b7, 16, none⟩), .slice A2 r1.Frames.length c3, iV (r1.Frames.length : Int), .bool false, .bool false, .pointer (some ⟨b7, 16, none⟩), .slice A2 r1.Frames.length c3, iV (r1.Frames.length : Int), .bool false, .pointer (some ⟨b7, 16, none⟩), .slice A2 r1.Frames.length c3, iV (r1.Frames.length : Int), iV x176, .bool true, iV x176, .pointer (some ⟨b198, of199 + (x176 : Int).toNat * 1, none⟩), iV (rd r1.Frames x176), .bool true, iV (rd r1.Frames x176), .bool false, .bool false, iV (rd r1.Frames x176), .bool true, .bool true, (j175 14), (j175 15), (j175 16), (j175 17), (j175 18), (j175 19), (j175 20), (j175 21), (j175 22), (j175 23), (j175 24), (j175 25), (j175 26), (j175 27), uV, uV, uV, uV, uV, uV, uV, uV], []⟩) (by kernel_rfl) ?_
                    refine wpList_nil ?_
                    refine hK216 _ _ ?_
                    refine wp_ret ?_
                    refine hr204 _ _ ?_
                    refine hr188 _ _ ?_
                    refine hr164 _ _ ?_
                    refine hret _ _ ?_
                    refine ends_still (v := Value.int .i64 4) (by kernel_rfl) (by kernel_rfl) ?_
                    have HS266 := HS174.drop
                    have HS267 := HS266.drop
                    replace h := JR239 _ h
                    injection h with h
                    subst h
                    exact ⟨f171, rfl, (L81.trans (L101.trans (L107.trans (L128.trans L172)))), HS267⟩
                  · have c214 : ¬ ((rd r1.Frames x176) > 1048576) := c214
                    refine wpRwI 65 (x := (decide ((rd r1.Frames x176) > 1048576))) (v := false) (by kernel_rfl) (decide_eq_false c214) ?_
                    refine wpRwI 70 (x := (decide ((rd r1.Frames x176) > 1048576))) (v := false) (by kernel_rfl) (decide_eq_false c214) ?_
                    refine wpRwI 71 (x := (decide ((rd r1.Frames x176) > 1048576))) (v := false) (by kernel_rfl) (decide_eq_false c214) ?_
                    refine condF (by kernel_rfl) ?_
                    refine wp_seq_k (fun K217 hK218 => ?_)
                    refine wp_region_lit ?_
                    refine seqS3 (a' := ⟨#[(ag_Row r1 A2 c3), .pointer (some ⟨b7, 0, none⟩), (j175 0), uV, (j84 1), (j84 2), iV vt121, iV x176, iV (rd r1.Frames x176), .pointer (some ⟨b7, 0, none⟩), iV r1.ID, .bool false, .bool false, .pointer (some ⟨b7, 0, none⟩), iV r1.ID, .bool false, .bool false, .pointer (some ⟨b7, 1, none⟩), .pointer (some ⟨b7, 1, none⟩), (ag_Bound r1.Box.X), .pointer (some ⟨b7, 1, none⟩), .pointer (some ⟨b7, 4, none⟩), (ag_Bound r1.Box.Y), .pointer (some ⟨b7, 1, none⟩), .pointer (some ⟨b7, 7, none⟩), (ag_Bound r1.Box.Z), .agg #[iV r1.Box.X.Lo, iV r1.Box.X.Hi, .bool r1.Box.X.Unknown, iV r1.Box.Y.Lo, iV r1.Box.Y.Hi, .bool r1.Box.Y.Unknown, iV r1.Box.Z.Lo, iV r1.Box.Z.Hi, .bool r1.Box.Z.Unknown], (j84 3), (j84 4), (j84 5), (j84 6), (j84 7), (j84 8), (j84 9), (j84 10), (j84 11), .pointer (some ⟨b7, 10, none⟩), (ag_Bound r1.Flux), iV vt98, .pointer (some ⟨b7, 13, none⟩), (ag_Bound r1.When), iV vt104, .slice (some ⟨b110, 0, none⟩) ([vt98, vt104] : List Int).length 2, iV vt121, iV vt121, .bool false, uV, .bool false, .pointer (some ⟨b7, 16, none⟩), .slice A2 r1.Frames.length c3, iV (r1.Frames.length : Int), .bool false, .bool false, .pointer (some ⟨b7, 16, none⟩), .slice A2 r1.Frames.length c3, iV (r1.Frames.length : Int), .bool false, .pointer (some ⟨b7, 16, none⟩), .slice A2 r1.Frames.length c3, iV (r1.Frames.length : Int), iV x176, .bool true, iV x176, .pointer (some ⟨b198, of199 + (x176 : Int).toNat * 1, none⟩), iV (rd r1.Frames x176), .bool false, iV (rd r1.Frames x176), .bool false, .bool false, iV (rd r1.Frames x176), .bool false, .bool false, (j175 14), iV x176, .bool (decide (x176 > 0)), .bool (decide (x176 > 0)), (j175 18), (j175 19), (j175 20), (j175 21), (j175 22), (j175 23), (j175 24), (j175 25), (j175 26), (j175 27), uV, uV, uV, uV, uV, uV, uV, uV], []⟩) (by kernel_rfl) ?_
                    have hq_ := ite_some h; clear h; rcases hq_ with ⟨c219, h⟩ | ⟨c219, h⟩
                    · have c219 : x176 > 0 := c219
                      refine seqRwI 74 (x := (decide (x176 > 0))) (v := true) (by kernel_rfl) (decide_eq_true c219) ?_
                      refine seqRwI 75 (x := (decide (x176 > 0))) (v := true) (by kernel_rfl) (decide_eq_true c219) ?_
                      refine seqL2 (by kernel_rfl) ?_
                      refine seqG (by kernel_rfl) (does_run (run_load rfl Try.underlying22 rfl (by kernel_rfl : _ = Value.pointer (some ⟨b7, 16, none⟩)) (HS174.u1.cell 16)) ?_)
                      have hq_ := guard_some h; clear h; obtain ⟨c220, h⟩ := hq_
                      have c220 : 0 ≤ (w64 (x176 - 1)) := c220
                      have hq_ := guard_some h; clear h; obtain ⟨c221, h⟩ := hq_
                      have c221 : (w64 (x176 - 1)) < (r1.Frames.length : Int) := c221
                      obtain ⟨b225, of226, cs222, hA227, hr223, hc224⟩ := (HR4.mono (L81.trans (L101.trans (L107.trans (L128.trans L172))))).at (i := w64 (x176 - 1)) c220 c221
                      obtain rfl := hr223
                      refine seqL2 (by kernel_rfl) ?_
                      refine seqG (by kernel_rfl) (does_run (run_indexE hA227 (sz := 1) rfl Try.underlying22 (by kernel_rfl) (by kernel_rfl : _ = Value.slice A2 r1.Frames.length c3) (by kernel_rfl : _ = Value.int .i64 (w64 (x176 - 1))) c220 c221 W173) ?_)
                      refine seqG (by kernel_rfl) (does_run (run_load rfl Try.underlying3 rfl (by kernel_rfl : _ = Value.pointer (some ⟨b225, of226 + (w64 (x176 - 1) : Int).toNat * 1, none⟩)) ((hc224 (FM.le.refl _) HS174) 0 (by decide))) ?_)
                      refine seqS3 (a' := ⟨#[(ag_Row r1 A2 c3), .pointer (some ⟨b7, 0, none⟩), (j175 0), uV, (j84 1), (j84 2), iV vt121, iV x176, iV (rd r1.Frames x176), .pointer (some ⟨b7, 0, none⟩), iV r1.ID, .bool false, .bool false, .pointer (some ⟨b7, 0, none⟩), iV r1.ID, .bool false, .bool false, .pointer (some ⟨b7, 1, none⟩), .pointer (some ⟨b7, 1, none⟩), (ag_Bound r1.Box.X), .pointer (some ⟨b7, 1, none⟩), .pointer (some ⟨b7, 4, none⟩), (ag_Bound r1.Box.Y), .pointer (some ⟨b7, 1, none⟩), .pointer (some ⟨b7, 7, none⟩), (ag_Bound r1.Box.Z), .agg #[iV r1.Box.X.Lo, iV r1.Box.X.Hi, .bool r1.Box.X.Unknown, iV r1.Box.Y.Lo, iV r1.Box.Y.Hi, .bool r1.Box.Y.Unknown, iV r1.Box.Z.Lo, iV r1.Box.Z.Hi, .bool r1.Box.Z.Unknown], (j84 3), (j84 4), (j84 5), (j84 6), (j84 7), (j84 8), (j84 9), (j84 10), (j84 11), .pointer (some ⟨b7, 10, none⟩), (ag_Bound r1.Flux), iV vt98, .pointer (some ⟨b7, 13, none⟩), (ag_Bound r1.When), iV vt104, .slice (some ⟨b110, 0, none⟩) ([vt98, vt104] : List Int).length 2, iV vt121, iV vt121, .bool false, uV, .bool false, .pointer (some ⟨b7, 16, none⟩), .slice A2 r1.Frames.length c3, iV (r1.Frames.length : Int), .bool false, .bool false, .pointer (some ⟨b7, 16, none⟩), .slice A2 r1.Frames.length c3, iV (r1.Frames.length : Int), .bool false, .pointer (some ⟨b7, 16, none⟩), .slice A2 r1.Frames.length c3, iV (r1.Frames.length : Int), iV x176, .bool true, iV x176, .pointer (some ⟨b198, of199 + (x176 : Int).toNat * 1, none⟩), iV (rd r1.Frames x176), .bool false, iV (rd r1.Frames x176), .bool false, .bool false, iV (rd r1.Frames x176), .bool false, .bool false, .bool (decide ((rd r1.Frames x176) ≤ (rd r1.Frames (w64 (x176 - 1))))), iV x176, .bool true, .bool true, iV (rd r1.Frames x176), .pointer (some ⟨b7, 16, none⟩), .slice A2 r1.Frames.length c3, iV x176, iV (w64 (x176 - 1)), .pointer (some ⟨b225, of226 + (w64 (x176 - 1) : Int).toNat * 1, none⟩), iV (rd r1.Frames (w64 (x176 - 1))), .bool (decide ((rd r1.Frames x176) ≤ (rd r1.Frames (w64 (x176 - 1))))), .bool (decide ((rd r1.Frames x176) ≤ (rd r1.Frames (w64 (x176 - 1))))), (j175 27), uV, uV, uV, uV, uV, uV, uV, uV], []⟩) (by kernel_rfl) ?_
                      refine wpList_nil ?_
                      refine hK218 _ _ ?_
                      have hq_ := ite_some h; clear h; rcases hq_ with ⟨c229, h⟩ | ⟨c229, h⟩
                      · have c229 : (rd r1.Frames x176) ≤ (rd r1.Frames (w64 (x176 - 1))) := c229
                        refine wpRwI 72 (x := (decide ((rd r1.Frames x176) ≤ (rd r1.Frames (w64 (x176 - 1)))))) (v := true) (by kernel_rfl) (decide_eq_true c229) ?_
                        refine wpRwI 83 (x := (decide ((rd r1.Frames x176) ≤ (rd r1.Frames (w64 (x176 - 1)))))) (v := true) (by kernel_rfl) (decide_eq_true c229) ?_
                        refine wpRwI 84 (x := (decide ((rd r1.Frames x176) ≤ (rd r1.Frames (w64 (x176 - 1)))))) (v := true) (by kernel_rfl) (decide_eq_true c229) ?_
                        refine condT (by kernel_rfl) ?_
                        refine wp_seq_k (fun K230 hK231 => ?_)
                        refine wp_region_lit ?_
                        refine seqS1 (a' := ⟨#[(ag_Row r1 A2 c3), .pointer (some ⟨b7, 0, none⟩), iV 11, uV, (j84 1), (j84 2), iV vt121, iV x176, iV (rd r1.Frames x176), .pointer (some ⟨b7, 0, none⟩), iV r1.ID, .bool false, .bool false, .pointer (some ⟨b7, 0, none⟩), iV r1.ID, .bool false, .bool false, .pointer (some ⟨b7, 1, none⟩), .pointer (some ⟨b7, 1, none⟩), (ag_Bound r1.Box.X), .pointer (some ⟨b7, 1, none⟩), .pointer (some ⟨b7, 4, none⟩), (ag_Bound r1.Box.Y), .pointer (some ⟨b7, 1, none⟩), .pointer (some ⟨b7, 7, none⟩), (ag_Bound r1.Box.Z), .agg #[iV r1.Box.X.Lo, iV r1.Box.X.Hi, .bool r1.Box.X.Unknown, iV r1.Box.Y.Lo, iV r1.Box.Y.Hi, .bool r1.Box.Y.Unknown, iV r1.Box.Z.Lo, iV r1.Box.Z.Hi, .bool r1.Box.Z.Unknown], (j84 3), (j84 4), (j84 5), (j84 6), (j84 7), (j84 8), (j84 9), (j84 10), (j84 11), .pointer (some ⟨b7, 10, none⟩), (ag_Bound r1.Flux), iV vt98, .pointer (some ⟨b7, 13, none⟩), (ag_Bound r1.When), iV vt104, .slice (some ⟨b110, 0, none⟩) ([vt98, vt104] : List Int).length 2, iV vt121, iV vt121, .bool false, uV, .bool false, .pointer (some ⟨b7, 16, none⟩), .slice A2 r1.Frames.length c3, iV (r1.Frames.length : Int), .bool false, .bool false, .pointer (some ⟨b7, 16, none⟩), .slice A2 r1.Frames.length c3, iV (r1.Frames.length : Int), .bool false, .pointer (some ⟨b7, 16, none⟩), .slice A2 r1.Frames.length c3, iV (r1.Frames.length : Int), iV x176, .bool true, iV x176, .pointer (some ⟨b198, of199 + (x176 : Int).toNat * 1, none⟩), iV (rd r1.Frames x176), .bool false, iV (rd r1.Frames x176), .bool false, .bool false, iV (rd r1.Frames x176), .bool false, .bool false, .bool true, iV x176, .bool true, .bool true, iV (rd r1.Frames x176), .pointer (some ⟨b7, 16, none⟩), .slice A2 r1.Frames.length c3, iV x176, iV (w64 (x176 - 1)), .pointer (some ⟨b225, of226 + (w64 (x176 - 1) : Int).toNat * 1, none⟩), iV (rd r1.Frames (w64 (x176 - 1))), .bool true, .bool true, (j175 27), uV, uV, uV, uV, uV, uV, uV, uV], []⟩) (by kernel_rfl) ?_
                        refine wpList_nil ?_
                        refine hK231 _ _ ?_
                        refine wp_ret ?_
                        refine hr204 _ _ ?_
                        refine hr188 _ _ ?_
                        refine hr164 _ _ ?_
                        refine hret _ _ ?_
                        refine ends_still (v := Value.int .i64 11) (by kernel_rfl) (by kernel_rfl) ?_
                        have HS268 := HS174.drop
                        have HS269 := HS268.drop
                        replace h := JR239 _ h
                        injection h with h
                        subst h
                        exact ⟨f171, rfl, (L81.trans (L101.trans (L107.trans (L128.trans L172)))), HS269⟩
                      · have c229 : ¬ ((rd r1.Frames x176) ≤ (rd r1.Frames (w64 (x176 - 1)))) := c229
                        refine wpRwI 72 (x := (decide ((rd r1.Frames x176) ≤ (rd r1.Frames (w64 (x176 - 1)))))) (v := false) (by kernel_rfl) (decide_eq_false c229) ?_
                        refine wpRwI 83 (x := (decide ((rd r1.Frames x176) ≤ (rd r1.Frames (w64 (x176 - 1)))))) (v := false) (by kernel_rfl) (decide_eq_false c229) ?_
                        refine wpRwI 84 (x := (decide ((rd r1.Frames x176) ≤ (rd r1.Frames (w64 (x176 - 1)))))) (v := false) (by kernel_rfl) (decide_eq_false c229) ?_
                        refine condF (by kernel_rfl) ?_
                        refine wp_skip ?_
                        refine hn203 _ _ ?_
                        refine hn187 _ _ ?_
                        refine hK184 _ _ ?_
                        refine wp_region_lit ?_
                        refine seqS2 (a' := ⟨#[(ag_Row r1 A2 c3), .pointer (some ⟨b7, 0, none⟩), (j175 0), uV, (j84 1), (j84 2), iV vt121, iV x176, iV (rd r1.Frames x176), .pointer (some ⟨b7, 0, none⟩), iV r1.ID, .bool false, .bool false, .pointer (some ⟨b7, 0, none⟩), iV r1.ID, .bool false, .bool false, .pointer (some ⟨b7, 1, none⟩), .pointer (some ⟨b7, 1, none⟩), (ag_Bound r1.Box.X), .pointer (some ⟨b7, 1, none⟩), .pointer (some ⟨b7, 4, none⟩), (ag_Bound r1.Box.Y), .pointer (some ⟨b7, 1, none⟩), .pointer (some ⟨b7, 7, none⟩), (ag_Bound r1.Box.Z), .agg #[iV r1.Box.X.Lo, iV r1.Box.X.Hi, .bool r1.Box.X.Unknown, iV r1.Box.Y.Lo, iV r1.Box.Y.Hi, .bool r1.Box.Y.Unknown, iV r1.Box.Z.Lo, iV r1.Box.Z.Hi, .bool r1.Box.Z.Unknown], (j84 3), (j84 4), (j84 5), (j84 6), (j84 7), (j84 8), (j84 9), (j84 10), (j84 11), .pointer (some ⟨b7, 10, none⟩), (ag_Bound r1.Flux), iV vt98, .pointer (some ⟨b7, 13, none⟩), (ag_Bound r1.When), iV vt104, .slice (some ⟨b110, 0, none⟩) ([vt98, vt104] : List Int).length 2, iV vt121, iV vt121, .bool false, uV, .bool false, .pointer (some ⟨b7, 16, none⟩), .slice A2 r1.Frames.length c3, iV (r1.Frames.length : Int), .bool false, .bool false, .pointer (some ⟨b7, 16, none⟩), .slice A2 r1.Frames.length c3, iV (r1.Frames.length : Int), .bool false, .pointer (some ⟨b7, 16, none⟩), .slice A2 r1.Frames.length c3, iV (r1.Frames.length : Int), iV (w64 (x176 + 1)), .bool true, iV x176, .pointer (some ⟨b198, of199 + (x176 : Int).toNat * 1, none⟩), iV (rd r1.Frames x176), .bool false, iV (rd r1.Frames x176), .bool false, .bool false, iV (rd r1.Frames x176), .bool false, .bool false, .bool false, iV x176, .bool true, .bool true, iV (rd r1.Frames x176), .pointer (some ⟨b7, 16, none⟩), .slice A2 r1.Frames.length c3, iV x176, iV (w64 (x176 - 1)), .pointer (some ⟨b225, of226 + (w64 (x176 - 1) : Int).toNat * 1, none⟩), iV (rd r1.Frames (w64 (x176 - 1))), .bool false, .bool false, iV (w64 (x176 + 1)), uV, uV, uV, uV, uV, uV, uV, uV], []⟩) (by kernel_rfl) ?_
                        refine wpList_nil ?_
                        refine hK169 n170 _ _ (Nat.lt_succ_self _) ?_
                        exact ⟨f171, (w64 (x176 + 1)), (fun i_ => [(j175 0), Value.int .i64 x176, Value.int .i64 (rd r1.Frames x176), Value.bool true, Value.int .i64 x176, Value.pointer (some ⟨b198, of199 + (x176 : Int).toNat * 1, none⟩), Value.int .i64 (rd r1.Frames x176), Value.bool false, Value.int .i64 (rd r1.Frames x176), Value.bool false, Value.bool false, Value.int .i64 (rd r1.Frames x176), Value.bool false, Value.bool false, Value.bool false, Value.int .i64 x176, Value.bool true, Value.bool true, Value.int .i64 (rd r1.Frames x176), Value.pointer (some ⟨b7, 16, none⟩), Value.slice A2 r1.Frames.length c3, Value.int .i64 x176, Value.int .i64 (w64 (x176 - 1)), Value.pointer (some ⟨b225, of226 + (w64 (x176 - 1) : Int).toNat * 1, none⟩), Value.int .i64 (rd r1.Frames (w64 (x176 - 1))), Value.bool false, Value.bool false, Value.int .i64 (w64 (x176 + 1))].getD i_ undef), L172, HS174, h, (by kernel_rfl)⟩
                    · have c219 : ¬ (x176 > 0) := c219
                      refine seqRwI 74 (x := (decide (x176 > 0))) (v := false) (by kernel_rfl) (decide_eq_false c219) ?_
                      refine seqRwI 75 (x := (decide (x176 > 0))) (v := false) (by kernel_rfl) (decide_eq_false c219) ?_
                      refine seqS10 (a' := ⟨#[(ag_Row r1 A2 c3), .pointer (some ⟨b7, 0, none⟩), (j175 0), uV, (j84 1), (j84 2), iV vt121, iV x176, iV (rd r1.Frames x176), .pointer (some ⟨b7, 0, none⟩), iV r1.ID, .bool false, .bool false, .pointer (some ⟨b7, 0, none⟩), iV r1.ID, .bool false, .bool false, .pointer (some ⟨b7, 1, none⟩), .pointer (some ⟨b7, 1, none⟩), (ag_Bound r1.Box.X), .pointer (some ⟨b7, 1, none⟩), .pointer (some ⟨b7, 4, none⟩), (ag_Bound r1.Box.Y), .pointer (some ⟨b7, 1, none⟩), .pointer (some ⟨b7, 7, none⟩), (ag_Bound r1.Box.Z), .agg #[iV r1.Box.X.Lo, iV r1.Box.X.Hi, .bool r1.Box.X.Unknown, iV r1.Box.Y.Lo, iV r1.Box.Y.Hi, .bool r1.Box.Y.Unknown, iV r1.Box.Z.Lo, iV r1.Box.Z.Hi, .bool r1.Box.Z.Unknown], (j84 3), (j84 4), (j84 5), (j84 6), (j84 7), (j84 8), (j84 9), (j84 10), (j84 11), .pointer (some ⟨b7, 10, none⟩), (ag_Bound r1.Flux), iV vt98, .pointer (some ⟨b7, 13, none⟩), (ag_Bound r1.When), iV vt104, .slice (some ⟨b110, 0, none⟩) ([vt98, vt104] : List Int).length 2, iV vt121, iV vt121, .bool false, uV, .bool false, .pointer (some ⟨b7, 16, none⟩), .slice A2 r1.Frames.length c3, iV (r1.Frames.length : Int), .bool false, .bool false, .pointer (some ⟨b7, 16, none⟩), .slice A2 r1.Frames.length c3, iV (r1.Frames.length : Int), .bool false, .pointer (some ⟨b7, 16, none⟩), .slice A2 r1.Frames.length c3, iV (r1.Frames.length : Int), iV x176, .bool true, iV x176, .pointer (some ⟨b198, of199 + (x176 : Int).toNat * 1, none⟩), iV (rd r1.Frames x176), .bool false, iV (rd r1.Frames x176), .bool false, .bool false, iV (rd r1.Frames x176), .bool false, .bool false, .bool false, iV x176, .bool false, .bool false, uV, uV, uV, uV, uV, uV, uV, uV, .bool false, (j175 27), uV, uV, uV, uV, uV, uV, uV, uV], []⟩) (by kernel_rfl) ?_
                      refine wpList_nil ?_
                      refine hK218 _ _ ?_
                      refine condF (by kernel_rfl) ?_
                      refine wp_skip ?_
                      refine hn203 _ _ ?_
                      refine hn187 _ _ ?_
                      refine hK184 _ _ ?_
                      refine wp_region_lit ?_
                      refine seqS2 (a' := ⟨#[(ag_Row r1 A2 c3), .pointer (some ⟨b7, 0, none⟩), (j175 0), uV, (j84 1), (j84 2), iV vt121, iV x176, iV (rd r1.Frames x176), .pointer (some ⟨b7, 0, none⟩), iV r1.ID, .bool false, .bool false, .pointer (some ⟨b7, 0, none⟩), iV r1.ID, .bool false, .bool false, .pointer (some ⟨b7, 1, none⟩), .pointer (some ⟨b7, 1, none⟩), (ag_Bound r1.Box.X), .pointer (some ⟨b7, 1, none⟩), .pointer (some ⟨b7, 4, none⟩), (ag_Bound r1.Box.Y), .pointer (some ⟨b7, 1, none⟩), .pointer (some ⟨b7, 7, none⟩), (ag_Bound r1.Box.Z), .agg #[iV r1.Box.X.Lo, iV r1.Box.X.Hi, .bool r1.Box.X.Unknown, iV r1.Box.Y.Lo, iV r1.Box.Y.Hi, .bool r1.Box.Y.Unknown, iV r1.Box.Z.Lo, iV r1.Box.Z.Hi, .bool r1.Box.Z.Unknown], (j84 3), (j84 4), (j84 5), (j84 6), (j84 7), (j84 8), (j84 9), (j84 10), (j84 11), .pointer (some ⟨b7, 10, none⟩), (ag_Bound r1.Flux), iV vt98, .pointer (some ⟨b7, 13, none⟩), (ag_Bound r1.When), iV vt104, .slice (some ⟨b110, 0, none⟩) ([vt98, vt104] : List Int).length 2, iV vt121, iV vt121, .bool false, uV, .bool false, .pointer (some ⟨b7, 16, none⟩), .slice A2 r1.Frames.length c3, iV (r1.Frames.length : Int), .bool false, .bool false, .pointer (some ⟨b7, 16, none⟩), .slice A2 r1.Frames.length c3, iV (r1.Frames.length : Int), .bool false, .pointer (some ⟨b7, 16, none⟩), .slice A2 r1.Frames.length c3, iV (r1.Frames.length : Int), iV (w64 (x176 + 1)), .bool true, iV x176, .pointer (some ⟨b198, of199 + (x176 : Int).toNat * 1, none⟩), iV (rd r1.Frames x176), .bool false, iV (rd r1.Frames x176), .bool false, .bool false, iV (rd r1.Frames x176), .bool false, .bool false, .bool false, iV x176, .bool false, .bool false, uV, uV, uV, uV, uV, uV, uV, uV, .bool false, iV (w64 (x176 + 1)), uV, uV, uV, uV, uV, uV, uV, uV], []⟩) (by kernel_rfl) ?_
                      refine wpList_nil ?_
                      refine hK169 n170 _ _ (Nat.lt_succ_self _) ?_
                      exact ⟨f171, (w64 (x176 + 1)), (fun i_ => [(j175 0), Value.int .i64 x176, Value.int .i64 (rd r1.Frames x176), Value.bool true, Value.int .i64 x176, Value.pointer (some ⟨b198, of199 + (x176 : Int).toNat * 1, none⟩), Value.int .i64 (rd r1.Frames x176), Value.bool false, Value.int .i64 (rd r1.Frames x176), Value.bool false, Value.bool false, Value.int .i64 (rd r1.Frames x176), Value.bool false, Value.bool false, Value.bool false, Value.int .i64 x176, Value.bool false, Value.bool false, undef, undef, undef, undef, undef, undef, undef, undef, Value.bool false, Value.int .i64 (w64 (x176 + 1))].getD i_ undef), L172, HS174, h, (by kernel_rfl)⟩
              · have c182 : ¬ (x176 < (r1.Frames.length : Int)) := c182
                refine wpRwI 61 (x := (decide (x176 < (r1.Frames.length : Int)))) (v := false) (by kernel_rfl) (decide_eq_false c182) ?_
                refine condF (by kernel_rfl) ?_
                refine wp_exit ?_
                refine hx162 _ _ ?_
                exact J238 f171 (fun i_ => [(j175 0), (j175 1), (j175 2), Value.int .i64 x176, Value.bool false, (j175 4), (j175 5), (j175 6), (j175 7), (j175 8), (j175 9), (j175 10), (j175 11), (j175 12), (j175 13), (j175 14), (j175 15), (j175 16), (j175 17), (j175 18), (j175 19), (j175 20), (j175 21), (j175 22), (j175 23), (j175 24), (j175 25), (j175 26), (j175 27)].getD i_ undef) W173 _ L172 h HS174 (by kernel_rfl)
      clear h; have h := hv85; clear hv85
      refine loopK (fun n_ a_ w_ => ∃ (f36 : FM) (x41 : Int) (j40 : Nat → Value), FM.le f f36 ∧ St t w_ f36 ([(b7, .cells #[.int .i64 r1.ID, .int .i64 r1.Box.X.Lo, .int .i64 r1.Box.X.Hi, .bool r1.Box.X.Unknown, .int .i64 r1.Box.Y.Lo, .int .i64 r1.Box.Y.Hi, .bool r1.Box.Y.Unknown, .int .i64 r1.Box.Z.Lo, .int .i64 r1.Box.Z.Hi, .bool r1.Box.Z.Unknown, .int .i64 r1.Flux.Lo, .int .i64 r1.Flux.Hi, .bool r1.Flux.Unknown, .int .i64 r1.When.Lo, .int .i64 r1.When.Hi, .bool r1.When.Unknown, .slice A2 r1.Frames.length c3, .int .i64 r1.Marks] 65 (0, 0))] :: H) ∧ catalog_CheckRow.l0 k r1 n_ x41 = some o32 ∧ a_ = ⟨#[(ag_Row r1 A2 c3), .pointer (some ⟨b7, 0, none⟩), (j40 0), uV, (j40 1), (j40 2), uV, uV, uV, .pointer (some ⟨b7, 0, none⟩), iV r1.ID, .bool false, .bool false, .pointer (some ⟨b7, 0, none⟩), iV r1.ID, .bool false, .bool false, .pointer (some ⟨b7, 1, none⟩), .pointer (some ⟨b7, 1, none⟩), (ag_Bound r1.Box.X), .pointer (some ⟨b7, 1, none⟩), .pointer (some ⟨b7, 4, none⟩), (ag_Bound r1.Box.Y), .pointer (some ⟨b7, 1, none⟩), .pointer (some ⟨b7, 7, none⟩), (ag_Bound r1.Box.Z), .agg #[iV r1.Box.X.Lo, iV r1.Box.X.Hi, .bool r1.Box.X.Unknown, iV r1.Box.Y.Lo, iV r1.Box.Y.Hi, .bool r1.Box.Y.Unknown, iV r1.Box.Z.Lo, iV r1.Box.Z.Hi, .bool r1.Box.Z.Unknown], iV x41, (j40 3), (j40 4), (j40 5), (j40 6), (j40 7), (j40 8), (j40 9), (j40 10), uV, uV, uV, uV, uV, uV, uV, uV, uV, uV, uV, uV, uV, uV, uV, uV, uV, uV, uV, uV, uV, uV, uV, uV, uV, uV, uV, uV, uV, uV, uV, uV, uV, uV, uV, uV, uV, uV, uV, uV, uV, uV, uV, uV, uV, uV, uV, uV, uV, uV, uV, uV, uV, uV, uV, uV, uV, uV], []⟩) k ⟨f, 0, (fun i_ => [Value.int .i64 0, undef, undef, undef, undef, undef, undef, undef, undef, undef, undef].getD i_ undef), (FM.le.refl _), HS9, h, (by kernel_rfl)⟩ ?_
      clear h
      rintro n35 _ W38 ⟨f36, x41, j40, L37, HS39, h, rfl⟩ K33 hK34
      obtain _ | n35 := n35
      · exact nomatch h
      simp only [catalog_CheckRow.l0] at h
      refine wp_seq_k (fun K42 hK43 => ?_)
      refine wp_region_lit ?_
      refine seqS1 (a' := ⟨#[(ag_Row r1 A2 c3), .pointer (some ⟨b7, 0, none⟩), (j40 0), uV, (j40 1), (j40 2), uV, uV, uV, .pointer (some ⟨b7, 0, none⟩), iV r1.ID, .bool false, .bool false, .pointer (some ⟨b7, 0, none⟩), iV r1.ID, .bool false, .bool false, .pointer (some ⟨b7, 1, none⟩), .pointer (some ⟨b7, 1, none⟩), (ag_Bound r1.Box.X), .pointer (some ⟨b7, 1, none⟩), .pointer (some ⟨b7, 4, none⟩), (ag_Bound r1.Box.Y), .pointer (some ⟨b7, 1, none⟩), .pointer (some ⟨b7, 7, none⟩), (ag_Bound r1.Box.Z), .agg #[iV r1.Box.X.Lo, iV r1.Box.X.Hi, .bool r1.Box.X.Unknown, iV r1.Box.Y.Lo, iV r1.Box.Y.Hi, .bool r1.Box.Y.Unknown, iV r1.Box.Z.Lo, iV r1.Box.Z.Hi, .bool r1.Box.Z.Unknown], iV x41, .bool (decide (x41 < 3)), (j40 4), (j40 5), (j40 6), (j40 7), (j40 8), (j40 9), (j40 10), uV, uV, uV, uV, uV, uV, uV, uV, uV, uV, uV, uV, uV, uV, uV, uV, uV, uV, uV, uV, uV, uV, uV, uV, uV, uV, uV, uV, uV, uV, uV, uV, uV, uV, uV, uV, uV, uV, uV, uV, uV, uV, uV, uV, uV, uV, uV, uV, uV, uV, uV, uV, uV, uV, uV, uV, uV, uV], []⟩) (by kernel_rfl) ?_
      refine wpList_nil ?_
      refine hK43 _ _ ?_
      refine wp_seq_k (fun K44 hK45 => ?_)
      have hq_ := ite_some h; clear h; rcases hq_ with ⟨c47, h⟩ | ⟨c47, h⟩
      · have c47 : x41 < 3 := c47
        refine wpRwI 28 (x := (decide (x41 < 3))) (v := true) (by kernel_rfl) (decide_eq_true c47) ?_
        refine condT (by kernel_rfl) ?_
        refine wp_skip ?_
        refine hK45 _ _ ?_
        refine wp_seq_k (fun K48 hK49 => ?_)
        refine blockK (fun B50 hx51 hn52 hr53 ho54 hp55 => ?_)
        refine wp_seq_k (fun K57 hK58 => ?_)
        refine wp_region_lit ?_
        have hq_ := guard_some h; clear h; obtain ⟨c59, h⟩ := hq_
        have c59 : 0 ≤ x41 := c59
        refine seqK rfl (does_run (run_arr_agg (e := ty_Bound) (f := fun _ => none) (xs := [r1.Box.X, r1.Box.Y, r1.Box.Z]) (fun x_ => [Value.int .i64 x_.Lo, Value.int .i64 x_.Hi, Value.bool x_.Unknown]) (fun _ _ h_ => h_) rfl Try.underlying113 (by kernel_rfl) Try.underlying55 rfl (by kernel_rfl : _ = Value.agg #[.int .i64 r1.Box.X.Lo, .int .i64 r1.Box.X.Hi, .bool r1.Box.X.Unknown, .int .i64 r1.Box.Y.Lo, .int .i64 r1.Box.Y.Hi, .bool r1.Box.Y.Unknown, .int .i64 r1.Box.Z.Lo, .int .i64 r1.Box.Z.Hi, .bool r1.Box.Z.Unknown]) (by kernel_rfl : _ = Value.int .i64 x41) ⟨[Value.int .i64 r1.Box.X.Lo, Value.int .i64 r1.Box.X.Hi, Value.bool r1.Box.X.Unknown], _, rfl, rfl, ⟨[Value.int .i64 r1.Box.Y.Lo, Value.int .i64 r1.Box.Y.Hi, Value.bool r1.Box.Y.Unknown], _, rfl, rfl, ⟨[Value.int .i64 r1.Box.Z.Lo, Value.int .i64 r1.Box.Z.Hi, Value.bool r1.Box.Z.Unknown], _, rfl, rfl, rfl⟩⟩⟩ c59 c47 rfl W38) ?_)
        refine seqK rfl (does_alloc (z := Value.agg #[.int .i64 0, .int .i64 0, .bool false]) (cs := #[.int .i64 0, .int .i64 0, .bool false]) rfl (by kernel_rfl) rfl HS39 ?_)
        intro b60 W61 HS62
        refine seqK rfl (does_store (n := 3) (vs := [.int .i64 ((rd [r1.Box.X, r1.Box.Y, r1.Box.Z] x41).Lo), .int .i64 ((rd [r1.Box.X, r1.Box.Y, r1.Box.Z] x41).Hi), .bool ((rd [r1.Box.X, r1.Box.Y, r1.Box.Z] x41).Unknown)]) (cs' := #[.int .i64 ((rd [r1.Box.X, r1.Box.Y, r1.Box.Z] x41).Lo), .int .i64 ((rd [r1.Box.X, r1.Box.Y, r1.Box.Z] x41).Hi), .bool ((rd [r1.Box.X, r1.Box.Y, r1.Box.Z] x41).Unknown)]) rfl (by kernel_rfl) (by kernel_rfl : _ = Value.pointer (some ⟨b60, 0, none⟩)) (by kernel_rfl : _ = Value.agg #[.int .i64 ((rd [r1.Box.X, r1.Box.Y, r1.Box.Z] x41).Lo), .int .i64 ((rd [r1.Box.X, r1.Box.Y, r1.Box.Z] x41).Hi), .bool ((rd [r1.Box.X, r1.Box.Y, r1.Box.Z] x41).Unknown)]) rfl rfl (by intro u_ hu_; simp only [List.mem_cons, List.not_mem_nil, or_false] at hu_; rcases hu_ with rfl | rfl | rfl <;> rfl) HS62 (Nat.le_of_ble_eq_true rfl) (by kernel_rfl) ?_)
        intro W64 HS65
        refine wpList_nil ?_
        refine hK58 _ _ ?_
        refine wp_seq_k (fun K66 hK67 => ?_)
        refine wp_region_lit ?_
        refine seqK rfl (does_run (run_loadN (n := 3) rfl Try.underlying55 rfl (by kernel_rfl) (by kernel_rfl : _ = Value.pointer (some ⟨b60, 0, none⟩)) (cs := [.int .i64 ((rd [r1.Box.X, r1.Box.Y, r1.Box.Z] x41).Lo), .int .i64 ((rd [r1.Box.X, r1.Box.Y, r1.Box.Z] x41).Hi), .bool ((rd [r1.Box.X, r1.Box.Y, r1.Box.Z] x41).Unknown)]) rfl (HS65.cells 0 3 _ rfl)) ?_)
        have hq_ := bind_some h; clear h; obtain ⟨vt68, hc69, h⟩ := hq_
        refine seqK rfl (does_call (f := 54) (args := #[.agg #[.int .i64 ((rd [r1.Box.X, r1.Box.Y, r1.Box.Z] x41).Lo), .int .i64 ((rd [r1.Box.X, r1.Box.Y, r1.Box.Z] x41).Hi), .bool ((rd [r1.Box.X, r1.Box.Y, r1.Box.Z] x41).Unknown)], .int .i64 1073741824]) (by kernel_rfl) (catalog_ends_Coord.calls k (rd [r1.Box.X, r1.Box.Y, r1.Box.Z] x41) 1073741824 HS65 vt68 hc69) ?_)
        rintro _ W72 ⟨f70, rfl, L71, HS73⟩
        refine ⟨_, rfl, ?_⟩
        refine seqS1 (a' := ⟨#[(ag_Row r1 A2 c3), .pointer (some ⟨b7, 0, none⟩), (j40 0), uV, .pointer (some ⟨b60, 0, none⟩), iV vt68, uV, uV, uV, .pointer (some ⟨b7, 0, none⟩), iV r1.ID, .bool false, .bool false, .pointer (some ⟨b7, 0, none⟩), iV r1.ID, .bool false, .bool false, .pointer (some ⟨b7, 1, none⟩), .pointer (some ⟨b7, 1, none⟩), (ag_Bound r1.Box.X), .pointer (some ⟨b7, 1, none⟩), .pointer (some ⟨b7, 4, none⟩), (ag_Bound r1.Box.Y), .pointer (some ⟨b7, 1, none⟩), .pointer (some ⟨b7, 7, none⟩), (ag_Bound r1.Box.Z), .agg #[iV r1.Box.X.Lo, iV r1.Box.X.Hi, .bool r1.Box.X.Unknown, iV r1.Box.Y.Lo, iV r1.Box.Y.Hi, .bool r1.Box.Y.Unknown, iV r1.Box.Z.Lo, iV r1.Box.Z.Hi, .bool r1.Box.Z.Unknown], iV x41, .bool true, (ag_Bound (rd [r1.Box.X, r1.Box.Y, r1.Box.Z] x41)), (ag_Bound (rd [r1.Box.X, r1.Box.Y, r1.Box.Z] x41)), iV vt68, (j40 7), (j40 8), (j40 9), (j40 10), uV, uV, uV, uV, uV, uV, uV, uV, uV, uV, uV, uV, uV, uV, uV, uV, uV, uV, uV, uV, uV, uV, uV, uV, uV, uV, uV, uV, uV, uV, uV, uV, uV, uV, uV, uV, uV, uV, uV, uV, uV, uV, uV, uV, uV, uV, uV, uV, uV, uV, uV, uV, uV, uV, uV, uV, uV, uV], []⟩) (by kernel_rfl) ?_
        refine wpList_nil ?_
        refine hK67 _ _ ?_
        refine wp_seq_k (fun K74 hK75 => ?_)
        refine wp_region_lit ?_
        refine seqS2 (a' := ⟨#[(ag_Row r1 A2 c3), .pointer (some ⟨b7, 0, none⟩), (j40 0), uV, .pointer (some ⟨b60, 0, none⟩), iV vt68, uV, uV, uV, .pointer (some ⟨b7, 0, none⟩), iV r1.ID, .bool false, .bool false, .pointer (some ⟨b7, 0, none⟩), iV r1.ID, .bool false, .bool false, .pointer (some ⟨b7, 1, none⟩), .pointer (some ⟨b7, 1, none⟩), (ag_Bound r1.Box.X), .pointer (some ⟨b7, 1, none⟩), .pointer (some ⟨b7, 4, none⟩), (ag_Bound r1.Box.Y), .pointer (some ⟨b7, 1, none⟩), .pointer (some ⟨b7, 7, none⟩), (ag_Bound r1.Box.Z), .agg #[iV r1.Box.X.Lo, iV r1.Box.X.Hi, .bool r1.Box.X.Unknown, iV r1.Box.Y.Lo, iV r1.Box.Y.Hi, .bool r1.Box.Y.Unknown, iV r1.Box.Z.Lo, iV r1.Box.Z.Hi, .bool r1.Box.Z.Unknown], iV x41, .bool true, (ag_Bound (rd [r1.Box.X, r1.Box.Y, r1.Box.Z] x41)), (ag_Bound (rd [r1.Box.X, r1.Box.Y, r1.Box.Z] x41)), iV vt68, iV vt68, .bool (vt68 != 0), (j40 9), (j40 10), uV, uV, uV, uV, uV, uV, uV, uV, uV, uV, uV, uV, uV, uV, uV, uV, uV, uV, uV, uV, uV, uV, uV, uV, uV, uV, uV, uV, uV, uV, uV, uV, uV, uV, uV, uV, uV, uV, uV, uV, uV, uV, uV, uV, uV, uV, uV, uV, uV, uV, uV, uV, uV, uV, uV, uV, uV, uV], []⟩) (by kernel_rfl) ?_
        refine wpList_nil ?_
        refine hK75 _ _ ?_
        have hq_ := ite_some h; clear h; rcases hq_ with ⟨c77, h⟩ | ⟨c77, h⟩
        · have c77 : vt68 ≠ 0 := c77
          refine wpRwI 33 (x := (vt68 != 0)) (v := true) (by kernel_rfl) (bne_iff_ne.mpr c77) ?_
          refine condT (by kernel_rfl) ?_
          refine wp_seq_k (fun K78 hK79 => ?_)
          refine wp_region_lit ?_
          refine seqS2 (a' := ⟨#[(ag_Row r1 A2 c3), .pointer (some ⟨b7, 0, none⟩), iV vt68, uV, .pointer (some ⟨b60, 0, none⟩), iV vt68, uV, uV, uV, .pointer (some ⟨b7, 0, none⟩), iV r1.ID, .bool false, .bool false, .pointer (some ⟨b7, 0, none⟩), iV r1.ID, .bool false, .bool false, .pointer (some ⟨b7, 1, none⟩), .pointer (some ⟨b7, 1, none⟩), (ag_Bound r1.Box.X), .pointer (some ⟨b7, 1, none⟩), .pointer (some ⟨b7, 4, none⟩), (ag_Bound r1.Box.Y), .pointer (some ⟨b7, 1, none⟩), .pointer (some ⟨b7, 7, none⟩), (ag_Bound r1.Box.Z), .agg #[iV r1.Box.X.Lo, iV r1.Box.X.Hi, .bool r1.Box.X.Unknown, iV r1.Box.Y.Lo, iV r1.Box.Y.Hi, .bool r1.Box.Y.Unknown, iV r1.Box.Z.Lo, iV r1.Box.Z.Hi, .bool r1.Box.Z.Unknown], iV x41, .bool true, (ag_Bound (rd [r1.Box.X, r1.Box.Y, r1.Box.Z] x41)), (ag_Bound (rd [r1.Box.X, r1.Box.Y, r1.Box.Z] x41)), iV vt68, iV vt68, .bool true, iV vt68, (j40 10), uV, uV, uV, uV, uV, uV, uV, uV, uV, uV, uV, uV, uV, uV, uV, uV, uV, uV, uV, uV, uV, uV, uV, uV, uV, uV, uV, uV, uV, uV, uV, uV, uV, uV, uV, uV, uV, uV, uV, uV, uV, uV, uV, uV, uV, uV, uV, uV, uV, uV, uV, uV, uV, uV, uV, uV, uV, uV], []⟩) (by kernel_rfl) ?_
          refine wpList_nil ?_
          refine hK79 _ _ ?_
          refine wp_ret ?_
          refine hr53 _ _ ?_
          refine hr29 _ _ ?_
          refine hret _ _ ?_
          refine ends_still (v := Value.int .i64 vt68) (by kernel_rfl) (by kernel_rfl) ?_
          have HS256 := HS73.drop
          have HS257 := HS256.drop
          replace h := JR87 _ h
          injection h with h
          subst h
          exact ⟨f70, rfl, (L37.trans L71), HS257⟩
        · have c77 : ¬ (vt68 ≠ 0) := c77
          refine wpRwI 33 (x := (vt68 != 0)) (v := false) (by kernel_rfl) (bne_eq_false_iff_eq.mpr (Decidable.of_not_not c77)) ?_
          refine condF (by kernel_rfl) ?_
          refine wp_skip ?_
          refine hn52 _ _ ?_
          refine hK49 _ _ ?_
          refine wp_region_lit ?_
          refine seqS2 (a' := ⟨#[(ag_Row r1 A2 c3), .pointer (some ⟨b7, 0, none⟩), (j40 0), uV, .pointer (some ⟨b60, 0, none⟩), iV vt68, uV, uV, uV, .pointer (some ⟨b7, 0, none⟩), iV r1.ID, .bool false, .bool false, .pointer (some ⟨b7, 0, none⟩), iV r1.ID, .bool false, .bool false, .pointer (some ⟨b7, 1, none⟩), .pointer (some ⟨b7, 1, none⟩), (ag_Bound r1.Box.X), .pointer (some ⟨b7, 1, none⟩), .pointer (some ⟨b7, 4, none⟩), (ag_Bound r1.Box.Y), .pointer (some ⟨b7, 1, none⟩), .pointer (some ⟨b7, 7, none⟩), (ag_Bound r1.Box.Z), .agg #[iV r1.Box.X.Lo, iV r1.Box.X.Hi, .bool r1.Box.X.Unknown, iV r1.Box.Y.Lo, iV r1.Box.Y.Hi, .bool r1.Box.Y.Unknown, iV r1.Box.Z.Lo, iV r1.Box.Z.Hi, .bool r1.Box.Z.Unknown], iV (w64 (x41 + 1)), .bool true, (ag_Bound (rd [r1.Box.X, r1.Box.Y, r1.Box.Z] x41)), (ag_Bound (rd [r1.Box.X, r1.Box.Y, r1.Box.Z] x41)), iV vt68, iV vt68, .bool false, (j40 9), iV (w64 (x41 + 1)), uV, uV, uV, uV, uV, uV, uV, uV, uV, uV, uV, uV, uV, uV, uV, uV, uV, uV, uV, uV, uV, uV, uV, uV, uV, uV, uV, uV, uV, uV, uV, uV, uV, uV, uV, uV, uV, uV, uV, uV, uV, uV, uV, uV, uV, uV, uV, uV, uV, uV, uV, uV, uV, uV, uV, uV, uV, uV], []⟩) (by kernel_rfl) ?_
          refine wpList_nil ?_
          refine hK34 n35 _ _ (Nat.lt_succ_self _) ?_
          have HS89 := HS73.u1
          have HS90 := HS89.u1
          have HS91 := HS90.drop
          exact ⟨f70, (w64 (x41 + 1)), (fun i_ => [(j40 0), Value.pointer (some ⟨b60, 0, none⟩), Value.int .i64 vt68, Value.bool true, (ag_Bound (rd [r1.Box.X, r1.Box.Y, r1.Box.Z] x41)), (ag_Bound (rd [r1.Box.X, r1.Box.Y, r1.Box.Z] x41)), Value.int .i64 vt68, Value.int .i64 vt68, Value.bool false, (j40 9), Value.int .i64 (w64 (x41 + 1))].getD i_ undef), (L37.trans L71), HS91, h, (by kernel_rfl)⟩
      · have c47 : ¬ (x41 < 3) := c47
        refine wpRwI 28 (x := (decide (x41 < 3))) (v := false) (by kernel_rfl) (decide_eq_false c47) ?_
        refine condF (by kernel_rfl) ?_
        refine wp_exit ?_
        refine hx27 _ _ ?_
        exact J86 f36 (fun i_ => [(j40 0), (j40 1), (j40 2), Value.int .i64 x41, Value.bool false, (j40 4), (j40 5), (j40 6), (j40 7), (j40 8), (j40 9), (j40 10)].getD i_ undef) W38 _ L37 h HS39 (by kernel_rfl)

set_option maxRecDepth 100000 in
set_option maxHeartbeats 4000000 in
theorem catalog_Check.calls (k : Nat) (A2 : Option Addr) (c3 : Nat) (l1 : List S_Row) {t w : World} {f : FM} {H : List Seg} (HS : St t w f (H)) (HR4 : SlR ty_Row f A2 c3 l1) (rr1 : Int) (h : catalog_Check k l1 = some rr1) :
    Calls Try.prog 26 #[.slice A2 l1.length c3] w (fun e w' => ∃ (g : FM), e = .returned (Value.int .i64 rr1) ∧ FM.le f g ∧ St t w' g (H)) := by
  unfold catalog_Check at h
  refine enter Try.func26 rfl (tm := #[.slice A2 l1.length c3, uV, uV, uV, uV, uV, uV, uV, uV, uV, uV, uV, uV, uV, uV, uV, uV, uV, uV, uV, uV, uV, uV, uV, uV, uV, uV, uV, uV, uV, uV, uV, uV, uV, uV]) (by kernel_rfl) ?_
  intro B hret hnor hnp
  refine wp_seq_k (fun K5 hK6 => ?_)
  refine wp_region_lit ?_
  refine seqS1 (a' := ⟨#[.slice A2 l1.length c3, uV, iV 0, uV, uV, uV, uV, uV, uV, uV, uV, uV, uV, uV, uV, uV, uV, uV, uV, uV, uV, uV, uV, uV, uV, uV, uV, uV, uV, uV, uV, uV, uV, uV, uV], []⟩) (by kernel_rfl) ?_
  refine wpList_nil ?_
  refine hK6 _ _ ?_
  refine wp_seq_k (fun K7 hK8 => ?_)
  refine wp_seq_k (fun K9 hK10 => ?_)
  refine wp_region_lit ?_
  refine seqS3 (a' := ⟨#[.slice A2 l1.length c3, uV, iV 0, uV, uV, uV, .slice A2 l1.length c3, iV (l1.length : Int), .bool (decide ((l1.length : Int) > 200)), uV, uV, uV, uV, uV, uV, uV, uV, uV, uV, uV, uV, uV, uV, uV, uV, uV, uV, uV, uV, uV, uV, uV, uV, uV, uV], []⟩) (by kernel_rfl) ?_
  refine wpList_nil ?_
  refine hK10 _ _ ?_
  have hq_ := ite_some h; clear h; rcases hq_ with ⟨c12, h⟩ | ⟨c12, h⟩
  · have c12 : (l1.length : Int) > 200 := c12
    refine wpRwI 8 (x := (decide ((l1.length : Int) > 200))) (v := true) (by kernel_rfl) (decide_eq_true c12) ?_
    refine condT (by kernel_rfl) ?_
    refine wp_seq_k (fun K13 hK14 => ?_)
    refine wp_region_lit ?_
    refine seqS1 (a' := ⟨#[.slice A2 l1.length c3, uV, iV 2, uV, uV, uV, .slice A2 l1.length c3, iV (l1.length : Int), .bool true, uV, uV, uV, uV, uV, uV, uV, uV, uV, uV, uV, uV, uV, uV, uV, uV, uV, uV, uV, uV, uV, uV, uV, uV, uV, uV], []⟩) (by kernel_rfl) ?_
    refine wpList_nil ?_
    refine hK14 _ _ ?_
    refine wp_ret ?_
    refine hret _ _ ?_
    refine ends_still (v := Value.int .i64 2) (by kernel_rfl) (by kernel_rfl) ?_
    injection h with h
    subst h
    exact ⟨f, rfl, FM.le.refl _, HS⟩
  · have c12 : ¬ ((l1.length : Int) > 200) := c12
    refine wpRwI 8 (x := (decide ((l1.length : Int) > 200))) (v := false) (by kernel_rfl) (decide_eq_false c12) ?_
    refine condF (by kernel_rfl) ?_
    refine wp_skip ?_
    refine hK8 _ _ ?_
    refine wp_seq_k (fun K15 hK16 => ?_)
    refine wp_seq_k (fun K17 hK18 => ?_)
    refine wp_region_lit ?_
    refine seqS3 (a' := ⟨#[.slice A2 l1.length c3, uV, iV 0, uV, uV, uV, .slice A2 l1.length c3, iV (l1.length : Int), .bool false, .slice A2 l1.length c3, iV (l1.length : Int), iV 0, uV, uV, uV, uV, uV, uV, uV, uV, uV, uV, uV, uV, uV, uV, uV, uV, uV, uV, uV, uV, uV, uV, uV], []⟩) (by kernel_rfl) ?_
    refine wpList_nil ?_
    refine hK18 _ _ ?_
    refine blockK (fun B19 hx20 hn21 hr22 ho23 hp24 => ?_)
    have hq_ := bind_some h; clear h; obtain ⟨o25, hv105, h⟩ := hq_
    have JR107 : ∀ z_, some (Sum.inl z_) = some o25 → some z_ = some rr1 := by
      intro z_ e_; injection e_ with e_; subst e_; exact h
    have J106 : ∀ (f100 : FM) (j104 : Nat → Value) (W102 : World) (a_ : Act), FM.le f f100 → some (Sum.inr ()) = some o25 → St t W102 f100 (H) → a_ = ⟨#[.slice A2 l1.length c3, uV, (j104 0), (j104 1), (j104 2), (j104 3), .slice A2 l1.length c3, iV (l1.length : Int), .bool false, .slice A2 l1.length c3, iV (l1.length : Int), (j104 4), (j104 5), (j104 6), (j104 7), (j104 8), (j104 9), (j104 10), (j104 11), (j104 12), (j104 13), (j104 14), (j104 15), (j104 16), (j104 17), (j104 18), (j104 19), (j104 20), (j104 21), (j104 22), (j104 23), (j104 24), (j104 25), (j104 26), (j104 27)], []⟩ → K15 a_ W102 := by
      intro f100 j104 W102 a_ L101 hj108 HS103  hfr_; subst hfr_
      injection hj108 with hj108; subst hj108; try dsimp only at h
      simp only [Sum.elim_inr] at h
      refine hK16 _ _ ?_
      refine wp_seq_k (fun K111 hK112 => ?_)
      refine wp_region_lit ?_
      refine seqS1 (a' := ⟨#[.slice A2 l1.length c3, uV, iV 0, (j104 1), (j104 2), (j104 3), .slice A2 l1.length c3, iV (l1.length : Int), .bool false, .slice A2 l1.length c3, iV (l1.length : Int), (j104 4), (j104 5), (j104 6), (j104 7), (j104 8), (j104 9), (j104 10), (j104 11), (j104 12), (j104 13), (j104 14), (j104 15), (j104 16), (j104 17), (j104 18), (j104 19), (j104 20), (j104 21), (j104 22), (j104 23), (j104 24), (j104 25), (j104 26), (j104 27)], []⟩) (by kernel_rfl) ?_
      refine wpList_nil ?_
      refine hK112 _ _ ?_
      refine wp_ret ?_
      refine hret _ _ ?_
      refine ends_still (v := Value.int .i64 0) (by kernel_rfl) (by kernel_rfl) ?_
      injection h with h
      subst h
      exact ⟨f100, rfl, L101, HS103⟩
    clear h; have h := hv105; clear hv105
    refine loopK (fun n_ a_ w_ => ∃ (f29 : FM) (x34 : Int) (j33 : Nat → Value), FM.le f f29 ∧ St t w_ f29 (H) ∧ catalog_Check.l0 k l1 n_ x34 = some o25 ∧ a_ = ⟨#[.slice A2 l1.length c3, uV, (j33 0), (j33 1), (j33 2), (j33 3), .slice A2 l1.length c3, iV (l1.length : Int), .bool false, .slice A2 l1.length c3, iV (l1.length : Int), iV x34, (j33 4), (j33 5), (j33 6), (j33 7), (j33 8), (j33 9), (j33 10), (j33 11), (j33 12), (j33 13), (j33 14), (j33 15), (j33 16), (j33 17), (j33 18), (j33 19), (j33 20), (j33 21), (j33 22), (j33 23), (j33 24), (j33 25), (j33 26)], []⟩) k ⟨f, 0, (fun i_ => [Value.int .i64 0, undef, undef, undef, undef, undef, undef, undef, undef, undef, undef, undef, undef, undef, undef, undef, undef, undef, undef, undef, undef, undef, undef, undef, undef, undef, undef].getD i_ undef), (FM.le.refl _), HS, h, (by kernel_rfl)⟩ ?_
    clear h
    rintro n28 _ W31 ⟨f29, x34, j33, L30, HS32, h, rfl⟩ K26 hK27
    obtain _ | n28 := n28
    · exact nomatch h
    simp only [catalog_Check.l0] at h
    refine wp_seq_k (fun K35 hK36 => ?_)
    refine wp_region_lit ?_
    refine seqS1 (a' := ⟨#[.slice A2 l1.length c3, uV, (j33 0), (j33 1), (j33 2), (j33 3), .slice A2 l1.length c3, iV (l1.length : Int), .bool false, .slice A2 l1.length c3, iV (l1.length : Int), iV x34, .bool (decide (x34 < (l1.length : Int))), (j33 5), (j33 6), (j33 7), (j33 8), (j33 9), (j33 10), (j33 11), (j33 12), (j33 13), (j33 14), (j33 15), (j33 16), (j33 17), (j33 18), (j33 19), (j33 20), (j33 21), (j33 22), (j33 23), (j33 24), (j33 25), (j33 26)], []⟩) (by kernel_rfl) ?_
    refine wpList_nil ?_
    refine hK36 _ _ ?_
    refine wp_seq_k (fun K37 hK38 => ?_)
    have hq_ := ite_some h; clear h; rcases hq_ with ⟨c40, h⟩ | ⟨c40, h⟩
    · have c40 : x34 < (l1.length : Int) := c40
      refine wpRwI 12 (x := (decide (x34 < (l1.length : Int)))) (v := true) (by kernel_rfl) (decide_eq_true c40) ?_
      refine condT (by kernel_rfl) ?_
      refine wp_skip ?_
      refine hK38 _ _ ?_
      refine wp_seq_k (fun K41 hK42 => ?_)
      refine blockK (fun B43 hx44 hn45 hr46 ho47 hp48 => ?_)
      refine wp_seq_k (fun K50 hK51 => ?_)
      refine wp_region_lit ?_
      have hq_ := guard_some h; clear h; obtain ⟨c52, h⟩ := hq_
      have c52 : 0 ≤ x34 := c52
      obtain ⟨b56, of57, cs53, hA58, hr54, hc55⟩ := (HR4.mono L30).at (i := x34) c52 c40
      obtain ⟨A59, c59, rfl, HR59⟩ := hr54
      refine seqL1 (by kernel_rfl) ?_
      refine seqK rfl (does_run (run_indexE hA58 (sz := 18) rfl Try.underlying26 (by kernel_rfl) (by kernel_rfl : _ = Value.slice A2 l1.length c3) (by kernel_rfl : _ = Value.int .i64 x34) c52 c40 W31) ?_)
      refine seqK rfl (does_run (run_loadN (n := 18) rfl Try.underlying65 rfl (by kernel_rfl) (by kernel_rfl : _ = Value.pointer (some ⟨b56, of57 + (x34 : Int).toNat * 18, none⟩)) (cs := [.int .i64 ((rd l1 x34).ID), .int .i64 ((((rd l1 x34).Box).X).Lo), .int .i64 ((((rd l1 x34).Box).X).Hi), .bool ((((rd l1 x34).Box).X).Unknown), .int .i64 ((((rd l1 x34).Box).Y).Lo), .int .i64 ((((rd l1 x34).Box).Y).Hi), .bool ((((rd l1 x34).Box).Y).Unknown), .int .i64 ((((rd l1 x34).Box).Z).Lo), .int .i64 ((((rd l1 x34).Box).Z).Hi), .bool ((((rd l1 x34).Box).Z).Unknown), .int .i64 (((rd l1 x34).Flux).Lo), .int .i64 (((rd l1 x34).Flux).Hi), .bool (((rd l1 x34).Flux).Unknown), .int .i64 (((rd l1 x34).When).Lo), .int .i64 (((rd l1 x34).When).Hi), .bool (((rd l1 x34).When).Unknown), .slice A59 ((rd l1 x34).Frames).length c59, .int .i64 ((rd l1 x34).Marks)]) rfl (fun j_ hj_ => ((hc55 (FM.le.refl _) HS32) j_ hj_))) ?_)
      refine seqK rfl (does_alloc (z := Value.agg #[.int .i64 0, .int .i64 0, .int .i64 0, .bool false, .int .i64 0, .int .i64 0, .bool false, .int .i64 0, .int .i64 0, .bool false, .int .i64 0, .int .i64 0, .bool false, .int .i64 0, .int .i64 0, .bool false, .slice none 0 0, .int .i64 0]) (cs := #[.int .i64 0, .int .i64 0, .int .i64 0, .bool false, .int .i64 0, .int .i64 0, .bool false, .int .i64 0, .int .i64 0, .bool false, .int .i64 0, .int .i64 0, .bool false, .int .i64 0, .int .i64 0, .bool false, .slice none 0 0, .int .i64 0]) rfl (by kernel_rfl) rfl HS32 ?_)
      intro b60 W61 HS62
      refine seqL1 (by kernel_rfl) ?_
      refine seqK rfl (does_store (n := 18) (vs := [.int .i64 ((rd l1 x34).ID), .int .i64 ((((rd l1 x34).Box).X).Lo), .int .i64 ((((rd l1 x34).Box).X).Hi), .bool ((((rd l1 x34).Box).X).Unknown), .int .i64 ((((rd l1 x34).Box).Y).Lo), .int .i64 ((((rd l1 x34).Box).Y).Hi), .bool ((((rd l1 x34).Box).Y).Unknown), .int .i64 ((((rd l1 x34).Box).Z).Lo), .int .i64 ((((rd l1 x34).Box).Z).Hi), .bool ((((rd l1 x34).Box).Z).Unknown), .int .i64 (((rd l1 x34).Flux).Lo), .int .i64 (((rd l1 x34).Flux).Hi), .bool (((rd l1 x34).Flux).Unknown), .int .i64 (((rd l1 x34).When).Lo), .int .i64 (((rd l1 x34).When).Hi), .bool (((rd l1 x34).When).Unknown), .slice A59 ((rd l1 x34).Frames).length c59, .int .i64 ((rd l1 x34).Marks)]) (cs' := #[.int .i64 ((rd l1 x34).ID), .int .i64 ((((rd l1 x34).Box).X).Lo), .int .i64 ((((rd l1 x34).Box).X).Hi), .bool ((((rd l1 x34).Box).X).Unknown), .int .i64 ((((rd l1 x34).Box).Y).Lo), .int .i64 ((((rd l1 x34).Box).Y).Hi), .bool ((((rd l1 x34).Box).Y).Unknown), .int .i64 ((((rd l1 x34).Box).Z).Lo), .int .i64 ((((rd l1 x34).Box).Z).Hi), .bool ((((rd l1 x34).Box).Z).Unknown), .int .i64 (((rd l1 x34).Flux).Lo), .int .i64 (((rd l1 x34).Flux).Hi), .bool (((rd l1 x34).Flux).Unknown), .int .i64 (((rd l1 x34).When).Lo), .int .i64 (((rd l1 x34).When).Hi), .bool (((rd l1 x34).When).Unknown), .slice A59 ((rd l1 x34).Frames).length c59, .int .i64 ((rd l1 x34).Marks)]) rfl (by kernel_rfl) (by kernel_rfl : _ = Value.pointer (some ⟨b60, 0, none⟩)) (by kernel_rfl : _ = Value.agg #[.int .i64 ((rd l1 x34).ID), .int .i64 ((((rd l1 x34).Box).X).Lo), .int .i64 ((((rd l1 x34).Box).X).Hi), .bool ((((rd l1 x34).Box).X).Unknown), .int .i64 ((((rd l1 x34).Box).Y).Lo), .int .i64 ((((rd l1 x34).Box).Y).Hi), .bool ((((rd l1 x34).Box).Y).Unknown), .int .i64 ((((rd l1 x34).Box).Z).Lo), .int .i64 ((((rd l1 x34).Box).Z).Hi), .bool ((((rd l1 x34).Box).Z).Unknown), .int .i64 (((rd l1 x34).Flux).Lo), .int .i64 (((rd l1 x34).Flux).Hi), .bool (((rd l1 x34).Flux).Unknown), .int .i64 (((rd l1 x34).When).Lo), .int .i64 (((rd l1 x34).When).Hi), .bool (((rd l1 x34).When).Unknown), .slice A59 ((rd l1 x34).Frames).length c59, .int .i64 ((rd l1 x34).Marks)]) rfl rfl (by intro u_ hu_; simp only [List.mem_cons, List.not_mem_nil, or_false] at hu_; rcases hu_ with rfl | rfl | rfl | rfl | rfl | rfl | rfl | rfl | rfl | rfl | rfl | rfl | rfl | rfl | rfl | rfl | rfl | rfl <;> rfl) HS62 (Nat.le_of_ble_eq_true rfl) (by kernel_rfl) ?_)
      intro W64 HS65
      refine wpList_nil ?_
      refine hK51 _ _ ?_
      refine wp_seq_k (fun K66 hK67 => ?_)
      refine wp_seq_k (fun K68 hK69 => ?_)
      refine wp_region_lit ?_
      refine seqK rfl (does_run (run_loadN (n := 18) rfl Try.underlying65 rfl (by kernel_rfl) (by kernel_rfl : _ = Value.pointer (some ⟨b60, 0, none⟩)) (cs := [.int .i64 ((rd l1 x34).ID), .int .i64 ((((rd l1 x34).Box).X).Lo), .int .i64 ((((rd l1 x34).Box).X).Hi), .bool ((((rd l1 x34).Box).X).Unknown), .int .i64 ((((rd l1 x34).Box).Y).Lo), .int .i64 ((((rd l1 x34).Box).Y).Hi), .bool ((((rd l1 x34).Box).Y).Unknown), .int .i64 ((((rd l1 x34).Box).Z).Lo), .int .i64 ((((rd l1 x34).Box).Z).Hi), .bool ((((rd l1 x34).Box).Z).Unknown), .int .i64 (((rd l1 x34).Flux).Lo), .int .i64 (((rd l1 x34).Flux).Hi), .bool (((rd l1 x34).Flux).Unknown), .int .i64 (((rd l1 x34).When).Lo), .int .i64 (((rd l1 x34).When).Hi), .bool (((rd l1 x34).When).Unknown), .slice A59 ((rd l1 x34).Frames).length c59, .int .i64 ((rd l1 x34).Marks)]) rfl (HS65.cells 0 18 _ rfl)) ?_)
      have hq_ := bind_some h; clear h; obtain ⟨vt70, hc71, h⟩ := hq_
      refine seqK rfl (does_call (f := 44) (args := #[.agg #[.int .i64 ((rd l1 x34).ID), .int .i64 ((((rd l1 x34).Box).X).Lo), .int .i64 ((((rd l1 x34).Box).X).Hi), .bool ((((rd l1 x34).Box).X).Unknown), .int .i64 ((((rd l1 x34).Box).Y).Lo), .int .i64 ((((rd l1 x34).Box).Y).Hi), .bool ((((rd l1 x34).Box).Y).Unknown), .int .i64 ((((rd l1 x34).Box).Z).Lo), .int .i64 ((((rd l1 x34).Box).Z).Hi), .bool ((((rd l1 x34).Box).Z).Unknown), .int .i64 (((rd l1 x34).Flux).Lo), .int .i64 (((rd l1 x34).Flux).Hi), .bool (((rd l1 x34).Flux).Unknown), .int .i64 (((rd l1 x34).When).Lo), .int .i64 (((rd l1 x34).When).Hi), .bool (((rd l1 x34).When).Unknown), .slice A59 ((rd l1 x34).Frames).length c59, .int .i64 ((rd l1 x34).Marks)]]) (by kernel_rfl) (catalog_CheckRow.calls k A59 c59 (rd l1 x34) HS65 HR59 vt70 hc71) ?_)
      rintro _ W74 ⟨f72, rfl, L73, HS75⟩
      refine ⟨_, rfl, ?_⟩
      refine seqS1 (a' := ⟨#[.slice A2 l1.length c3, uV, (j33 0), iV x34, .pointer (some ⟨b60, 0, none⟩), iV vt70, .slice A2 l1.length c3, iV (l1.length : Int), .bool false, .slice A2 l1.length c3, iV (l1.length : Int), iV x34, .bool true, iV x34, .pointer (some ⟨b56, of57 + (x34 : Int).toNat * 18, none⟩), (ag_Row (rd l1 x34) A59 c59), (ag_Row (rd l1 x34) A59 c59), iV vt70, (j33 10), (j33 11), (j33 12), (j33 13), (j33 14), (j33 15), (j33 16), (j33 17), (j33 18), (j33 19), (j33 20), (j33 21), (j33 22), (j33 23), (j33 24), (j33 25), (j33 26)], []⟩) (by kernel_rfl) ?_
      refine wpList_nil ?_
      refine hK69 _ _ ?_
      refine wp_seq_k (fun K76 hK77 => ?_)
      refine wp_region_lit ?_
      refine seqS2 (a' := ⟨#[.slice A2 l1.length c3, uV, (j33 0), iV x34, .pointer (some ⟨b60, 0, none⟩), iV vt70, .slice A2 l1.length c3, iV (l1.length : Int), .bool false, .slice A2 l1.length c3, iV (l1.length : Int), iV x34, .bool true, iV x34, .pointer (some ⟨b56, of57 + (x34 : Int).toNat * 18, none⟩), (ag_Row (rd l1 x34) A59 c59), (ag_Row (rd l1 x34) A59 c59), iV vt70, iV vt70, .bool (vt70 != 0), (j33 12), (j33 13), (j33 14), (j33 15), (j33 16), (j33 17), (j33 18), (j33 19), (j33 20), (j33 21), (j33 22), (j33 23), (j33 24), (j33 25), (j33 26)], []⟩) (by kernel_rfl) ?_
      refine wpList_nil ?_
      refine hK77 _ _ ?_
      have hq_ := ite_some h; clear h; rcases hq_ with ⟨c79, h⟩ | ⟨c79, h⟩
      · have c79 : vt70 ≠ 0 := c79
        refine wpRwI 19 (x := (vt70 != 0)) (v := true) (by kernel_rfl) (bne_iff_ne.mpr c79) ?_
        refine condT (by kernel_rfl) ?_
        refine wp_seq_k (fun K80 hK81 => ?_)
        refine wp_region_lit ?_
        refine seqS2 (a' := ⟨#[.slice A2 l1.length c3, uV, iV vt70, iV x34, .pointer (some ⟨b60, 0, none⟩), iV vt70, .slice A2 l1.length c3, iV (l1.length : Int), .bool false, .slice A2 l1.length c3, iV (l1.length : Int), iV x34, .bool true, iV x34, .pointer (some ⟨b56, of57 + (x34 : Int).toNat * 18, none⟩), (ag_Row (rd l1 x34) A59 c59), (ag_Row (rd l1 x34) A59 c59), iV vt70, iV vt70, .bool true, iV vt70, (j33 13), (j33 14), (j33 15), (j33 16), (j33 17), (j33 18), (j33 19), (j33 20), (j33 21), (j33 22), (j33 23), (j33 24), (j33 25), (j33 26)], []⟩) (by kernel_rfl) ?_
        refine wpList_nil ?_
        refine hK81 _ _ ?_
        refine wp_ret ?_
        refine hr46 _ _ ?_
        refine hr22 _ _ ?_
        refine hret _ _ ?_
        refine ends_still (v := Value.int .i64 vt70) (by kernel_rfl) (by kernel_rfl) ?_
        have HS113 := HS75.drop
        replace h := JR107 _ h
        injection h with h
        subst h
        exact ⟨f72, rfl, (L30.trans L73), HS113⟩
      · have c79 : ¬ (vt70 ≠ 0) := c79
        refine wpRwI 19 (x := (vt70 != 0)) (v := false) (by kernel_rfl) (bne_eq_false_iff_eq.mpr (Decidable.of_not_not c79)) ?_
        refine condF (by kernel_rfl) ?_
        refine wp_skip ?_
        refine hK67 _ _ ?_
        refine wp_seq_k (fun K82 hK83 => ?_)
        refine heldG (S := Sg t f72 ([(b60, .cells #[.int .i64 ((rd l1 x34).ID), .int .i64 ((((rd l1 x34).Box).X).Lo), .int .i64 ((((rd l1 x34).Box).X).Hi), .bool ((((rd l1 x34).Box).X).Unknown), .int .i64 ((((rd l1 x34).Box).Y).Lo), .int .i64 ((((rd l1 x34).Box).Y).Hi), .bool ((((rd l1 x34).Box).Y).Unknown), .int .i64 ((((rd l1 x34).Box).Z).Lo), .int .i64 ((((rd l1 x34).Box).Z).Hi), .bool ((((rd l1 x34).Box).Z).Unknown), .int .i64 (((rd l1 x34).Flux).Lo), .int .i64 (((rd l1 x34).Flux).Hi), .bool (((rd l1 x34).Flux).Unknown), .int .i64 (((rd l1 x34).When).Lo), .int .i64 (((rd l1 x34).When).Hi), .bool (((rd l1 x34).When).Unknown), .slice A59 ((rd l1 x34).Frames).length c59, .int .i64 ((rd l1 x34).Marks)] 65 (0, 0))] :: H) []) (n := 13) (by kernel_rfl) rfl HS75 ?_
        intro W84 HS85
        refine takeG [0, 1, 2] (n := 13) (fuel := 10) (l' := #[true, true, true, false, false, false, false, false, false, false, false, false, false]) (a' := ⟨#[.slice A2 l1.length c3, uV, (j33 0), iV x34, .pointer (some ⟨b60, 0, none⟩), iV vt70, .slice A2 l1.length c3, iV (l1.length : Int), .bool false, .slice A2 l1.length c3, iV (l1.length : Int), iV x34, .bool true, iV x34, .pointer (some ⟨b56, of57 + (x34 : Int).toNat * 18, none⟩), (ag_Row (rd l1 x34) A59 c59), (ag_Row (rd l1 x34) A59 c59), iV vt70, iV vt70, .bool false, (j33 12), iV x34, .bool (decide (x34 > 0)), .bool (decide (x34 > 0)), (j33 16), (j33 17), (j33 18), (j33 19), (j33 20), (j33 21), (j33 22), (j33 23), (j33 24), (j33 25), (j33 26)], []⟩) rfl (by kernel_rfl) (by kernel_rfl) (by kernel_rfl) (fun ch_ a_ w_ q_ => (fun ch_ a_ w_ q_ => hnp ch_ a_ w_ (hp24 ch_ a_ w_ q_)) ch_ a_ w_ (hp48 ch_ a_ w_ q_)) (Sg.g0 (Sx.of [] (FM.le.refl _) HS85)) ?_
        have hq_ := ite_some h; clear h; rcases hq_ with ⟨c86, h⟩ | ⟨c86, h⟩
        · have c86 : x34 > 0 := c86
          refine gateRwI 22 (x := (decide (x34 > 0))) (v := true) (by kernel_rfl) (decide_eq_true c86) ?_
          refine gateRwI 23 (x := (decide (x34 > 0))) (v := true) (by kernel_rfl) (decide_eq_true c86) ?_
          refine takeG [3] (n := 10) (fuel := 9) (l' := #[true, true, true, true, false, false, false, false, false, false, false, false, false]) (a' := ⟨#[.slice A2 l1.length c3, uV, (j33 0), iV x34, .pointer (some ⟨b60, 0, none⟩), iV vt70, .slice A2 l1.length c3, iV (l1.length : Int), .bool false, .slice A2 l1.length c3, iV (l1.length : Int), iV x34, .bool true, iV x34, .pointer (some ⟨b56, of57 + (x34 : Int).toNat * 18, none⟩), (ag_Row (rd l1 x34) A59 c59), (ag_Row (rd l1 x34) A59 c59), iV vt70, iV vt70, .bool false, (j33 12), iV x34, .bool true, .bool true, .pointer (some ⟨b60, 0, none⟩), (j33 17), (j33 18), (j33 19), (j33 20), (j33 21), (j33 22), (j33 23), (j33 24), (j33 25), (j33 26)], []⟩) rfl (by kernel_rfl) (by kernel_rfl) (by kernel_rfl) (fun ch_ a_ w_ q_ => (fun ch_ a_ w_ q_ => hnp ch_ a_ w_ (hp24 ch_ a_ w_ q_)) ch_ a_ w_ (hp48 ch_ a_ w_ q_)) (Sg.g0 (Sx.of [] (FM.le.refl _) HS85)) ?_
          refine takeGQ 4 [] rfl (by kernel_rfl) (by kernel_rfl) (by kernel_rfl) (by kernel_rfl) (by kernel_rfl) (by kernel_rfl) (fun ch_ a_ w_ q_ => (fun ch_ a_ w_ q_ => hnp ch_ a_ w_ (hp24 ch_ a_ w_ q_)) ch_ a_ w_ (hp48 ch_ a_ w_ q_)) (Sg.g0 (Sx.of [] (FM.le.refl _) HS85)) (fun w_ hw_ => by obtain ⟨g_, hl_, hS_⟩ := hw_.st; exact run_load rfl Try.underlying3 rfl (by kernel_rfl : _ = Value.pointer (some ⟨b60, 0, none⟩)) (hS_.cell 0)) ?_
          have hq_ := guard_some h; clear h; obtain ⟨c87, h⟩ := hq_
          have c87 : 0 ≤ (w64 (x34 - 1)) := c87
          have hq_ := guard_some h; clear h; obtain ⟨c88, h⟩ := hq_
          have c88 : (w64 (x34 - 1)) < (l1.length : Int) := c88
          obtain ⟨b92, of93, cs89, hA94, hr90, hc91⟩ := (HR4.mono (L30.trans L73)).at (i := w64 (x34 - 1)) c87 c88
          obtain ⟨A95, c95, rfl, HR95⟩ := hr90
          refine takeG [5, 6, 7] (n := 8) (fuel := 5) (l' := #[true, true, true, true, true, true, true, true, false, false, false, false, false]) (a' := ⟨#[.slice A2 l1.length c3, uV, (j33 0), iV x34, .pointer (some ⟨b60, 0, none⟩), iV vt70, .slice A2 l1.length c3, iV (l1.length : Int), .bool false, .slice A2 l1.length c3, iV (l1.length : Int), iV x34, .bool true, iV x34, .pointer (some ⟨b56, of57 + (x34 : Int).toNat * 18, none⟩), (ag_Row (rd l1 x34) A59 c59), (ag_Row (rd l1 x34) A59 c59), iV vt70, iV vt70, .bool false, (j33 12), iV x34, .bool true, .bool true, .pointer (some ⟨b60, 0, none⟩), iV ((rd l1 x34).ID), .slice A2 l1.length c3, iV x34, iV (w64 (x34 - 1)), (j33 21), (j33 22), (j33 23), (j33 24), (j33 25), (j33 26)], []⟩) rfl (by kernel_rfl) (by kernel_rfl) (by kernel_rfl) (fun ch_ a_ w_ q_ => (fun ch_ a_ w_ q_ => hnp ch_ a_ w_ (hp24 ch_ a_ w_ q_)) ch_ a_ w_ (hp48 ch_ a_ w_ q_)) (Sg.g0 (Sx.of [] (FM.le.refl _) HS85)) ?_
          refine takeGQ 8 [] rfl (by kernel_rfl) (by kernel_rfl) (by kernel_rfl) (by kernel_rfl) (by kernel_rfl) (by kernel_rfl) (fun ch_ a_ w_ q_ => (fun ch_ a_ w_ q_ => hnp ch_ a_ w_ (hp24 ch_ a_ w_ q_)) ch_ a_ w_ (hp48 ch_ a_ w_ q_)) (Sg.g0 (Sx.of [] (FM.le.refl _) HS85)) (fun w_ hw_ => by obtain ⟨g_, hl_, hS_⟩ := hw_.st; exact run_indexE hA94 (sz := 18) rfl Try.underlying26 (by kernel_rfl) (by kernel_rfl : _ = Value.slice A2 l1.length c3) (by kernel_rfl : _ = Value.int .i64 (w64 (x34 - 1))) c87 c88 w_) ?_
          refine takeG [9] (n := 4) (fuel := 3) (l' := #[true, true, true, true, true, true, true, true, true, true, false, false, false]) (a' := ⟨#[.slice A2 l1.length c3, uV, (j33 0), iV x34, .pointer (some ⟨b60, 0, none⟩), iV vt70, .slice A2 l1.length c3, iV (l1.length : Int), .bool false, .slice A2 l1.length c3, iV (l1.length : Int), iV x34, .bool true, iV x34, .pointer (some ⟨b56, of57 + (x34 : Int).toNat * 18, none⟩), (ag_Row (rd l1 x34) A59 c59), (ag_Row (rd l1 x34) A59 c59), iV vt70, iV vt70, .bool false, (j33 12), iV x34, .bool true, .bool true, .pointer (some ⟨b60, 0, none⟩), iV ((rd l1 x34).ID), .slice A2 l1.length c3, iV x34, iV (w64 (x34 - 1)), .pointer (some ⟨b92, of93 + (w64 (x34 - 1) : Int).toNat * 18, none⟩), .pointer (some ⟨b92, of93 + (w64 (x34 - 1) : Int).toNat * 18, none⟩), (j33 23), (j33 24), (j33 25), (j33 26)], []⟩) rfl (by kernel_rfl) (by kernel_rfl) (by kernel_rfl) (fun ch_ a_ w_ q_ => (fun ch_ a_ w_ q_ => hnp ch_ a_ w_ (hp24 ch_ a_ w_ q_)) ch_ a_ w_ (hp48 ch_ a_ w_ q_)) (Sg.g0 (Sx.of [] (FM.le.refl _) HS85)) ?_
          refine takeGQ 10 [] rfl (by kernel_rfl) (by kernel_rfl) (by kernel_rfl) (by kernel_rfl) (by kernel_rfl) (by kernel_rfl) (fun ch_ a_ w_ q_ => (fun ch_ a_ w_ q_ => hnp ch_ a_ w_ (hp24 ch_ a_ w_ q_)) ch_ a_ w_ (hp48 ch_ a_ w_ q_)) (Sg.g0 (Sx.of [] (FM.le.refl _) HS85)) (fun w_ hw_ => by obtain ⟨g_, hl_, hS_⟩ := hw_.st; exact run_load rfl Try.underlying3 rfl (by kernel_rfl : _ = Value.pointer (some ⟨b92, of93 + (w64 (x34 - 1) : Int).toNat * 18, none⟩)) ((hc91 hl_ hS_) 0 (by decide))) ?_
          refine takeG [11, 12] (n := 2) (fuel := 0) (l' := #[true, true, true, true, true, true, true, true, true, true, true, true, true]) (a' := ⟨#[.slice A2 l1.length c3, uV, (j33 0), iV x34, .pointer (some ⟨b60, 0, none⟩), iV vt70, .slice A2 l1.length c3, iV (l1.length : Int), .bool false, .slice A2 l1.length c3, iV (l1.length : Int), iV x34, .bool true, iV x34, .pointer (some ⟨b56, of57 + (x34 : Int).toNat * 18, none⟩), (ag_Row (rd l1 x34) A59 c59), (ag_Row (rd l1 x34) A59 c59), iV vt70, iV vt70, .bool false, (j33 12), iV x34, .bool true, .bool true, .pointer (some ⟨b60, 0, none⟩), iV ((rd l1 x34).ID), .slice A2 l1.length c3, iV x34, iV (w64 (x34 - 1)), .pointer (some ⟨b92, of93 + (w64 (x34 - 1) : Int).toNat * 18, none⟩), .pointer (some ⟨b92, of93 + (w64 (x34 - 1) : Int).toNat * 18, none⟩), iV ((rd l1 (w64 (x34 - 1))).ID), .bool (decide (((rd l1 x34).ID) ≤ ((rd l1 (w64 (x34 - 1))).ID))), .bool (decide (((rd l1 x34).ID) ≤ ((rd l1 (w64 (x34 - 1))).ID))), (j33 26)], []⟩) rfl (by kernel_rfl) (by kernel_rfl) (by kernel_rfl) (fun ch_ a_ w_ q_ => (fun ch_ a_ w_ q_ => hnp ch_ a_ w_ (hp24 ch_ a_ w_ q_)) ch_ a_ w_ (hp48 ch_ a_ w_ q_)) (Sg.g0 (Sx.of [] (FM.le.refl _) HS85)) ?_
          refine doneG (by kernel_rfl) ?_ _
          refine hK83 _ _ ?_
          have hq_ := ite_some h; clear h; rcases hq_ with ⟨c97, h⟩ | ⟨c97, h⟩
          · have c97 : ((rd l1 x34).ID) ≤ ((rd l1 (w64 (x34 - 1))).ID) := c97
            refine wpRwI 32 (x := (decide (((rd l1 x34).ID) ≤ ((rd l1 (w64 (x34 - 1))).ID)))) (v := true) (by kernel_rfl) (decide_eq_true c97) ?_
            refine wpRwI 33 (x := (decide (((rd l1 x34).ID) ≤ ((rd l1 (w64 (x34 - 1))).ID)))) (v := true) (by kernel_rfl) (decide_eq_true c97) ?_
            refine condT (by kernel_rfl) ?_
            refine wp_seq_k (fun K98 hK99 => ?_)
            refine wp_region_lit ?_
            refine seqS1 (a' := ⟨#[.slice A2 l1.length c3, uV, iV 11, iV x34, .pointer (some ⟨b60, 0, none⟩), iV vt70, .slice A2 l1.length c3, iV (l1.length : Int), .bool false, .slice A2 l1.length c3, iV (l1.length : Int), iV x34, .bool true, iV x34, .pointer (some ⟨b56, of57 + (x34 : Int).toNat * 18, none⟩), (ag_Row (rd l1 x34) A59 c59), (ag_Row (rd l1 x34) A59 c59), iV vt70, iV vt70, .bool false, (j33 12), iV x34, .bool true, .bool true, .pointer (some ⟨b60, 0, none⟩), iV ((rd l1 x34).ID), .slice A2 l1.length c3, iV x34, iV (w64 (x34 - 1)), .pointer (some ⟨b92, of93 + (w64 (x34 - 1) : Int).toNat * 18, none⟩), .pointer (some ⟨b92, of93 + (w64 (x34 - 1) : Int).toNat * 18, none⟩), iV ((rd l1 (w64 (x34 - 1))).ID), .bool true, .bool true, (j33 26)], []⟩) (by kernel_rfl) ?_
            refine wpList_nil ?_
            refine hK99 _ _ ?_
            refine wp_ret ?_
            refine hr46 _ _ ?_
            refine hr22 _ _ ?_
            refine hret _ _ ?_
            refine ends_still (v := Value.int .i64 11) (by kernel_rfl) (by kernel_rfl) ?_
            have HS114 := HS85.drop
            replace h := JR107 _ h
            injection h with h
            subst h
            exact ⟨f72, rfl, (L30.trans L73), HS114⟩
          · have c97 : ¬ (((rd l1 x34).ID) ≤ ((rd l1 (w64 (x34 - 1))).ID)) := c97
            refine wpRwI 32 (x := (decide (((rd l1 x34).ID) ≤ ((rd l1 (w64 (x34 - 1))).ID)))) (v := false) (by kernel_rfl) (decide_eq_false c97) ?_
            refine wpRwI 33 (x := (decide (((rd l1 x34).ID) ≤ ((rd l1 (w64 (x34 - 1))).ID)))) (v := false) (by kernel_rfl) (decide_eq_false c97) ?_
            refine condF (by kernel_rfl) ?_
            refine wp_skip ?_
            refine hn45 _ _ ?_
            refine hK42 _ _ ?_
            refine wp_region_lit ?_
            refine seqS2 (a' := ⟨#[.slice A2 l1.length c3, uV, (j33 0), iV x34, .pointer (some ⟨b60, 0, none⟩), iV vt70, .slice A2 l1.length c3, iV (l1.length : Int), .bool false, .slice A2 l1.length c3, iV (l1.length : Int), iV (w64 (x34 + 1)), .bool true, iV x34, .pointer (some ⟨b56, of57 + (x34 : Int).toNat * 18, none⟩), (ag_Row (rd l1 x34) A59 c59), (ag_Row (rd l1 x34) A59 c59), iV vt70, iV vt70, .bool false, (j33 12), iV x34, .bool true, .bool true, .pointer (some ⟨b60, 0, none⟩), iV ((rd l1 x34).ID), .slice A2 l1.length c3, iV x34, iV (w64 (x34 - 1)), .pointer (some ⟨b92, of93 + (w64 (x34 - 1) : Int).toNat * 18, none⟩), .pointer (some ⟨b92, of93 + (w64 (x34 - 1) : Int).toNat * 18, none⟩), iV ((rd l1 (w64 (x34 - 1))).ID), .bool false, .bool false, iV (w64 (x34 + 1))], []⟩) (by kernel_rfl) ?_
            refine wpList_nil ?_
            refine hK27 n28 _ _ (Nat.lt_succ_self _) ?_
            have HS109 := HS85.drop
            exact ⟨f72, (w64 (x34 + 1)), (fun i_ => [(j33 0), Value.int .i64 x34, Value.pointer (some ⟨b60, 0, none⟩), Value.int .i64 vt70, Value.bool true, Value.int .i64 x34, Value.pointer (some ⟨b56, of57 + (x34 : Int).toNat * 18, none⟩), (ag_Row (rd l1 x34) A59 c59), (ag_Row (rd l1 x34) A59 c59), Value.int .i64 vt70, Value.int .i64 vt70, Value.bool false, (j33 12), Value.int .i64 x34, Value.bool true, Value.bool true, Value.pointer (some ⟨b60, 0, none⟩), Value.int .i64 ((rd l1 x34).ID), Value.slice A2 l1.length c3, Value.int .i64 x34, Value.int .i64 (w64 (x34 - 1)), Value.pointer (some ⟨b92, of93 + (w64 (x34 - 1) : Int).toNat * 18, none⟩), Value.pointer (some ⟨b92, of93 + (w64 (x34 - 1) : Int).toNat * 18, none⟩), Value.int .i64 ((rd l1 (w64 (x34 - 1))).ID), Value.bool false, Value.bool false, Value.int .i64 (w64 (x34 + 1))].getD i_ undef), (L30.trans L73), HS109, h, (by kernel_rfl)⟩
        · have c86 : ¬ (x34 > 0) := c86
          refine gateRwI 22 (x := (decide (x34 > 0))) (v := false) (by kernel_rfl) (decide_eq_false c86) ?_
          refine gateRwI 23 (x := (decide (x34 > 0))) (v := false) (by kernel_rfl) (decide_eq_false c86) ?_
          refine takeG [3, 4, 5, 6, 7, 8, 9, 10, 11, 12] (n := 10) (fuel := 0) (l' := #[true, true, true, true, true, true, true, true, true, true, true, true, true]) (a' := ⟨#[.slice A2 l1.length c3, uV, (j33 0), iV x34, .pointer (some ⟨b60, 0, none⟩), iV vt70, .slice A2 l1.length c3, iV (l1.length : Int), .bool false, .slice A2 l1.length c3, iV (l1.length : Int), iV x34, .bool true, iV x34, .pointer (some ⟨b56, of57 + (x34 : Int).toNat * 18, none⟩), (ag_Row (rd l1 x34) A59 c59), (ag_Row (rd l1 x34) A59 c59), iV vt70, iV vt70, .bool false, (j33 12), iV x34, .bool false, .bool false, uV, uV, uV, uV, uV, uV, uV, uV, uV, .bool false, (j33 26)], []⟩) rfl (by kernel_rfl) (by kernel_rfl) (by kernel_rfl) (fun ch_ a_ w_ q_ => (fun ch_ a_ w_ q_ => hnp ch_ a_ w_ (hp24 ch_ a_ w_ q_)) ch_ a_ w_ (hp48 ch_ a_ w_ q_)) (Sg.g0 (Sx.of [] (FM.le.refl _) HS85)) ?_
          refine doneG (by kernel_rfl) ?_ _
          refine hK83 _ _ ?_
          refine condF (by kernel_rfl) ?_
          refine wp_skip ?_
          refine hn45 _ _ ?_
          refine hK42 _ _ ?_
          refine wp_region_lit ?_
          refine seqS2 (a' := ⟨#[.slice A2 l1.length c3, uV, (j33 0), iV x34, .pointer (some ⟨b60, 0, none⟩), iV vt70, .slice A2 l1.length c3, iV (l1.length : Int), .bool false, .slice A2 l1.length c3, iV (l1.length : Int), iV (w64 (x34 + 1)), .bool true, iV x34, .pointer (some ⟨b56, of57 + (x34 : Int).toNat * 18, none⟩), (ag_Row (rd l1 x34) A59 c59), (ag_Row (rd l1 x34) A59 c59), iV vt70, iV vt70, .bool false, (j33 12), iV x34, .bool false, .bool false, uV, uV, uV, uV, uV, uV, uV, uV, uV, .bool false, iV (w64 (x34 + 1))], []⟩) (by kernel_rfl) ?_
          refine wpList_nil ?_
          refine hK27 n28 _ _ (Nat.lt_succ_self _) ?_
          have HS110 := HS85.drop
          exact ⟨f72, (w64 (x34 + 1)), (fun i_ => [(j33 0), Value.int .i64 x34, Value.pointer (some ⟨b60, 0, none⟩), Value.int .i64 vt70, Value.bool true, Value.int .i64 x34, Value.pointer (some ⟨b56, of57 + (x34 : Int).toNat * 18, none⟩), (ag_Row (rd l1 x34) A59 c59), (ag_Row (rd l1 x34) A59 c59), Value.int .i64 vt70, Value.int .i64 vt70, Value.bool false, (j33 12), Value.int .i64 x34, Value.bool false, Value.bool false, undef, undef, undef, undef, undef, undef, undef, undef, undef, Value.bool false, Value.int .i64 (w64 (x34 + 1))].getD i_ undef), (L30.trans L73), HS110, h, (by kernel_rfl)⟩
    · have c40 : ¬ (x34 < (l1.length : Int)) := c40
      refine wpRwI 12 (x := (decide (x34 < (l1.length : Int)))) (v := false) (by kernel_rfl) (decide_eq_false c40) ?_
      refine condF (by kernel_rfl) ?_
      refine wp_exit ?_
      refine hx20 _ _ ?_
      exact J106 f29 (fun i_ => [(j33 0), (j33 1), (j33 2), (j33 3), Value.int .i64 x34, Value.bool false, (j33 5), (j33 6), (j33 7), (j33 8), (j33 9), (j33 10), (j33 11), (j33 12), (j33 13), (j33 14), (j33 15), (j33 16), (j33 17), (j33 18), (j33 19), (j33 20), (j33 21), (j33 22), (j33 23), (j33 24), (j33 25), (j33 26)].getD i_ undef) W31 _ L30 h HS32 (by kernel_rfl)

end Go.Sp.D3
