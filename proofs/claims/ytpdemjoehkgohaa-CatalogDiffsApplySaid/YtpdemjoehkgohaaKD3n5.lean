import Derived.Test.YtpdemjoehkgohaaProg
import Derived.Test.YtpdemjoehkgohaaSpCopy
import Derived.Test.YtpdemjoehkgohaaFD3
import Derived.Test.YtpdemjoehkgohaaSpSort
import Derived.Test.YtpdemjoehkgohaaShelf
import Derived.Test.YtpdemjoehkgohaaSpMapR
import Derived.Test.YtpdemjoehkgohaaSpKeys
import Derived.Test.YtpdemjoehkgohaaKD3n0
import Derived.Test.YtpdemjoehkgohaaKD3n1
import Derived.Test.YtpdemjoehkgohaaKD3n2
import Derived.Test.YtpdemjoehkgohaaKD3n3
import Derived.Test.YtpdemjoehkgohaaKD3n4
namespace Go.Sp.D3
open Go Go.Sp Go.Proofs
set_option linter.unusedVariables false
attribute [local irreducible] wpList AnyL Code.wp Calls Does
set_option maxRecDepth 100000 in
set_option maxHeartbeats 4000000 in
theorem catalog_shape.calls (k : Nat) (A2 : Option Addr) (c3 : Nat) (c1 : S_Change) {t w : World} {f : FM} {H : List Seg} (HS : St t w f (H)) (HR4 : SlR (tInt .i64) f A2 c3 c1.Row.Frames) (rr1 : Int) (h : catalog_shape k c1 = some rr1) :
    Calls Try.prog 47 #[.agg #[.int .i64 c1.Kind, .int .i64 c1.Row.ID, .int .i64 c1.Row.Box.X.Lo, .int .i64 c1.Row.Box.X.Hi, .bool c1.Row.Box.X.Unknown, .int .i64 c1.Row.Box.Y.Lo, .int .i64 c1.Row.Box.Y.Hi, .bool c1.Row.Box.Y.Unknown, .int .i64 c1.Row.Box.Z.Lo, .int .i64 c1.Row.Box.Z.Hi, .bool c1.Row.Box.Z.Unknown, .int .i64 c1.Row.Flux.Lo, .int .i64 c1.Row.Flux.Hi, .bool c1.Row.Flux.Unknown, .int .i64 c1.Row.When.Lo, .int .i64 c1.Row.When.Hi, .bool c1.Row.When.Unknown, .slice A2 c1.Row.Frames.length c3, .int .i64 c1.Row.Marks]] w (fun e w' => ∃ (g : FM), e = .returned (Value.int .i64 rr1) ∧ FM.le f g ∧ St t w' g (H)) := by
  unfold catalog_shape at h
  refine enter Try.func47 rfl (tm := #[(ag_Change c1 A2 c3), uV, uV, uV, uV, uV, uV, uV, uV, uV, uV, uV, uV, uV, uV, uV, uV, uV, uV, uV, uV, uV, uV, uV, uV, uV, uV, uV, uV, uV, uV]) (by kernel_rfl) ?_
  intro B hret hnor hnp
  refine wp_seq_k (fun K5 hK6 => ?_)
  refine wp_region_lit ?_
  refine seqK rfl (does_box (cs := #[.int .i64 c1.Kind, .int .i64 c1.Row.ID, .int .i64 c1.Row.Box.X.Lo, .int .i64 c1.Row.Box.X.Hi, .bool c1.Row.Box.X.Unknown, .int .i64 c1.Row.Box.Y.Lo, .int .i64 c1.Row.Box.Y.Hi, .bool c1.Row.Box.Y.Unknown, .int .i64 c1.Row.Box.Z.Lo, .int .i64 c1.Row.Box.Z.Hi, .bool c1.Row.Box.Z.Unknown, .int .i64 c1.Row.Flux.Lo, .int .i64 c1.Row.Flux.Hi, .bool c1.Row.Flux.Unknown, .int .i64 c1.Row.When.Lo, .int .i64 c1.Row.When.Hi, .bool c1.Row.When.Unknown, .slice A2 c1.Row.Frames.length c3, .int .i64 c1.Row.Marks]) rfl (by kernel_rfl : _ = Value.agg #[.int .i64 c1.Kind, .int .i64 c1.Row.ID, .int .i64 c1.Row.Box.X.Lo, .int .i64 c1.Row.Box.X.Hi, .bool c1.Row.Box.X.Unknown, .int .i64 c1.Row.Box.Y.Lo, .int .i64 c1.Row.Box.Y.Hi, .bool c1.Row.Box.Y.Unknown, .int .i64 c1.Row.Box.Z.Lo, .int .i64 c1.Row.Box.Z.Hi, .bool c1.Row.Box.Z.Unknown, .int .i64 c1.Row.Flux.Lo, .int .i64 c1.Row.Flux.Hi, .bool c1.Row.Flux.Unknown, .int .i64 c1.Row.When.Lo, .int .i64 c1.Row.When.Hi, .bool c1.Row.When.Unknown, .slice A2 c1.Row.Frames.length c3, .int .i64 c1.Row.Marks]) rfl HS ?_)
  intro b7 W8 HS9
  refine seqS1 (a' := ⟨#[(ag_Change c1 A2 c3), .pointer (some ⟨b7, 0, none⟩), iV 0, uV, uV, uV, uV, uV, uV, uV, uV, uV, uV, uV, uV, uV, uV, uV, uV, uV, uV, uV, uV, uV, uV, uV, uV, uV, uV, uV, uV], []⟩) (by kernel_rfl) ?_
  refine wpList_nil ?_
  refine hK6 _ _ ?_
  refine wp_seq_k (fun K11 hK12 => ?_)
  refine wp_seq_k (fun K13 hK14 => ?_)
  refine wp_region_lit ?_
  refine seqL1 (by kernel_rfl) ?_
  refine seqK rfl (does_run (run_load rfl Try.underlying3 rfl (by kernel_rfl : _ = Value.pointer (some ⟨b7, 0, none⟩)) (HS9.cell 0)) ?_)
  refine wpList_nil ?_
  refine hK14 _ _ ?_
  refine blockK (fun B15 hx16 hn17 hr18 ho19 hp20 => ?_)
  refine wp_seq_k (fun K22 hK23 => ?_)
  refine wp_seq_k (fun K24 hK25 => ?_)
  refine wp_region_lit ?_
  refine seqS2 (a' := ⟨#[(ag_Change c1 A2 c3), .pointer (some ⟨b7, 0, none⟩), iV 0, .pointer (some ⟨b7, 0, none⟩), iV c1.Kind, .bool (c1.Kind == 1), .bool (c1.Kind == 1), uV, uV, uV, uV, uV, uV, uV, uV, uV, uV, uV, uV, uV, uV, uV, uV, uV, uV, uV, uV, uV, uV, uV, uV], []⟩) (by kernel_rfl) ?_
  refine wpList_nil ?_
  refine hK25 _ _ ?_
  have hq_ := bind_some h; clear h; obtain ⟨v26, hv34, h⟩ := hq_
  have J35 : ∀ (f28 : FM) (x33 : Bool) (j32 : Nat → Value) (W30 : World) (a_ : Act), FM.le f f28 → some (x33) = some v26 → St t W30 f28 ([(b7, .cells #[.int .i64 c1.Kind, .int .i64 c1.Row.ID, .int .i64 c1.Row.Box.X.Lo, .int .i64 c1.Row.Box.X.Hi, .bool c1.Row.Box.X.Unknown, .int .i64 c1.Row.Box.Y.Lo, .int .i64 c1.Row.Box.Y.Hi, .bool c1.Row.Box.Y.Unknown, .int .i64 c1.Row.Box.Z.Lo, .int .i64 c1.Row.Box.Z.Hi, .bool c1.Row.Box.Z.Unknown, .int .i64 c1.Row.Flux.Lo, .int .i64 c1.Row.Flux.Hi, .bool c1.Row.Flux.Unknown, .int .i64 c1.Row.When.Lo, .int .i64 c1.Row.When.Hi, .bool c1.Row.When.Unknown, .slice A2 c1.Row.Frames.length c3, .int .i64 c1.Row.Marks] 71 (0, 0))] :: H) → a_ = ⟨#[(ag_Change c1 A2 c3), .pointer (some ⟨b7, 0, none⟩), iV 0, .pointer (some ⟨b7, 0, none⟩), iV c1.Kind, .bool x33, .bool (c1.Kind == 1), (j32 0), uV, uV, uV, uV, uV, uV, uV, uV, uV, uV, uV, uV, uV, uV, uV, uV, uV, uV, uV, uV, uV, uV, uV], []⟩ → K22 a_ W30 := by
    intro f28 x33 j32 W30 a_ L29 hj36 HS31  hfr_; subst hfr_
    injection hj36 with hj36; subst hj36; try dsimp only at h
    refine hK23 _ _ ?_
    have hq_ := ite_some h; clear h; rcases hq_ with ⟨c38, h⟩ | ⟨c38, h⟩
    · have c38 : x33 = true := c38
      refine wpRwI 5 (x := x33) (v := true) (by kernel_rfl) c38 ?_
      refine condT (by kernel_rfl) ?_
      refine wp_seq_k (fun K39 hK40 => ?_)
      refine wp_region_lit ?_
      refine seqL1 (by kernel_rfl) ?_
      refine seqK rfl (does_run (run_loadN (n := 18) rfl Try.underlying65 rfl (by kernel_rfl) (by kernel_rfl : _ = Value.pointer (some ⟨b7, 1, none⟩)) (cs := [.int .i64 c1.Row.ID, .int .i64 c1.Row.Box.X.Lo, .int .i64 c1.Row.Box.X.Hi, .bool c1.Row.Box.X.Unknown, .int .i64 c1.Row.Box.Y.Lo, .int .i64 c1.Row.Box.Y.Hi, .bool c1.Row.Box.Y.Unknown, .int .i64 c1.Row.Box.Z.Lo, .int .i64 c1.Row.Box.Z.Hi, .bool c1.Row.Box.Z.Unknown, .int .i64 c1.Row.Flux.Lo, .int .i64 c1.Row.Flux.Hi, .bool c1.Row.Flux.Unknown, .int .i64 c1.Row.When.Lo, .int .i64 c1.Row.When.Hi, .bool c1.Row.When.Unknown, .slice A2 c1.Row.Frames.length c3, .int .i64 c1.Row.Marks]) rfl (HS31.cells 1 18 _ rfl)) ?_)
      have hq_ := bind_some h; clear h; obtain ⟨vt41, hc42, h⟩ := hq_
      refine seqK rfl (does_call (f := 44) (args := #[.agg #[.int .i64 c1.Row.ID, .int .i64 c1.Row.Box.X.Lo, .int .i64 c1.Row.Box.X.Hi, .bool c1.Row.Box.X.Unknown, .int .i64 c1.Row.Box.Y.Lo, .int .i64 c1.Row.Box.Y.Hi, .bool c1.Row.Box.Y.Unknown, .int .i64 c1.Row.Box.Z.Lo, .int .i64 c1.Row.Box.Z.Hi, .bool c1.Row.Box.Z.Unknown, .int .i64 c1.Row.Flux.Lo, .int .i64 c1.Row.Flux.Hi, .bool c1.Row.Flux.Unknown, .int .i64 c1.Row.When.Lo, .int .i64 c1.Row.When.Hi, .bool c1.Row.When.Unknown, .slice A2 c1.Row.Frames.length c3, .int .i64 c1.Row.Marks]]) (by kernel_rfl) (catalog_CheckRow.calls k A2 c3 c1.Row HS31 (HR4.mono L29) vt41 hc42) ?_)
      rintro _ W45 ⟨f43, rfl, L44, HS46⟩
      refine ⟨_, rfl, ?_⟩
      refine seqS1 (a' := ⟨#[(ag_Change c1 A2 c3), .pointer (some ⟨b7, 0, none⟩), iV vt41, .pointer (some ⟨b7, 0, none⟩), iV c1.Kind, .bool true, .bool (c1.Kind == 1), (j32 0), .pointer (some ⟨b7, 1, none⟩), (ag_Row c1.Row A2 c3), iV vt41, uV, uV, uV, uV, uV, uV, uV, uV, uV, uV, uV, uV, uV, uV, uV, uV, uV, uV, uV, uV], []⟩) (by kernel_rfl) ?_
      refine wpList_nil ?_
      refine hK40 _ _ ?_
      refine wp_ret ?_
      refine hr18 _ _ ?_
      refine hret _ _ ?_
      refine ends_still (v := Value.int .i64 vt41) (by kernel_rfl) (by kernel_rfl) ?_
      have HS80 := HS46.drop
      injection h with h
      subst h
      exact ⟨f43, rfl, (L29.trans L44), HS80⟩
    · have c38 : ¬ (x33 = true) := c38
      refine wpRwI 5 (x := x33) (v := false) (by kernel_rfl) (Bool.eq_false_iff.mpr c38) ?_
      refine condF (by kernel_rfl) ?_
      refine wp_seq_k (fun K47 hK48 => ?_)
      refine wp_region_lit ?_
      refine seqS2 (a' := ⟨#[(ag_Change c1 A2 c3), .pointer (some ⟨b7, 0, none⟩), iV 0, .pointer (some ⟨b7, 0, none⟩), iV c1.Kind, .bool false, .bool (c1.Kind == 1), (j32 0), uV, uV, uV, .bool (c1.Kind == 3), .bool (c1.Kind == 3), uV, uV, uV, uV, uV, uV, uV, uV, uV, uV, uV, uV, uV, uV, uV, uV, uV, uV], []⟩) (by kernel_rfl) ?_
      refine wpList_nil ?_
      refine hK48 _ _ ?_
      have hq_ := ite_some h; clear h; rcases hq_ with ⟨c50, h⟩ | ⟨c50, h⟩
      · have c50 : c1.Kind = 3 := c50
        refine wpRwI 11 (x := (c1.Kind == 3)) (v := true) (by kernel_rfl) (beq_iff_eq.mpr c50) ?_
        refine wpRwI 12 (x := (c1.Kind == 3)) (v := true) (by kernel_rfl) (beq_iff_eq.mpr c50) ?_
        refine condT (by kernel_rfl) ?_
        refine wp_seq_k (fun K51 hK52 => ?_)
        refine wp_seq_k (fun K53 hK54 => ?_)
        refine wp_region_lit ?_
        refine seqL2 (by kernel_rfl) ?_
        refine seqK rfl (does_run (run_load rfl Try.underlying3 rfl (by kernel_rfl : _ = Value.pointer (some ⟨b7, 1, none⟩)) (HS31.cell 1)) ?_)
        refine seqS2 (a' := ⟨#[(ag_Change c1 A2 c3), .pointer (some ⟨b7, 0, none⟩), iV 0, .pointer (some ⟨b7, 0, none⟩), iV c1.Kind, .bool false, .bool (c1.Kind == 1), (j32 0), uV, uV, uV, .bool true, .bool true, .pointer (some ⟨b7, 1, none⟩), .pointer (some ⟨b7, 1, none⟩), iV c1.Row.ID, .bool (decide (c1.Row.ID < 1)), .bool (decide (c1.Row.ID < 1)), uV, uV, uV, uV, uV, uV, uV, uV, uV, uV, uV, uV, uV], []⟩) (by kernel_rfl) ?_
        have hq_ := ite_some h; clear h; rcases hq_ with ⟨c55, h⟩ | ⟨c55, h⟩
        · have c55 : c1.Row.ID < 1 := c55
          refine seqRwI 16 (x := (decide (c1.Row.ID < 1))) (v := true) (by kernel_rfl) (decide_eq_true c55) ?_
          refine seqRwI 17 (x := (decide (c1.Row.ID < 1))) (v := true) (by kernel_rfl) (decide_eq_true c55) ?_
          refine seqS5 (a' := ⟨#[(ag_Change c1 A2 c3), .pointer (some ⟨b7, 0, none⟩), iV 0, .pointer (some ⟨b7, 0, none⟩), iV c1.Kind, .bool false, .bool (c1.Kind == 1), (j32 0), uV, uV, uV, .bool true, .bool true, .pointer (some ⟨b7, 1, none⟩), .pointer (some ⟨b7, 1, none⟩), iV c1.Row.ID, .bool true, .bool true, uV, uV, uV, uV, .bool true, uV, uV, uV, uV, uV, uV, uV, uV], []⟩) (by kernel_rfl) ?_
          refine wpList_nil ?_
          refine hK54 _ _ ?_
          refine condT (by kernel_rfl) ?_
          refine wp_seq_k (fun K56 hK57 => ?_)
          refine wp_region_lit ?_
          refine seqS1 (a' := ⟨#[(ag_Change c1 A2 c3), .pointer (some ⟨b7, 0, none⟩), iV 4, .pointer (some ⟨b7, 0, none⟩), iV c1.Kind, .bool false, .bool (c1.Kind == 1), (j32 0), uV, uV, uV, .bool true, .bool true, .pointer (some ⟨b7, 1, none⟩), .pointer (some ⟨b7, 1, none⟩), iV c1.Row.ID, .bool true, .bool true, uV, uV, uV, uV, .bool true, uV, uV, uV, uV, uV, uV, uV, uV], []⟩) (by kernel_rfl) ?_
          refine wpList_nil ?_
          refine hK57 _ _ ?_
          refine wp_ret ?_
          refine hr18 _ _ ?_
          refine hret _ _ ?_
          refine ends_still (v := Value.int .i64 4) (by kernel_rfl) (by kernel_rfl) ?_
          have HS81 := HS31.drop
          injection h with h
          subst h
          exact ⟨f28, rfl, L29, HS81⟩
        · have c55 : ¬ (c1.Row.ID < 1) := c55
          refine seqRwI 16 (x := (decide (c1.Row.ID < 1))) (v := false) (by kernel_rfl) (decide_eq_false c55) ?_
          refine seqRwI 17 (x := (decide (c1.Row.ID < 1))) (v := false) (by kernel_rfl) (decide_eq_false c55) ?_
          refine seqL2 (by kernel_rfl) ?_
          refine seqG (by kernel_rfl) (does_run (run_load rfl Try.underlying3 rfl (by kernel_rfl : _ = Value.pointer (some ⟨b7, 1, none⟩)) (HS31.cell 1)) ?_)
          refine seqS2 (a' := ⟨#[(ag_Change c1 A2 c3), .pointer (some ⟨b7, 0, none⟩), iV 0, .pointer (some ⟨b7, 0, none⟩), iV c1.Kind, .bool false, .bool (c1.Kind == 1), (j32 0), uV, uV, uV, .bool true, .bool true, .pointer (some ⟨b7, 1, none⟩), .pointer (some ⟨b7, 1, none⟩), iV c1.Row.ID, .bool false, .bool false, .pointer (some ⟨b7, 1, none⟩), .pointer (some ⟨b7, 1, none⟩), iV c1.Row.ID, .bool (decide (c1.Row.ID > 2147483647)), .bool (decide (c1.Row.ID > 2147483647)), uV, uV, uV, uV, uV, uV, uV, uV], []⟩) (by kernel_rfl) ?_
          refine wpList_nil ?_
          refine hK54 _ _ ?_
          have hq_ := ite_some h; clear h; rcases hq_ with ⟨c59, h⟩ | ⟨c59, h⟩
          · have c59 : c1.Row.ID > 2147483647 := c59
            refine wpRwI 21 (x := (decide (c1.Row.ID > 2147483647))) (v := true) (by kernel_rfl) (decide_eq_true c59) ?_
            refine wpRwI 22 (x := (decide (c1.Row.ID > 2147483647))) (v := true) (by kernel_rfl) (decide_eq_true c59) ?_
            refine condT (by kernel_rfl) ?_
            refine wp_seq_k (fun K60 hK61 => ?_)
            refine wp_region_lit ?_
            refine seqS1 (a' := ⟨#[(ag_Change c1 A2 c3), .pointer (some ⟨b7, 0, none⟩), iV 4, .pointer (some ⟨b7, 0, none⟩), iV c1.Kind, .bool false, .bool (c1.Kind == 1), (j32 0), uV, uV, uV, .bool true, .bool true, .pointer (some ⟨b7, 1, none⟩), .pointer (some ⟨b7, 1, none⟩), iV c1.Row.ID, .bool false, .bool false, .pointer (some ⟨b7, 1, none⟩), .pointer (some ⟨b7, 1, none⟩), iV c1.Row.ID, .bool true, .bool true, uV, uV, uV, uV, uV, uV, uV, uV], []⟩) (by kernel_rfl) ?_
            refine wpList_nil ?_
            refine hK61 _ _ ?_
            refine wp_ret ?_
            refine hr18 _ _ ?_
            refine hret _ _ ?_
            refine ends_still (v := Value.int .i64 4) (by kernel_rfl) (by kernel_rfl) ?_
            have HS82 := HS31.drop
            injection h with h
            subst h
            exact ⟨f28, rfl, L29, HS82⟩
          · have c59 : ¬ (c1.Row.ID > 2147483647) := c59
            refine wpRwI 21 (x := (decide (c1.Row.ID > 2147483647))) (v := false) (by kernel_rfl) (decide_eq_false c59) ?_
            refine wpRwI 22 (x := (decide (c1.Row.ID > 2147483647))) (v := false) (by kernel_rfl) (decide_eq_false c59) ?_
            refine condF (by kernel_rfl) ?_
            refine wp_skip ?_
            refine hK52 _ _ ?_
            refine wp_seq_k (fun K62 hK63 => ?_)
            refine wp_seq_k (fun K64 hK65 => ?_)
            refine wp_region_lit ?_
            refine seqL1 (by kernel_rfl) ?_
            refine seqK rfl (does_run (run_loadN (n := 18) rfl Try.underlying65 rfl (by kernel_rfl) (by kernel_rfl : _ = Value.pointer (some ⟨b7, 1, none⟩)) (cs := [.int .i64 c1.Row.ID, .int .i64 c1.Row.Box.X.Lo, .int .i64 c1.Row.Box.X.Hi, .bool c1.Row.Box.X.Unknown, .int .i64 c1.Row.Box.Y.Lo, .int .i64 c1.Row.Box.Y.Hi, .bool c1.Row.Box.Y.Unknown, .int .i64 c1.Row.Box.Z.Lo, .int .i64 c1.Row.Box.Z.Hi, .bool c1.Row.Box.Z.Unknown, .int .i64 c1.Row.Flux.Lo, .int .i64 c1.Row.Flux.Hi, .bool c1.Row.Flux.Unknown, .int .i64 c1.Row.When.Lo, .int .i64 c1.Row.When.Hi, .bool c1.Row.When.Unknown, .slice A2 c1.Row.Frames.length c3, .int .i64 c1.Row.Marks]) rfl (HS31.cells 1 18 _ rfl)) ?_)
            refine seqL2 (by kernel_rfl) ?_
            refine seqK rfl (does_run (run_load rfl Try.underlying3 rfl (by kernel_rfl : _ = Value.pointer (some ⟨b7, 1, none⟩)) (HS31.cell 1)) ?_)
            have hq_ := bind_some h; clear h; obtain ⟨vt66, hc67, h⟩ := hq_
            refine seqL1 (by kernel_rfl) ?_
            refine seqK rfl (does_call (f := 21) (args := #[.agg #[.int .i64 c1.Row.ID, .int .i64 c1.Row.Box.X.Lo, .int .i64 c1.Row.Box.X.Hi, .bool c1.Row.Box.X.Unknown, .int .i64 c1.Row.Box.Y.Lo, .int .i64 c1.Row.Box.Y.Hi, .bool c1.Row.Box.Y.Unknown, .int .i64 c1.Row.Box.Z.Lo, .int .i64 c1.Row.Box.Z.Hi, .bool c1.Row.Box.Z.Unknown, .int .i64 c1.Row.Flux.Lo, .int .i64 c1.Row.Flux.Hi, .bool c1.Row.Flux.Unknown, .int .i64 c1.Row.When.Lo, .int .i64 c1.Row.When.Hi, .bool c1.Row.When.Unknown, .slice A2 c1.Row.Frames.length c3, .int .i64 c1.Row.Marks], .agg #[.int .i64 c1.Row.ID, .int .i64 0, .int .i64 0, .bool false, .int .i64 0, .int .i64 0, .bool false, .int .i64 0, .int .i64 0, .bool false, .int .i64 0, .int .i64 0, .bool false, .int .i64 0, .int .i64 0, .bool false, .slice none 0 0, .int .i64 0]]) (by kernel_rfl) (catalog_Same.calls k A2 c3 none 0 c1.Row (⟨c1.Row.ID, (⟨(⟨0, 0, false⟩ : S_Bound), (⟨0, 0, false⟩ : S_Bound), (⟨0, 0, false⟩ : S_Bound)⟩ : S_Box), (⟨0, 0, false⟩ : S_Bound), (⟨0, 0, false⟩ : S_Bound), ([] : List Int), 0⟩ : S_Row) HS31 (HR4.mono L29) (SlR.nil _ _) vt66 hc67) ?_)
            rintro _ W70 ⟨f68, rfl, L69, HS71⟩
            refine ⟨_, rfl, ?_⟩
            refine seqS1 (a' := ⟨#[(ag_Change c1 A2 c3), .pointer (some ⟨b7, 0, none⟩), iV 0, .pointer (some ⟨b7, 0, none⟩), iV c1.Kind, .bool false, .bool (c1.Kind == 1), (j32 0), uV, uV, uV, .bool true, .bool true, .pointer (some ⟨b7, 1, none⟩), .pointer (some ⟨b7, 1, none⟩), iV c1.Row.ID, .bool false, .bool false, .pointer (some ⟨b7, 1, none⟩), .pointer (some ⟨b7, 1, none⟩), iV c1.Row.ID, .bool false, .bool false, .pointer (some ⟨b7, 1, none⟩), (ag_Row c1.Row A2 c3), .pointer (some ⟨b7, 1, none⟩), .pointer (some ⟨b7, 1, none⟩), iV c1.Row.ID, .agg #[iV c1.Row.ID, iV 0, iV 0, .bool false, iV 0, iV 0, .bool false, iV 0, iV 0, .bool false, iV 0, iV 0, .bool false, iV 0, iV 0, .bool false, .slice none 0 0, iV 0], .bool vt66, .bool (!vt66)], []⟩) (by kernel_rfl) ?_
            refine wpList_nil ?_
            refine hK65 _ _ ?_
            have hq_ := ite_some h; clear h; rcases hq_ with ⟨c73, h⟩ | ⟨c73, h⟩
            · have c73 : ¬ (vt66 = true) := c73
              refine wpRwI 30 (x := (!vt66)) (v := true) (by kernel_rfl) (congrArg (fun b_ => !b_) (show vt66 = false from (Bool.eq_false_iff.mpr c73)) : (!vt66) = true) ?_
              refine condT (by kernel_rfl) ?_
              refine wp_seq_k (fun K74 hK75 => ?_)
              refine wp_region_lit ?_
              refine seqS1 (a' := ⟨#[(ag_Change c1 A2 c3), .pointer (some ⟨b7, 0, none⟩), iV 3, .pointer (some ⟨b7, 0, none⟩), iV c1.Kind, .bool false, .bool (c1.Kind == 1), (j32 0), uV, uV, uV, .bool true, .bool true, .pointer (some ⟨b7, 1, none⟩), .pointer (some ⟨b7, 1, none⟩), iV c1.Row.ID, .bool false, .bool false, .pointer (some ⟨b7, 1, none⟩), .pointer (some ⟨b7, 1, none⟩), iV c1.Row.ID, .bool false, .bool false, .pointer (some ⟨b7, 1, none⟩), (ag_Row c1.Row A2 c3), .pointer (some ⟨b7, 1, none⟩), .pointer (some ⟨b7, 1, none⟩), iV c1.Row.ID, .agg #[iV c1.Row.ID, iV 0, iV 0, .bool false, iV 0, iV 0, .bool false, iV 0, iV 0, .bool false, iV 0, iV 0, .bool false, iV 0, iV 0, .bool false, .slice none 0 0, iV 0], .bool vt66, .bool true], []⟩) (by kernel_rfl) ?_
              refine wpList_nil ?_
              refine hK75 _ _ ?_
              refine wp_ret ?_
              refine hr18 _ _ ?_
              refine hret _ _ ?_
              refine ends_still (v := Value.int .i64 3) (by kernel_rfl) (by kernel_rfl) ?_
              have HS83 := HS71.drop
              injection h with h
              subst h
              exact ⟨f68, rfl, (L29.trans L69), HS83⟩
            · have c73 : ¬ (¬ (vt66 = true)) := c73
              refine wpRwI 30 (x := (!vt66)) (v := false) (by kernel_rfl) (congrArg (fun b_ => !b_) (show vt66 = true from (Decidable.of_not_not c73)) : (!vt66) = false) ?_
              refine condF (by kernel_rfl) ?_
              refine wp_skip ?_
              refine hK63 _ _ ?_
              refine wp_seq_k (fun K76 hK77 => ?_)
              refine wp_region_lit ?_
              refine seqS1 (a' := ⟨#[(ag_Change c1 A2 c3), .pointer (some ⟨b7, 0, none⟩), iV 0, .pointer (some ⟨b7, 0, none⟩), iV c1.Kind, .bool false, .bool (c1.Kind == 1), (j32 0), uV, uV, uV, .bool true, .bool true, .pointer (some ⟨b7, 1, none⟩), .pointer (some ⟨b7, 1, none⟩), iV c1.Row.ID, .bool false, .bool false, .pointer (some ⟨b7, 1, none⟩), .pointer (some ⟨b7, 1, none⟩), iV c1.Row.ID, .bool false, .bool false, .pointer (some ⟨b7, 1, none⟩), (ag_Row c1.Row A2 c3), .pointer (some ⟨b7, 1, none⟩), .pointer (some ⟨b7, 1, none⟩), iV c1.Row.ID, .agg #[iV c1.Row.ID, iV 0, iV 0, .bool false, iV 0, iV 0, .bool false, iV 0, iV 0, .bool false, iV 0, iV 0, .bool false, iV 0, iV 0, .bool false, .slice none 0 0, iV 0], .bool vt66, .bool false], []⟩) (by kernel_rfl) ?_
              refine wpList_nil ?_
              refine hK77 _ _ ?_
              refine wp_ret ?_
              refine hr18 _ _ ?_
              refine hret _ _ ?_
              refine ends_still (v := Value.int .i64 0) (by kernel_rfl) (by kernel_rfl) ?_
              have HS84 := HS71.drop
              injection h with h
              subst h
              exact ⟨f68, rfl, (L29.trans L69), HS84⟩
      · have c50 : ¬ (c1.Kind = 3) := c50
        refine wpRwI 11 (x := (c1.Kind == 3)) (v := false) (by kernel_rfl) (beq_eq_false_iff_ne.mpr c50) ?_
        refine wpRwI 12 (x := (c1.Kind == 3)) (v := false) (by kernel_rfl) (beq_eq_false_iff_ne.mpr c50) ?_
        refine condF (by kernel_rfl) ?_
        refine wp_skip ?_
        refine hn17 _ _ ?_
        refine hK12 _ _ ?_
        refine wp_seq_k (fun K78 hK79 => ?_)
        refine wp_region_lit ?_
        refine seqS1 (a' := ⟨#[(ag_Change c1 A2 c3), .pointer (some ⟨b7, 0, none⟩), iV 12, .pointer (some ⟨b7, 0, none⟩), iV c1.Kind, .bool false, .bool (c1.Kind == 1), (j32 0), uV, uV, uV, .bool false, .bool false, uV, uV, uV, uV, uV, uV, uV, uV, uV, uV, uV, uV, uV, uV, uV, uV, uV, uV], []⟩) (by kernel_rfl) ?_
        refine wpList_nil ?_
        refine hK79 _ _ ?_
        refine wp_ret ?_
        refine hret _ _ ?_
        refine ends_still (v := Value.int .i64 12) (by kernel_rfl) (by kernel_rfl) ?_
        have HS85 := HS31.drop
        injection h with h
        subst h
        exact ⟨f28, rfl, L29, HS85⟩
  clear h; have h := hv34; clear hv34
  have hq_ := ite_some h; clear h; rcases hq_ with ⟨c27, h⟩ | ⟨c27, h⟩
  · have c27 : c1.Kind = 1 := c27
    refine wpRwI 5 (x := (c1.Kind == 1)) (v := true) (by kernel_rfl) (beq_iff_eq.mpr c27) ?_
    refine wpRwI 6 (x := (c1.Kind == 1)) (v := true) (by kernel_rfl) (beq_iff_eq.mpr c27) ?_
    refine condT (by kernel_rfl) ?_
    refine wp_skip ?_
    refine fnRwI (F := K22) 6 (x := true) (v := (c1.Kind == 1)) (by kernel_rfl) (Eq.symm (beq_iff_eq.mpr c27)) ?_
    refine fnRwI (F := K22) 5 (x := true) (v := (c1.Kind == 1)) (by kernel_rfl) (Eq.symm (beq_iff_eq.mpr c27)) ?_
    exact J35 f (c1.Kind == 1) (fun i_ => [undef].getD i_ undef) W8 _ (FM.le.refl _) h HS9 (by kernel_rfl)
  · have c27 : ¬ (c1.Kind = 1) := c27
    refine wpRwI 5 (x := (c1.Kind == 1)) (v := false) (by kernel_rfl) (beq_eq_false_iff_ne.mpr c27) ?_
    refine wpRwI 6 (x := (c1.Kind == 1)) (v := false) (by kernel_rfl) (beq_eq_false_iff_ne.mpr c27) ?_
    refine condF (by kernel_rfl) ?_
    refine wp_region_lit ?_
    refine seqS2 (a' := ⟨#[(ag_Change c1 A2 c3), .pointer (some ⟨b7, 0, none⟩), iV 0, .pointer (some ⟨b7, 0, none⟩), iV c1.Kind, .bool (c1.Kind == 2), .bool false, .bool (c1.Kind == 2), uV, uV, uV, uV, uV, uV, uV, uV, uV, uV, uV, uV, uV, uV, uV, uV, uV, uV, uV, uV, uV, uV, uV], []⟩) (by kernel_rfl) ?_
    refine wpList_nil ?_
    refine fnRwI (F := K22) 6 (x := false) (v := (c1.Kind == 1)) (by kernel_rfl) (Eq.symm (beq_eq_false_iff_ne.mpr c27)) ?_
    exact J35 f (c1.Kind == 2) (fun i_ => [Value.bool (c1.Kind == 2)].getD i_ undef) W8 _ (FM.le.refl _) h HS9 (by kernel_rfl)

end Go.Sp.D3
