import Derived.Test.YtpdemjoehkgohaaProg
import Derived.Test.YtpdemjoehkgohaaSpCopy
import Derived.Test.YtpdemjoehkgohaaFD3
import Derived.Test.YtpdemjoehkgohaaSpSort
import Derived.Test.YtpdemjoehkgohaaShelf
import Derived.Test.YtpdemjoehkgohaaSpMapR
import Derived.Test.YtpdemjoehkgohaaSpKeys
import Derived.Test.YtpdemjoehkgohaaKD3n0
import Derived.Test.YtpdemjoehkgohaaKD3n1
import Derived.Test.YtpdemjoehkgohaaKD3n2
import Derived.Test.YtpdemjoehkgohaaKD3n3
import Derived.Test.YtpdemjoehkgohaaKD3n4
import Derived.Test.YtpdemjoehkgohaaKD3n5
import Derived.Test.YtpdemjoehkgohaaKD3n6
import Derived.Test.YtpdemjoehkgohaaKD3n7
namespace Go.Sp.D3
open Go Go.Sp Go.Proofs
set_option linter.unusedVariables false
attribute [local irreducible] wpList AnyL Code.wp Calls Does
set_option maxRecDepth 100000 in
set_option maxHeartbeats 4000000 in
theorem spykeep3_listed.calls (k : Nat)   {t w : World} {f : FM} {H : List Seg} (HS : St t w f (H)) (rr1 : Bool) (h : spykeep3_listed k = some rr1) :
    Calls Try.prog 11 #[] w (fun e w' => ∃ (g : FM), e = .returned (Value.bool rr1) ∧ FM.le f g ∧ St t w' g (H)) := by
  unfold spykeep3_listed at h
  refine enter Try.func11 rfl (tm := #[uV, uV, uV, uV, uV, uV, uV, uV, uV, uV, uV, uV, uV, uV, uV, uV, uV, uV, uV, uV, uV, uV, uV, uV, uV, uV, uV, uV, uV, uV, uV, uV, uV, uV, uV, uV, uV, uV, uV, uV, uV, uV, uV]) (by kernel_rfl) ?_
  intro B hret hnor hnp
  refine wp_seq_k (fun K1 hK2 => ?_)
  refine wp_region_lit ?_
  refine seqS1 (a' := ⟨#[.bool false, uV, uV, uV, uV, uV, uV, uV, uV, uV, uV, uV, uV, uV, uV, uV, uV, uV, uV, uV, uV, uV, uV, uV, uV, uV, uV, uV, uV, uV, uV, uV, uV, uV, uV, uV, uV, uV, uV, uV, uV, uV, uV], []⟩) (by kernel_rfl) ?_
  refine wpList_nil ?_
  refine hK2 _ _ ?_
  refine wp_seq_k (fun K3 hK4 => ?_)
  refine wp_region_lit ?_
  have hq_ := bind_some h; clear h; obtain ⟨vt5, hc6, h⟩ := hq_
  refine seqL1 (by kernel_rfl) ?_
  refine seqK rfl (does_call (f := 36) (args := #[.int .i64 3]) (by kernel_rfl) (spykeep3_single.calls k 3 HS vt5 hc6) ?_)
  rintro _ W9 ⟨f7, A11, c12, s13, rfl, L8, HS10, HO14⟩
  refine ⟨_, rfl, ?_⟩
  obtain ⟨f16, L17, HS18, HR19⟩ := HO14.freeze HS10
  refine seqL1 (by kernel_rfl) ?_
  refine seqK rfl (does_lit (e := ty_Change) (E := 71) (vs := #[(0, Value.agg #[.int .i64 1, .int .i64 vt5.ID, .int .i64 vt5.Box.X.Lo, .int .i64 vt5.Box.X.Hi, .bool vt5.Box.X.Unknown, .int .i64 vt5.Box.Y.Lo, .int .i64 vt5.Box.Y.Hi, .bool vt5.Box.Y.Unknown, .int .i64 vt5.Box.Z.Lo, .int .i64 vt5.Box.Z.Hi, .bool vt5.Box.Z.Unknown, .int .i64 vt5.Flux.Lo, .int .i64 vt5.Flux.Hi, .bool vt5.Flux.Unknown, .int .i64 vt5.When.Lo, .int .i64 vt5.When.Hi, .bool vt5.When.Unknown, .slice A11 vt5.Frames.length c12, .int .i64 vt5.Marks])]) (cs := #[.int .i64 1, .int .i64 vt5.ID, .int .i64 vt5.Box.X.Lo, .int .i64 vt5.Box.X.Hi, .bool vt5.Box.X.Unknown, .int .i64 vt5.Box.Y.Lo, .int .i64 vt5.Box.Y.Hi, .bool vt5.Box.Y.Unknown, .int .i64 vt5.Box.Z.Lo, .int .i64 vt5.Box.Z.Hi, .bool vt5.Box.Z.Unknown, .int .i64 vt5.Flux.Lo, .int .i64 vt5.Flux.Hi, .bool vt5.Flux.Unknown, .int .i64 vt5.When.Lo, .int .i64 vt5.When.Hi, .bool vt5.When.Unknown, .slice A11 vt5.Frames.length c12, .int .i64 vt5.Marks]) (xs := ([(⟨1, vt5⟩ : S_Change)] : List S_Change)) rfl Try.underlying28 (by kernel_rfl) (by kernel_rfl) ⟨[.int .i64 1, .int .i64 vt5.ID, .int .i64 vt5.Box.X.Lo, .int .i64 vt5.Box.X.Hi, .bool vt5.Box.X.Unknown, .int .i64 vt5.Box.Y.Lo, .int .i64 vt5.Box.Y.Hi, .bool vt5.Box.Y.Unknown, .int .i64 vt5.Box.Z.Lo, .int .i64 vt5.Box.Z.Hi, .bool vt5.Box.Z.Unknown, .int .i64 vt5.Flux.Lo, .int .i64 vt5.Flux.Hi, .bool vt5.Flux.Unknown, .int .i64 vt5.When.Lo, .int .i64 vt5.When.Hi, .bool vt5.When.Unknown, .slice A11 vt5.Frames.length c12, .int .i64 vt5.Marks], _, rfl, ⟨A11, c12, rfl, HR19⟩, rfl⟩ rfl HS18 ?_ (by decide))
  intro b20 W21 s22 HS23 _ HO24
  obtain ⟨f26, L27, HS28, HR29⟩ := HO24.freeze HS23
  have hq_ := bind_some h; clear h; obtain ⟨⟨vt30, vt31, vt32⟩, hc33, h⟩ := hq_
  refine seqK rfl (does_call (f := 9) (args := #[.agg #[.slice none 0 0], .slice (some ⟨b20, 0, none⟩) ([(⟨1, vt5⟩ : S_Change)] : List S_Change).length 1]) (by kernel_rfl) (catalog_Commit.calls k none 0 (some ⟨b20, 0, none⟩) 1 (⟨([] : List (List S_Change))⟩ : S_Catalog) ([(⟨1, vt5⟩ : S_Change)] : List S_Change) HS28 (SlR.nil _ _) HR29 vt30 vt31 vt32 hc33) ?_)
  rintro _ W36 ⟨f34, A38, c39, s40, rfl, L35, HS37, HO41⟩
  refine ⟨_, rfl, ?_⟩
  refine seqL4 (by kernel_rfl) ?_
  refine seqK rfl (does_alloc (z := Value.agg #[.slice none 0 0]) (cs := #[.slice none 0 0]) rfl (by kernel_rfl) rfl HS37 ?_)
  intro b43 W44 HS45
  refine seqK rfl (does_store (n := 1) (vs := [.slice A38 vt30.Commits.length c39]) (cs' := #[.slice A38 vt30.Commits.length c39]) rfl (by kernel_rfl) (by kernel_rfl : _ = Value.pointer (some ⟨b43, 0, none⟩)) (by kernel_rfl : _ = Value.agg #[.slice A38 vt30.Commits.length c39]) rfl rfl (by intro u_ hu_; simp only [List.mem_cons, List.not_mem_nil, or_false] at hu_; subst hu_; rfl) HS45 (Nat.le_of_ble_eq_true rfl) (by kernel_rfl) ?_)
  intro W47 HS48
  refine seqS2 (a' := ⟨#[.bool false, .pointer (some ⟨b43, 0, none⟩), iV vt31, iV vt32, uV, uV, .tuple #[.agg #[.slice A38 vt30.Commits.length c39], iV vt31, iV vt32], .agg #[.slice none 0 0], (ag_Row vt5 A11 c12), .agg #[iV 1, iV vt5.ID, iV vt5.Box.X.Lo, iV vt5.Box.X.Hi, .bool vt5.Box.X.Unknown, iV vt5.Box.Y.Lo, iV vt5.Box.Y.Hi, .bool vt5.Box.Y.Unknown, iV vt5.Box.Z.Lo, iV vt5.Box.Z.Hi, .bool vt5.Box.Z.Unknown, iV vt5.Flux.Lo, iV vt5.Flux.Hi, .bool vt5.Flux.Unknown, iV vt5.When.Lo, iV vt5.When.Hi, .bool vt5.When.Unknown, .slice A11 vt5.Frames.length c12, iV vt5.Marks], .slice (some ⟨b20, 0, none⟩) ([(⟨1, vt5⟩ : S_Change)] : List S_Change).length 1, .tuple #[.agg #[.slice A38 vt30.Commits.length c39], iV vt31, iV vt32], .agg #[.slice A38 vt30.Commits.length c39], iV vt31, iV vt32, uV, uV, uV, uV, uV, uV, uV, uV, uV, uV, uV, uV, uV, uV, uV, uV, uV, uV, uV, uV, uV, uV, uV, uV, uV, uV, uV, uV], []⟩) (by kernel_rfl) ?_
  refine wpList_nil ?_
  refine hK4 _ _ ?_
  refine wp_seq_k (fun K49 hK50 => ?_)
  refine wp_region_lit ?_
  refine seqK rfl (does_run (run_loadN (n := 1) rfl Try.underlying34 rfl (by kernel_rfl) (by kernel_rfl : _ = Value.pointer (some ⟨b43, 0, none⟩)) (cs := [.slice A38 vt30.Commits.length c39]) rfl (HS48.cells 0 1 _ rfl)) ?_)
  have HS51 := HS48.u1
  obtain ⟨f52, L53, HS54, HR55⟩ := HO41.freeze HS51
  have hq_ := bind_some h; clear h; obtain ⟨⟨vt56, vt57⟩, hc58, h⟩ := hq_
  refine seqL1 (by kernel_rfl) ?_
  refine seqK rfl (does_call (f := 10) (args := #[.agg #[.slice A38 vt30.Commits.length c39], .int .i64 vt31]) (by kernel_rfl) (catalog_At.calls k A38 c39 vt30 vt31 HS54 HR55 vt56 vt57 hc58) ?_)
  rintro _ W61 ⟨f59, A63, c64, s65, rfl, L60, HS62, HO66⟩
  refine ⟨_, rfl, ?_⟩
  refine seqS5 (a' := ⟨#[.bool false, .pointer (some ⟨b43, 0, none⟩), iV vt31, iV vt32, .slice A63 vt56.length c64, iV vt57, .tuple #[.agg #[.slice A38 vt30.Commits.length c39], iV vt31, iV vt32], .agg #[.slice none 0 0], (ag_Row vt5 A11 c12), .agg #[iV 1, iV vt5.ID, iV vt5.Box.X.Lo, iV vt5.Box.X.Hi, .bool vt5.Box.X.Unknown, iV vt5.Box.Y.Lo, iV vt5.Box.Y.Hi, .bool vt5.Box.Y.Unknown, iV vt5.Box.Z.Lo, iV vt5.Box.Z.Hi, .bool vt5.Box.Z.Unknown, iV vt5.Flux.Lo, iV vt5.Flux.Hi, .bool vt5.Flux.Unknown, iV vt5.When.Lo, iV vt5.When.Hi, .bool vt5.When.Unknown, .slice A11 vt5.Frames.length c12, iV vt5.Marks], .slice (some ⟨b20, 0, none⟩) ([(⟨1, vt5⟩ : S_Change)] : List S_Change).length 1, .tuple #[.agg #[.slice A38 vt30.Commits.length c39], iV vt31, iV vt32], .agg #[.slice A38 vt30.Commits.length c39], iV vt31, iV vt32, .tuple #[.slice A63 vt56.length c64, iV vt57], .agg #[.slice A38 vt30.Commits.length c39], iV vt31, .tuple #[.slice A63 vt56.length c64, iV vt57], .slice A63 vt56.length c64, iV vt57, uV, uV, uV, uV, uV, uV, uV, uV, uV, uV, uV, uV, uV, uV, uV, uV, uV, uV, uV, uV, uV, uV], []⟩) (by kernel_rfl) ?_
  refine wpList_nil ?_
  refine hK50 _ _ ?_
  refine wp_seq_k (fun K68 hK69 => ?_)
  refine heldG (S := Sg t f59 (s65 :: [(b43, .cells #[.slice A38 vt30.Commits.length c39] 34 (0, 0))] :: H) []) (n := 23) (by kernel_rfl) rfl HS62 ?_
  intro W70 HS71
  refine takeG [0, 1, 2] (n := 23) (fuel := 20) (l' := #[true, true, true, false, false, false, false, false, false, false, false, false, false, false, false, false, false, false, false, false, false, false, false]) (a' := ⟨#[.bool false, .pointer (some ⟨b43, 0, none⟩), iV vt31, iV vt32, .slice A63 vt56.length c64, iV vt57, .tuple #[.agg #[.slice A38 vt30.Commits.length c39], iV vt31, iV vt32], .agg #[.slice none 0 0], (ag_Row vt5 A11 c12), .agg #[iV 1, iV vt5.ID, iV vt5.Box.X.Lo, iV vt5.Box.X.Hi, .bool vt5.Box.X.Unknown, iV vt5.Box.Y.Lo, iV vt5.Box.Y.Hi, .bool vt5.Box.Y.Unknown, iV vt5.Box.Z.Lo, iV vt5.Box.Z.Hi, .bool vt5.Box.Z.Unknown, iV vt5.Flux.Lo, iV vt5.Flux.Hi, .bool vt5.Flux.Unknown, iV vt5.When.Lo, iV vt5.When.Hi, .bool vt5.When.Unknown, .slice A11 vt5.Frames.length c12, iV vt5.Marks], .slice (some ⟨b20, 0, none⟩) ([(⟨1, vt5⟩ : S_Change)] : List S_Change).length 1, .tuple #[.agg #[.slice A38 vt30.Commits.length c39], iV vt31, iV vt32], .agg #[.slice A38 vt30.Commits.length c39], iV vt31, iV vt32, .tuple #[.slice A63 vt56.length c64, iV vt57], .agg #[.slice A38 vt30.Commits.length c39], iV vt31, .tuple #[.slice A63 vt56.length c64, iV vt57], .slice A63 vt56.length c64, iV vt57, iV vt32, .bool (vt32 == 0), .bool (vt32 == 0), uV, uV, uV, uV, uV, uV, uV, uV, uV, uV, uV, uV, uV, uV, uV, uV, uV, uV, uV], []⟩) rfl (by kernel_rfl) (by kernel_rfl) (by kernel_rfl) hnp (Sg.g0 (Sx.of [] (FM.le.refl _) HS71)) ?_
  have hq_ := ite_some h; clear h; rcases hq_ with ⟨c72, h⟩ | ⟨c72, h⟩
  · have c72 : vt32 = 0 := c72
    refine gateRwI 22 (x := (vt32 == 0)) (v := true) (by kernel_rfl) (beq_iff_eq.mpr c72) ?_
    refine gateRwI 23 (x := (vt32 == 0)) (v := true) (by kernel_rfl) (beq_iff_eq.mpr c72) ?_
    refine takeG [3, 4, 5, 6] (n := 20) (fuel := 16) (l' := #[true, true, true, true, true, true, true, false, false, false, false, false, false, false, false, false, false, false, false, false, false, false, false]) (a' := ⟨#[.bool false, .pointer (some ⟨b43, 0, none⟩), iV vt31, iV vt32, .slice A63 vt56.length c64, iV vt57, .tuple #[.agg #[.slice A38 vt30.Commits.length c39], iV vt31, iV vt32], .agg #[.slice none 0 0], (ag_Row vt5 A11 c12), .agg #[iV 1, iV vt5.ID, iV vt5.Box.X.Lo, iV vt5.Box.X.Hi, .bool vt5.Box.X.Unknown, iV vt5.Box.Y.Lo, iV vt5.Box.Y.Hi, .bool vt5.Box.Y.Unknown, iV vt5.Box.Z.Lo, iV vt5.Box.Z.Hi, .bool vt5.Box.Z.Unknown, iV vt5.Flux.Lo, iV vt5.Flux.Hi, .bool vt5.Flux.Unknown, iV vt5.When.Lo, iV vt5.When.Hi, .bool vt5.When.Unknown, .slice A11 vt5.Frames.length c12, iV vt5.Marks], .slice (some ⟨b20, 0, none⟩) ([(⟨1, vt5⟩ : S_Change)] : List S_Change).length 1, .tuple #[.agg #[.slice A38 vt30.Commits.length c39], iV vt31, iV vt32], .agg #[.slice A38 vt30.Commits.length c39], iV vt31, iV vt32, .tuple #[.slice A63 vt56.length c64, iV vt57], .agg #[.slice A38 vt30.Commits.length c39], iV vt31, .tuple #[.slice A63 vt56.length c64, iV vt57], .slice A63 vt56.length c64, iV vt57, iV vt32, .bool true, .bool true, iV vt57, .bool (vt57 == 0), .bool (vt57 == 0), .bool (vt57 == 0), uV, uV, uV, uV, uV, uV, uV, uV, uV, uV, uV, uV, uV, uV, uV], []⟩) rfl (by kernel_rfl) (by kernel_rfl) (by kernel_rfl) hnp (Sg.g0 (Sx.of [] (FM.le.refl _) HS71)) ?_
    have hq_ := ite_some h; clear h; rcases hq_ with ⟨c73, h⟩ | ⟨c73, h⟩
    · have c73 : vt57 = 0 := c73
      refine gateRwI 25 (x := (vt57 == 0)) (v := true) (by kernel_rfl) (beq_iff_eq.mpr c73) ?_
      refine gateRwI 26 (x := (vt57 == 0)) (v := true) (by kernel_rfl) (beq_iff_eq.mpr c73) ?_
      refine gateRwI 27 (x := (vt57 == 0)) (v := true) (by kernel_rfl) (beq_iff_eq.mpr c73) ?_
      refine takeG [7, 8, 9, 10] (n := 16) (fuel := 12) (l' := #[true, true, true, true, true, true, true, true, true, true, true, false, false, false, false, false, false, false, false, false, false, false, false]) (a' := ⟨#[.bool false, .pointer (some ⟨b43, 0, none⟩), iV vt31, iV vt32, .slice A63 vt56.length c64, iV vt57, .tuple #[.agg #[.slice A38 vt30.Commits.length c39], iV vt31, iV vt32], .agg #[.slice none 0 0], (ag_Row vt5 A11 c12), .agg #[iV 1, iV vt5.ID, iV vt5.Box.X.Lo, iV vt5.Box.X.Hi, .bool vt5.Box.X.Unknown, iV vt5.Box.Y.Lo, iV vt5.Box.Y.Hi, .bool vt5.Box.Y.Unknown, iV vt5.Box.Z.Lo, iV vt5.Box.Z.Hi, .bool vt5.Box.Z.Unknown, iV vt5.Flux.Lo, iV vt5.Flux.Hi, .bool vt5.Flux.Unknown, iV vt5.When.Lo, iV vt5.When.Hi, .bool vt5.When.Unknown, .slice A11 vt5.Frames.length c12, iV vt5.Marks], .slice (some ⟨b20, 0, none⟩) ([(⟨1, vt5⟩ : S_Change)] : List S_Change).length 1, .tuple #[.agg #[.slice A38 vt30.Commits.length c39], iV vt31, iV vt32], .agg #[.slice A38 vt30.Commits.length c39], iV vt31, iV vt32, .tuple #[.slice A63 vt56.length c64, iV vt57], .agg #[.slice A38 vt30.Commits.length c39], iV vt31, .tuple #[.slice A63 vt56.length c64, iV vt57], .slice A63 vt56.length c64, iV vt57, iV vt32, .bool true, .bool true, iV vt57, .bool true, .bool true, .bool true, iV vt31, .bool (vt31 == 1), .bool (vt31 == 1), .bool (vt31 == 1), uV, uV, uV, uV, uV, uV, uV, uV, uV, uV, uV], []⟩) rfl (by kernel_rfl) (by kernel_rfl) (by kernel_rfl) hnp (Sg.g0 (Sx.of [] (FM.le.refl _) HS71)) ?_
      have hq_ := ite_some h; clear h; rcases hq_ with ⟨c74, h⟩ | ⟨c74, h⟩
      · have c74 : vt31 = 1 := c74
        refine gateRwI 29 (x := (vt31 == 1)) (v := true) (by kernel_rfl) (beq_iff_eq.mpr c74) ?_
        refine gateRwI 30 (x := (vt31 == 1)) (v := true) (by kernel_rfl) (beq_iff_eq.mpr c74) ?_
        refine gateRwI 31 (x := (vt31 == 1)) (v := true) (by kernel_rfl) (beq_iff_eq.mpr c74) ?_
        refine takeG [11, 12, 13, 14, 15] (n := 12) (fuel := 7) (l' := #[true, true, true, true, true, true, true, true, true, true, true, true, true, true, true, true, false, false, false, false, false, false, false]) (a' := ⟨#[.bool false, .pointer (some ⟨b43, 0, none⟩), iV vt31, iV vt32, .slice A63 vt56.length c64, iV vt57, .tuple #[.agg #[.slice A38 vt30.Commits.length c39], iV vt31, iV vt32], .agg #[.slice none 0 0], (ag_Row vt5 A11 c12), .agg #[iV 1, iV vt5.ID, iV vt5.Box.X.Lo, iV vt5.Box.X.Hi, .bool vt5.Box.X.Unknown, iV vt5.Box.Y.Lo, iV vt5.Box.Y.Hi, .bool vt5.Box.Y.Unknown, iV vt5.Box.Z.Lo, iV vt5.Box.Z.Hi, .bool vt5.Box.Z.Unknown, iV vt5.Flux.Lo, iV vt5.Flux.Hi, .bool vt5.Flux.Unknown, iV vt5.When.Lo, iV vt5.When.Hi, .bool vt5.When.Unknown, .slice A11 vt5.Frames.length c12, iV vt5.Marks], .slice (some ⟨b20, 0, none⟩) ([(⟨1, vt5⟩ : S_Change)] : List S_Change).length 1, .tuple #[.agg #[.slice A38 vt30.Commits.length c39], iV vt31, iV vt32], .agg #[.slice A38 vt30.Commits.length c39], iV vt31, iV vt32, .tuple #[.slice A63 vt56.length c64, iV vt57], .agg #[.slice A38 vt30.Commits.length c39], iV vt31, .tuple #[.slice A63 vt56.length c64, iV vt57], .slice A63 vt56.length c64, iV vt57, iV vt32, .bool true, .bool true, iV vt57, .bool true, .bool true, .bool true, iV vt31, .bool true, .bool true, .bool true, .slice A63 vt56.length c64, iV (vt56.length : Int), .bool ((vt56.length : Int) == 1), .bool ((vt56.length : Int) == 1), .bool ((vt56.length : Int) == 1), uV, uV, uV, uV, uV, uV], []⟩) rfl (by kernel_rfl) (by kernel_rfl) (by kernel_rfl) hnp (Sg.g0 (Sx.of [] (FM.le.refl _) HS71)) ?_
        have hq_ := ite_some h; clear h; rcases hq_ with ⟨c75, h⟩ | ⟨c75, h⟩
        · have c75 : (vt56.length : Int) = 1 := c75
          refine gateRwI 34 (x := ((vt56.length : Int) == 1)) (v := true) (by kernel_rfl) (beq_iff_eq.mpr c75) ?_
          refine gateRwI 35 (x := ((vt56.length : Int) == 1)) (v := true) (by kernel_rfl) (beq_iff_eq.mpr c75) ?_
          refine gateRwI 36 (x := ((vt56.length : Int) == 1)) (v := true) (by kernel_rfl) (beq_iff_eq.mpr c75) ?_
          have hq_ := guard_some h; clear h; obtain ⟨c76, h⟩ := hq_
          have c76 : 0 < (vt56.length : Int) := c76
          obtain ⟨b80, of81, cs77, hA82, hr78, hc79⟩ := HO66.at (i := 0) (by decide) c76
          obtain ⟨A83, c83, rfl, HR83⟩ := hr78
          refine takeG [16] (n := 7) (fuel := 6) (l' := #[true, true, true, true, true, true, true, true, true, true, true, true, true, true, true, true, true, false, false, false, false, false, false]) (a' := ⟨#[.bool false, .pointer (some ⟨b43, 0, none⟩), iV vt31, iV vt32, .slice A63 vt56.length c64, iV vt57, .tuple #[.agg #[.slice A38 vt30.Commits.length c39], iV vt31, iV vt32], .agg #[.slice none 0 0], (ag_Row vt5 A11 c12), .agg #[iV 1, iV vt5.ID, iV vt5.Box.X.Lo, iV vt5.Box.X.Hi, .bool vt5.Box.X.Unknown, iV vt5.Box.Y.Lo, iV vt5.Box.Y.Hi, .bool vt5.Box.Y.Unknown, iV vt5.Box.Z.Lo, iV vt5.Box.Z.Hi, .bool vt5.Box.Z.Unknown, iV vt5.Flux.Lo, iV vt5.Flux.Hi, .bool vt5.Flux.Unknown, iV vt5.When.Lo, iV vt5.When.Hi, .bool vt5.When.Unknown, .slice A11 vt5.Frames.length c12, iV vt5.Marks], .slice (some ⟨b20, 0, none⟩) ([(⟨1, vt5⟩ : S_Change)] : List S_Change).length 1, .tuple #[.agg #[.slice A38 vt30.Commits.length c39], iV vt31, iV vt32], .agg #[.slice A38 vt30.Commits.length c39], iV vt31, iV vt32, .tuple #[.slice A63 vt56.length c64, iV vt57], .agg #[.slice A38 vt30.Commits.length c39], iV vt31, .tuple #[.slice A63 vt56.length c64, iV vt57], .slice A63 vt56.length c64, iV vt57, iV vt32, .bool true, .bool true, iV vt57, .bool true, .bool true, .bool true, iV vt31, .bool true, .bool true, .bool true, .slice A63 vt56.length c64, iV (vt56.length : Int), .bool true, .bool true, .bool true, .slice A63 vt56.length c64, uV, uV, uV, uV, uV], []⟩) rfl (by kernel_rfl) (by kernel_rfl) (by kernel_rfl) hnp (Sg.g0 (Sx.of [] (FM.le.refl _) HS71)) ?_
          refine takeGQ 17 [] rfl (by kernel_rfl) (by kernel_rfl) (by kernel_rfl) (by kernel_rfl) (by kernel_rfl) (by kernel_rfl) hnp (Sg.g0 (Sx.of [] (FM.le.refl _) HS71)) (fun w_ hw_ => by obtain ⟨g_, hl_, hS_⟩ := hw_.st; exact run_indexE hA82 (sz := 18) rfl Try.underlying26 (by kernel_rfl) (by kernel_rfl : _ = Value.slice A63 vt56.length c64) (by kernel_rfl : _ = Value.int .i64 0) (by decide) c76 w_) ?_
          refine takeGQ 18 [] rfl (by kernel_rfl) (by kernel_rfl) (by kernel_rfl) (by kernel_rfl) (by kernel_rfl) (by kernel_rfl) hnp (Sg.g0 (Sx.of [] (FM.le.refl _) HS71)) (fun w_ hw_ => by obtain ⟨g_, hl_, hS_⟩ := hw_.st; exact run_loadN (n := 18) rfl Try.underlying65 rfl (by kernel_rfl) (by kernel_rfl : _ = Value.pointer (some ⟨b80, of81 + (0 : Int).toNat * 18, none⟩)) (cs := [.int .i64 ((rd vt56 0).ID), .int .i64 ((((rd vt56 0).Box).X).Lo), .int .i64 ((((rd vt56 0).Box).X).Hi), .bool ((((rd vt56 0).Box).X).Unknown), .int .i64 ((((rd vt56 0).Box).Y).Lo), .int .i64 ((((rd vt56 0).Box).Y).Hi), .bool ((((rd vt56 0).Box).Y).Unknown), .int .i64 ((((rd vt56 0).Box).Z).Lo), .int .i64 ((((rd vt56 0).Box).Z).Hi), .bool ((((rd vt56 0).Box).Z).Unknown), .int .i64 (((rd vt56 0).Flux).Lo), .int .i64 (((rd vt56 0).Flux).Hi), .bool (((rd vt56 0).Flux).Unknown), .int .i64 (((rd vt56 0).When).Lo), .int .i64 (((rd vt56 0).When).Hi), .bool (((rd vt56 0).When).Unknown), .slice A83 ((rd vt56 0).Frames).length c83, .int .i64 ((rd vt56 0).Marks)]) rfl (fun j_ hj_ => ((hc79 hS_) j_ hj_))) ?_
          have hq_ := bind_some h; clear h; obtain ⟨vt84, hc85, h⟩ := hq_
          refine takeGE 19 (by kernel_rfl) rfl (by kernel_rfl) (does_call (f := 36) (args := #[.int .i64 3]) (by kernel_rfl) (spykeep3_single.calls k 3 HS71 vt84 hc85) ?_)
          rintro _ W88 ⟨f86, A90, c91, s92, rfl, L87, HS89, HO93⟩
          refine ⟨_, rfl, ?_⟩
          refine ⟨(Sg.g0 (Sx.of [s92] L87 HS89)), ?_⟩
          obtain ⟨f95, L96, HS97, HR98, th99⟩ := HO93.lend HS89
          have hq_ := bind_some h; clear h; obtain ⟨vt100, hc101, h⟩ := hq_
          refine takeGE 20 (by kernel_rfl) rfl (by kernel_rfl) (does_call (f := 21) (args := #[.agg #[.int .i64 ((rd vt56 0).ID), .int .i64 ((((rd vt56 0).Box).X).Lo), .int .i64 ((((rd vt56 0).Box).X).Hi), .bool ((((rd vt56 0).Box).X).Unknown), .int .i64 ((((rd vt56 0).Box).Y).Lo), .int .i64 ((((rd vt56 0).Box).Y).Hi), .bool ((((rd vt56 0).Box).Y).Unknown), .int .i64 ((((rd vt56 0).Box).Z).Lo), .int .i64 ((((rd vt56 0).Box).Z).Hi), .bool ((((rd vt56 0).Box).Z).Unknown), .int .i64 (((rd vt56 0).Flux).Lo), .int .i64 (((rd vt56 0).Flux).Hi), .bool (((rd vt56 0).Flux).Unknown), .int .i64 (((rd vt56 0).When).Lo), .int .i64 (((rd vt56 0).When).Hi), .bool (((rd vt56 0).When).Unknown), .slice A83 ((rd vt56 0).Frames).length c83, .int .i64 ((rd vt56 0).Marks)], .agg #[.int .i64 vt84.ID, .int .i64 vt84.Box.X.Lo, .int .i64 vt84.Box.X.Hi, .bool vt84.Box.X.Unknown, .int .i64 vt84.Box.Y.Lo, .int .i64 vt84.Box.Y.Hi, .bool vt84.Box.Y.Unknown, .int .i64 vt84.Box.Z.Lo, .int .i64 vt84.Box.Z.Hi, .bool vt84.Box.Z.Unknown, .int .i64 vt84.Flux.Lo, .int .i64 vt84.Flux.Hi, .bool vt84.Flux.Unknown, .int .i64 vt84.When.Lo, .int .i64 vt84.When.Hi, .bool vt84.When.Unknown, .slice A90 vt84.Frames.length c91, .int .i64 vt84.Marks]]) (by kernel_rfl) (catalog_Same.calls k A83 c83 A90 c91 (rd vt56 0) vt84 HS97 (HR83.mono (L87.trans L96)) HR98 vt100 hc101) ?_)
          rintro _ W104 ⟨f102, rfl, L103, HS105⟩
          refine ⟨_, rfl, ?_⟩
          obtain ⟨f106, L107, HS108⟩ := th99 L103 HS105
          refine ⟨(Sg.g0 (Sx.of [s92] (L87.trans L107) HS108)), ?_⟩
          refine takeG [21, 22] (n := 2) (fuel := 0) (l' := #[true, true, true, true, true, true, true, true, true, true, true, true, true, true, true, true, true, true, true, true, true, true, true]) (a' := ⟨#[.bool vt100, .pointer (some ⟨b43, 0, none⟩), iV vt31, iV vt32, .slice A63 vt56.length c64, iV vt57, .tuple #[.agg #[.slice A38 vt30.Commits.length c39], iV vt31, iV vt32], .agg #[.slice none 0 0], (ag_Row vt5 A11 c12), .agg #[iV 1, iV vt5.ID, iV vt5.Box.X.Lo, iV vt5.Box.X.Hi, .bool vt5.Box.X.Unknown, iV vt5.Box.Y.Lo, iV vt5.Box.Y.Hi, .bool vt5.Box.Y.Unknown, iV vt5.Box.Z.Lo, iV vt5.Box.Z.Hi, .bool vt5.Box.Z.Unknown, iV vt5.Flux.Lo, iV vt5.Flux.Hi, .bool vt5.Flux.Unknown, iV vt5.When.Lo, iV vt5.When.Hi, .bool vt5.When.Unknown, .slice A11 vt5.Frames.length c12, iV vt5.Marks], .slice (some ⟨b20, 0, none⟩) ([(⟨1, vt5⟩ : S_Change)] : List S_Change).length 1, .tuple #[.agg #[.slice A38 vt30.Commits.length c39], iV vt31, iV vt32], .agg #[.slice A38 vt30.Commits.length c39], iV vt31, iV vt32, .tuple #[.slice A63 vt56.length c64, iV vt57], .agg #[.slice A38 vt30.Commits.length c39], iV vt31, .tuple #[.slice A63 vt56.length c64, iV vt57], .slice A63 vt56.length c64, iV vt57, iV vt32, .bool true, .bool true, iV vt57, .bool true, .bool true, .bool true, iV vt31, .bool true, .bool true, .bool true, .slice A63 vt56.length c64, iV (vt56.length : Int), .bool true, .bool true, .bool true, .slice A63 vt56.length c64, .pointer (some ⟨b80, of81 + (0 : Int).toNat * 18, none⟩), (ag_Row (rd vt56 0) A83 c83), (ag_Row vt84 A90 c91), .bool vt100, .bool vt100], []⟩) rfl (by kernel_rfl) (by kernel_rfl) (by kernel_rfl) hnp (Sg.g0 (Sx.of [s92] (L87.trans L107) HS108)) ?_
          refine doneG (by kernel_rfl) ?_ _
          refine hK69 _ _ ?_
          refine wp_ret ?_
          refine hret _ _ ?_
          refine ends_still (v := Value.bool vt100) (by kernel_rfl) (by kernel_rfl) ?_
          have HS109 := HS108.drop
          have HS110 := HS109.drop
          have HS111 := HS110.drop
          injection h with h
          subst h
          exact ⟨f106, rfl, (L8.trans (L17.trans (L27.trans (L35.trans (L53.trans (L60.trans (L87.trans L107))))))), HS111⟩
        · have c75 : ¬ ((vt56.length : Int) = 1) := c75
          refine gateRwI 34 (x := ((vt56.length : Int) == 1)) (v := false) (by kernel_rfl) (beq_eq_false_iff_ne.mpr c75) ?_
          refine gateRwI 35 (x := ((vt56.length : Int) == 1)) (v := false) (by kernel_rfl) (beq_eq_false_iff_ne.mpr c75) ?_
          refine gateRwI 36 (x := ((vt56.length : Int) == 1)) (v := false) (by kernel_rfl) (beq_eq_false_iff_ne.mpr c75) ?_
          refine takeG [16, 17, 18, 19, 20, 21, 22] (n := 7) (fuel := 0) (l' := #[true, true, true, true, true, true, true, true, true, true, true, true, true, true, true, true, true, true, true, true, true, true, true]) (a' := ⟨#[.bool false, .pointer (some ⟨b43, 0, none⟩), iV vt31, iV vt32, .slice A63 vt56.length c64, iV vt57, .tuple #[.agg #[.slice A38 vt30.Commits.length c39], iV vt31, iV vt32], .agg #[.slice none 0 0], (ag_Row vt5 A11 c12), .agg #[iV 1, iV vt5.ID, iV vt5.Box.X.Lo, iV vt5.Box.X.Hi, .bool vt5.Box.X.Unknown, iV vt5.Box.Y.Lo, iV vt5.Box.Y.Hi, .bool vt5.Box.Y.Unknown, iV vt5.Box.Z.Lo, iV vt5.Box.Z.Hi, .bool vt5.Box.Z.Unknown, iV vt5.Flux.Lo, iV vt5.Flux.Hi, .bool vt5.Flux.Unknown, iV vt5.When.Lo, iV vt5.When.Hi, .bool vt5.When.Unknown, .slice A11 vt5.Frames.length c12, iV vt5.Marks], .slice (some ⟨b20, 0, none⟩) ([(⟨1, vt5⟩ : S_Change)] : List S_Change).length 1, .tuple #[.agg #[.slice A38 vt30.Commits.length c39], iV vt31, iV vt32], .agg #[.slice A38 vt30.Commits.length c39], iV vt31, iV vt32, .tuple #[.slice A63 vt56.length c64, iV vt57], .agg #[.slice A38 vt30.Commits.length c39], iV vt31, .tuple #[.slice A63 vt56.length c64, iV vt57], .slice A63 vt56.length c64, iV vt57, iV vt32, .bool true, .bool true, iV vt57, .bool true, .bool true, .bool true, iV vt31, .bool true, .bool true, .bool true, .slice A63 vt56.length c64, iV (vt56.length : Int), .bool false, .bool false, .bool false, uV, uV, uV, uV, uV, .bool false], []⟩) rfl (by kernel_rfl) (by kernel_rfl) (by kernel_rfl) hnp (Sg.g0 (Sx.of [] (FM.le.refl _) HS71)) ?_
          refine doneG (by kernel_rfl) ?_ _
          refine hK69 _ _ ?_
          refine wp_ret ?_
          refine hret _ _ ?_
          refine ends_still (v := Value.bool false) (by kernel_rfl) (by kernel_rfl) ?_
          have HS112 := HS71.drop
          have HS113 := HS112.drop
          injection h with h
          subst h
          exact ⟨f59, rfl, (L8.trans (L17.trans (L27.trans (L35.trans (L53.trans L60))))), HS113⟩
      · have c74 : ¬ (vt31 = 1) := c74
        refine gateRwI 29 (x := (vt31 == 1)) (v := false) (by kernel_rfl) (beq_eq_false_iff_ne.mpr c74) ?_
        refine gateRwI 30 (x := (vt31 == 1)) (v := false) (by kernel_rfl) (beq_eq_false_iff_ne.mpr c74) ?_
        refine gateRwI 31 (x := (vt31 == 1)) (v := false) (by kernel_rfl) (beq_eq_false_iff_ne.mpr c74) ?_
        refine takeG [11, 12, 13, 14, 15, 16, 17, 18, 19, 20, 21, 22] (n := 12) (fuel := 0) (l' := #[true, true, true, true, true, true, true, true, true, true, true, true, true, true, true, true, true, true, true, true, true, true, true]) (a' := ⟨#[.bool false, .pointer (some ⟨b43, 0, none⟩), iV vt31, iV vt32, .slice A63 vt56.length c64, iV vt57, .tuple #[.agg #[.slice A38 vt30.Commits.length c39], iV vt31, iV vt32], .agg #[.slice none 0 0], (ag_Row vt5 A11 c12), .agg #[iV 1, iV vt5.ID, iV vt5.Box.X.Lo, iV vt5.Box.X.Hi, .bool vt5.Box.X.Unknown, iV vt5.Box.Y.Lo, iV vt5.Box.Y.Hi, .bool vt5.Box.Y.Unknown, iV vt5.Box.Z.Lo, iV vt5.Box.Z.Hi, .bool vt5.Box.Z.Unknown, iV vt5.Flux.Lo, iV vt5.Flux.Hi, .bool vt5.Flux.Unknown, iV vt5.When.Lo, iV vt5.When.Hi, .bool vt5.When.Unknown, .slice A11 vt5.Frames.length c12, iV vt5.Marks], .slice (some ⟨b20, 0, none⟩) ([(⟨1, vt5⟩ : S_Change)] : List S_Change).length 1, .tuple #[.agg #[.slice A38 vt30.Commits.length c39], iV vt31, iV vt32], .agg #[.slice A38 vt30.Commits.length c39], iV vt31, iV vt32, .tuple #[.slice A63 vt56.length c64, iV vt57], .agg #[.slice A38 vt30.Commits.length c39], iV vt31, .tuple #[.slice A63 vt56.length c64, iV vt57], .slice A63 vt56.length c64, iV vt57, iV vt32, .bool true, .bool true, iV vt57, .bool true, .bool true, .bool true, iV vt31, .bool false, .bool false, .bool false, uV, uV, uV, .bool false, .bool false, uV, uV, uV, uV, uV, .bool false], []⟩) rfl (by kernel_rfl) (by kernel_rfl) (by kernel_rfl) hnp (Sg.g0 (Sx.of [] (FM.le.refl _) HS71)) ?_
        refine doneG (by kernel_rfl) ?_ _
        refine hK69 _ _ ?_
        refine wp_ret ?_
        refine hret _ _ ?_
        refine ends_still (v := Value.bool false) (by kernel_rfl) (by kernel_rfl) ?_
        have HS114 := HS71.drop
        have HS115 := HS114.drop
        injection h with h
        subst h
        exact ⟨f59, rfl, (L8.trans (L17.trans (L27.trans (L35.trans (L53.trans L60))))), HS115⟩
    · have c73 : ¬ (vt57 = 0) := c73
      refine gateRwI 25 (x := (vt57 == 0)) (v := false) (by kernel_rfl) (beq_eq_false_iff_ne.mpr c73) ?_
      refine gateRwI 26 (x := (vt57 == 0)) (v := false) (by kernel_rfl) (beq_eq_false_iff_ne.mpr c73) ?_
      refine gateRwI 27 (x := (vt57 == 0)) (v := false) (by kernel_rfl) (beq_eq_false_iff_ne.mpr c73) ?_
      refine takeG [7, 8, 9, 10, 11, 12, 13, 14, 15, 16, 17, 18, 19, 20, 21, 22] (n := 16) (fuel := 0) (l' := #[true, true, true, true, true, true, true, true, true, true, true, true, true, true, true, true, true, true, true, true, true, true, true]) (a' := ⟨#[.bool false, .pointer (some ⟨b43, 0, none⟩), iV vt31, iV vt32, .slice A63 vt56.length c64, iV vt57, .tuple #[.agg #[.slice A38 vt30.Commits.length c39], iV vt31, iV vt32], .agg #[.slice none 0 0], (ag_Row vt5 A11 c12), .agg #[iV 1, iV vt5.ID, iV vt5.Box.X.Lo, iV vt5.Box.X.Hi, .bool vt5.Box.X.Unknown, iV vt5.Box.Y.Lo, iV vt5.Box.Y.Hi, .bool vt5.Box.Y.Unknown, iV vt5.Box.Z.Lo, iV vt5.Box.Z.Hi, .bool vt5.Box.Z.Unknown, iV vt5.Flux.Lo, iV vt5.Flux.Hi, .bool vt5.Flux.Unknown, iV vt5.When.Lo, iV vt5.When.Hi, .bool vt5.When.Unknown, .slice A11 vt5.Frames.length c12, iV vt5.Marks], .slice (some ⟨b20, 0, none⟩) ([(⟨1, vt5⟩ : S_Change)] : List S_Change).length 1, .tuple #[.agg #[.slice A38 vt30.Commits.length c39], iV vt31, iV vt32], .agg #[.slice A38 vt30.Commits.length c39], iV vt31, iV vt32, .tuple #[.slice A63 vt56.length c64, iV vt57], .agg #[.slice A38 vt30.Commits.length c39], iV vt31, .tuple #[.slice A63 vt56.length c64, iV vt57], .slice A63 vt56.length c64, iV vt57, iV vt32, .bool true, .bool true, iV vt57, .bool false, .bool false, .bool false, uV, uV, .bool false, .bool false, uV, uV, uV, .bool false, .bool false, uV, uV, uV, uV, uV, .bool false], []⟩) rfl (by kernel_rfl) (by kernel_rfl) (by kernel_rfl) hnp (Sg.g0 (Sx.of [] (FM.le.refl _) HS71)) ?_
      refine doneG (by kernel_rfl) ?_ _
      refine hK69 _ _ ?_
      refine wp_ret ?_
      refine hret _ _ ?_
      refine ends_still (v := Value.bool false) (by kernel_rfl) (by kernel_rfl) ?_
      have HS116 := HS71.drop
      have HS117 := HS116.drop
      injection h with h
      subst h
      exact ⟨f59, rfl, (L8.trans (L17.trans (L27.trans (L35.trans (L53.trans L60))))), HS117⟩
  · have c72 : ¬ (vt32 = 0) := c72
    refine gateRwI 22 (x := (vt32 == 0)) (v := false) (by kernel_rfl) (beq_eq_false_iff_ne.mpr c72) ?_
    refine gateRwI 23 (x := (vt32 == 0)) (v := false) (by kernel_rfl) (beq_eq_false_iff_ne.mpr c72) ?_
    refine takeG [3, 4, 5, 6, 7, 8, 9, 10, 11, 12, 13, 14, 15, 16, 17, 18, 19, 20, 21, 22] (n := 20) (fuel := 0) (l' := #[true, true, true, true, true, true, true, true, true, true, true, true, true, true, true, true, true, true, true, true, true, true, true]) (a' := ⟨#[.bool false, .pointer (some ⟨b43, 0, none⟩), iV vt31, iV vt32, .slice A63 vt56.length c64, iV vt57, .tuple #[.agg #[.slice A38 vt30.Commits.length c39], iV vt31, iV vt32], .agg #[.slice none 0 0], (ag_Row vt5 A11 c12), .agg #[iV 1, iV vt5.ID, iV vt5.Box.X.Lo, iV vt5.Box.X.Hi, .bool vt5.Box.X.Unknown, iV vt5.Box.Y.Lo, iV vt5.Box.Y.Hi, .bool vt5.Box.Y.Unknown, iV vt5.Box.Z.Lo, iV vt5.Box.Z.Hi, .bool vt5.Box.Z.Unknown, iV vt5.Flux.Lo, iV vt5.Flux.Hi, .bool vt5.Flux.Unknown, iV vt5.When.Lo, iV vt5.When.Hi, .bool vt5.When.Unknown, .slice A11 vt5.Frames.length c12, iV vt5.Marks], .slice (some ⟨b20, 0, none⟩) ([(⟨1, vt5⟩ : S_Change)] : List S_Change).length 1, .tuple #[.agg #[.slice A38 vt30.Commits.length c39], iV vt31, iV vt32], .agg #[.slice A38 vt30.Commits.length c39], iV vt31, iV vt32, .tuple #[.slice A63 vt56.length c64, iV vt57], .agg #[.slice A38 vt30.Commits.length c39], iV vt31, .tuple #[.slice A63 vt56.length c64, iV vt57], .slice A63 vt56.length c64, iV vt57, iV vt32, .bool false, .bool false, uV, uV, .bool false, .bool false, uV, uV, .bool false, .bool false, uV, uV, uV, .bool false, .bool false, uV, uV, uV, uV, uV, .bool false], []⟩) rfl (by kernel_rfl) (by kernel_rfl) (by kernel_rfl) hnp (Sg.g0 (Sx.of [] (FM.le.refl _) HS71)) ?_
    refine doneG (by kernel_rfl) ?_ _
    refine hK69 _ _ ?_
    refine wp_ret ?_
    refine hret _ _ ?_
    refine ends_still (v := Value.bool false) (by kernel_rfl) (by kernel_rfl) ?_
    have HS118 := HS71.drop
    have HS119 := HS118.drop
    injection h with h
    subst h
    exact ⟨f59, rfl, (L8.trans (L17.trans (L27.trans (L35.trans (L53.trans L60))))), HS119⟩

set_option maxRecDepth 100000 in
set_option maxHeartbeats 4000000 in
theorem slices_EqualFunc_Row__catalog_Same.calls (k : Nat) (A2 : Option Addr) (c3 : Nat) (A6 : Option Addr) (c7 : Nat) (s11 : List S_Row) (s25 : List S_Row) {t w : World} {f : FM} {H : List Seg} (HS : St t w f (H)) (HR4 : SlR ty_Row f A2 c3 s11) (HR8 : SlR ty_Row f A6 c7 s25) (rr1 : Bool) (h : slices_EqualFunc_Row__catalog_Same k s11 s25 = some rr1) :
    Calls Try.prog 37 #[.slice A2 s11.length c3, .slice A6 s25.length c7, .func (.func 21) #[] #[]] w (fun e w' => ∃ (g : FM), e = .returned (Value.bool rr1) ∧ FM.le f g ∧ St t w' g (H)) := by
  unfold slices_EqualFunc_Row__catalog_Same at h
  refine enter Try.func37 rfl (tm := #[.slice A2 s11.length c3, .slice A6 s25.length c7, .func (.func 21) #[] #[], uV, uV, uV, uV, uV, uV, uV, uV, uV, uV, uV, uV, uV, uV, uV, uV, uV, uV, uV, uV, uV, uV, uV, uV, uV, uV, uV, uV, uV]) (by kernel_rfl) ?_
  intro B hret hnor hnp
  refine wp_seq_k (fun K9 hK10 => ?_)
  refine wp_region_lit ?_
  refine seqS1 (a' := ⟨#[.slice A2 s11.length c3, .slice A6 s25.length c7, .func (.func 21) #[] #[], uV, uV, uV, .bool false, uV, uV, uV, uV, uV, uV, uV, uV, uV, uV, uV, uV, uV, uV, uV, uV, uV, uV, uV, uV, uV, uV, uV, uV, uV], []⟩) (by kernel_rfl) ?_
  refine wpList_nil ?_
  refine hK10 _ _ ?_
  refine wp_seq_k (fun K11 hK12 => ?_)
  refine wp_seq_k (fun K13 hK14 => ?_)
  refine wp_region_lit ?_
  refine seqS5 (a' := ⟨#[.slice A2 s11.length c3, .slice A6 s25.length c7, .func (.func 21) #[] #[], uV, uV, uV, .bool false, uV, uV, uV, .slice A2 s11.length c3, iV (s11.length : Int), .slice A6 s25.length c7, iV (s25.length : Int), .bool ((s11.length : Int) != (s25.length : Int)), uV, uV, uV, uV, uV, uV, uV, uV, uV, uV, uV, uV, uV, uV, uV, uV, uV], []⟩) (by kernel_rfl) ?_
  refine wpList_nil ?_
  refine hK14 _ _ ?_
  have hq_ := ite_some h; clear h; rcases hq_ with ⟨c16, h⟩ | ⟨c16, h⟩
  · have c16 : (s11.length : Int) ≠ (s25.length : Int) := c16
    refine wpRwI 14 (x := ((s11.length : Int) != (s25.length : Int))) (v := true) (by kernel_rfl) (bne_iff_ne.mpr c16) ?_
    refine condT (by kernel_rfl) ?_
    refine wp_seq_k (fun K17 hK18 => ?_)
    refine wp_region_lit ?_
    refine seqS1 (a' := ⟨#[.slice A2 s11.length c3, .slice A6 s25.length c7, .func (.func 21) #[] #[], uV, uV, uV, .bool false, uV, uV, uV, .slice A2 s11.length c3, iV (s11.length : Int), .slice A6 s25.length c7, iV (s25.length : Int), .bool true, uV, uV, uV, uV, uV, uV, uV, uV, uV, uV, uV, uV, uV, uV, uV, uV, uV], []⟩) (by kernel_rfl) ?_
    refine wpList_nil ?_
    refine hK18 _ _ ?_
    refine wp_ret ?_
    refine hret _ _ ?_
    refine ends_still (v := Value.bool false) (by kernel_rfl) (by kernel_rfl) ?_
    injection h with h
    subst h
    exact ⟨f, rfl, FM.le.refl _, HS⟩
  · have c16 : ¬ ((s11.length : Int) ≠ (s25.length : Int)) := c16
    refine wpRwI 14 (x := ((s11.length : Int) != (s25.length : Int))) (v := false) (by kernel_rfl) (bne_eq_false_iff_eq.mpr (Decidable.of_not_not c16)) ?_
    refine condF (by kernel_rfl) ?_
    refine wp_skip ?_
    refine hK12 _ _ ?_
    refine wp_seq_k (fun K19 hK20 => ?_)
    refine wp_seq_k (fun K21 hK22 => ?_)
    refine wp_region_lit ?_
    refine seqS3 (a' := ⟨#[.slice A2 s11.length c3, .slice A6 s25.length c7, .func (.func 21) #[] #[], uV, uV, uV, .bool false, uV, uV, uV, .slice A2 s11.length c3, iV (s11.length : Int), .slice A6 s25.length c7, iV (s25.length : Int), .bool false, .slice A2 s11.length c3, iV (s11.length : Int), iV 0, uV, uV, uV, uV, uV, uV, uV, uV, uV, uV, uV, uV, uV, uV], []⟩) (by kernel_rfl) ?_
    refine wpList_nil ?_
    refine hK22 _ _ ?_
    refine blockK (fun B23 hx24 hn25 hr26 ho27 hp28 => ?_)
    have hq_ := bind_some h; clear h; obtain ⟨o29, hv103, h⟩ := hq_
    have JR105 : ∀ z_, some (Sum.inl z_) = some o29 → some z_ = some rr1 := by
      intro z_ e_; injection e_ with e_; subst e_; exact h
    have J104 : ∀ (f98 : FM) (j102 : Nat → Value) (W100 : World) (a_ : Act), FM.le f f98 → some (Sum.inr ()) = some o29 → St t W100 f98 (H) → a_ = ⟨#[.slice A2 s11.length c3, .slice A6 s25.length c7, .func (.func 21) #[] #[], uV, uV, uV, (j102 0), (j102 1), (j102 2), (j102 3), .slice A2 s11.length c3, iV (s11.length : Int), .slice A6 s25.length c7, iV (s25.length : Int), .bool false, .slice A2 s11.length c3, iV (s11.length : Int), (j102 4), (j102 5), (j102 6), (j102 7), (j102 8), (j102 9), (j102 10), (j102 11), (j102 12), (j102 13), (j102 14), (j102 15), (j102 16), (j102 17), (j102 18)], []⟩ → K19 a_ W100 := by
      intro f98 j102 W100 a_ L99 hj106 HS101  hfr_; subst hfr_
      injection hj106 with hj106; subst hj106; try dsimp only at h
      simp only [Sum.elim_inr] at h
      refine hK20 _ _ ?_
      refine wp_seq_k (fun K111 hK112 => ?_)
      refine wp_region_lit ?_
      refine seqS1 (a' := ⟨#[.slice A2 s11.length c3, .slice A6 s25.length c7, .func (.func 21) #[] #[], uV, uV, uV, .bool true, (j102 1), (j102 2), (j102 3), .slice A2 s11.length c3, iV (s11.length : Int), .slice A6 s25.length c7, iV (s25.length : Int), .bool false, .slice A2 s11.length c3, iV (s11.length : Int), (j102 4), (j102 5), (j102 6), (j102 7), (j102 8), (j102 9), (j102 10), (j102 11), (j102 12), (j102 13), (j102 14), (j102 15), (j102 16), (j102 17), (j102 18)], []⟩) (by kernel_rfl) ?_
      refine wpList_nil ?_
      refine hK112 _ _ ?_
      refine wp_ret ?_
      refine hret _ _ ?_
      refine ends_still (v := Value.bool true) (by kernel_rfl) (by kernel_rfl) ?_
      injection h with h
      subst h
      exact ⟨f98, rfl, L99, HS101⟩
    clear h; have h := hv103; clear hv103
    refine loopK (fun n_ a_ w_ => ∃ (f33 : FM) (x38 : Int) (j37 : Nat → Value), FM.le f f33 ∧ St t w_ f33 (H) ∧ slices_EqualFunc_Row__catalog_Same.l0 k s11 s25 n_ x38 = some o29 ∧ a_ = ⟨#[.slice A2 s11.length c3, .slice A6 s25.length c7, .func (.func 21) #[] #[], uV, uV, uV, (j37 0), (j37 1), (j37 2), (j37 3), .slice A2 s11.length c3, iV (s11.length : Int), .slice A6 s25.length c7, iV (s25.length : Int), .bool false, .slice A2 s11.length c3, iV (s11.length : Int), iV x38, (j37 4), (j37 5), (j37 6), (j37 7), (j37 8), (j37 9), (j37 10), (j37 11), (j37 12), (j37 13), (j37 14), (j37 15), (j37 16), (j37 17)], []⟩) k ⟨f, 0, (fun i_ => [Value.bool false, undef, undef, undef, undef, undef, undef, undef, undef, undef, undef, undef, undef, undef, undef, undef, undef, undef].getD i_ undef), (FM.le.refl _), HS, h, (by kernel_rfl)⟩ ?_
    clear h
    rintro n32 _ W35 ⟨f33, x38, j37, L34, HS36, h, rfl⟩ K30 hK31
    obtain _ | n32 := n32
    · exact nomatch h
    simp only [slices_EqualFunc_Row__catalog_Same.l0] at h
    refine wp_seq_k (fun K39 hK40 => ?_)
    refine wp_region_lit ?_
    refine seqS1 (a' := ⟨#[.slice A2 s11.length c3, .slice A6 s25.length c7, .func (.func 21) #[] #[], uV, uV, uV, (j37 0), (j37 1), (j37 2), (j37 3), .slice A2 s11.length c3, iV (s11.length : Int), .slice A6 s25.length c7, iV (s25.length : Int), .bool false, .slice A2 s11.length c3, iV (s11.length : Int), iV x38, .bool (decide (x38 < (s11.length : Int))), (j37 5), (j37 6), (j37 7), (j37 8), (j37 9), (j37 10), (j37 11), (j37 12), (j37 13), (j37 14), (j37 15), (j37 16), (j37 17)], []⟩) (by kernel_rfl) ?_
    refine wpList_nil ?_
    refine hK40 _ _ ?_
    refine wp_seq_k (fun K41 hK42 => ?_)
    have hq_ := ite_some h; clear h; rcases hq_ with ⟨c44, h⟩ | ⟨c44, h⟩
    · have c44 : x38 < (s11.length : Int) := c44
      refine wpRwI 18 (x := (decide (x38 < (s11.length : Int)))) (v := true) (by kernel_rfl) (decide_eq_true c44) ?_
      refine condT (by kernel_rfl) ?_
      refine wp_skip ?_
      refine hK42 _ _ ?_
      refine wp_seq_k (fun K45 hK46 => ?_)
      refine blockK (fun B47 hx48 hn49 hr50 ho51 hp52 => ?_)
      refine wp_seq_k (fun K54 hK55 => ?_)
      refine wp_region_lit ?_
      have hq_ := guard_some h; clear h; obtain ⟨c56, h⟩ := hq_
      have c56 : 0 ≤ x38 := c56
      obtain ⟨b60, of61, cs57, hA62, hr58, hc59⟩ := (HR4.mono L34).at (i := x38) c56 c44
      obtain ⟨A63, c63, rfl, HR63⟩ := hr58
      refine seqL1 (by kernel_rfl) ?_
      refine seqK rfl (does_run (run_indexE hA62 (sz := 18) rfl Try.underlying26 (by kernel_rfl) (by kernel_rfl : _ = Value.slice A2 s11.length c3) (by kernel_rfl : _ = Value.int .i64 x38) c56 c44 W35) ?_)
      refine seqK rfl (does_run (run_loadN (n := 18) rfl Try.underlying65 rfl (by kernel_rfl) (by kernel_rfl : _ = Value.pointer (some ⟨b60, of61 + (x38 : Int).toNat * 18, none⟩)) (cs := [.int .i64 ((rd s11 x38).ID), .int .i64 ((((rd s11 x38).Box).X).Lo), .int .i64 ((((rd s11 x38).Box).X).Hi), .bool ((((rd s11 x38).Box).X).Unknown), .int .i64 ((((rd s11 x38).Box).Y).Lo), .int .i64 ((((rd s11 x38).Box).Y).Hi), .bool ((((rd s11 x38).Box).Y).Unknown), .int .i64 ((((rd s11 x38).Box).Z).Lo), .int .i64 ((((rd s11 x38).Box).Z).Hi), .bool ((((rd s11 x38).Box).Z).Unknown), .int .i64 (((rd s11 x38).Flux).Lo), .int .i64 (((rd s11 x38).Flux).Hi), .bool (((rd s11 x38).Flux).Unknown), .int .i64 (((rd s11 x38).When).Lo), .int .i64 (((rd s11 x38).When).Hi), .bool (((rd s11 x38).When).Unknown), .slice A63 ((rd s11 x38).Frames).length c63, .int .i64 ((rd s11 x38).Marks)]) rfl (fun j_ hj_ => ((hc59 (FM.le.refl _) HS36) j_ hj_))) ?_)
      refine seqK rfl (does_alloc (z := Value.agg #[.int .i64 0, .int .i64 0, .int .i64 0, .bool false, .int .i64 0, .int .i64 0, .bool false, .int .i64 0, .int .i64 0, .bool false, .int .i64 0, .int .i64 0, .bool false, .int .i64 0, .int .i64 0, .bool false, .slice none 0 0, .int .i64 0]) (cs := #[.int .i64 0, .int .i64 0, .int .i64 0, .bool false, .int .i64 0, .int .i64 0, .bool false, .int .i64 0, .int .i64 0, .bool false, .int .i64 0, .int .i64 0, .bool false, .int .i64 0, .int .i64 0, .bool false, .slice none 0 0, .int .i64 0]) rfl (by kernel_rfl) rfl HS36 ?_)
      intro b64 W65 HS66
      refine seqL1 (by kernel_rfl) ?_
      refine seqK rfl (does_store (n := 18) (vs := [.int .i64 ((rd s11 x38).ID), .int .i64 ((((rd s11 x38).Box).X).Lo), .int .i64 ((((rd s11 x38).Box).X).Hi), .bool ((((rd s11 x38).Box).X).Unknown), .int .i64 ((((rd s11 x38).Box).Y).Lo), .int .i64 ((((rd s11 x38).Box).Y).Hi), .bool ((((rd s11 x38).Box).Y).Unknown), .int .i64 ((((rd s11 x38).Box).Z).Lo), .int .i64 ((((rd s11 x38).Box).Z).Hi), .bool ((((rd s11 x38).Box).Z).Unknown), .int .i64 (((rd s11 x38).Flux).Lo), .int .i64 (((rd s11 x38).Flux).Hi), .bool (((rd s11 x38).Flux).Unknown), .int .i64 (((rd s11 x38).When).Lo), .int .i64 (((rd s11 x38).When).Hi), .bool (((rd s11 x38).When).Unknown), .slice A63 ((rd s11 x38).Frames).length c63, .int .i64 ((rd s11 x38).Marks)]) (cs' := #[.int .i64 ((rd s11 x38).ID), .int .i64 ((((rd s11 x38).Box).X).Lo), .int .i64 ((((rd s11 x38).Box).X).Hi), .bool ((((rd s11 x38).Box).X).Unknown), .int .i64 ((((rd s11 x38).Box).Y).Lo), .int .i64 ((((rd s11 x38).Box).Y).Hi), .bool ((((rd s11 x38).Box).Y).Unknown), .int .i64 ((((rd s11 x38).Box).Z).Lo), .int .i64 ((((rd s11 x38).Box).Z).Hi), .bool ((((rd s11 x38).Box).Z).Unknown), .int .i64 (((rd s11 x38).Flux).Lo), .int .i64 (((rd s11 x38).Flux).Hi), .bool (((rd s11 x38).Flux).Unknown), .int .i64 (((rd s11 x38).When).Lo), .int .i64 (((rd s11 x38).When).Hi), .bool (((rd s11 x38).When).Unknown), .slice A63 ((rd s11 x38).Frames).length c63, .int .i64 ((rd s11 x38).Marks)]) rfl (by kernel_rfl) (by kernel_rfl : _ = Value.pointer (some ⟨b64, 0, none⟩)) (by kernel_rfl : _ = Value.agg #[.int .i64 ((rd s11 x38).ID), .int .i64 ((((rd s11 x38).Box).X).Lo), .int .i64 ((((rd s11 x38).Box).X).Hi), .bool ((((rd s11 x38).Box).X).Unknown), .int .i64 ((((rd s11 x38).Box).Y).Lo), .int .i64 ((((rd s11 x38).Box).Y).Hi), .bool ((((rd s11 x38).Box).Y).Unknown), .int .i64 ((((rd s11 x38).Box).Z).Lo), .int .i64 ((((rd s11 x38).Box).Z).Hi), .bool ((((rd s11 x38).Box).Z).Unknown), .int .i64 (((rd s11 x38).Flux).Lo), .int .i64 (((rd s11 x38).Flux).Hi), .bool (((rd s11 x38).Flux).Unknown), .int .i64 (((rd s11 x38).When).Lo), .int .i64 (((rd s11 x38).When).Hi), .bool (((rd s11 x38).When).Unknown), .slice A63 ((rd s11 x38).Frames).length c63, .int .i64 ((rd s11 x38).Marks)]) rfl rfl (by intro u_ hu_; simp only [List.mem_cons, List.not_mem_nil, or_false] at hu_; rcases hu_ with rfl | rfl | rfl | rfl | rfl | rfl | rfl | rfl | rfl | rfl | rfl | rfl | rfl | rfl | rfl | rfl | rfl | rfl <;> rfl) HS66 (Nat.le_of_ble_eq_true rfl) (by kernel_rfl) ?_)
      intro W68 HS69
      refine wpList_nil ?_
      refine hK55 _ _ ?_
      refine wp_seq_k (fun K70 hK71 => ?_)
      refine wp_region_lit ?_
      have hq_ := guard_some h; clear h; obtain ⟨c72, h⟩ := hq_
      have c72 : x38 < (s25.length : Int) := c72
      obtain ⟨b76, of77, cs73, hA78, hr74, hc75⟩ := (HR8.mono L34).at (i := x38) c56 c72
      obtain ⟨A79, c79, rfl, HR79⟩ := hr74
      refine seqL2 (by kernel_rfl) ?_
      refine seqK rfl (does_run (run_indexE hA78 (sz := 18) rfl Try.underlying26 (by kernel_rfl) (by kernel_rfl : _ = Value.slice A6 s25.length c7) (by kernel_rfl : _ = Value.int .i64 x38) c56 c72 W68) ?_)
      refine seqK rfl (does_run (run_loadN (n := 18) rfl Try.underlying65 rfl (by kernel_rfl) (by kernel_rfl : _ = Value.pointer (some ⟨b76, of77 + (x38 : Int).toNat * 18, none⟩)) (cs := [.int .i64 ((rd s25 x38).ID), .int .i64 ((((rd s25 x38).Box).X).Lo), .int .i64 ((((rd s25 x38).Box).X).Hi), .bool ((((rd s25 x38).Box).X).Unknown), .int .i64 ((((rd s25 x38).Box).Y).Lo), .int .i64 ((((rd s25 x38).Box).Y).Hi), .bool ((((rd s25 x38).Box).Y).Unknown), .int .i64 ((((rd s25 x38).Box).Z).Lo), .int .i64 ((((rd s25 x38).Box).Z).Hi), .bool ((((rd s25 x38).Box).Z).Unknown), .int .i64 (((rd s25 x38).Flux).Lo), .int .i64 (((rd s25 x38).Flux).Hi), .bool (((rd s25 x38).Flux).Unknown), .int .i64 (((rd s25 x38).When).Lo), .int .i64 (((rd s25 x38).When).Hi), .bool (((rd s25 x38).When).Unknown), .slice A79 ((rd s25 x38).Frames).length c79, .int .i64 ((rd s25 x38).Marks)]) rfl (fun j_ hj_ => ((hc75 (FM.le.refl _) HS69) j_ hj_))) ?_)
      refine seqK rfl (does_alloc (z := Value.agg #[.int .i64 0, .int .i64 0, .int .i64 0, .bool false, .int .i64 0, .int .i64 0, .bool false, .int .i64 0, .int .i64 0, .bool false, .int .i64 0, .int .i64 0, .bool false, .int .i64 0, .int .i64 0, .bool false, .slice none 0 0, .int .i64 0]) (cs := #[.int .i64 0, .int .i64 0, .int .i64 0, .bool false, .int .i64 0, .int .i64 0, .bool false, .int .i64 0, .int .i64 0, .bool false, .int .i64 0, .int .i64 0, .bool false, .int .i64 0, .int .i64 0, .bool false, .slice none 0 0, .int .i64 0]) rfl (by kernel_rfl) rfl HS69 ?_)
      intro b80 W81 HS82
      refine seqK rfl (does_store (n := 18) (vs := [.int .i64 ((rd s25 x38).ID), .int .i64 ((((rd s25 x38).Box).X).Lo), .int .i64 ((((rd s25 x38).Box).X).Hi), .bool ((((rd s25 x38).Box).X).Unknown), .int .i64 ((((rd s25 x38).Box).Y).Lo), .int .i64 ((((rd s25 x38).Box).Y).Hi), .bool ((((rd s25 x38).Box).Y).Unknown), .int .i64 ((((rd s25 x38).Box).Z).Lo), .int .i64 ((((rd s25 x38).Box).Z).Hi), .bool ((((rd s25 x38).Box).Z).Unknown), .int .i64 (((rd s25 x38).Flux).Lo), .int .i64 (((rd s25 x38).Flux).Hi), .bool (((rd s25 x38).Flux).Unknown), .int .i64 (((rd s25 x38).When).Lo), .int .i64 (((rd s25 x38).When).Hi), .bool (((rd s25 x38).When).Unknown), .slice A79 ((rd s25 x38).Frames).length c79, .int .i64 ((rd s25 x38).Marks)]) (cs' := #[.int .i64 ((rd s25 x38).ID), .int .i64 ((((rd s25 x38).Box).X).Lo), .int .i64 ((((rd s25 x38).Box).X).Hi), .bool ((((rd s25 x38).Box).X).Unknown), .int .i64 ((((rd s25 x38).Box).Y).Lo), .int .i64 ((((rd s25 x38).Box).Y).Hi), .bool ((((rd s25 x38).Box).Y).Unknown), .int .i64 ((((rd s25 x38).Box).Z).Lo), .int .i64 ((((rd s25 x38).Box).Z).Hi), .bool ((((rd s25 x38).Box).Z).Unknown), .int .i64 (((rd s25 x38).Flux).Lo), .int .i64 (((rd s25 x38).Flux).Hi), .bool (((rd s25 x38).Flux).Unknown), .int .i64 (((rd s25 x38).When).Lo), .int .i64 (((rd s25 x38).When).Hi), .bool (((rd s25 x38).When).Unknown), .slice A79 ((rd s25 x38).Frames).length c79, .int .i64 ((rd s25 x38).Marks)]) rfl (by kernel_rfl) (by kernel_rfl : _ = Value.pointer (some ⟨b80, 0, none⟩)) (by kernel_rfl : _ = Value.agg #[.int .i64 ((rd s25 x38).ID), .int .i64 ((((rd s25 x38).Box).X).Lo), .int .i64 ((((rd s25 x38).Box).X).Hi), .bool ((((rd s25 x38).Box).X).Unknown), .int .i64 ((((rd s25 x38).Box).Y).Lo), .int .i64 ((((rd s25 x38).Box).Y).Hi), .bool ((((rd s25 x38).Box).Y).Unknown), .int .i64 ((((rd s25 x38).Box).Z).Lo), .int .i64 ((((rd s25 x38).Box).Z).Hi), .bool ((((rd s25 x38).Box).Z).Unknown), .int .i64 (((rd s25 x38).Flux).Lo), .int .i64 (((rd s25 x38).Flux).Hi), .bool (((rd s25 x38).Flux).Unknown), .int .i64 (((rd s25 x38).When).Lo), .int .i64 (((rd s25 x38).When).Hi), .bool (((rd s25 x38).When).Unknown), .slice A79 ((rd s25 x38).Frames).length c79, .int .i64 ((rd s25 x38).Marks)]) rfl rfl (by intro u_ hu_; simp only [List.mem_cons, List.not_mem_nil, or_false] at hu_; rcases hu_ with rfl | rfl | rfl | rfl | rfl | rfl | rfl | rfl | rfl | rfl | rfl | rfl | rfl | rfl | rfl | rfl | rfl | rfl <;> rfl) HS82 (Nat.le_of_ble_eq_true rfl) (by kernel_rfl) ?_)
      intro W84 HS85
      refine wpList_nil ?_
      refine hK71 _ _ ?_
      refine wp_seq_k (fun K86 hK87 => ?_)
      refine wp_region_lit ?_
      refine seqL1 (by kernel_rfl) ?_
      refine seqK rfl (does_run (run_loadN (n := 18) rfl Try.underlying65 rfl (by kernel_rfl) (by kernel_rfl : _ = Value.pointer (some ⟨b64, 0, none⟩)) (cs := [.int .i64 ((rd s11 x38).ID), .int .i64 ((((rd s11 x38).Box).X).Lo), .int .i64 ((((rd s11 x38).Box).X).Hi), .bool ((((rd s11 x38).Box).X).Unknown), .int .i64 ((((rd s11 x38).Box).Y).Lo), .int .i64 ((((rd s11 x38).Box).Y).Hi), .bool ((((rd s11 x38).Box).Y).Unknown), .int .i64 ((((rd s11 x38).Box).Z).Lo), .int .i64 ((((rd s11 x38).Box).Z).Hi), .bool ((((rd s11 x38).Box).Z).Unknown), .int .i64 (((rd s11 x38).Flux).Lo), .int .i64 (((rd s11 x38).Flux).Hi), .bool (((rd s11 x38).Flux).Unknown), .int .i64 (((rd s11 x38).When).Lo), .int .i64 (((rd s11 x38).When).Hi), .bool (((rd s11 x38).When).Unknown), .slice A63 ((rd s11 x38).Frames).length c63, .int .i64 ((rd s11 x38).Marks)]) rfl (HS85.u1.cells 0 18 _ rfl)) ?_)
      refine seqK rfl (does_run (run_loadN (n := 18) rfl Try.underlying65 rfl (by kernel_rfl) (by kernel_rfl : _ = Value.pointer (some ⟨b80, 0, none⟩)) (cs := [.int .i64 ((rd s25 x38).ID), .int .i64 ((((rd s25 x38).Box).X).Lo), .int .i64 ((((rd s25 x38).Box).X).Hi), .bool ((((rd s25 x38).Box).X).Unknown), .int .i64 ((((rd s25 x38).Box).Y).Lo), .int .i64 ((((rd s25 x38).Box).Y).Hi), .bool ((((rd s25 x38).Box).Y).Unknown), .int .i64 ((((rd s25 x38).Box).Z).Lo), .int .i64 ((((rd s25 x38).Box).Z).Hi), .bool ((((rd s25 x38).Box).Z).Unknown), .int .i64 (((rd s25 x38).Flux).Lo), .int .i64 (((rd s25 x38).Flux).Hi), .bool (((rd s25 x38).Flux).Unknown), .int .i64 (((rd s25 x38).When).Lo), .int .i64 (((rd s25 x38).When).Hi), .bool (((rd s25 x38).When).Unknown), .slice A79 ((rd s25 x38).Frames).length c79, .int .i64 ((rd s25 x38).Marks)]) rfl (HS85.cells 0 18 _ rfl)) ?_)
      have hq_ := bind_some h; clear h; obtain ⟨vt88, hc89, h⟩ := hq_
      refine seqK rfl (does_call (f := 21) (args := #[.agg #[.int .i64 ((rd s11 x38).ID), .int .i64 ((((rd s11 x38).Box).X).Lo), .int .i64 ((((rd s11 x38).Box).X).Hi), .bool ((((rd s11 x38).Box).X).Unknown), .int .i64 ((((rd s11 x38).Box).Y).Lo), .int .i64 ((((rd s11 x38).Box).Y).Hi), .bool ((((rd s11 x38).Box).Y).Unknown), .int .i64 ((((rd s11 x38).Box).Z).Lo), .int .i64 ((((rd s11 x38).Box).Z).Hi), .bool ((((rd s11 x38).Box).Z).Unknown), .int .i64 (((rd s11 x38).Flux).Lo), .int .i64 (((rd s11 x38).Flux).Hi), .bool (((rd s11 x38).Flux).Unknown), .int .i64 (((rd s11 x38).When).Lo), .int .i64 (((rd s11 x38).When).Hi), .bool (((rd s11 x38).When).Unknown), .slice A63 ((rd s11 x38).Frames).length c63, .int .i64 ((rd s11 x38).Marks)], .agg #[.int .i64 ((rd s25 x38).ID), .int .i64 ((((rd s25 x38).Box).X).Lo), .int .i64 ((((rd s25 x38).Box).X).Hi), .bool ((((rd s25 x38).Box).X).Unknown), .int .i64 ((((rd s25 x38).Box).Y).Lo), .int .i64 ((((rd s25 x38).Box).Y).Hi), .bool ((((rd s25 x38).Box).Y).Unknown), .int .i64 ((((rd s25 x38).Box).Z).Lo), .int .i64 ((((rd s25 x38).Box).Z).Hi), .bool ((((rd s25 x38).Box).Z).Unknown), .int .i64 (((rd s25 x38).Flux).Lo), .int .i64 (((rd s25 x38).Flux).Hi), .bool (((rd s25 x38).Flux).Unknown), .int .i64 (((rd s25 x38).When).Lo), .int .i64 (((rd s25 x38).When).Hi), .bool (((rd s25 x38).When).Unknown), .slice A79 ((rd s25 x38).Frames).length c79, .int .i64 ((rd s25 x38).Marks)]]) (by kernel_rfl) (catalog_Same.calls k A63 c63 A79 c79 (rd s11 x38) (rd s25 x38) HS85 HR63 HR79 vt88 hc89) ?_)
      rintro _ W92 ⟨f90, rfl, L91, HS93⟩
      refine ⟨_, rfl, ?_⟩
      refine seqS1 (a' := ⟨#[.slice A2 s11.length c3, .slice A6 s25.length c7, .func (.func 21) #[] #[], uV, uV, uV, (j37 0), iV x38, .pointer (some ⟨b64, 0, none⟩), .pointer (some ⟨b80, 0, none⟩), .slice A2 s11.length c3, iV (s11.length : Int), .slice A6 s25.length c7, iV (s25.length : Int), .bool false, .slice A2 s11.length c3, iV (s11.length : Int), iV x38, .bool true, iV x38, .pointer (some ⟨b60, of61 + (x38 : Int).toNat * 18, none⟩), (ag_Row (rd s11 x38) A63 c63), .slice A6 s25.length c7, iV x38, .pointer (some ⟨b76, of77 + (x38 : Int).toNat * 18, none⟩), (ag_Row (rd s25 x38) A79 c79), .func (.func 21) #[] #[], (ag_Row (rd s11 x38) A63 c63), (ag_Row (rd s25 x38) A79 c79), .bool vt88, .bool (!vt88), (j37 17)], []⟩) (by kernel_rfl) ?_
      refine wpList_nil ?_
      refine hK87 _ _ ?_
      have hq_ := ite_some h; clear h; rcases hq_ with ⟨c95, h⟩ | ⟨c95, h⟩
      · have c95 : ¬ (vt88 = true) := c95
        refine wpRwI 30 (x := (!vt88)) (v := true) (by kernel_rfl) (congrArg (fun b_ => !b_) (show vt88 = false from (Bool.eq_false_iff.mpr c95)) : (!vt88) = true) ?_
        refine condT (by kernel_rfl) ?_
        refine wp_seq_k (fun K96 hK97 => ?_)
        refine wp_region_lit ?_
        refine seqS1 (a' := ⟨#[.slice A2 s11.length c3, .slice A6 s25.length c7, .func (.func 21) #[] #[], uV, uV, uV, .bool false, iV x38, .pointer (some ⟨b64, 0, none⟩), .pointer (some ⟨b80, 0, none⟩), .slice A2 s11.length c3, iV (s11.length : Int), .slice A6 s25.length c7, iV (s25.length : Int), .bool false, .slice A2 s11.length c3, iV (s11.length : Int), iV x38, .bool true, iV x38, .pointer (some ⟨b60, of61 + (x38 : Int).toNat * 18, none⟩), (ag_Row (rd s11 x38) A63 c63), .slice A6 s25.length c7, iV x38, .pointer (some ⟨b76, of77 + (x38 : Int).toNat * 18, none⟩), (ag_Row (rd s25 x38) A79 c79), .func (.func 21) #[] #[], (ag_Row (rd s11 x38) A63 c63), (ag_Row (rd s25 x38) A79 c79), .bool vt88, .bool true, (j37 17)], []⟩) (by kernel_rfl) ?_
        refine wpList_nil ?_
        refine hK97 _ _ ?_
        refine wp_ret ?_
        refine hr50 _ _ ?_
        refine hr26 _ _ ?_
        refine hret _ _ ?_
        refine ends_still (v := Value.bool false) (by kernel_rfl) (by kernel_rfl) ?_
        have HS113 := HS93.drop
        have HS114 := HS113.drop
        replace h := JR105 _ h
        injection h with h
        subst h
        exact ⟨f90, rfl, (L34.trans L91), HS114⟩
      · have c95 : ¬ (¬ (vt88 = true)) := c95
        refine wpRwI 30 (x := (!vt88)) (v := false) (by kernel_rfl) (congrArg (fun b_ => !b_) (show vt88 = true from (Decidable.of_not_not c95)) : (!vt88) = false) ?_
        refine condF (by kernel_rfl) ?_
        refine wp_skip ?_
        refine hn49 _ _ ?_
        refine hK46 _ _ ?_
        refine wp_region_lit ?_
        refine seqS2 (a' := ⟨#[.slice A2 s11.length c3, .slice A6 s25.length c7, .func (.func 21) #[] #[], uV, uV, uV, (j37 0), iV x38, .pointer (some ⟨b64, 0, none⟩), .pointer (some ⟨b80, 0, none⟩), .slice A2 s11.length c3, iV (s11.length : Int), .slice A6 s25.length c7, iV (s25.length : Int), .bool false, .slice A2 s11.length c3, iV (s11.length : Int), iV (w64 (x38 + 1)), .bool true, iV x38, .pointer (some ⟨b60, of61 + (x38 : Int).toNat * 18, none⟩), (ag_Row (rd s11 x38) A63 c63), .slice A6 s25.length c7, iV x38, .pointer (some ⟨b76, of77 + (x38 : Int).toNat * 18, none⟩), (ag_Row (rd s25 x38) A79 c79), .func (.func 21) #[] #[], (ag_Row (rd s11 x38) A63 c63), (ag_Row (rd s25 x38) A79 c79), .bool vt88, .bool false, iV (w64 (x38 + 1))], []⟩) (by kernel_rfl) ?_
        refine wpList_nil ?_
        refine hK31 n32 _ _ (Nat.lt_succ_self _) ?_
        have HS107 := HS93.u1
        have HS108 := HS107.u1
        have HS109 := HS108.drop
        have HS110 := HS109.drop
        exact ⟨f90, (w64 (x38 + 1)), (fun i_ => [(j37 0), Value.int .i64 x38, Value.pointer (some ⟨b64, 0, none⟩), Value.pointer (some ⟨b80, 0, none⟩), Value.bool true, Value.int .i64 x38, Value.pointer (some ⟨b60, of61 + (x38 : Int).toNat * 18, none⟩), (ag_Row (rd s11 x38) A63 c63), Value.slice A6 s25.length c7, Value.int .i64 x38, Value.pointer (some ⟨b76, of77 + (x38 : Int).toNat * 18, none⟩), (ag_Row (rd s25 x38) A79 c79), Value.func (.func 21) #[] #[], (ag_Row (rd s11 x38) A63 c63), (ag_Row (rd s25 x38) A79 c79), Value.bool vt88, Value.bool false, Value.int .i64 (w64 (x38 + 1))].getD i_ undef), (L34.trans L91), HS110, h, (by kernel_rfl)⟩
    · have c44 : ¬ (x38 < (s11.length : Int)) := c44
      refine wpRwI 18 (x := (decide (x38 < (s11.length : Int)))) (v := false) (by kernel_rfl) (decide_eq_false c44) ?_
      refine condF (by kernel_rfl) ?_
      refine wp_exit ?_
      refine hx24 _ _ ?_
      exact J104 f33 (fun i_ => [(j37 0), (j37 1), (j37 2), (j37 3), Value.int .i64 x38, Value.bool false, (j37 5), (j37 6), (j37 7), (j37 8), (j37 9), (j37 10), (j37 11), (j37 12), (j37 13), (j37 14), (j37 15), (j37 16), (j37 17)].getD i_ undef) W35 _ L34 h HS36 (by kernel_rfl)

set_option maxRecDepth 100000 in
set_option maxHeartbeats 4000000 in
theorem spykeep3_sameRows.calls (k : Nat) (A2 : Option Addr) (c3 : Nat) (A6 : Option Addr) (c7 : Nat) (a1 : List S_Row) (b5 : List S_Row) {t w : World} {f : FM} {H : List Seg} (HS : St t w f (H)) (HR4 : SlR ty_Row f A2 c3 a1) (HR8 : SlR ty_Row f A6 c7 b5) (rr1 : Bool) (h : spykeep3_sameRows k a1 b5 = some rr1) :
    Calls Try.prog 12 #[.slice A2 a1.length c3, .slice A6 b5.length c7] w (fun e w' => ∃ (g : FM), e = .returned (Value.bool rr1) ∧ FM.le f g ∧ St t w' g (H)) := by
  unfold spykeep3_sameRows at h
  refine enter Try.func12 rfl (tm := #[.slice A2 a1.length c3, .slice A6 b5.length c7, uV, uV, uV, uV, uV, uV]) (by kernel_rfl) ?_
  intro B hret hnor hnp
  refine wp_seq_k (fun K9 hK10 => ?_)
  refine wp_region_lit ?_
  refine seqS1 (a' := ⟨#[.slice A2 a1.length c3, .slice A6 b5.length c7, uV, uV, .bool false, uV, uV, uV], []⟩) (by kernel_rfl) ?_
  refine wpList_nil ?_
  refine hK10 _ _ ?_
  refine wp_seq_k (fun K11 hK12 => ?_)
  refine wp_region_lit ?_
  have hq_ := bind_some h; clear h; obtain ⟨vt13, hc14, h⟩ := hq_
  refine seqL2 (by kernel_rfl) ?_
  refine seqK rfl (does_call (f := 37) (args := #[.slice A2 a1.length c3, .slice A6 b5.length c7, .func (.func 21) #[] #[]]) (by kernel_rfl) (slices_EqualFunc_Row__catalog_Same.calls k A2 c3 A6 c7 a1 b5 HS HR4 HR8 vt13 hc14) ?_)
  rintro _ W17 ⟨f15, rfl, L16, HS18⟩
  refine ⟨_, rfl, ?_⟩
  refine seqS1 (a' := ⟨#[.slice A2 a1.length c3, .slice A6 b5.length c7, uV, uV, .bool vt13, .slice A2 a1.length c3, .slice A6 b5.length c7, .bool vt13], []⟩) (by kernel_rfl) ?_
  refine wpList_nil ?_
  refine hK12 _ _ ?_
  refine wp_ret ?_
  refine hret _ _ ?_
  refine ends_still (v := Value.bool vt13) (by kernel_rfl) (by kernel_rfl) ?_
  injection h with h
  subst h
  exact ⟨f15, rfl, L16, HS18⟩

set_option maxRecDepth 100000 in
set_option maxHeartbeats 4000000 in
theorem spykeep3_CatalogDiffsApply.calls (k : Nat) (A2 : Option Addr) (c3 : Nat) (l1 : List Int) {t w : World} {f : FM} {H : List Seg} (HS : St t w f (H)) (HR4 : SlR (tInt .i64) f A2 c3 l1) (rr1 : Bool) (h : spykeep3_CatalogDiffsApply k l1 = some rr1) :
    Calls Try.prog 3 #[.slice A2 l1.length c3] w (fun e w' => ∃ (g : FM), e = .returned (Value.bool rr1) ∧ FM.le f g ∧ St t w' g (H)) := by
  unfold spykeep3_CatalogDiffsApply at h
  refine enter Try.func3 rfl (tm := #[.slice A2 l1.length c3, uV, uV, uV, uV, uV, uV, uV, uV, uV, uV, uV, uV, uV, uV, uV, uV, uV, uV, uV, uV, uV, uV, uV, uV, uV, uV, uV, uV, uV, uV, uV, uV, uV, uV, uV, uV, uV, uV, uV, uV, uV, uV, uV, uV, uV, uV, uV, uV, uV, uV, uV, uV, uV, uV, uV, uV, uV, uV, uV, uV, uV, uV, uV, uV, uV, uV, uV, uV, uV, uV, uV, uV, uV, uV, uV, uV, uV, uV, uV, uV, uV, uV, uV, uV, uV, uV, uV, uV, uV, uV, uV, uV, uV, uV, uV, uV, uV, uV, uV, uV, uV, uV]) (by kernel_rfl) ?_
  intro B hret hnor hnp
  refine wp_seq_k (fun K5 hK6 => ?_)
  refine wp_region_lit ?_
  refine seqS1 (a' := ⟨#[.slice A2 l1.length c3, uV, .bool false, uV, uV, uV, uV, uV, uV, uV, uV, uV, uV, uV, uV, uV, uV, uV, uV, uV, uV, uV, uV, uV, uV, uV, uV, uV, uV, uV, uV, uV, uV, uV, uV, uV, uV, uV, uV, uV, uV, uV, uV, uV, uV, uV, uV, uV, uV, uV, uV, uV, uV, uV, uV, uV, uV, uV, uV, uV, uV, uV, uV, uV, uV, uV, uV, uV, uV, uV, uV, uV, uV, uV, uV, uV, uV, uV, uV, uV, uV, uV, uV, uV, uV, uV, uV, uV, uV, uV, uV, uV, uV, uV, uV, uV, uV, uV, uV, uV, uV, uV, uV], []⟩) (by kernel_rfl) ?_
  refine wpList_nil ?_
  refine hK6 _ _ ?_
  refine wp_seq_k (fun K7 hK8 => ?_)
  refine wp_region_lit ?_
  refine seqL2 (by kernel_rfl) ?_
  refine seqK rfl (does_box (cs := #[.slice A2 l1.length c3, .int .i64 0]) rfl (by kernel_rfl : _ = Value.agg #[.slice A2 l1.length c3, .int .i64 0]) rfl HS ?_)
  intro b9 W10 HS11
  refine seqS1 (a' := ⟨#[.slice A2 l1.length c3, uV, .bool false, .pointer (some ⟨b9, 0, none⟩), uV, uV, uV, uV, uV, uV, uV, uV, uV, uV, uV, uV, uV, uV, uV, uV, .slice A2 l1.length c3, .agg #[.slice A2 l1.length c3, iV 0], .pointer (some ⟨b9, 0, none⟩), uV, uV, uV, uV, uV, uV, uV, uV, uV, uV, uV, uV, uV, uV, uV, uV, uV, uV, uV, uV, uV, uV, uV, uV, uV, uV, uV, uV, uV, uV, uV, uV, uV, uV, uV, uV, uV, uV, uV, uV, uV, uV, uV, uV, uV, uV, uV, uV, uV, uV, uV, uV, uV, uV, uV, uV, uV, uV, uV, uV, uV, uV, uV, uV, uV, uV, uV, uV, uV, uV, uV, uV, uV, uV, uV, uV, uV, uV, uV, uV], []⟩) (by kernel_rfl) ?_
  refine wpList_nil ?_
  refine hK8 _ _ ?_
  refine wp_seq_k (fun K13 hK14 => ?_)
  refine wp_region_lit ?_
  have hq_ := bind_some h; clear h; obtain ⟨⟨vt15, vt16⟩, hc17, h⟩ := hq_
  refine seqL1 (by kernel_rfl) ?_
  refine seqK rfl (does_call (f := 7) (args := #[.pointer (some ⟨b9, 0, none⟩), .int .i64 8]) (by kernel_rfl) (spymake_Stream_Rows.calls k b9 A2 c3 (⟨l1, 0⟩ : S_Stream) 8 HS11 HR4 vt15 vt16 hc17) ?_)
  rintro _ W20 ⟨f18, A22, c23, s24, rfl, L19, HS21, HO25⟩
  refine ⟨_, rfl, ?_⟩
  have HS27 := HS21.u1
  have hq_ := bind_some h; clear h; obtain ⟨⟨vt28, vt29⟩, hc30, h⟩ := hq_
  refine seqL1 (by kernel_rfl) ?_
  refine seqK rfl (does_call (f := 7) (args := #[.pointer (some ⟨b9, 0, none⟩), .int .i64 8]) (by kernel_rfl) (spymake_Stream_Rows.calls k b9 A2 c3 (⟨l1, vt16⟩ : S_Stream) 8 HS27 (HR4.mono L19) vt28 vt29 hc30) ?_)
  rintro _ W33 ⟨f31, A35, c36, s37, rfl, L32, HS34, HO38⟩
  refine ⟨_, rfl, ?_⟩
  refine seqS2 (a' := ⟨#[.slice A2 l1.length c3, uV, .bool false, .pointer (some ⟨b9, 0, none⟩), .slice A22 vt15.length c23, .slice A35 vt28.length c36, uV, uV, uV, uV, uV, uV, uV, uV, uV, uV, uV, uV, uV, uV, .slice A2 l1.length c3, .agg #[.slice A2 l1.length c3, iV 0], .pointer (some ⟨b9, 0, none⟩), .pointer (some ⟨b9, 0, none⟩), .slice A22 vt15.length c23, .pointer (some ⟨b9, 0, none⟩), .slice A35 vt28.length c36, uV, uV, uV, uV, uV, uV, uV, uV, uV, uV, uV, uV, uV, uV, uV, uV, uV, uV, uV, uV, uV, uV, uV, uV, uV, uV, uV, uV, uV, uV, uV, uV, uV, uV, uV, uV, uV, uV, uV, uV, uV, uV, uV, uV, uV, uV, uV, uV, uV, uV, uV, uV, uV, uV, uV, uV, uV, uV, uV, uV, uV, uV, uV, uV, uV, uV, uV, uV, uV, uV, uV, uV, uV, uV, uV, uV], []⟩) (by kernel_rfl) ?_
  refine wpList_nil ?_
  refine hK14 _ _ ?_
  refine wp_seq_k (fun K40 hK41 => ?_)
  refine wp_region_lit ?_
  have HS42 := HS34.u2
  obtain ⟨f43, L44, HS45, HR46⟩ := (HO25.mono L32).freeze HS42
  have hq_ := bind_some h; clear h; obtain ⟨⟨vt47, vt48⟩, hc49, h⟩ := hq_
  refine seqL1 (by kernel_rfl) ?_
  refine seqK rfl (does_call (f := 8) (args := #[.slice none 0 0, .slice A22 vt15.length c23]) (by kernel_rfl) (catalog_Diff.calls k none 0 A22 c23 ([] : List S_Row) vt15 HS45 (SlR.nil _ _) HR46 vt47 vt48 hc49) ?_)
  rintro _ W52 ⟨f50, A54, c55, s56, rfl, L51, HS53, HO57⟩
  refine ⟨_, rfl, ?_⟩
  refine seqS5 (a' := ⟨#[.slice A2 l1.length c3, uV, .bool false, .pointer (some ⟨b9, 0, none⟩), .slice A22 vt15.length c23, .slice A35 vt28.length c36, .slice A54 vt47.length c55, iV vt48, uV, uV, uV, uV, uV, uV, uV, uV, uV, uV, uV, uV, .slice A2 l1.length c3, .agg #[.slice A2 l1.length c3, iV 0], .pointer (some ⟨b9, 0, none⟩), .pointer (some ⟨b9, 0, none⟩), .slice A22 vt15.length c23, .pointer (some ⟨b9, 0, none⟩), .slice A35 vt28.length c36, .tuple #[.slice A54 vt47.length c55, iV vt48], .slice A22 vt15.length c23, .tuple #[.slice A54 vt47.length c55, iV vt48], .slice A54 vt47.length c55, iV vt48, uV, uV, uV, uV, uV, uV, uV, uV, uV, uV, uV, uV, uV, uV, uV, uV, uV, uV, uV, uV, uV, uV, uV, uV, uV, uV, uV, uV, uV, uV, uV, uV, uV, uV, uV, uV, uV, uV, uV, uV, uV, uV, uV, uV, uV, uV, uV, uV, uV, uV, uV, uV, uV, uV, uV, uV, uV, uV, uV, uV, uV, uV, uV, uV, uV, uV, uV, uV, uV, uV, uV], []⟩) (by kernel_rfl) ?_
  refine wpList_nil ?_
  refine hK41 _ _ ?_
  refine wp_seq_k (fun K59 hK60 => ?_)
  refine wp_region_lit ?_
  have HS61 := HS53.u1
  obtain ⟨f62, L63, HS64, HR65⟩ := (HO38.mono (L44.trans L51)).freeze HS61
  have hq_ := bind_some h; clear h; obtain ⟨⟨vt66, vt67⟩, hc68, h⟩ := hq_
  refine seqL2 (by kernel_rfl) ?_
  refine seqK rfl (does_call (f := 8) (args := #[.slice A22 vt15.length c23, .slice A35 vt28.length c36]) (by kernel_rfl) (catalog_Diff.calls k A22 c23 A35 c36 vt15 vt28 HS64 (HR46.mono (L51.trans L63)) HR65 vt66 vt67 hc68) ?_)
  rintro _ W71 ⟨f69, A73, c74, s75, rfl, L70, HS72, HO76⟩
  refine ⟨_, rfl, ?_⟩
  refine seqS5 (a' := ⟨#[.slice A2 l1.length c3, uV, .bool false, .pointer (some ⟨b9, 0, none⟩), .slice A22 vt15.length c23, .slice A35 vt28.length c36, .slice A54 vt47.length c55, iV vt48, .slice A73 vt66.length c74, iV vt67, uV, uV, uV, uV, uV, uV, uV, uV, uV, uV, .slice A2 l1.length c3, .agg #[.slice A2 l1.length c3, iV 0], .pointer (some ⟨b9, 0, none⟩), .pointer (some ⟨b9, 0, none⟩), .slice A22 vt15.length c23, .pointer (some ⟨b9, 0, none⟩), .slice A35 vt28.length c36, .tuple #[.slice A54 vt47.length c55, iV vt48], .slice A22 vt15.length c23, .tuple #[.slice A54 vt47.length c55, iV vt48], .slice A54 vt47.length c55, iV vt48, .tuple #[.slice A73 vt66.length c74, iV vt67], .slice A22 vt15.length c23, .slice A35 vt28.length c36, .tuple #[.slice A73 vt66.length c74, iV vt67], .slice A73 vt66.length c74, iV vt67, uV, uV, uV, uV, uV, uV, uV, uV, uV, uV, uV, uV, uV, uV, uV, uV, uV, uV, uV, uV, uV, uV, uV, uV, uV, uV, uV, uV, uV, uV, uV, uV, uV, uV, uV, uV, uV, uV, uV, uV, uV, uV, uV, uV, uV, uV, uV, uV, uV, uV, uV, uV, uV, uV, uV, uV, uV, uV, uV, uV, uV, uV, uV, uV, uV], []⟩) (by kernel_rfl) ?_
  refine wpList_nil ?_
  refine hK60 _ _ ?_
  refine wp_seq_k (fun K78 hK79 => ?_)
  refine wp_region_lit ?_
  have hq_ := bind_some h; clear h; obtain ⟨⟨vt80, vt81⟩, hc82, h⟩ := hq_
  refine seqL2 (by kernel_rfl) ?_
  refine seqK rfl (does_call (f := 8) (args := #[.slice A35 vt28.length c36, .slice A35 vt28.length c36]) (by kernel_rfl) (catalog_Diff.calls k A35 c36 A35 c36 vt28 vt28 HS72 (HR65.mono L70) (HR65.mono L70) vt80 vt81 hc82) ?_)
  rintro _ W85 ⟨f83, A87, c88, s89, rfl, L84, HS86, HO90⟩
  refine ⟨_, rfl, ?_⟩
  refine seqS5 (a' := ⟨#[.slice A2 l1.length c3, uV, .bool false, .pointer (some ⟨b9, 0, none⟩), .slice A22 vt15.length c23, .slice A35 vt28.length c36, .slice A54 vt47.length c55, iV vt48, .slice A73 vt66.length c74, iV vt67, .slice A87 vt80.length c88, iV vt81, uV, uV, uV, uV, uV, uV, uV, uV, .slice A2 l1.length c3, .agg #[.slice A2 l1.length c3, iV 0], .pointer (some ⟨b9, 0, none⟩), .pointer (some ⟨b9, 0, none⟩), .slice A22 vt15.length c23, .pointer (some ⟨b9, 0, none⟩), .slice A35 vt28.length c36, .tuple #[.slice A54 vt47.length c55, iV vt48], .slice A22 vt15.length c23, .tuple #[.slice A54 vt47.length c55, iV vt48], .slice A54 vt47.length c55, iV vt48, .tuple #[.slice A73 vt66.length c74, iV vt67], .slice A22 vt15.length c23, .slice A35 vt28.length c36, .tuple #[.slice A73 vt66.length c74, iV vt67], .slice A73 vt66.length c74, iV vt67, .tuple #[.slice A87 vt80.length c88, iV vt81], .slice A35 vt28.length c36, .slice A35 vt28.length c36, .tuple #[.slice A87 vt80.length c88, iV vt81], .slice A87 vt80.length c88, iV vt81, uV, uV, uV, uV, uV, uV, uV, uV, uV, uV, uV, uV, uV, uV, uV, uV, uV, uV, uV, uV, uV, uV, uV, uV, uV, uV, uV, uV, uV, uV, uV, uV, uV, uV, uV, uV, uV, uV, uV, uV, uV, uV, uV, uV, uV, uV, uV, uV, uV, uV, uV, uV, uV, uV, uV, uV, uV, uV, uV], []⟩) (by kernel_rfl) ?_
  refine wpList_nil ?_
  refine hK79 _ _ ?_
  refine wp_seq_k (fun K92 hK93 => ?_)
  refine wp_region_lit ?_
  have HS94 := HS86.u2
  obtain ⟨f95, L96, HS97, HR98⟩ := (HO57.mono (L63.trans (L70.trans L84))).freeze HS94
  have hq_ := bind_some h; clear h; obtain ⟨⟨vt99, vt100, vt101⟩, hc102, h⟩ := hq_
  refine seqL2 (by kernel_rfl) ?_
  refine seqK rfl (does_call (f := 9) (args := #[.agg #[.slice none 0 0], .slice A54 vt47.length c55]) (by kernel_rfl) (catalog_Commit.calls k none 0 A54 c55 (⟨([] : List (List S_Change))⟩ : S_Catalog) vt47 HS97 (SlR.nil _ _) HR98 vt99 vt100 vt101 hc102) ?_)
  rintro _ W105 ⟨f103, A107, c108, s109, rfl, L104, HS106, HO110⟩
  refine ⟨_, rfl, ?_⟩
  refine seqL4 (by kernel_rfl) ?_
  refine seqK rfl (does_alloc (z := Value.agg #[.slice none 0 0]) (cs := #[.slice none 0 0]) rfl (by kernel_rfl) rfl HS106 ?_)
  intro b112 W113 HS114
  refine seqK rfl (does_store (n := 1) (vs := [.slice A107 vt99.Commits.length c108]) (cs' := #[.slice A107 vt99.Commits.length c108]) rfl (by kernel_rfl) (by kernel_rfl : _ = Value.pointer (some ⟨b112, 0, none⟩)) (by kernel_rfl : _ = Value.agg #[.slice A107 vt99.Commits.length c108]) rfl rfl (by intro u_ hu_; simp only [List.mem_cons, List.not_mem_nil, or_false] at hu_; subst hu_; rfl) HS114 (Nat.le_of_ble_eq_true rfl) (by kernel_rfl) ?_)
  intro W116 HS117
  refine seqS2 (a' := ⟨#[.slice A2 l1.length c3, uV, .bool false, .pointer (some ⟨b9, 0, none⟩), .slice A22 vt15.length c23, .slice A35 vt28.length c36, .slice A54 vt47.length c55, iV vt48, .slice A73 vt66.length c74, iV vt67, .slice A87 vt80.length c88, iV vt81, .pointer (some ⟨b112, 0, none⟩), iV vt100, iV vt101, uV, uV, uV, uV, uV, .slice A2 l1.length c3, .agg #[.slice A2 l1.length c3, iV 0], .pointer (some ⟨b9, 0, none⟩), .pointer (some ⟨b9, 0, none⟩), .slice A22 vt15.length c23, .pointer (some ⟨b9, 0, none⟩), .slice A35 vt28.length c36, .tuple #[.slice A54 vt47.length c55, iV vt48], .slice A22 vt15.length c23, .tuple #[.slice A54 vt47.length c55, iV vt48], .slice A54 vt47.length c55, iV vt48, .tuple #[.slice A73 vt66.length c74, iV vt67], .slice A22 vt15.length c23, .slice A35 vt28.length c36, .tuple #[.slice A73 vt66.length c74, iV vt67], .slice A73 vt66.length c74, iV vt67, .tuple #[.slice A87 vt80.length c88, iV vt81], .slice A35 vt28.length c36, .slice A35 vt28.length c36, .tuple #[.slice A87 vt80.length c88, iV vt81], .slice A87 vt80.length c88, iV vt81, .tuple #[.agg #[.slice A107 vt99.Commits.length c108], iV vt100, iV vt101], .agg #[.slice none 0 0], .slice A54 vt47.length c55, .tuple #[.agg #[.slice A107 vt99.Commits.length c108], iV vt100, iV vt101], .agg #[.slice A107 vt99.Commits.length c108], iV vt100, iV vt101, uV, uV, uV, uV, uV, uV, uV, uV, uV, uV, uV, uV, uV, uV, uV, uV, uV, uV, uV, uV, uV, uV, uV, uV, uV, uV, uV, uV, uV, uV, uV, uV, uV, uV, uV, uV, uV, uV, uV, uV, uV, uV, uV, uV, uV, uV, uV, uV, uV, uV, uV, uV], []⟩) (by kernel_rfl) ?_
  refine wpList_nil ?_
  refine hK93 _ _ ?_
  refine wp_seq_k (fun K118 hK119 => ?_)
  refine wp_region_lit ?_
  refine seqK rfl (does_run (run_loadN (n := 1) rfl Try.underlying34 rfl (by kernel_rfl) (by kernel_rfl : _ = Value.pointer (some ⟨b112, 0, none⟩)) (cs := [.slice A107 vt99.Commits.length c108]) rfl (HS117.cells 0 1 _ rfl)) ?_)
  have HS120 := HS117.u1
  obtain ⟨f121, L122, HS123, HR124⟩ := HO110.freeze HS120
  have HS125 := HS123.u2
  obtain ⟨f126, L127, HS128, HR129⟩ := (HO76.mono (L84.trans (L96.trans (L104.trans L122)))).freeze HS125
  have hq_ := bind_some h; clear h; obtain ⟨⟨vt130, vt131, vt132⟩, hc133, h⟩ := hq_
  refine seqL1 (by kernel_rfl) ?_
  refine seqK rfl (does_call (f := 9) (args := #[.agg #[.slice A107 vt99.Commits.length c108], .slice A73 vt66.length c74]) (by kernel_rfl) (catalog_Commit.calls k A107 c108 A73 c74 vt99 vt66 HS128 (HR124.mono L127) HR129 vt130 vt131 vt132 hc133) ?_)
  rintro _ W136 ⟨f134, A138, c139, s140, rfl, L135, HS137, HO141⟩
  refine ⟨_, rfl, ?_⟩
  refine seqL4 (by kernel_rfl) ?_
  refine seqK rfl (does_alloc (z := Value.agg #[.slice none 0 0]) (cs := #[.slice none 0 0]) rfl (by kernel_rfl) rfl HS137 ?_)
  intro b143 W144 HS145
  refine seqK rfl (does_store (n := 1) (vs := [.slice A138 vt130.Commits.length c139]) (cs' := #[.slice A138 vt130.Commits.length c139]) rfl (by kernel_rfl) (by kernel_rfl : _ = Value.pointer (some ⟨b143, 0, none⟩)) (by kernel_rfl : _ = Value.agg #[.slice A138 vt130.Commits.length c139]) rfl rfl (by intro u_ hu_; simp only [List.mem_cons, List.not_mem_nil, or_false] at hu_; subst hu_; rfl) HS145 (Nat.le_of_ble_eq_true rfl) (by kernel_rfl) ?_)
  intro W147 HS148
  refine seqS2 (a' := ⟨#[.slice A2 l1.length c3, uV, .bool false, .pointer (some ⟨b9, 0, none⟩), .slice A22 vt15.length c23, .slice A35 vt28.length c36, .slice A54 vt47.length c55, iV vt48, .slice A73 vt66.length c74, iV vt67, .slice A87 vt80.length c88, iV vt81, .pointer (some ⟨b112, 0, none⟩), iV vt100, iV vt101, .pointer (some ⟨b143, 0, none⟩), iV vt131, iV vt132, uV, uV, .slice A2 l1.length c3, .agg #[.slice A2 l1.length c3, iV 0], .pointer (some ⟨b9, 0, none⟩), .pointer (some ⟨b9, 0, none⟩), .slice A22 vt15.length c23, .pointer (some ⟨b9, 0, none⟩), .slice A35 vt28.length c36, .tuple #[.slice A54 vt47.length c55, iV vt48], .slice A22 vt15.length c23, .tuple #[.slice A54 vt47.length c55, iV vt48], .slice A54 vt47.length c55, iV vt48, .tuple #[.slice A73 vt66.length c74, iV vt67], .slice A22 vt15.length c23, .slice A35 vt28.length c36, .tuple #[.slice A73 vt66.length c74, iV vt67], .slice A73 vt66.length c74, iV vt67, .tuple #[.slice A87 vt80.length c88, iV vt81], .slice A35 vt28.length c36, .slice A35 vt28.length c36, .tuple #[.slice A87 vt80.length c88, iV vt81], .slice A87 vt80.length c88, iV vt81, .tuple #[.agg #[.slice A107 vt99.Commits.length c108], iV vt100, iV vt101], .agg #[.slice none 0 0], .slice A54 vt47.length c55, .tuple #[.agg #[.slice A107 vt99.Commits.length c108], iV vt100, iV vt101], .agg #[.slice A107 vt99.Commits.length c108], iV vt100, iV vt101, .tuple #[.agg #[.slice A138 vt130.Commits.length c139], iV vt131, iV vt132], .agg #[.slice A107 vt99.Commits.length c108], .slice A73 vt66.length c74, .tuple #[.agg #[.slice A138 vt130.Commits.length c139], iV vt131, iV vt132], .agg #[.slice A138 vt130.Commits.length c139], iV vt131, iV vt132, uV, uV, uV, uV, uV, uV, uV, uV, uV, uV, uV, uV, uV, uV, uV, uV, uV, uV, uV, uV, uV, uV, uV, uV, uV, uV, uV, uV, uV, uV, uV, uV, uV, uV, uV, uV, uV, uV, uV, uV, uV, uV, uV, uV, uV], []⟩) (by kernel_rfl) ?_
  refine wpList_nil ?_
  refine hK119 _ _ ?_
  refine wp_seq_k (fun K149 hK150 => ?_)
  refine wp_region_lit ?_
  refine seqK rfl (does_run (run_loadN (n := 1) rfl Try.underlying34 rfl (by kernel_rfl) (by kernel_rfl : _ = Value.pointer (some ⟨b143, 0, none⟩)) (cs := [.slice A138 vt130.Commits.length c139]) rfl (HS148.cells 0 1 _ rfl)) ?_)
  have HS151 := HS148.u1
  obtain ⟨f152, L153, HS154, HR155⟩ := HO141.freeze HS151
  have hq_ := bind_some h; clear h; obtain ⟨⟨vt156, vt157⟩, hc158, h⟩ := hq_
  refine seqL1 (by kernel_rfl) ?_
  refine seqK rfl (does_call (f := 10) (args := #[.agg #[.slice A138 vt130.Commits.length c139], .int .i64 vt131]) (by kernel_rfl) (catalog_At.calls k A138 c139 vt130 vt131 HS154 HR155 vt156 vt157 hc158) ?_)
  rintro _ W161 ⟨f159, A163, c164, s165, rfl, L160, HS162, HO166⟩
  refine ⟨_, rfl, ?_⟩
  refine seqS5 (a' := ⟨#[.slice A2 l1.length c3, uV, .bool false, .pointer (some ⟨b9, 0, none⟩), .slice A22 vt15.length c23, .slice A35 vt28.length c36, .slice A54 vt47.length c55, iV vt48, .slice A73 vt66.length c74, iV vt67, .slice A87 vt80.length c88, iV vt81, .pointer (some ⟨b112, 0, none⟩), iV vt100, iV vt101, .pointer (some ⟨b143, 0, none⟩), iV vt131, iV vt132, .slice A163 vt156.length c164, iV vt157, .slice A2 l1.length c3, .agg #[.slice A2 l1.length c3, iV 0], .pointer (some ⟨b9, 0, none⟩), .pointer (some ⟨b9, 0, none⟩), .slice A22 vt15.length c23, .pointer (some ⟨b9, 0, none⟩), .slice A35 vt28.length c36, .tuple #[.slice A54 vt47.length c55, iV vt48], .slice A22 vt15.length c23, .tuple #[.slice A54 vt47.length c55, iV vt48], .slice A54 vt47.length c55, iV vt48, .tuple #[.slice A73 vt66.length c74, iV vt67], .slice A22 vt15.length c23, .slice A35 vt28.length c36, .tuple #[.slice A73 vt66.length c74, iV vt67], .slice A73 vt66.length c74, iV vt67, .tuple #[.slice A87 vt80.length c88, iV vt81], .slice A35 vt28.length c36, .slice A35 vt28.length c36, .tuple #[.slice A87 vt80.length c88, iV vt81], .slice A87 vt80.length c88, iV vt81, .tuple #[.agg #[.slice A107 vt99.Commits.length c108], iV vt100, iV vt101], .agg #[.slice none 0 0], .slice A54 vt47.length c55, .tuple #[.agg #[.slice A107 vt99.Commits.length c108], iV vt100, iV vt101], .agg #[.slice A107 vt99.Commits.length c108], iV vt100, iV vt101, .tuple #[.agg #[.slice A138 vt130.Commits.length c139], iV vt131, iV vt132], .agg #[.slice A107 vt99.Commits.length c108], .slice A73 vt66.length c74, .tuple #[.agg #[.slice A138 vt130.Commits.length c139], iV vt131, iV vt132], .agg #[.slice A138 vt130.Commits.length c139], iV vt131, iV vt132, .tuple #[.slice A163 vt156.length c164, iV vt157], .agg #[.slice A138 vt130.Commits.length c139], iV vt131, .tuple #[.slice A163 vt156.length c164, iV vt157], .slice A163 vt156.length c164, iV vt157, uV, uV, uV, uV, uV, uV, uV, uV, uV, uV, uV, uV, uV, uV, uV, uV, uV, uV, uV, uV, uV, uV, uV, uV, uV, uV, uV, uV, uV, uV, uV, uV, uV, uV, uV, uV, uV, uV, uV], []⟩) (by kernel_rfl) ?_
  refine wpList_nil ?_
  refine hK150 _ _ ?_
  refine wp_seq_k (fun K168 hK169 => ?_)
  refine wp_region_lit ?_
  have hq_ := bind_some h; clear h; obtain ⟨vt170, hc171, h⟩ := hq_
  refine seqK rfl (does_call (f := 11) (args := #[]) (by kernel_rfl) (spykeep3_listed.calls k  HS162 vt170 hc171) ?_)
  rintro _ W174 ⟨f172, rfl, L173, HS175⟩
  refine ⟨_, rfl, ?_⟩
  refine seqS1 (a' := ⟨#[.slice A2 l1.length c3, uV, .bool false, .pointer (some ⟨b9, 0, none⟩), .slice A22 vt15.length c23, .slice A35 vt28.length c36, .slice A54 vt47.length c55, iV vt48, .slice A73 vt66.length c74, iV vt67, .slice A87 vt80.length c88, iV vt81, .pointer (some ⟨b112, 0, none⟩), iV vt100, iV vt101, .pointer (some ⟨b143, 0, none⟩), iV vt131, iV vt132, .slice A163 vt156.length c164, iV vt157, .slice A2 l1.length c3, .agg #[.slice A2 l1.length c3, iV 0], .pointer (some ⟨b9, 0, none⟩), .pointer (some ⟨b9, 0, none⟩), .slice A22 vt15.length c23, .pointer (some ⟨b9, 0, none⟩), .slice A35 vt28.length c36, .tuple #[.slice A54 vt47.length c55, iV vt48], .slice A22 vt15.length c23, .tuple #[.slice A54 vt47.length c55, iV vt48], .slice A54 vt47.length c55, iV vt48, .tuple #[.slice A73 vt66.length c74, iV vt67], .slice A22 vt15.length c23, .slice A35 vt28.length c36, .tuple #[.slice A73 vt66.length c74, iV vt67], .slice A73 vt66.length c74, iV vt67, .tuple #[.slice A87 vt80.length c88, iV vt81], .slice A35 vt28.length c36, .slice A35 vt28.length c36, .tuple #[.slice A87 vt80.length c88, iV vt81], .slice A87 vt80.length c88, iV vt81, .tuple #[.agg #[.slice A107 vt99.Commits.length c108], iV vt100, iV vt101], .agg #[.slice none 0 0], .slice A54 vt47.length c55, .tuple #[.agg #[.slice A107 vt99.Commits.length c108], iV vt100, iV vt101], .agg #[.slice A107 vt99.Commits.length c108], iV vt100, iV vt101, .tuple #[.agg #[.slice A138 vt130.Commits.length c139], iV vt131, iV vt132], .agg #[.slice A107 vt99.Commits.length c108], .slice A73 vt66.length c74, .tuple #[.agg #[.slice A138 vt130.Commits.length c139], iV vt131, iV vt132], .agg #[.slice A138 vt130.Commits.length c139], iV vt131, iV vt132, .tuple #[.slice A163 vt156.length c164, iV vt157], .agg #[.slice A138 vt130.Commits.length c139], iV vt131, .tuple #[.slice A163 vt156.length c164, iV vt157], .slice A163 vt156.length c164, iV vt157, .bool vt170, .bool vt170, uV, uV, uV, uV, uV, uV, uV, uV, uV, uV, uV, uV, uV, uV, uV, uV, uV, uV, uV, uV, uV, uV, uV, uV, uV, uV, uV, uV, uV, uV, uV, uV, uV, uV, uV, uV, uV], []⟩) (by kernel_rfl) ?_
  have hq_ := ite_some h; clear h; rcases hq_ with ⟨c176, h⟩ | ⟨c176, h⟩
  · have c176 : vt170 = true := c176
    refine seqRwI 64 (x := vt170) (v := true) (by kernel_rfl) c176 ?_
    refine seqRwI 65 (x := vt170) (v := true) (by kernel_rfl) c176 ?_
    refine seqS4 (a' := ⟨#[.slice A2 l1.length c3, uV, .bool false, .pointer (some ⟨b9, 0, none⟩), .slice A22 vt15.length c23, .slice A35 vt28.length c36, .slice A54 vt47.length c55, iV vt48, .slice A73 vt66.length c74, iV vt67, .slice A87 vt80.length c88, iV vt81, .pointer (some ⟨b112, 0, none⟩), iV vt100, iV vt101, .pointer (some ⟨b143, 0, none⟩), iV vt131, iV vt132, .slice A163 vt156.length c164, iV vt157, .slice A2 l1.length c3, .agg #[.slice A2 l1.length c3, iV 0], .pointer (some ⟨b9, 0, none⟩), .pointer (some ⟨b9, 0, none⟩), .slice A22 vt15.length c23, .pointer (some ⟨b9, 0, none⟩), .slice A35 vt28.length c36, .tuple #[.slice A54 vt47.length c55, iV vt48], .slice A22 vt15.length c23, .tuple #[.slice A54 vt47.length c55, iV vt48], .slice A54 vt47.length c55, iV vt48, .tuple #[.slice A73 vt66.length c74, iV vt67], .slice A22 vt15.length c23, .slice A35 vt28.length c36, .tuple #[.slice A73 vt66.length c74, iV vt67], .slice A73 vt66.length c74, iV vt67, .tuple #[.slice A87 vt80.length c88, iV vt81], .slice A35 vt28.length c36, .slice A35 vt28.length c36, .tuple #[.slice A87 vt80.length c88, iV vt81], .slice A87 vt80.length c88, iV vt81, .tuple #[.agg #[.slice A107 vt99.Commits.length c108], iV vt100, iV vt101], .agg #[.slice none 0 0], .slice A54 vt47.length c55, .tuple #[.agg #[.slice A107 vt99.Commits.length c108], iV vt100, iV vt101], .agg #[.slice A107 vt99.Commits.length c108], iV vt100, iV vt101, .tuple #[.agg #[.slice A138 vt130.Commits.length c139], iV vt131, iV vt132], .agg #[.slice A107 vt99.Commits.length c108], .slice A73 vt66.length c74, .tuple #[.agg #[.slice A138 vt130.Commits.length c139], iV vt131, iV vt132], .agg #[.slice A138 vt130.Commits.length c139], iV vt131, iV vt132, .tuple #[.slice A163 vt156.length c164, iV vt157], .agg #[.slice A138 vt130.Commits.length c139], iV vt131, .tuple #[.slice A163 vt156.length c164, iV vt157], .slice A163 vt156.length c164, iV vt157, .bool true, .bool true, iV vt48, .bool (vt48 == 0), .bool (vt48 == 0), .bool (vt48 == 0), uV, uV, uV, uV, uV, uV, uV, uV, uV, uV, uV, uV, uV, uV, uV, uV, uV, uV, uV, uV, uV, uV, uV, uV, uV, uV, uV, uV, uV, uV, uV, uV, uV], []⟩) (by kernel_rfl) ?_
    have hq_ := ite_some h; clear h; rcases hq_ with ⟨c177, h⟩ | ⟨c177, h⟩
    · have c177 : vt48 = 0 := c177
      refine seqRwI 67 (x := (vt48 == 0)) (v := true) (by kernel_rfl) (beq_iff_eq.mpr c177) ?_
      refine seqRwI 68 (x := (vt48 == 0)) (v := true) (by kernel_rfl) (beq_iff_eq.mpr c177) ?_
      refine seqRwI 69 (x := (vt48 == 0)) (v := true) (by kernel_rfl) (beq_iff_eq.mpr c177) ?_
      refine seqS4 (a' := ⟨#[.slice A2 l1.length c3, uV, .bool false, .pointer (some ⟨b9, 0, none⟩), .slice A22 vt15.length c23, .slice A35 vt28.length c36, .slice A54 vt47.length c55, iV vt48, .slice A73 vt66.length c74, iV vt67, .slice A87 vt80.length c88, iV vt81, .pointer (some ⟨b112, 0, none⟩), iV vt100, iV vt101, .pointer (some ⟨b143, 0, none⟩), iV vt131, iV vt132, .slice A163 vt156.length c164, iV vt157, .slice A2 l1.length c3, .agg #[.slice A2 l1.length c3, iV 0], .pointer (some ⟨b9, 0, none⟩), .pointer (some ⟨b9, 0, none⟩), .slice A22 vt15.length c23, .pointer (some ⟨b9, 0, none⟩), .slice A35 vt28.length c36, .tuple #[.slice A54 vt47.length c55, iV vt48], .slice A22 vt15.length c23, .tuple #[.slice A54 vt47.length c55, iV vt48], .slice A54 vt47.length c55, iV vt48, .tuple #[.slice A73 vt66.length c74, iV vt67], .slice A22 vt15.length c23, .slice A35 vt28.length c36, .tuple #[.slice A73 vt66.length c74, iV vt67], .slice A73 vt66.length c74, iV vt67, .tuple #[.slice A87 vt80.length c88, iV vt81], .slice A35 vt28.length c36, .slice A35 vt28.length c36, .tuple #[.slice A87 vt80.length c88, iV vt81], .slice A87 vt80.length c88, iV vt81, .tuple #[.agg #[.slice A107 vt99.Commits.length c108], iV vt100, iV vt101], .agg #[.slice none 0 0], .slice A54 vt47.length c55, .tuple #[.agg #[.slice A107 vt99.Commits.length c108], iV vt100, iV vt101], .agg #[.slice A107 vt99.Commits.length c108], iV vt100, iV vt101, .tuple #[.agg #[.slice A138 vt130.Commits.length c139], iV vt131, iV vt132], .agg #[.slice A107 vt99.Commits.length c108], .slice A73 vt66.length c74, .tuple #[.agg #[.slice A138 vt130.Commits.length c139], iV vt131, iV vt132], .agg #[.slice A138 vt130.Commits.length c139], iV vt131, iV vt132, .tuple #[.slice A163 vt156.length c164, iV vt157], .agg #[.slice A138 vt130.Commits.length c139], iV vt131, .tuple #[.slice A163 vt156.length c164, iV vt157], .slice A163 vt156.length c164, iV vt157, .bool true, .bool true, iV vt48, .bool true, .bool true, .bool true, iV vt67, .bool (vt67 == 0), .bool (vt67 == 0), .bool (vt67 == 0), uV, uV, uV, uV, uV, uV, uV, uV, uV, uV, uV, uV, uV, uV, uV, uV, uV, uV, uV, uV, uV, uV, uV, uV, uV, uV, uV, uV, uV], []⟩) (by kernel_rfl) ?_
      have hq_ := ite_some h; clear h; rcases hq_ with ⟨c178, h⟩ | ⟨c178, h⟩
      · have c178 : vt67 = 0 := c178
        refine seqRwI 71 (x := (vt67 == 0)) (v := true) (by kernel_rfl) (beq_iff_eq.mpr c178) ?_
        refine seqRwI 72 (x := (vt67 == 0)) (v := true) (by kernel_rfl) (beq_iff_eq.mpr c178) ?_
        refine seqRwI 73 (x := (vt67 == 0)) (v := true) (by kernel_rfl) (beq_iff_eq.mpr c178) ?_
        refine seqS4 (a' := ⟨#[.slice A2 l1.length c3, uV, .bool false, .pointer (some ⟨b9, 0, none⟩), .slice A22 vt15.length c23, .slice A35 vt28.length c36, .slice A54 vt47.length c55, iV vt48, .slice A73 vt66.length c74, iV vt67, .slice A87 vt80.length c88, iV vt81, .pointer (some ⟨b112, 0, none⟩), iV vt100, iV vt101, .pointer (some ⟨b143, 0, none⟩), iV vt131, iV vt132, .slice A163 vt156.length c164, iV vt157, .slice A2 l1.length c3, .agg #[.slice A2 l1.length c3, iV 0], .pointer (some ⟨b9, 0, none⟩), .pointer (some ⟨b9, 0, none⟩), .slice A22 vt15.length c23, .pointer (some ⟨b9, 0, none⟩), .slice A35 vt28.length c36, .tuple #[.slice A54 vt47.length c55, iV vt48], .slice A22 vt15.length c23, .tuple #[.slice A54 vt47.length c55, iV vt48], .slice A54 vt47.length c55, iV vt48, .tuple #[.slice A73 vt66.length c74, iV vt67], .slice A22 vt15.length c23, .slice A35 vt28.length c36, .tuple #[.slice A73 vt66.length c74, iV vt67], .slice A73 vt66.length c74, iV vt67, .tuple #[.slice A87 vt80.length c88, iV vt81], .slice A35 vt28.length c36, .slice A35 vt28.length c36, .tuple #[.slice A87 vt80.length c88, iV vt81], .slice A87 vt80.length c88, iV vt81, .tuple #[.agg #[.slice A107 vt99.Commits.length c108], iV vt100, iV vt101], .agg #[.slice none 0 0], .slice A54 vt47.length c55, .tuple #[.agg #[.slice A107 vt99.Commits.length c108], iV vt100, iV vt101], .agg #[.slice A107 vt99.Commits.length c108], iV vt100, iV vt101, .tuple #[.agg #[.slice A138 vt130.Commits.length c139], iV vt131, iV vt132], .agg #[.slice A107 vt99.Commits.length c108], .slice A73 vt66.length c74, .tuple #[.agg #[.slice A138 vt130.Commits.length c139], iV vt131, iV vt132], .agg #[.slice A138 vt130.Commits.length c139], iV vt131, iV vt132, .tuple #[.slice A163 vt156.length c164, iV vt157], .agg #[.slice A138 vt130.Commits.length c139], iV vt131, .tuple #[.slice A163 vt156.length c164, iV vt157], .slice A163 vt156.length c164, iV vt157, .bool true, .bool true, iV vt48, .bool true, .bool true, .bool true, iV vt67, .bool true, .bool true, .bool true, iV vt81, .bool (vt81 == 0), .bool (vt81 == 0), .bool (vt81 == 0), uV, uV, uV, uV, uV, uV, uV, uV, uV, uV, uV, uV, uV, uV, uV, uV, uV, uV, uV, uV, uV, uV, uV, uV, uV], []⟩) (by kernel_rfl) ?_
        have hq_ := ite_some h; clear h; rcases hq_ with ⟨c179, h⟩ | ⟨c179, h⟩
        · have c179 : vt81 = 0 := c179
          refine seqRwI 75 (x := (vt81 == 0)) (v := true) (by kernel_rfl) (beq_iff_eq.mpr c179) ?_
          refine seqRwI 76 (x := (vt81 == 0)) (v := true) (by kernel_rfl) (beq_iff_eq.mpr c179) ?_
          refine seqRwI 77 (x := (vt81 == 0)) (v := true) (by kernel_rfl) (beq_iff_eq.mpr c179) ?_
          refine seqS4 (a' := ⟨#[.slice A2 l1.length c3, uV, .bool false, .pointer (some ⟨b9, 0, none⟩), .slice A22 vt15.length c23, .slice A35 vt28.length c36, .slice A54 vt47.length c55, iV vt48, .slice A73 vt66.length c74, iV vt67, .slice A87 vt80.length c88, iV vt81, .pointer (some ⟨b112, 0, none⟩), iV vt100, iV vt101, .pointer (some ⟨b143, 0, none⟩), iV vt131, iV vt132, .slice A163 vt156.length c164, iV vt157, .slice A2 l1.length c3, .agg #[.slice A2 l1.length c3, iV 0], .pointer (some ⟨b9, 0, none⟩), .pointer (some ⟨b9, 0, none⟩), .slice A22 vt15.length c23, .pointer (some ⟨b9, 0, none⟩), .slice A35 vt28.length c36, .tuple #[.slice A54 vt47.length c55, iV vt48], .slice A22 vt15.length c23, .tuple #[.slice A54 vt47.length c55, iV vt48], .slice A54 vt47.length c55, iV vt48, .tuple #[.slice A73 vt66.length c74, iV vt67], .slice A22 vt15.length c23, .slice A35 vt28.length c36, .tuple #[.slice A73 vt66.length c74, iV vt67], .slice A73 vt66.length c74, iV vt67, .tuple #[.slice A87 vt80.length c88, iV vt81], .slice A35 vt28.length c36, .slice A35 vt28.length c36, .tuple #[.slice A87 vt80.length c88, iV vt81], .slice A87 vt80.length c88, iV vt81, .tuple #[.agg #[.slice A107 vt99.Commits.length c108], iV vt100, iV vt101], .agg #[.slice none 0 0], .slice A54 vt47.length c55, .tuple #[.agg #[.slice A107 vt99.Commits.length c108], iV vt100, iV vt101], .agg #[.slice A107 vt99.Commits.length c108], iV vt100, iV vt101, .tuple #[.agg #[.slice A138 vt130.Commits.length c139], iV vt131, iV vt132], .agg #[.slice A107 vt99.Commits.length c108], .slice A73 vt66.length c74, .tuple #[.agg #[.slice A138 vt130.Commits.length c139], iV vt131, iV vt132], .agg #[.slice A138 vt130.Commits.length c139], iV vt131, iV vt132, .tuple #[.slice A163 vt156.length c164, iV vt157], .agg #[.slice A138 vt130.Commits.length c139], iV vt131, .tuple #[.slice A163 vt156.length c164, iV vt157], .slice A163 vt156.length c164, iV vt157, .bool true, .bool true, iV vt48, .bool true, .bool true, .bool true, iV vt67, .bool true, .bool true, .bool true, iV vt81, .bool true, .bool true, .bool true, iV vt101, .bool (vt101 == 0), .bool (vt101 == 0), .bool (vt101 == 0), uV, uV, uV, uV, uV, uV, uV, uV, uV, uV, uV, uV, uV, uV, uV, uV, uV, uV, uV, uV, uV], []⟩) (by kernel_rfl) ?_
          have hq_ := ite_some h; clear h; rcases hq_ with ⟨c180, h⟩ | ⟨c180, h⟩
          · have c180 : vt101 = 0 := c180
            refine seqRwI 79 (x := (vt101 == 0)) (v := true) (by kernel_rfl) (beq_iff_eq.mpr c180) ?_
            refine seqRwI 80 (x := (vt101 == 0)) (v := true) (by kernel_rfl) (beq_iff_eq.mpr c180) ?_
            refine seqRwI 81 (x := (vt101 == 0)) (v := true) (by kernel_rfl) (beq_iff_eq.mpr c180) ?_
            refine seqS4 (a' := ⟨#[.slice A2 l1.length c3, uV, .bool false, .pointer (some ⟨b9, 0, none⟩), .slice A22 vt15.length c23, .slice A35 vt28.length c36, .slice A54 vt47.length c55, iV vt48, .slice A73 vt66.length c74, iV vt67, .slice A87 vt80.length c88, iV vt81, .pointer (some ⟨b112, 0, none⟩), iV vt100, iV vt101, .pointer (some ⟨b143, 0, none⟩), iV vt131, iV vt132, .slice A163 vt156.length c164, iV vt157, .slice A2 l1.length c3, .agg #[.slice A2 l1.length c3, iV 0], .pointer (some ⟨b9, 0, none⟩), .pointer (some ⟨b9, 0, none⟩), .slice A22 vt15.length c23, .pointer (some ⟨b9, 0, none⟩), .slice A35 vt28.length c36, .tuple #[.slice A54 vt47.length c55, iV vt48], .slice A22 vt15.length c23, .tuple #[.slice A54 vt47.length c55, iV vt48], .slice A54 vt47.length c55, iV vt48, .tuple #[.slice A73 vt66.length c74, iV vt67], .slice A22 vt15.length c23, .slice A35 vt28.length c36, .tuple #[.slice A73 vt66.length c74, iV vt67], .slice A73 vt66.length c74, iV vt67, .tuple #[.slice A87 vt80.length c88, iV vt81], .slice A35 vt28.length c36, .slice A35 vt28.length c36, .tuple #[.slice A87 vt80.length c88, iV vt81], .slice A87 vt80.length c88, iV vt81, .tuple #[.agg #[.slice A107 vt99.Commits.length c108], iV vt100, iV vt101], .agg #[.slice none 0 0], .slice A54 vt47.length c55, .tuple #[.agg #[.slice A107 vt99.Commits.length c108], iV vt100, iV vt101], .agg #[.slice A107 vt99.Commits.length c108], iV vt100, iV vt101, .tuple #[.agg #[.slice A138 vt130.Commits.length c139], iV vt131, iV vt132], .agg #[.slice A107 vt99.Commits.length c108], .slice A73 vt66.length c74, .tuple #[.agg #[.slice A138 vt130.Commits.length c139], iV vt131, iV vt132], .agg #[.slice A138 vt130.Commits.length c139], iV vt131, iV vt132, .tuple #[.slice A163 vt156.length c164, iV vt157], .agg #[.slice A138 vt130.Commits.length c139], iV vt131, .tuple #[.slice A163 vt156.length c164, iV vt157], .slice A163 vt156.length c164, iV vt157, .bool true, .bool true, iV vt48, .bool true, .bool true, .bool true, iV vt67, .bool true, .bool true, .bool true, iV vt81, .bool true, .bool true, .bool true, iV vt101, .bool true, .bool true, .bool true, iV vt132, .bool (vt132 == 0), .bool (vt132 == 0), .bool (vt132 == 0), uV, uV, uV, uV, uV, uV, uV, uV, uV, uV, uV, uV, uV, uV, uV, uV, uV], []⟩) (by kernel_rfl) ?_
            have hq_ := ite_some h; clear h; rcases hq_ with ⟨c181, h⟩ | ⟨c181, h⟩
            · have c181 : vt132 = 0 := c181
              refine seqRwI 83 (x := (vt132 == 0)) (v := true) (by kernel_rfl) (beq_iff_eq.mpr c181) ?_
              refine seqRwI 84 (x := (vt132 == 0)) (v := true) (by kernel_rfl) (beq_iff_eq.mpr c181) ?_
              refine seqRwI 85 (x := (vt132 == 0)) (v := true) (by kernel_rfl) (beq_iff_eq.mpr c181) ?_
              refine seqS4 (a' := ⟨#[.slice A2 l1.length c3, uV, .bool false, .pointer (some ⟨b9, 0, none⟩), .slice A22 vt15.length c23, .slice A35 vt28.length c36, .slice A54 vt47.length c55, iV vt48, .slice A73 vt66.length c74, iV vt67, .slice A87 vt80.length c88, iV vt81, .pointer (some ⟨b112, 0, none⟩), iV vt100, iV vt101, .pointer (some ⟨b143, 0, none⟩), iV vt131, iV vt132, .slice A163 vt156.length c164, iV vt157, .slice A2 l1.length c3, .agg #[.slice A2 l1.length c3, iV 0], .pointer (some ⟨b9, 0, none⟩), .pointer (some ⟨b9, 0, none⟩), .slice A22 vt15.length c23, .pointer (some ⟨b9, 0, none⟩), .slice A35 vt28.length c36, .tuple #[.slice A54 vt47.length c55, iV vt48], .slice A22 vt15.length c23, .tuple #[.slice A54 vt47.length c55, iV vt48], .slice A54 vt47.length c55, iV vt48, .tuple #[.slice A73 vt66.length c74, iV vt67], .slice A22 vt15.length c23, .slice A35 vt28.length c36, .tuple #[.slice A73 vt66.length c74, iV vt67], .slice A73 vt66.length c74, iV vt67, .tuple #[.slice A87 vt80.length c88, iV vt81], .slice A35 vt28.length c36, .slice A35 vt28.length c36, .tuple #[.slice A87 vt80.length c88, iV vt81], .slice A87 vt80.length c88, iV vt81, .tuple #[.agg #[.slice A107 vt99.Commits.length c108], iV vt100, iV vt101], .agg #[.slice none 0 0], .slice A54 vt47.length c55, .tuple #[.agg #[.slice A107 vt99.Commits.length c108], iV vt100, iV vt101], .agg #[.slice A107 vt99.Commits.length c108], iV vt100, iV vt101, .tuple #[.agg #[.slice A138 vt130.Commits.length c139], iV vt131, iV vt132], .agg #[.slice A107 vt99.Commits.length c108], .slice A73 vt66.length c74, .tuple #[.agg #[.slice A138 vt130.Commits.length c139], iV vt131, iV vt132], .agg #[.slice A138 vt130.Commits.length c139], iV vt131, iV vt132, .tuple #[.slice A163 vt156.length c164, iV vt157], .agg #[.slice A138 vt130.Commits.length c139], iV vt131, .tuple #[.slice A163 vt156.length c164, iV vt157], .slice A163 vt156.length c164, iV vt157, .bool true, .bool true, iV vt48, .bool true, .bool true, .bool true, iV vt67, .bool true, .bool true, .bool true, iV vt81, .bool true, .bool true, .bool true, iV vt101, .bool true, .bool true, .bool true, iV vt132, .bool true, .bool true, .bool true, iV vt157, .bool (vt157 == 0), .bool (vt157 == 0), .bool (vt157 == 0), uV, uV, uV, uV, uV, uV, uV, uV, uV, uV, uV, uV, uV], []⟩) (by kernel_rfl) ?_
              have hq_ := ite_some h; clear h; rcases hq_ with ⟨c182, h⟩ | ⟨c182, h⟩
              · have c182 : vt157 = 0 := c182
                refine seqRwI 87 (x := (vt157 == 0)) (v := true) (by kernel_rfl) (beq_iff_eq.mpr c182) ?_
                refine seqRwI 88 (x := (vt157 == 0)) (v := true) (by kernel_rfl) (beq_iff_eq.mpr c182) ?_
                refine seqRwI 89 (x := (vt157 == 0)) (v := true) (by kernel_rfl) (beq_iff_eq.mpr c182) ?_
                refine seqS5 (a' := ⟨#[.slice A2 l1.length c3, uV, .bool false, .pointer (some ⟨b9, 0, none⟩), .slice A22 vt15.length c23, .slice A35 vt28.length c36, .slice A54 vt47.length c55, iV vt48, .slice A73 vt66.length c74, iV vt67, .slice A87 vt80.length c88, iV vt81, .pointer (some ⟨b112, 0, none⟩), iV vt100, iV vt101, .pointer (some ⟨b143, 0, none⟩), iV vt131, iV vt132, .slice A163 vt156.length c164, iV vt157, .slice A2 l1.length c3, .agg #[.slice A2 l1.length c3, iV 0], .pointer (some ⟨b9, 0, none⟩), .pointer (some ⟨b9, 0, none⟩), .slice A22 vt15.length c23, .pointer (some ⟨b9, 0, none⟩), .slice A35 vt28.length c36, .tuple #[.slice A54 vt47.length c55, iV vt48], .slice A22 vt15.length c23, .tuple #[.slice A54 vt47.length c55, iV vt48], .slice A54 vt47.length c55, iV vt48, .tuple #[.slice A73 vt66.length c74, iV vt67], .slice A22 vt15.length c23, .slice A35 vt28.length c36, .tuple #[.slice A73 vt66.length c74, iV vt67], .slice A73 vt66.length c74, iV vt67, .tuple #[.slice A87 vt80.length c88, iV vt81], .slice A35 vt28.length c36, .slice A35 vt28.length c36, .tuple #[.slice A87 vt80.length c88, iV vt81], .slice A87 vt80.length c88, iV vt81, .tuple #[.agg #[.slice A107 vt99.Commits.length c108], iV vt100, iV vt101], .agg #[.slice none 0 0], .slice A54 vt47.length c55, .tuple #[.agg #[.slice A107 vt99.Commits.length c108], iV vt100, iV vt101], .agg #[.slice A107 vt99.Commits.length c108], iV vt100, iV vt101, .tuple #[.agg #[.slice A138 vt130.Commits.length c139], iV vt131, iV vt132], .agg #[.slice A107 vt99.Commits.length c108], .slice A73 vt66.length c74, .tuple #[.agg #[.slice A138 vt130.Commits.length c139], iV vt131, iV vt132], .agg #[.slice A138 vt130.Commits.length c139], iV vt131, iV vt132, .tuple #[.slice A163 vt156.length c164, iV vt157], .agg #[.slice A138 vt130.Commits.length c139], iV vt131, .tuple #[.slice A163 vt156.length c164, iV vt157], .slice A163 vt156.length c164, iV vt157, .bool true, .bool true, iV vt48, .bool true, .bool true, .bool true, iV vt67, .bool true, .bool true, .bool true, iV vt81, .bool true, .bool true, .bool true, iV vt101, .bool true, .bool true, .bool true, iV vt132, .bool true, .bool true, .bool true, iV vt157, .bool true, .bool true, .bool true, .slice A87 vt80.length c88, iV (vt80.length : Int), .bool ((vt80.length : Int) == 0), .bool ((vt80.length : Int) == 0), .bool ((vt80.length : Int) == 0), uV, uV, uV, uV, uV, uV, uV, uV], []⟩) (by kernel_rfl) ?_
                have hq_ := ite_some h; clear h; rcases hq_ with ⟨c183, h⟩ | ⟨c183, h⟩
                · have c183 : (vt80.length : Int) = 0 := c183
                  refine seqRwI 92 (x := ((vt80.length : Int) == 0)) (v := true) (by kernel_rfl) (beq_iff_eq.mpr c183) ?_
                  refine seqRwI 93 (x := ((vt80.length : Int) == 0)) (v := true) (by kernel_rfl) (beq_iff_eq.mpr c183) ?_
                  refine seqRwI 94 (x := ((vt80.length : Int) == 0)) (v := true) (by kernel_rfl) (beq_iff_eq.mpr c183) ?_
                  refine seqS4 (a' := ⟨#[.slice A2 l1.length c3, uV, .bool false, .pointer (some ⟨b9, 0, none⟩), .slice A22 vt15.length c23, .slice A35 vt28.length c36, .slice A54 vt47.length c55, iV vt48, .slice A73 vt66.length c74, iV vt67, .slice A87 vt80.length c88, iV vt81, .pointer (some ⟨b112, 0, none⟩), iV vt100, iV vt101, .pointer (some ⟨b143, 0, none⟩), iV vt131, iV vt132, .slice A163 vt156.length c164, iV vt157, .slice A2 l1.length c3, .agg #[.slice A2 l1.length c3, iV 0], .pointer (some ⟨b9, 0, none⟩), .pointer (some ⟨b9, 0, none⟩), .slice A22 vt15.length c23, .pointer (some ⟨b9, 0, none⟩), .slice A35 vt28.length c36, .tuple #[.slice A54 vt47.length c55, iV vt48], .slice A22 vt15.length c23, .tuple #[.slice A54 vt47.length c55, iV vt48], .slice A54 vt47.length c55, iV vt48, .tuple #[.slice A73 vt66.length c74, iV vt67], .slice A22 vt15.length c23, .slice A35 vt28.length c36, .tuple #[.slice A73 vt66.length c74, iV vt67], .slice A73 vt66.length c74, iV vt67, .tuple #[.slice A87 vt80.length c88, iV vt81], .slice A35 vt28.length c36, .slice A35 vt28.length c36, .tuple #[.slice A87 vt80.length c88, iV vt81], .slice A87 vt80.length c88, iV vt81, .tuple #[.agg #[.slice A107 vt99.Commits.length c108], iV vt100, iV vt101], .agg #[.slice none 0 0], .slice A54 vt47.length c55, .tuple #[.agg #[.slice A107 vt99.Commits.length c108], iV vt100, iV vt101], .agg #[.slice A107 vt99.Commits.length c108], iV vt100, iV vt101, .tuple #[.agg #[.slice A138 vt130.Commits.length c139], iV vt131, iV vt132], .agg #[.slice A107 vt99.Commits.length c108], .slice A73 vt66.length c74, .tuple #[.agg #[.slice A138 vt130.Commits.length c139], iV vt131, iV vt132], .agg #[.slice A138 vt130.Commits.length c139], iV vt131, iV vt132, .tuple #[.slice A163 vt156.length c164, iV vt157], .agg #[.slice A138 vt130.Commits.length c139], iV vt131, .tuple #[.slice A163 vt156.length c164, iV vt157], .slice A163 vt156.length c164, iV vt157, .bool true, .bool true, iV vt48, .bool true, .bool true, .bool true, iV vt67, .bool true, .bool true, .bool true, iV vt81, .bool true, .bool true, .bool true, iV vt101, .bool true, .bool true, .bool true, iV vt132, .bool true, .bool true, .bool true, iV vt157, .bool true, .bool true, .bool true, .slice A87 vt80.length c88, iV (vt80.length : Int), .bool true, .bool true, .bool true, iV vt131, .bool (vt131 == 2), .bool (vt131 == 2), .bool (vt131 == 2), uV, uV, uV, uV], []⟩) (by kernel_rfl) ?_
                  have hq_ := ite_some h; clear h; rcases hq_ with ⟨c184, h⟩ | ⟨c184, h⟩
                  · have c184 : vt131 = 2 := c184
                    refine seqRwI 96 (x := (vt131 == 2)) (v := true) (by kernel_rfl) (beq_iff_eq.mpr c184) ?_
                    refine seqRwI 97 (x := (vt131 == 2)) (v := true) (by kernel_rfl) (beq_iff_eq.mpr c184) ?_
                    refine seqRwI 98 (x := (vt131 == 2)) (v := true) (by kernel_rfl) (beq_iff_eq.mpr c184) ?_
                    obtain ⟨f185, L186, HS187, HR188, th189⟩ := (HO166.mono L173).lend HS175
                    have hq_ := bind_some h; clear h; obtain ⟨vt190, hc191, h⟩ := hq_
                    refine seqL2 (by kernel_rfl) ?_
                    refine seqG (by kernel_rfl) (does_call (f := 12) (args := #[.slice A163 vt156.length c164, .slice A35 vt28.length c36]) (by kernel_rfl) (spykeep3_sameRows.calls k A163 c164 A35 c36 vt156 vt28 HS187 HR188 (HR65.mono (L70.trans (L84.trans (L96.trans (L104.trans (L122.trans (L127.trans (L135.trans (L153.trans (L160.trans (L173.trans L186))))))))))) vt190 hc191) ?_)
                    rintro _ W194 ⟨f192, rfl, L193, HS195⟩
                    refine ⟨_, rfl, ?_⟩
                    obtain ⟨f196, L197, HS198⟩ := th189 L193 HS195
                    refine seqS2 (a' := ⟨#[.slice A2 l1.length c3, uV, .bool vt190, .pointer (some ⟨b9, 0, none⟩), .slice A22 vt15.length c23, .slice A35 vt28.length c36, .slice A54 vt47.length c55, iV vt48, .slice A73 vt66.length c74, iV vt67, .slice A87 vt80.length c88, iV vt81, .pointer (some ⟨b112, 0, none⟩), iV vt100, iV vt101, .pointer (some ⟨b143, 0, none⟩), iV vt131, iV vt132, .slice A163 vt156.length c164, iV vt157, .slice A2 l1.length c3, .agg #[.slice A2 l1.length c3, iV 0], .pointer (some ⟨b9, 0, none⟩), .pointer (some ⟨b9, 0, none⟩), .slice A22 vt15.length c23, .pointer (some ⟨b9, 0, none⟩), .slice A35 vt28.length c36, .tuple #[.slice A54 vt47.length c55, iV vt48], .slice A22 vt15.length c23, .tuple #[.slice A54 vt47.length c55, iV vt48], .slice A54 vt47.length c55, iV vt48, .tuple #[.slice A73 vt66.length c74, iV vt67], .slice A22 vt15.length c23, .slice A35 vt28.length c36, .tuple #[.slice A73 vt66.length c74, iV vt67], .slice A73 vt66.length c74, iV vt67, .tuple #[.slice A87 vt80.length c88, iV vt81], .slice A35 vt28.length c36, .slice A35 vt28.length c36, .tuple #[.slice A87 vt80.length c88, iV vt81], .slice A87 vt80.length c88, iV vt81, .tuple #[.agg #[.slice A107 vt99.Commits.length c108], iV vt100, iV vt101], .agg #[.slice none 0 0], .slice A54 vt47.length c55, .tuple #[.agg #[.slice A107 vt99.Commits.length c108], iV vt100, iV vt101], .agg #[.slice A107 vt99.Commits.length c108], iV vt100, iV vt101, .tuple #[.agg #[.slice A138 vt130.Commits.length c139], iV vt131, iV vt132], .agg #[.slice A107 vt99.Commits.length c108], .slice A73 vt66.length c74, .tuple #[.agg #[.slice A138 vt130.Commits.length c139], iV vt131, iV vt132], .agg #[.slice A138 vt130.Commits.length c139], iV vt131, iV vt132, .tuple #[.slice A163 vt156.length c164, iV vt157], .agg #[.slice A138 vt130.Commits.length c139], iV vt131, .tuple #[.slice A163 vt156.length c164, iV vt157], .slice A163 vt156.length c164, iV vt157, .bool true, .bool true, iV vt48, .bool true, .bool true, .bool true, iV vt67, .bool true, .bool true, .bool true, iV vt81, .bool true, .bool true, .bool true, iV vt101, .bool true, .bool true, .bool true, iV vt132, .bool true, .bool true, .bool true, iV vt157, .bool true, .bool true, .bool true, .slice A87 vt80.length c88, iV (vt80.length : Int), .bool true, .bool true, .bool true, iV vt131, .bool true, .bool true, .bool true, .slice A163 vt156.length c164, .slice A35 vt28.length c36, .bool vt190, .bool vt190], []⟩) (by kernel_rfl) ?_
                    refine wpList_nil ?_
                    refine hK169 _ _ ?_
                    refine wp_ret ?_
                    refine hret _ _ ?_
                    refine ends_still (v := Value.bool vt190) (by kernel_rfl) (by kernel_rfl) ?_
                    have HS199 := HS198.drop
                    have HS200 := HS199.drop
                    have HS201 := HS200.drop
                    have HS202 := HS201.drop
                    have HS203 := HS202.drop
                    injection h with h
                    subst h
                    exact ⟨f196, rfl, (L19.trans (L32.trans (L44.trans (L51.trans (L63.trans (L70.trans (L84.trans (L96.trans (L104.trans (L122.trans (L127.trans (L135.trans (L153.trans (L160.trans (L173.trans L197))))))))))))))), HS203⟩
                  · have c184 : ¬ (vt131 = 2) := c184
                    refine seqRwI 96 (x := (vt131 == 2)) (v := false) (by kernel_rfl) (beq_eq_false_iff_ne.mpr c184) ?_
                    refine seqRwI 97 (x := (vt131 == 2)) (v := false) (by kernel_rfl) (beq_eq_false_iff_ne.mpr c184) ?_
                    refine seqRwI 98 (x := (vt131 == 2)) (v := false) (by kernel_rfl) (beq_eq_false_iff_ne.mpr c184) ?_
                    refine seqS5 (a' := ⟨#[.slice A2 l1.length c3, uV, .bool false, .pointer (some ⟨b9, 0, none⟩), .slice A22 vt15.length c23, .slice A35 vt28.length c36, .slice A54 vt47.length c55, iV vt48, .slice A73 vt66.length c74, iV vt67, .slice A87 vt80.length c88, iV vt81, .pointer (some ⟨b112, 0, none⟩), iV vt100, iV vt101, .pointer (some ⟨b143, 0, none⟩), iV vt131, iV vt132, .slice A163 vt156.length c164, iV vt157, .slice A2 l1.length c3, .agg #[.slice A2 l1.length c3, iV 0], .pointer (some ⟨b9, 0, none⟩), .pointer (some ⟨b9, 0, none⟩), .slice A22 vt15.length c23, .pointer (some ⟨b9, 0, none⟩), .slice A35 vt28.length c36, .tuple #[.slice A54 vt47.length c55, iV vt48], .slice A22 vt15.length c23, .tuple #[.slice A54 vt47.length c55, iV vt48], .slice A54 vt47.length c55, iV vt48, .tuple #[.slice A73 vt66.length c74, iV vt67], .slice A22 vt15.length c23, .slice A35 vt28.length c36, .tuple #[.slice A73 vt66.length c74, iV vt67], .slice A73 vt66.length c74, iV vt67, .tuple #[.slice A87 vt80.length c88, iV vt81], .slice A35 vt28.length c36, .slice A35 vt28.length c36, .tuple #[.slice A87 vt80.length c88, iV vt81], .slice A87 vt80.length c88, iV vt81, .tuple #[.agg #[.slice A107 vt99.Commits.length c108], iV vt100, iV vt101], .agg #[.slice none 0 0], .slice A54 vt47.length c55, .tuple #[.agg #[.slice A107 vt99.Commits.length c108], iV vt100, iV vt101], .agg #[.slice A107 vt99.Commits.length c108], iV vt100, iV vt101, .tuple #[.agg #[.slice A138 vt130.Commits.length c139], iV vt131, iV vt132], .agg #[.slice A107 vt99.Commits.length c108], .slice A73 vt66.length c74, .tuple #[.agg #[.slice A138 vt130.Commits.length c139], iV vt131, iV vt132], .agg #[.slice A138 vt130.Commits.length c139], iV vt131, iV vt132, .tuple #[.slice A163 vt156.length c164, iV vt157], .agg #[.slice A138 vt130.Commits.length c139], iV vt131, .tuple #[.slice A163 vt156.length c164, iV vt157], .slice A163 vt156.length c164, iV vt157, .bool true, .bool true, iV vt48, .bool true, .bool true, .bool true, iV vt67, .bool true, .bool true, .bool true, iV vt81, .bool true, .bool true, .bool true, iV vt101, .bool true, .bool true, .bool true, iV vt132, .bool true, .bool true, .bool true, iV vt157, .bool true, .bool true, .bool true, .slice A87 vt80.length c88, iV (vt80.length : Int), .bool true, .bool true, .bool true, iV vt131, .bool false, .bool false, .bool false, uV, uV, uV, .bool false], []⟩) (by kernel_rfl) ?_
                    refine wpList_nil ?_
                    refine hK169 _ _ ?_
                    refine wp_ret ?_
                    refine hret _ _ ?_
                    refine ends_still (v := Value.bool false) (by kernel_rfl) (by kernel_rfl) ?_
                    have HS204 := HS175.drop
                    have HS205 := HS204.drop
                    have HS206 := HS205.drop
                    have HS207 := HS206.drop
                    have HS208 := HS207.drop
                    injection h with h
                    subst h
                    exact ⟨f172, rfl, (L19.trans (L32.trans (L44.trans (L51.trans (L63.trans (L70.trans (L84.trans (L96.trans (L104.trans (L122.trans (L127.trans (L135.trans (L153.trans (L160.trans L173)))))))))))))), HS208⟩
                · have c183 : ¬ ((vt80.length : Int) = 0) := c183
                  refine seqRwI 92 (x := ((vt80.length : Int) == 0)) (v := false) (by kernel_rfl) (beq_eq_false_iff_ne.mpr c183) ?_
                  refine seqRwI 93 (x := ((vt80.length : Int) == 0)) (v := false) (by kernel_rfl) (beq_eq_false_iff_ne.mpr c183) ?_
                  refine seqRwI 94 (x := ((vt80.length : Int) == 0)) (v := false) (by kernel_rfl) (beq_eq_false_iff_ne.mpr c183) ?_
                  refine seqS9 (a' := ⟨#[.slice A2 l1.length c3, uV, .bool false, .pointer (some ⟨b9, 0, none⟩), .slice A22 vt15.length c23, .slice A35 vt28.length c36, .slice A54 vt47.length c55, iV vt48, .slice A73 vt66.length c74, iV vt67, .slice A87 vt80.length c88, iV vt81, .pointer (some ⟨b112, 0, none⟩), iV vt100, iV vt101, .pointer (some ⟨b143, 0, none⟩), iV vt131, iV vt132, .slice A163 vt156.length c164, iV vt157, .slice A2 l1.length c3, .agg #[.slice A2 l1.length c3, iV 0], .pointer (some ⟨b9, 0, none⟩), .pointer (some ⟨b9, 0, none⟩), .slice A22 vt15.length c23, .pointer (some ⟨b9, 0, none⟩), .slice A35 vt28.length c36, .tuple #[.slice A54 vt47.length c55, iV vt48], .slice A22 vt15.length c23, .tuple #[.slice A54 vt47.length c55, iV vt48], .slice A54 vt47.length c55, iV vt48, .tuple #[.slice A73 vt66.length c74, iV vt67], .slice A22 vt15.length c23, .slice A35 vt28.length c36, .tuple #[.slice A73 vt66.length c74, iV vt67], .slice A73 vt66.length c74, iV vt67, .tuple #[.slice A87 vt80.length c88, iV vt81], .slice A35 vt28.length c36, .slice A35 vt28.length c36, .tuple #[.slice A87 vt80.length c88, iV vt81], .slice A87 vt80.length c88, iV vt81, .tuple #[.agg #[.slice A107 vt99.Commits.length c108], iV vt100, iV vt101], .agg #[.slice none 0 0], .slice A54 vt47.length c55, .tuple #[.agg #[.slice A107 vt99.Commits.length c108], iV vt100, iV vt101], .agg #[.slice A107 vt99.Commits.length c108], iV vt100, iV vt101, .tuple #[.agg #[.slice A138 vt130.Commits.length c139], iV vt131, iV vt132], .agg #[.slice A107 vt99.Commits.length c108], .slice A73 vt66.length c74, .tuple #[.agg #[.slice A138 vt130.Commits.length c139], iV vt131, iV vt132], .agg #[.slice A138 vt130.Commits.length c139], iV vt131, iV vt132, .tuple #[.slice A163 vt156.length c164, iV vt157], .agg #[.slice A138 vt130.Commits.length c139], iV vt131, .tuple #[.slice A163 vt156.length c164, iV vt157], .slice A163 vt156.length c164, iV vt157, .bool true, .bool true, iV vt48, .bool true, .bool true, .bool true, iV vt67, .bool true, .bool true, .bool true, iV vt81, .bool true, .bool true, .bool true, iV vt101, .bool true, .bool true, .bool true, iV vt132, .bool true, .bool true, .bool true, iV vt157, .bool true, .bool true, .bool true, .slice A87 vt80.length c88, iV (vt80.length : Int), .bool false, .bool false, .bool false, uV, uV, .bool false, .bool false, uV, uV, uV, .bool false], []⟩) (by kernel_rfl) ?_
                  refine wpList_nil ?_
                  refine hK169 _ _ ?_
                  refine wp_ret ?_
                  refine hret _ _ ?_
                  refine ends_still (v := Value.bool false) (by kernel_rfl) (by kernel_rfl) ?_
                  have HS209 := HS175.drop
                  have HS210 := HS209.drop
                  have HS211 := HS210.drop
                  have HS212 := HS211.drop
                  have HS213 := HS212.drop
                  injection h with h
                  subst h
                  exact ⟨f172, rfl, (L19.trans (L32.trans (L44.trans (L51.trans (L63.trans (L70.trans (L84.trans (L96.trans (L104.trans (L122.trans (L127.trans (L135.trans (L153.trans (L160.trans L173)))))))))))))), HS213⟩
              · have c182 : ¬ (vt157 = 0) := c182
                refine seqRwI 87 (x := (vt157 == 0)) (v := false) (by kernel_rfl) (beq_eq_false_iff_ne.mpr c182) ?_
                refine seqRwI 88 (x := (vt157 == 0)) (v := false) (by kernel_rfl) (beq_eq_false_iff_ne.mpr c182) ?_
                refine seqRwI 89 (x := (vt157 == 0)) (v := false) (by kernel_rfl) (beq_eq_false_iff_ne.mpr c182) ?_
                refine seqS14 (a' := ⟨#[.slice A2 l1.length c3, uV, .bool false, .pointer (some ⟨b9, 0, none⟩), .slice A22 vt15.length c23, .slice A35 vt28.length c36, .slice A54 vt47.length c55, iV vt48, .slice A73 vt66.length c74, iV vt67, .slice A87 vt80.length c88, iV vt81, .pointer (some ⟨b112, 0, none⟩), iV vt100, iV vt101, .pointer (some ⟨b143, 0, none⟩), iV vt131, iV vt132, .slice A163 vt156.length c164, iV vt157, .slice A2 l1.length c3, .agg #[.slice A2 l1.length c3, iV 0], .pointer (some ⟨b9, 0, none⟩), .pointer (some ⟨b9, 0, none⟩), .slice A22 vt15.length c23, .pointer (some ⟨b9, 0, none⟩), .slice A35 vt28.length c36, .tuple #[.slice A54 vt47.length c55, iV vt48], .slice A22 vt15.length c23, .tuple #[.slice A54 vt47.length c55, iV vt48], .slice A54 vt47.length c55, iV vt48, .tuple #[.slice A73 vt66.length c74, iV vt67], .slice A22 vt15.length c23, .slice A35 vt28.length c36, .tuple #[.slice A73 vt66.length c74, iV vt67], .slice A73 vt66.length c74, iV vt67, .tuple #[.slice A87 vt80.length c88, iV vt81], .slice A35 vt28.length c36, .slice A35 vt28.length c36, .tuple #[.slice A87 vt80.length c88, iV vt81], .slice A87 vt80.length c88, iV vt81, .tuple #[.agg #[.slice A107 vt99.Commits.length c108], iV vt100, iV vt101], .agg #[.slice none 0 0], .slice A54 vt47.length c55, .tuple #[.agg #[.slice A107 vt99.Commits.length c108], iV vt100, iV vt101], .agg #[.slice A107 vt99.Commits.length c108], iV vt100, iV vt101, .tuple #[.agg #[.slice A138 vt130.Commits.length c139], iV vt131, iV vt132], .agg #[.slice A107 vt99.Commits.length c108], .slice A73 vt66.length c74, .tuple #[.agg #[.slice A138 vt130.Commits.length c139], iV vt131, iV vt132], .agg #[.slice A138 vt130.Commits.length c139], iV vt131, iV vt132, .tuple #[.slice A163 vt156.length c164, iV vt157], .agg #[.slice A138 vt130.Commits.length c139], iV vt131, .tuple #[.slice A163 vt156.length c164, iV vt157], .slice A163 vt156.length c164, iV vt157, .bool true, .bool true, iV vt48, .bool true, .bool true, .bool true, iV vt67, .bool true, .bool true, .bool true, iV vt81, .bool true, .bool true, .bool true, iV vt101, .bool true, .bool true, .bool true, iV vt132, .bool true, .bool true, .bool true, iV vt157, .bool false, .bool false, .bool false, uV, uV, uV, .bool false, .bool false, uV, uV, .bool false, .bool false, uV, uV, uV, .bool false], []⟩) (by kernel_rfl) ?_
                refine wpList_nil ?_
                refine hK169 _ _ ?_
                refine wp_ret ?_
                refine hret _ _ ?_
                refine ends_still (v := Value.bool false) (by kernel_rfl) (by kernel_rfl) ?_
                have HS214 := HS175.drop
                have HS215 := HS214.drop
                have HS216 := HS215.drop
                have HS217 := HS216.drop
                have HS218 := HS217.drop
                injection h with h
                subst h
                exact ⟨f172, rfl, (L19.trans (L32.trans (L44.trans (L51.trans (L63.trans (L70.trans (L84.trans (L96.trans (L104.trans (L122.trans (L127.trans (L135.trans (L153.trans (L160.trans L173)))))))))))))), HS218⟩
            · have c181 : ¬ (vt132 = 0) := c181
              refine seqRwI 83 (x := (vt132 == 0)) (v := false) (by kernel_rfl) (beq_eq_false_iff_ne.mpr c181) ?_
              refine seqRwI 84 (x := (vt132 == 0)) (v := false) (by kernel_rfl) (beq_eq_false_iff_ne.mpr c181) ?_
              refine seqRwI 85 (x := (vt132 == 0)) (v := false) (by kernel_rfl) (beq_eq_false_iff_ne.mpr c181) ?_
              refine seqS18 (a' := ⟨#[.slice A2 l1.length c3, uV, .bool false, .pointer (some ⟨b9, 0, none⟩), .slice A22 vt15.length c23, .slice A35 vt28.length c36, .slice A54 vt47.length c55, iV vt48, .slice A73 vt66.length c74, iV vt67, .slice A87 vt80.length c88, iV vt81, .pointer (some ⟨b112, 0, none⟩), iV vt100, iV vt101, .pointer (some ⟨b143, 0, none⟩), iV vt131, iV vt132, .slice A163 vt156.length c164, iV vt157, .slice A2 l1.length c3, .agg #[.slice A2 l1.length c3, iV 0], .pointer (some ⟨b9, 0, none⟩), .pointer (some ⟨b9, 0, none⟩), .slice A22 vt15.length c23, .pointer (some ⟨b9, 0, none⟩), .slice A35 vt28.length c36, .tuple #[.slice A54 vt47.length c55, iV vt48], .slice A22 vt15.length c23, .tuple #[.slice A54 vt47.length c55, iV vt48], .slice A54 vt47.length c55, iV vt48, .tuple #[.slice A73 vt66.length c74, iV vt67], .slice A22 vt15.length c23, .slice A35 vt28.length c36, .tuple #[.slice A73 vt66.length c74, iV vt67], .slice A73 vt66.length c74, iV vt67, .tuple #[.slice A87 vt80.length c88, iV vt81], .slice A35 vt28.length c36, .slice A35 vt28.length c36, .tuple #[.slice A87 vt80.length c88, iV vt81], .slice A87 vt80.length c88, iV vt81, .tuple #[.agg #[.slice A107 vt99.Commits.length c108], iV vt100, iV vt101], .agg #[.slice none 0 0], .slice A54 vt47.length c55, .tuple #[.agg #[.slice A107 vt99.Commits.length c108], iV vt100, iV vt101], .agg #[.slice A107 vt99.Commits.length c108], iV vt100, iV vt101, .tuple #[.agg #[.slice A138 vt130.Commits.length c139], iV vt131, iV vt132], .agg #[.slice A107 vt99.Commits.length c108], .slice A73 vt66.length c74, .tuple #[.agg #[.slice A138 vt130.Commits.length c139], iV vt131, iV vt132], .agg #[.slice A138 vt130.Commits.length c139], iV vt131, iV vt132, .tuple #[.slice A163 vt156.length c164, iV vt157], .agg #[.slice A138 vt130.Commits.length c139], iV vt131, .tuple #[.slice A163 vt156.length c164, iV vt157], .slice A163 vt156.length c164, iV vt157, .bool true, .bool true, iV vt48, .bool true, .bool true, .bool true, iV vt67, .bool true, .bool true, .bool true, iV vt81, .bool true, .bool true, .bool true, iV vt101, .bool true, .bool true, .bool true, iV vt132, .bool false, .bool false, .bool false, uV, uV, .bool false, .bool false, uV, uV, uV, .bool false, .bool false, uV, uV, .bool false, .bool false, uV, uV, uV, .bool false], []⟩) (by kernel_rfl) ?_
              refine wpList_nil ?_
              refine hK169 _ _ ?_
              refine wp_ret ?_
              refine hret _ _ ?_
              refine ends_still (v := Value.bool false) (by kernel_rfl) (by kernel_rfl) ?_
              have HS219 := HS175.drop
              have HS220 := HS219.drop
              have HS221 := HS220.drop
              have HS222 := HS221.drop
              have HS223 := HS222.drop
              injection h with h
              subst h
              exact ⟨f172, rfl, (L19.trans (L32.trans (L44.trans (L51.trans (L63.trans (L70.trans (L84.trans (L96.trans (L104.trans (L122.trans (L127.trans (L135.trans (L153.trans (L160.trans L173)))))))))))))), HS223⟩
          · have c180 : ¬ (vt101 = 0) := c180
            refine seqRwI 79 (x := (vt101 == 0)) (v := false) (by kernel_rfl) (beq_eq_false_iff_ne.mpr c180) ?_
            refine seqRwI 80 (x := (vt101 == 0)) (v := false) (by kernel_rfl) (beq_eq_false_iff_ne.mpr c180) ?_
            refine seqRwI 81 (x := (vt101 == 0)) (v := false) (by kernel_rfl) (beq_eq_false_iff_ne.mpr c180) ?_
            refine seqS22 (a' := ⟨#[.slice A2 l1.length c3, uV, .bool false, .pointer (some ⟨b9, 0, none⟩), .slice A22 vt15.length c23, .slice A35 vt28.length c36, .slice A54 vt47.length c55, iV vt48, .slice A73 vt66.length c74, iV vt67, .slice A87 vt80.length c88, iV vt81, .pointer (some ⟨b112, 0, none⟩), iV vt100, iV vt101, .pointer (some ⟨b143, 0, none⟩), iV vt131, iV vt132, .slice A163 vt156.length c164, iV vt157, .slice A2 l1.length c3, .agg #[.slice A2 l1.length c3, iV 0], .pointer (some ⟨b9, 0, none⟩), .pointer (some ⟨b9, 0, none⟩), .slice A22 vt15.length c23, .pointer (some ⟨b9, 0, none⟩), .slice A35 vt28.length c36, .tuple #[.slice A54 vt47.length c55, iV vt48], .slice A22 vt15.length c23, .tuple #[.slice A54 vt47.length c55, iV vt48], .slice A54 vt47.length c55, iV vt48, .tuple #[.slice A73 vt66.length c74, iV vt67], .slice A22 vt15.length c23, .slice A35 vt28.length c36, .tuple #[.slice A73 vt66.length c74, iV vt67], .slice A73 vt66.length c74, iV vt67, .tuple #[.slice A87 vt80.length c88, iV vt81], .slice A35 vt28.length c36, .slice A35 vt28.length c36, .tuple #[.slice A87 vt80.length c88, iV vt81], .slice A87 vt80.length c88, iV vt81, .tuple #[.agg #[.slice A107 vt99.Commits.length c108], iV vt100, iV vt101], .agg #[.slice none 0 0], .slice A54 vt47.length c55, .tuple #[.agg #[.slice A107 vt99.Commits.length c108], iV vt100, iV vt101], .agg #[.slice A107 vt99.Commits.length c108], iV vt100, iV vt101, .tuple #[.agg #[.slice A138 vt130.Commits.length c139], iV vt131, iV vt132], .agg #[.slice A107 vt99.Commits.length c108], .slice A73 vt66.length c74, .tuple #[.agg #[.slice A138 vt130.Commits.length c139], iV vt131, iV vt132], .agg #[.slice A138 vt130.Commits.length c139], iV vt131, iV vt132, .tuple #[.slice A163 vt156.length c164, iV vt157], .agg #[.slice A138 vt130.Commits.length c139], iV vt131, .tuple #[.slice A163 vt156.length c164, iV vt157], .slice A163 vt156.length c164, iV vt157, .bool true, .bool true, iV vt48, .bool true, .bool true, .bool true, iV vt67, .bool true, .bool true, .bool true, iV vt81, .bool true, .bool true, .bool true, iV vt101, .bool false, .bool false, .bool false, uV, uV, .bool false, .bool false, uV, uV, .bool false, .bool false, uV, uV, uV, .bool false, .bool false, uV, uV, .bool false, .bool false, uV, uV, uV, .bool false], []⟩) (by kernel_rfl) ?_
            refine wpList_nil ?_
            refine hK169 _ _ ?_
            refine wp_ret ?_
            refine hret _ _ ?_
            refine ends_still (v := Value.bool false) (by kernel_rfl) (by kernel_rfl) ?_
            have HS224 := HS175.drop
            have HS225 := HS224.drop
            have HS226 := HS225.drop
            have HS227 := HS226.drop
            have HS228 := HS227.drop
            injection h with h
            subst h
            exact ⟨f172, rfl, (L19.trans (L32.trans (L44.trans (L51.trans (L63.trans (L70.trans (L84.trans (L96.trans (L104.trans (L122.trans (L127.trans (L135.trans (L153.trans (L160.trans L173)))))))))))))), HS228⟩
        · have c179 : ¬ (vt81 = 0) := c179
          refine seqRwI 75 (x := (vt81 == 0)) (v := false) (by kernel_rfl) (beq_eq_false_iff_ne.mpr c179) ?_
          refine seqRwI 76 (x := (vt81 == 0)) (v := false) (by kernel_rfl) (beq_eq_false_iff_ne.mpr c179) ?_
          refine seqRwI 77 (x := (vt81 == 0)) (v := false) (by kernel_rfl) (beq_eq_false_iff_ne.mpr c179) ?_
          refine seqS26 (a' := ⟨#[.slice A2 l1.length c3, uV, .bool false, .pointer (some ⟨b9, 0, none⟩), .slice A22 vt15.length c23, .slice A35 vt28.length c36, .slice A54 vt47.length c55, iV vt48, .slice A73 vt66.length c74, iV vt67, .slice A87 vt80.length c88, iV vt81, .pointer (some ⟨b112, 0, none⟩), iV vt100, iV vt101, .pointer (some ⟨b143, 0, none⟩), iV vt131, iV vt132, .slice A163 vt156.length c164, iV vt157, .slice A2 l1.length c3, .agg #[.slice A2 l1.length c3, iV 0], .pointer (some ⟨b9, 0, none⟩), .pointer (some ⟨b9, 0, none⟩), .slice A22 vt15.length c23, .pointer (some ⟨b9, 0, none⟩), .slice A35 vt28.length c36, .tuple #[.slice A54 vt47.length c55, iV vt48], .slice A22 vt15.length c23, .tuple #[.slice A54 vt47.length c55, iV vt48], .slice A54 vt47.length c55, iV vt48, .tuple #[.slice A73 vt66.length c74, iV vt67], .slice A22 vt15.length c23, .slice A35 vt28.length c36, .tuple #[.slice A73 vt66.length c74, iV vt67], .slice A73 vt66.length c74, iV vt67, .tuple #[.slice A87 vt80.length c88, iV vt81], .slice A35 vt28.length c36, .slice A35 vt28.length c36, .tuple #[.slice A87 vt80.length c88, iV vt81], .slice A87 vt80.length c88, iV vt81, .tuple #[.agg #[.slice A107 vt99.Commits.length c108], iV vt100, iV vt101], .agg #[.slice none 0 0], .slice A54 vt47.length c55, .tuple #[.agg #[.slice A107 vt99.Commits.length c108], iV vt100, iV vt101], .agg #[.slice A107 vt99.Commits.length c108], iV vt100, iV vt101, .tuple #[.agg #[.slice A138 vt130.Commits.length c139], iV vt131, iV vt132], .agg #[.slice A107 vt99.Commits.length c108], .slice A73 vt66.length c74, .tuple #[.agg #[.slice A138 vt130.Commits.length c139], iV vt131, iV vt132], .agg #[.slice A138 vt130.Commits.length c139], iV vt131, iV vt132, .tuple #[.slice A163 vt156.length c164, iV vt157], .agg #[.slice A138 vt130.Commits.length c139], iV vt131, .tuple #[.slice A163 vt156.length c164, iV vt157], .slice A163 vt156.length c164, iV vt157, .bool true, .bool true, iV vt48, .bool true, .bool true, .bool true, iV vt67, .bool true, .bool true, .bool true, iV vt81, .bool false, .bool false, .bool false, uV, uV, .bool false, .bool false, uV, uV, .bool false, .bool false, uV, uV, .bool false, .bool false, uV, uV, uV, .bool false, .bool false, uV, uV, .bool false, .bool false, uV, uV, uV, .bool false], []⟩) (by kernel_rfl) ?_
          refine wpList_nil ?_
          refine hK169 _ _ ?_
          refine wp_ret ?_
          refine hret _ _ ?_
          refine ends_still (v := Value.bool false) (by kernel_rfl) (by kernel_rfl) ?_
          have HS229 := HS175.drop
          have HS230 := HS229.drop
          have HS231 := HS230.drop
          have HS232 := HS231.drop
          have HS233 := HS232.drop
          injection h with h
          subst h
          exact ⟨f172, rfl, (L19.trans (L32.trans (L44.trans (L51.trans (L63.trans (L70.trans (L84.trans (L96.trans (L104.trans (L122.trans (L127.trans (L135.trans (L153.trans (L160.trans L173)))))))))))))), HS233⟩
      · have c178 : ¬ (vt67 = 0) := c178
        refine seqRwI 71 (x := (vt67 == 0)) (v := false) (by kernel_rfl) (beq_eq_false_iff_ne.mpr c178) ?_
        refine seqRwI 72 (x := (vt67 == 0)) (v := false) (by kernel_rfl) (beq_eq_false_iff_ne.mpr c178) ?_
        refine seqRwI 73 (x := (vt67 == 0)) (v := false) (by kernel_rfl) (beq_eq_false_iff_ne.mpr c178) ?_
        refine seqS30 (a' := ⟨#[.slice A2 l1.length c3, uV, .bool false, .pointer (some ⟨b9, 0, none⟩), .slice A22 vt15.length c23, .slice A35 vt28.length c36, .slice A54 vt47.length c55, iV vt48, .slice A73 vt66.length c74, iV vt67, .slice A87 vt80.length c88, iV vt81, .pointer (some ⟨b112, 0, none⟩), iV vt100, iV vt101, .pointer (some ⟨b143, 0, none⟩), iV vt131, iV vt132, .slice A163 vt156.length c164, iV vt157, .slice A2 l1.length c3, .agg #[.slice A2 l1.length c3, iV 0], .pointer (some ⟨b9, 0, none⟩), .pointer (some ⟨b9, 0, none⟩), .slice A22 vt15.length c23, .pointer (some ⟨b9, 0, none⟩), .slice A35 vt28.length c36, .tuple #[.slice A54 vt47.length c55, iV vt48], .slice A22 vt15.length c23, .tuple #[.slice A54 vt47.length c55, iV vt48], .slice A54 vt47.length c55, iV vt48, .tuple #[.slice A73 vt66.length c74, iV vt67], .slice A22 vt15.length c23, .slice A35 vt28.length c36, .tuple #[.slice A73 vt66.length c74, iV vt67], .slice A73 vt66.length c74, iV vt67, .tuple #[.slice A87 vt80.length c88, iV vt81], .slice A35 vt28.length c36, .slice A35 vt28.length c36, .tuple #[.slice A87 vt80.length c88, iV vt81], .slice A87 vt80.length c88, iV vt81, .tuple #[.agg #[.slice A107 vt99.Commits.length c108], iV vt100, iV vt101], .agg #[.slice none 0 0], .slice A54 vt47.length c55, .tuple #[.agg #[.slice A107 vt99.Commits.length c108], iV vt100, iV vt101], .agg #[.slice A107 vt99.Commits.length c108], iV vt100, iV vt101, .tuple #[.agg #[.slice A138 vt130.Commits.length c139], iV vt131, iV vt132], .agg #[.slice A107 vt99.Commits.length c108], .slice A73 vt66.length c74, .tuple #[.agg #[.slice A138 vt130.Commits.length c139], iV vt131, iV vt132], .agg #[.slice A138 vt130.Commits.length c139], iV vt131, iV vt132, .tuple #[.slice A163 vt156.length c164, iV vt157], .agg #[.slice A138 vt130.Commits.length c139], iV vt131, .tuple #[.slice A163 vt156.length c164, iV vt157], .slice A163 vt156.length c164, iV vt157, .bool true, .bool true, iV vt48, .bool true, .bool true, .bool true, iV vt67, .bool false, .bool false, .bool false, uV, uV, .bool false, .bool false, uV, uV, .bool false, .bool false, uV, uV, .bool false, .bool false, uV, uV, .bool false, .bool false, uV, uV, uV, .bool false, .bool false, uV, uV, .bool false, .bool false, uV, uV, uV, .bool false], []⟩) (by kernel_rfl) ?_
        refine wpList_nil ?_
        refine hK169 _ _ ?_
        refine wp_ret ?_
        refine hret _ _ ?_
        refine ends_still (v := Value.bool false) (by kernel_rfl) (by kernel_rfl) ?_
        have HS234 := HS175.drop
        have HS235 := HS234.drop
        have HS236 := HS235.drop
        have HS237 := HS236.drop
        have HS238 := HS237.drop
        injection h with h
        subst h
        exact ⟨f172, rfl, (L19.trans (L32.trans (L44.trans (L51.trans (L63.trans (L70.trans (L84.trans (L96.trans (L104.trans (L122.trans (L127.trans (L135.trans (L153.trans (L160.trans L173)))))))))))))), HS238⟩
    · have c177 : ¬ (vt48 = 0) := c177
      refine seqRwI 67 (x := (vt48 == 0)) (v := false) (by kernel_rfl) (beq_eq_false_iff_ne.mpr c177) ?_
      refine seqRwI 68 (x := (vt48 == 0)) (v := false) (by kernel_rfl) (beq_eq_false_iff_ne.mpr c177) ?_
      refine seqRwI 69 (x := (vt48 == 0)) (v := false) (by kernel_rfl) (beq_eq_false_iff_ne.mpr c177) ?_
      refine seqS30 (a' := ⟨#[.slice A2 l1.length c3, uV, .bool false, .pointer (some ⟨b9, 0, none⟩), .slice A22 vt15.length c23, .slice A35 vt28.length c36, .slice A54 vt47.length c55, iV vt48, .slice A73 vt66.length c74, iV vt67, .slice A87 vt80.length c88, iV vt81, .pointer (some ⟨b112, 0, none⟩), iV vt100, iV vt101, .pointer (some ⟨b143, 0, none⟩), iV vt131, iV vt132, .slice A163 vt156.length c164, iV vt157, .slice A2 l1.length c3, .agg #[.slice A2 l1.length c3, iV 0], .pointer (some ⟨b9, 0, none⟩), .pointer (some ⟨b9, 0, none⟩), .slice A22 vt15.length c23, .pointer (some ⟨b9, 0, none⟩), .slice A35 vt28.length c36, .tuple #[.slice A54 vt47.length c55, iV vt48], .slice A22 vt15.length c23, .tuple #[.slice A54 vt47.length c55, iV vt48], .slice A54 vt47.length c55, iV vt48, .tuple #[.slice A73 vt66.length c74, iV vt67], .slice A22 vt15.length c23, .slice A35 vt28.length c36, .tuple #[.slice A73 vt66.length c74, iV vt67], .slice A73 vt66.length c74, iV vt67, .tuple #[.slice A87 vt80.length c88, iV vt81], .slice A35 vt28.length c36, .slice A35 vt28.length c36, .tuple #[.slice A87 vt80.length c88, iV vt81], .slice A87 vt80.length c88, iV vt81, .tuple #[.agg #[.slice A107 vt99.Commits.length c108], iV vt100, iV vt101], .agg #[.slice none 0 0], .slice A54 vt47.length c55, .tuple #[.agg #[.slice A107 vt99.Commits.length c108], iV vt100, iV vt101], .agg #[.slice A107 vt99.Commits.length c108], iV vt100, iV vt101, .tuple #[.agg #[.slice A138 vt130.Commits.length c139], iV vt131, iV vt132], .agg #[.slice A107 vt99.Commits.length c108], .slice A73 vt66.length c74, .tuple #[.agg #[.slice A138 vt130.Commits.length c139], iV vt131, iV vt132], .agg #[.slice A138 vt130.Commits.length c139], iV vt131, iV vt132, .tuple #[.slice A163 vt156.length c164, iV vt157], .agg #[.slice A138 vt130.Commits.length c139], iV vt131, .tuple #[.slice A163 vt156.length c164, iV vt157], .slice A163 vt156.length c164, iV vt157, .bool true, .bool true, iV vt48, .bool false, .bool false, .bool false, uV, uV, .bool false, .bool false, uV, uV, .bool false, .bool false, uV, uV, .bool false, .bool false, uV, uV, .bool false, .bool false, uV, uV, .bool false, .bool false, uV, uV, uV, .bool false, .bool false, uV, uV, .bool false, .bool false, uV, uV, uV, uV], []⟩) (by kernel_rfl) ?_
      refine seqS4 (a' := ⟨#[.slice A2 l1.length c3, uV, .bool false, .pointer (some ⟨b9, 0, none⟩), .slice A22 vt15.length c23, .slice A35 vt28.length c36, .slice A54 vt47.length c55, iV vt48, .slice A73 vt66.length c74, iV vt67, .slice A87 vt80.length c88, iV vt81, .pointer (some ⟨b112, 0, none⟩), iV vt100, iV vt101, .pointer (some ⟨b143, 0, none⟩), iV vt131, iV vt132, .slice A163 vt156.length c164, iV vt157, .slice A2 l1.length c3, .agg #[.slice A2 l1.length c3, iV 0], .pointer (some ⟨b9, 0, none⟩), .pointer (some ⟨b9, 0, none⟩), .slice A22 vt15.length c23, .pointer (some ⟨b9, 0, none⟩), .slice A35 vt28.length c36, .tuple #[.slice A54 vt47.length c55, iV vt48], .slice A22 vt15.length c23, .tuple #[.slice A54 vt47.length c55, iV vt48], .slice A54 vt47.length c55, iV vt48, .tuple #[.slice A73 vt66.length c74, iV vt67], .slice A22 vt15.length c23, .slice A35 vt28.length c36, .tuple #[.slice A73 vt66.length c74, iV vt67], .slice A73 vt66.length c74, iV vt67, .tuple #[.slice A87 vt80.length c88, iV vt81], .slice A35 vt28.length c36, .slice A35 vt28.length c36, .tuple #[.slice A87 vt80.length c88, iV vt81], .slice A87 vt80.length c88, iV vt81, .tuple #[.agg #[.slice A107 vt99.Commits.length c108], iV vt100, iV vt101], .agg #[.slice none 0 0], .slice A54 vt47.length c55, .tuple #[.agg #[.slice A107 vt99.Commits.length c108], iV vt100, iV vt101], .agg #[.slice A107 vt99.Commits.length c108], iV vt100, iV vt101, .tuple #[.agg #[.slice A138 vt130.Commits.length c139], iV vt131, iV vt132], .agg #[.slice A107 vt99.Commits.length c108], .slice A73 vt66.length c74, .tuple #[.agg #[.slice A138 vt130.Commits.length c139], iV vt131, iV vt132], .agg #[.slice A138 vt130.Commits.length c139], iV vt131, iV vt132, .tuple #[.slice A163 vt156.length c164, iV vt157], .agg #[.slice A138 vt130.Commits.length c139], iV vt131, .tuple #[.slice A163 vt156.length c164, iV vt157], .slice A163 vt156.length c164, iV vt157, .bool true, .bool true, iV vt48, .bool false, .bool false, .bool false, uV, uV, .bool false, .bool false, uV, uV, .bool false, .bool false, uV, uV, .bool false, .bool false, uV, uV, .bool false, .bool false, uV, uV, .bool false, .bool false, uV, uV, uV, .bool false, .bool false, uV, uV, .bool false, .bool false, uV, uV, uV, .bool false], []⟩) (by kernel_rfl) ?_
      refine wpList_nil ?_
      refine hK169 _ _ ?_
      refine wp_ret ?_
      refine hret _ _ ?_
      refine ends_still (v := Value.bool false) (by kernel_rfl) (by kernel_rfl) ?_
      have HS239 := HS175.drop
      have HS240 := HS239.drop
      have HS241 := HS240.drop
      have HS242 := HS241.drop
      have HS243 := HS242.drop
      injection h with h
      subst h
      exact ⟨f172, rfl, (L19.trans (L32.trans (L44.trans (L51.trans (L63.trans (L70.trans (L84.trans (L96.trans (L104.trans (L122.trans (L127.trans (L135.trans (L153.trans (L160.trans L173)))))))))))))), HS243⟩
  · have c176 : ¬ (vt170 = true) := c176
    refine seqRwI 64 (x := vt170) (v := false) (by kernel_rfl) (Bool.eq_false_iff.mpr c176) ?_
    refine seqRwI 65 (x := vt170) (v := false) (by kernel_rfl) (Bool.eq_false_iff.mpr c176) ?_
    refine seqS30 (a' := ⟨#[.slice A2 l1.length c3, uV, .bool false, .pointer (some ⟨b9, 0, none⟩), .slice A22 vt15.length c23, .slice A35 vt28.length c36, .slice A54 vt47.length c55, iV vt48, .slice A73 vt66.length c74, iV vt67, .slice A87 vt80.length c88, iV vt81, .pointer (some ⟨b112, 0, none⟩), iV vt100, iV vt101, .pointer (some ⟨b143, 0, none⟩), iV vt131, iV vt132, .slice A163 vt156.length c164, iV vt157, .slice A2 l1.length c3, .agg #[.slice A2 l1.length c3, iV 0], .pointer (some ⟨b9, 0, none⟩), .pointer (some ⟨b9, 0, none⟩), .slice A22 vt15.length c23, .pointer (some ⟨b9, 0, none⟩), .slice A35 vt28.length c36, .tuple #[.slice A54 vt47.length c55, iV vt48], .slice A22 vt15.length c23, .tuple #[.slice A54 vt47.length c55, iV vt48], .slice A54 vt47.length c55, iV vt48, .tuple #[.slice A73 vt66.length c74, iV vt67], .slice A22 vt15.length c23, .slice A35 vt28.length c36, .tuple #[.slice A73 vt66.length c74, iV vt67], .slice A73 vt66.length c74, iV vt67, .tuple #[.slice A87 vt80.length c88, iV vt81], .slice A35 vt28.length c36, .slice A35 vt28.length c36, .tuple #[.slice A87 vt80.length c88, iV vt81], .slice A87 vt80.length c88, iV vt81, .tuple #[.agg #[.slice A107 vt99.Commits.length c108], iV vt100, iV vt101], .agg #[.slice none 0 0], .slice A54 vt47.length c55, .tuple #[.agg #[.slice A107 vt99.Commits.length c108], iV vt100, iV vt101], .agg #[.slice A107 vt99.Commits.length c108], iV vt100, iV vt101, .tuple #[.agg #[.slice A138 vt130.Commits.length c139], iV vt131, iV vt132], .agg #[.slice A107 vt99.Commits.length c108], .slice A73 vt66.length c74, .tuple #[.agg #[.slice A138 vt130.Commits.length c139], iV vt131, iV vt132], .agg #[.slice A138 vt130.Commits.length c139], iV vt131, iV vt132, .tuple #[.slice A163 vt156.length c164, iV vt157], .agg #[.slice A138 vt130.Commits.length c139], iV vt131, .tuple #[.slice A163 vt156.length c164, iV vt157], .slice A163 vt156.length c164, iV vt157, .bool false, .bool false, uV, uV, .bool false, .bool false, uV, uV, .bool false, .bool false, uV, uV, .bool false, .bool false, uV, uV, .bool false, .bool false, uV, uV, .bool false, .bool false, uV, uV, .bool false, .bool false, uV, uV, uV, .bool false, .bool false, uV, uV, uV, uV, uV, uV, uV, uV], []⟩) (by kernel_rfl) ?_
    refine seqS8 (a' := ⟨#[.slice A2 l1.length c3, uV, .bool false, .pointer (some ⟨b9, 0, none⟩), .slice A22 vt15.length c23, .slice A35 vt28.length c36, .slice A54 vt47.length c55, iV vt48, .slice A73 vt66.length c74, iV vt67, .slice A87 vt80.length c88, iV vt81, .pointer (some ⟨b112, 0, none⟩), iV vt100, iV vt101, .pointer (some ⟨b143, 0, none⟩), iV vt131, iV vt132, .slice A163 vt156.length c164, iV vt157, .slice A2 l1.length c3, .agg #[.slice A2 l1.length c3, iV 0], .pointer (some ⟨b9, 0, none⟩), .pointer (some ⟨b9, 0, none⟩), .slice A22 vt15.length c23, .pointer (some ⟨b9, 0, none⟩), .slice A35 vt28.length c36, .tuple #[.slice A54 vt47.length c55, iV vt48], .slice A22 vt15.length c23, .tuple #[.slice A54 vt47.length c55, iV vt48], .slice A54 vt47.length c55, iV vt48, .tuple #[.slice A73 vt66.length c74, iV vt67], .slice A22 vt15.length c23, .slice A35 vt28.length c36, .tuple #[.slice A73 vt66.length c74, iV vt67], .slice A73 vt66.length c74, iV vt67, .tuple #[.slice A87 vt80.length c88, iV vt81], .slice A35 vt28.length c36, .slice A35 vt28.length c36, .tuple #[.slice A87 vt80.length c88, iV vt81], .slice A87 vt80.length c88, iV vt81, .tuple #[.agg #[.slice A107 vt99.Commits.length c108], iV vt100, iV vt101], .agg #[.slice none 0 0], .slice A54 vt47.length c55, .tuple #[.agg #[.slice A107 vt99.Commits.length c108], iV vt100, iV vt101], .agg #[.slice A107 vt99.Commits.length c108], iV vt100, iV vt101, .tuple #[.agg #[.slice A138 vt130.Commits.length c139], iV vt131, iV vt132], .agg #[.slice A107 vt99.Commits.length c108], .slice A73 vt66.length c74, .tuple #[.agg #[.slice A138 vt130.Commits.length c139], iV vt131, iV vt132], .agg #[.slice A138 vt130.Commits.length c139], iV vt131, iV vt132, .tuple #[.slice A163 vt156.length c164, iV vt157], .agg #[.slice A138 vt130.Commits.length c139], iV vt131, .tuple #[.slice A163 vt156.length c164, iV vt157], .slice A163 vt156.length c164, iV vt157, .bool false, .bool false, uV, uV, .bool false, .bool false, uV, uV, .bool false, .bool false, uV, uV, .bool false, .bool false, uV, uV, .bool false, .bool false, uV, uV, .bool false, .bool false, uV, uV, .bool false, .bool false, uV, uV, uV, .bool false, .bool false, uV, uV, .bool false, .bool false, uV, uV, uV, .bool false], []⟩) (by kernel_rfl) ?_
    refine wpList_nil ?_
    refine hK169 _ _ ?_
    refine wp_ret ?_
    refine hret _ _ ?_
    refine ends_still (v := Value.bool false) (by kernel_rfl) (by kernel_rfl) ?_
    have HS244 := HS175.drop
    have HS245 := HS244.drop
    have HS246 := HS245.drop
    have HS247 := HS246.drop
    have HS248 := HS247.drop
    injection h with h
    subst h
    exact ⟨f172, rfl, (L19.trans (L32.trans (L44.trans (L51.trans (L63.trans (L70.trans (L84.trans (L96.trans (L104.trans (L122.trans (L127.trans (L135.trans (L153.trans (L160.trans L173)))))))))))))), HS248⟩

end Go.Sp.D3
