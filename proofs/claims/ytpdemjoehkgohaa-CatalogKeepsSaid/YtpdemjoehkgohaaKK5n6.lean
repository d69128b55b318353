import Derived.Test.YtpdemjoehkgohaaProg
import Derived.Test.YtpdemjoehkgohaaSpCopy
import Derived.Test.YtpdemjoehkgohaaFK5
import Derived.Test.YtpdemjoehkgohaaSpSort
import Derived.Test.YtpdemjoehkgohaaShelf
import Derived.Test.YtpdemjoehkgohaaSpMapR
import Derived.Test.YtpdemjoehkgohaaSpKeys
import Derived.Test.YtpdemjoehkgohaaKK5n0
import Derived.Test.YtpdemjoehkgohaaKK5n1
import Derived.Test.YtpdemjoehkgohaaKK5n2
import Derived.Test.YtpdemjoehkgohaaKK5n3
import Derived.Test.YtpdemjoehkgohaaKK5n4
import Derived.Test.YtpdemjoehkgohaaKK5n5
namespace Go.Sp.K5
open Go Go.Sp Go.Proofs
set_option linter.unusedVariables false
attribute [local irreducible] wpList AnyL Code.wp Calls Does
set_option maxRecDepth 100000 in
set_option maxHeartbeats 4000000 in
theorem spykeep3_listed.calls (k : Nat)   {t w : World} {f : FM} {H : List Seg} (HS : St t w f (H)) (rr1 : Bool) (h : spykeep3_listed k = some rr1) :
    Calls Try.prog 11 #[] w (fun e w' => ∃ (g : FM), e = .returned (Value.bool rr1) ∧ FM.le f g ∧ St t w' g (H)) := by
 unfold spykeep3_listed at h
 refine enter Try.func11 rfl (tm := #[uV, uV, uV, uV, uV, uV, uV, uV, uV, uV, uV, uV, uV, uV, uV, uV, uV, uV, uV, uV, uV, uV, uV, uV, uV, uV, uV, uV, uV, uV, uV, uV, uV, uV, uV, uV, uV, uV, uV, uV, uV, uV, uV]) (by kernel_rfl) ?_
 intro B hret hnor hnp
 refine wp_seq_k (fun K1 hK2 => ?_)
 refine wp_region_lit ?_
 refine seqL1 (by kernel_rfl) ?_
 refine wpList_nil ?_
 refine hK2 _ _ ?_
 refine wp_seq_k (fun K3 hK4 => ?_)
 refine wp_region_lit ?_
 have hq_ := bind_some h; clear h; obtain ⟨vt5, hc6, h⟩ := hq_
 refine seqL1 (by kernel_rfl) ?_
 refine seqK rfl (does_call (f := 36) (args := #[.int .i64 3]) (by kernel_rfl) (spykeep3_single.calls k 3 HS vt5 hc6) ?_)
 rintro _ W9 ⟨f7, A11, c12, s13, rfl, L8, HS10, HO14⟩
 refine ⟨_, rfl, ?_⟩
 obtain ⟨f16, L17, HS18, HR19⟩ := HO14.freeze HS10
 refine seqL1 (by kernel_rfl) ?_
 refine seqK rfl (does_lit (e := ty_Change) (E := 71) (vs := #[(0, Value.agg #[.int .i64 1, .int .i64 vt5.ID, .int .i64 vt5.Box.X.Lo, .int .i64 vt5.Box.X.Hi, .bool vt5.Box.X.Unknown, .int .i64 vt5.Box.Y.Lo, .int .i64 vt5.Box.Y.Hi, .bool vt5.Box.Y.Unknown, .int .i64 vt5.Box.Z.Lo, .int .i64 vt5.Box.Z.Hi, .bool vt5.Box.Z.Unknown, .int .i64 vt5.Flux.Lo, .int .i64 vt5.Flux.Hi, .bool vt5.Flux.Unknown, .int .i64 vt5.When.Lo, .int .i64 vt5.When.Hi, .bool vt5.When.Unknown, .slice A11 vt5.Frames.length c12, .int .i64 vt5.Marks])]) (cs := #[.int .i64 1, .int .i64 vt5.ID, .int .i64 vt5.Box.X.Lo, .int .i64 vt5.Box.X.Hi, .bool vt5.Box.X.Unknown, .int .i64 vt5.Box.Y.Lo, .int .i64 vt5.Box.Y.Hi, .bool vt5.Box.Y.Unknown, .int .i64 vt5.Box.Z.Lo, .int .i64 vt5.Box.Z.Hi, .bool vt5.Box.Z.Unknown, .int .i64 vt5.Flux.Lo, .int .i64 vt5.Flux.Hi, .bool vt5.Flux.Unknown, .int .i64 vt5.When.Lo, .int .i64 vt5.When.Hi, .bool vt5.When.Unknown, .slice A11 vt5.Frames.length c12, .int .i64 vt5.Marks]) (xs := ([(⟨1, vt5⟩ : S_Change)] : List S_Change)) rfl Try.underlying28 (by kernel_rfl) (by kernel_rfl) ⟨[.int .i64 1, .int .i64 vt5.ID, .int .i64 vt5.Box.X.Lo, .int .i64 vt5.Box.X.Hi, .bool vt5.Box.X.Unknown, .int .i64 vt5.Box.Y.Lo, .int .i64 vt5.Box.Y.Hi, .bool vt5.Box.Y.Unknown, .int .i64 vt5.Box.Z.Lo, .int .i64 vt5.Box.Z.Hi, .bool vt5.Box.Z.Unknown, .int .i64 vt5.Flux.Lo, .int .i64 vt5.Flux.Hi, .bool vt5.Flux.Unknown, .int .i64 vt5.When.Lo, .int .i64 vt5.When.Hi, .bool vt5.When.Unknown, .slice A11 vt5.Frames.length c12, .int .i64 vt5.Marks], _, rfl, ⟨A11, c12, rfl, HR19⟩, rfl⟩ rfl HS18 ?_ (by decide))
 intro b20 W21 s22 HS23 _ HO24
 obtain ⟨f26, L27, HS28, HR29⟩ := HO24.freeze HS23
 have hq_ := bind_some h; clear h; obtain ⟨⟨vt30, vt31, vt32⟩, hc33, h⟩ := hq_
 refine seqK rfl (does_call (f := 9) (args := #[.agg #[.slice none 0 0], .slice (some ⟨b20, 0, none⟩) ([(⟨1, vt5⟩ : S_Change)] : List S_Change).length 1]) (by kernel_rfl) (catalog_Commit.calls k none 0 (some ⟨b20, 0, none⟩) 1 (⟨([] : List (List S_Change))⟩ : S_Catalog) ([(⟨1, vt5⟩ : S_Change)] : List S_Change) HS28 (SlR.nil _ _) HR29 vt30 vt31 vt32 hc33) ?_)
 rintro _ W36 ⟨f34, A38, c39, s40, rfl, L35, HS37, HO41⟩
 refine ⟨_, rfl, ?_⟩
 refine seqL4 (by kernel_rfl) ?_
 refine seqK rfl (does_alloc (z := Value.agg #[.slice none 0 0]) (cs := #[.slice none 0 0]) rfl (by kernel_rfl) rfl HS37 ?_)
 intro b43 W44 HS45
 refine seqK rfl (does_store (n := 1) (vs := [.slice A38 vt30.Commits.length c39]) (cs' := #[.slice A38 vt30.Commits.length c39]) rfl (by kernel_rfl) (by kernel_rfl : _ = Value.pointer (some ⟨b43, 0, none⟩)) (by kernel_rfl : _ = Value.agg #[.slice A38 vt30.Commits.length c39]) rfl rfl (by intro u_ hu_; simp only [List.mem_cons, List.not_mem_nil, or_false] at hu_; subst hu_; rfl) HS45 (Nat.le_of_ble_eq_true rfl) (by kernel_rfl) ?_)
 intro W47 HS48
 refine seqL2 (by kernel_rfl) ?_
 refine wpList_nil ?_
 refine hK4 _ _ ?_
 refine wp_seq_k (fun K49 hK50 => ?_)
 refine wp_region_lit ?_
 refine seqK rfl (does_run (run_loadN (n := 1) rfl Try.underlying34 rfl (by kernel_rfl) (by kernel_rfl : _ = Value.pointer (some ⟨b43, 0, none⟩)) (cs := [.slice A38 vt30.Commits.length c39]) rfl (HS48.cells 0 1 _ rfl)) ?_)
 have HS51 := HS48.u1
 obtain ⟨f52, L53, HS54, HR55⟩ := HO41.freeze HS51
 have hq_ := bind_some h; clear h; obtain ⟨⟨vt56, vt57⟩, hc58, h⟩ := hq_
 refine seqL1 (by kernel_rfl) ?_
 refine seqK rfl (does_call (f := 10) (args := #[.agg #[.slice A38 vt30.Commits.length c39], .int .i64 vt31]) (by kernel_rfl) (catalog_At.calls k A38 c39 vt30 vt31 HS54 HR55 vt56 vt57 hc58) ?_)
 rintro _ W61 ⟨f59, A63, c64, s65, rfl, L60, HS62, HO66⟩
 refine ⟨_, rfl, ?_⟩
 refine seqS5 (a' := ⟨#[fV, pV b43 0, iV vt31, iV vt32, .slice A63 vt56.length c64, iV vt57, .tuple #[.agg #[.slice A38 vt30.Commits.length c39], iV vt31, iV vt32], .agg #[.slice none 0 0], (ag_Row vt5 A11 c12), .agg #[iV 1, iV vt5.ID, iV vt5.Box.X.Lo, iV vt5.Box.X.Hi, .bool vt5.Box.X.Unknown, iV vt5.Box.Y.Lo, iV vt5.Box.Y.Hi, .bool vt5.Box.Y.Unknown, iV vt5.Box.Z.Lo, iV vt5.Box.Z.Hi, .bool vt5.Box.Z.Unknown, iV vt5.Flux.Lo, iV vt5.Flux.Hi, .bool vt5.Flux.Unknown, iV vt5.When.Lo, iV vt5.When.Hi, .bool vt5.When.Unknown, .slice A11 vt5.Frames.length c12, iV vt5.Marks], .slice (some ⟨b20, 0, none⟩) ([(⟨1, vt5⟩ : S_Change)] : List S_Change).length 1, .tuple #[.agg #[.slice A38 vt30.Commits.length c39], iV vt31, iV vt32], .agg #[.slice A38 vt30.Commits.length c39], iV vt31, iV vt32, .tuple #[.slice A63 vt56.length c64, iV vt57], .agg #[.slice A38 vt30.Commits.length c39], iV vt31, .tuple #[.slice A63 vt56.length c64, iV vt57], .slice A63 vt56.length c64, iV vt57, uV, uV, uV, uV, uV, uV, uV, uV, uV, uV, uV, uV, uV, uV, uV, uV, uV, uV, uV, uV, uV, uV], []⟩) (by kernel_rfl) ?_
 refine wpList_nil ?_
 refine hK50 _ _ ?_
 refine wp_seq_k (fun K68 hK69 => ?_)
 refine heldG (S := Sg t f59 (s65 :: [(b43, .cells #[.slice A38 vt30.Commits.length c39] 34 (0, 0))] :: H) []) (n := 23) (by kernel_rfl) rfl HS62 ?_
 intro W70 HS71
 refine takeG [0, 1, 2] (n := 23) (fuel := 20) (l' := #[true, true, true, false, false, false, false, false, false, false, false, false, false, false, false, false, false, false, false, false, false, false, false]) (a' := ⟨#[fV, pV b43 0, iV vt31, iV vt32, .slice A63 vt56.length c64, iV vt57, .tuple #[.agg #[.slice A38 vt30.Commits.length c39], iV vt31, iV vt32], .agg #[.slice none 0 0], (ag_Row vt5 A11 c12), .agg #[iV 1, iV vt5.ID, iV vt5.Box.X.Lo, iV vt5.Box.X.Hi, .bool vt5.Box.X.Unknown, iV vt5.Box.Y.Lo, iV vt5.Box.Y.Hi, .bool vt5.Box.Y.Unknown, iV vt5.Box.Z.Lo, iV vt5.Box.Z.Hi, .bool vt5.Box.Z.Unknown, iV vt5.Flux.Lo, iV vt5.Flux.Hi, .bool vt5.Flux.Unknown, iV vt5.When.Lo, iV vt5.When.Hi, .bool vt5.When.Unknown, .slice A11 vt5.Frames.length c12, iV vt5.Marks], .slice (some ⟨b20, 0, none⟩) ([(⟨1, vt5⟩ : S_Change)] : List S_Change).length 1, .tuple #[.agg #[.slice A38 vt30.Commits.length c39], iV vt31, iV vt32], .agg #[.slice A38 vt30.Commits.length c39], iV vt31, iV vt32, .tuple #[.slice A63 vt56.length c64, iV vt57], .agg #[.slice A38 vt30.Commits.length c39], iV vt31, .tuple #[.slice A63 vt56.length c64, iV vt57], .slice A63 vt56.length c64, iV vt57, iV vt32, .bool (vt32 == 0), .bool (vt32 == 0), uV, uV, uV, uV, uV, uV, uV, uV, uV, uV, uV, uV, uV, uV, uV, uV, uV, uV, uV], []⟩) rfl (by kernel_rfl) (by kernel_rfl) (by kernel_rfl) hnp (Sg.g0 (Sx.of [] (FM.le.refl _) HS71)) ?_
 have hq_ := ite_some h; clear h; rcases hq_ with ⟨c72, h⟩ | ⟨c72, h⟩
 · have c72 : vt32 = 0 := c72
   refine gateRwI 22 (x := (vt32 == 0)) (v := true) (by kernel_rfl) (beq_iff_eq.mpr c72) ?_
   refine gateRwI 23 (x := (vt32 == 0)) (v := true) (by kernel_rfl) (beq_iff_eq.mpr c72) ?_
   refine takeG [3, 4, 5, 6] (n := 20) (fuel := 16) (l' := #[true, true, true, true, true, true, true, false, false, false, false, false, false, false, false, false, false, false, false, false, false, false, false]) (a' := ⟨#[fV, pV b43 0, iV vt31, iV vt32, .slice A63 vt56.length c64, iV vt57, .tuple #[.agg #[.slice A38 vt30.Commits.length c39], iV vt31, iV vt32], .agg #[.slice none 0 0], (ag_Row vt5 A11 c12), .agg #[iV 1, iV vt5.ID, iV vt5.Box.X.Lo, iV vt5.Box.X.Hi, .bool vt5.Box.X.Unknown, iV vt5.Box.Y.Lo, iV vt5.Box.Y.Hi, .bool vt5.Box.Y.Unknown, iV vt5.Box.Z.Lo, iV vt5.Box.Z.Hi, .bool vt5.Box.Z.Unknown, iV vt5.Flux.Lo, iV vt5.Flux.Hi, .bool vt5.Flux.Unknown, iV vt5.When.Lo, iV vt5.When.Hi, .bool vt5.When.Unknown, .slice A11 vt5.Frames.length c12, iV vt5.Marks], .slice (some ⟨b20, 0, none⟩) ([(⟨1, vt5⟩ : S_Change)] : List S_Change).length 1, .tuple #[.agg #[.slice A38 vt30.Commits.length c39], iV vt31, iV vt32], .agg #[.slice A38 vt30.Commits.length c39], iV vt31, iV vt32, .tuple #[.slice A63 vt56.length c64, iV vt57], .agg #[.slice A38 vt30.Commits.length c39], iV vt31, .tuple #[.slice A63 vt56.length c64, iV vt57], .slice A63 vt56.length c64, iV vt57, iV vt32, tV, tV, iV vt57, .bool (vt57 == 0), .bool (vt57 == 0), .bool (vt57 == 0), uV, uV, uV, uV, uV, uV, uV, uV, uV, uV, uV, uV, uV, uV, uV], []⟩) rfl (by kernel_rfl) (by kernel_rfl) (by kernel_rfl) hnp (Sg.g0 (Sx.of [] (FM.le.refl _) HS71)) ?_
   have hq_ := ite_some h; clear h; rcases hq_ with ⟨c73, h⟩ | ⟨c73, h⟩
   · have c73 : vt57 = 0 := c73
     refine gateRwI 25 (x := (vt57 == 0)) (v := true) (by kernel_rfl) (beq_iff_eq.mpr c73) ?_
     refine gateRwI 26 (x := (vt57 == 0)) (v := true) (by kernel_rfl) (beq_iff_eq.mpr c73) ?_
     refine gateRwI 27 (x := (vt57 == 0)) (v := true) (by kernel_rfl) (beq_iff_eq.mpr c73) ?_
     refine takeG [7, 8, 9, 10] (n := 16) (fuel := 12) (l' := #[true, true, true, true, true, true, true, true, true, true, true, false, false, false, false, false, false, false, false, false, false, false, false]) (a' := ⟨#[fV, pV b43 0, iV vt31, iV vt32, .slice A63 vt56.length c64, iV vt57, .tuple #[.agg #[.slice A38 vt30.Commits.length c39], iV vt31, iV vt32], .agg #[.slice none 0 0], (ag_Row vt5 A11 c12), .agg #[iV 1, iV vt5.ID, iV vt5.Box.X.Lo, iV vt5.Box.X.Hi, .bool vt5.Box.X.Unknown, iV vt5.Box.Y.Lo, iV vt5.Box.Y.Hi, .bool vt5.Box.Y.Unknown, iV vt5.Box.Z.Lo, iV vt5.Box.Z.Hi, .bool vt5.Box.Z.Unknown, iV vt5.Flux.Lo, iV vt5.Flux.Hi, .bool vt5.Flux.Unknown, iV vt5.When.Lo, iV vt5.When.Hi, .bool vt5.When.Unknown, .slice A11 vt5.Frames.length c12, iV vt5.Marks], .slice (some ⟨b20, 0, none⟩) ([(⟨1, vt5⟩ : S_Change)] : List S_Change).length 1, .tuple #[.agg #[.slice A38 vt30.Commits.length c39], iV vt31, iV vt32], .agg #[.slice A38 vt30.Commits.length c39], iV vt31, iV vt32, .tuple #[.slice A63 vt56.length c64, iV vt57], .agg #[.slice A38 vt30.Commits.length c39], iV vt31, .tuple #[.slice A63 vt56.length c64, iV vt57], .slice A63 vt56.length c64, iV vt57, iV vt32, tV, tV, iV vt57, tV, tV, tV, iV vt31, .bool (vt31 == 1), .bool (vt31 == 1), .bool (vt31 == 1), uV, uV, uV, uV, uV, uV, uV, uV, uV, uV, uV], []⟩) rfl (by kernel_rfl) (by kernel_rfl) (by kernel_rfl) hnp (Sg.g0 (Sx.of [] (FM.le.refl _) HS71)) ?_
     have hq_ := ite_some h; clear h; rcases hq_ with ⟨c74, h⟩ | ⟨c74, h⟩
     · have c74 : vt31 = 1 := c74
       refine gateRwI 29 (x := (vt31 == 1)) (v := true) (by kernel_rfl) (beq_iff_eq.mpr c74) ?_
       refine gateRwI 30 (x := (vt31 == 1)) (v := true) (by kernel_rfl) (beq_iff_eq.mpr c74) ?_
       refine gateRwI 31 (x := (vt31 == 1)) (v := true) (by kernel_rfl) (beq_iff_eq.mpr c74) ?_
       refine takeG [11, 12, 13, 14, 15] (n := 12) (fuel := 7) (l' := #[true, true, true, true, true, true, true, true, true, true, true, true, true, true, true, true, false, false, false, false, false, false, false]) (a' := ⟨#[fV, pV b43 0, iV vt31, iV vt32, .slice A63 vt56.length c64, iV vt57, .tuple #[.agg #[.slice A38 vt30.Commits.length c39], iV vt31, iV vt32], .agg #[.slice none 0 0], (ag_Row vt5 A11 c12), .agg #[iV 1, iV vt5.ID, iV vt5.Box.X.Lo, iV vt5.Box.X.Hi, .bool vt5.Box.X.Unknown, iV vt5.Box.Y.Lo, iV vt5.Box.Y.Hi, .bool vt5.Box.Y.Unknown, iV vt5.Box.Z.Lo, iV vt5.Box.Z.Hi, .bool vt5.Box.Z.Unknown, iV vt5.Flux.Lo, iV vt5.Flux.Hi, .bool vt5.Flux.Unknown, iV vt5.When.Lo, iV vt5.When.Hi, .bool vt5.When.Unknown, .slice A11 vt5.Frames.length c12, iV vt5.Marks], .slice (some ⟨b20, 0, none⟩) ([(⟨1, vt5⟩ : S_Change)] : List S_Change).length 1, .tuple #[.agg #[.slice A38 vt30.Commits.length c39], iV vt31, iV vt32], .agg #[.slice A38 vt30.Commits.length c39], iV vt31, iV vt32, .tuple #[.slice A63 vt56.length c64, iV vt57], .agg #[.slice A38 vt30.Commits.length c39], iV vt31, .tuple #[.slice A63 vt56.length c64, iV vt57], .slice A63 vt56.length c64, iV vt57, iV vt32, tV, tV, iV vt57, tV, tV, tV, iV vt31, tV, tV, tV, .slice A63 vt56.length c64, iV (vt56.length : Int), .bool ((vt56.length : Int) == 1), .bool ((vt56.length : Int) == 1), .bool ((vt56.length : Int) == 1), uV, uV, uV, uV, uV, uV], []⟩) rfl (by kernel_rfl) (by kernel_rfl) (by kernel_rfl) hnp (Sg.g0 (Sx.of [] (FM.le.refl _) HS71)) ?_
       have hq_ := ite_some h; clear h; rcases hq_ with ⟨c75, h⟩ | ⟨c75, h⟩
       · have c75 : (vt56.length : Int) = 1 := c75
         refine gateRwI 34 (x := ((vt56.length : Int) == 1)) (v := true) (by kernel_rfl) (beq_iff_eq.mpr c75) ?_
         refine gateRwI 35 (x := ((vt56.length : Int) == 1)) (v := true) (by kernel_rfl) (beq_iff_eq.mpr c75) ?_
         refine gateRwI 36 (x := ((vt56.length : Int) == 1)) (v := true) (by kernel_rfl) (beq_iff_eq.mpr c75) ?_
         have hq_ := guard_some h; clear h; obtain ⟨c76, h⟩ := hq_
         have c76 : 0 < (vt56.length : Int) := c76
         obtain ⟨b80, of81, cs77, hA82, hr78, hc79⟩ := HO66.at (i := 0) (by decide) c76
         obtain ⟨A83, c83, rfl, HR83⟩ := hr78
         refine takeG [16] (n := 7) (fuel := 6) (l' := #[true, true, true, true, true, true, true, true, true, true, true, true, true, true, true, true, true, false, false, false, false, false, false]) (a' := ⟨#[fV, pV b43 0, iV vt31, iV vt32, .slice A63 vt56.length c64, iV vt57, .tuple #[.agg #[.slice A38 vt30.Commits.length c39], iV vt31, iV vt32], .agg #[.slice none 0 0], (ag_Row vt5 A11 c12), .agg #[iV 1, iV vt5.ID, iV vt5.Box.X.Lo, iV vt5.Box.X.Hi, .bool vt5.Box.X.Unknown, iV vt5.Box.Y.Lo, iV vt5.Box.Y.Hi, .bool vt5.Box.Y.Unknown, iV vt5.Box.Z.Lo, iV vt5.Box.Z.Hi, .bool vt5.Box.Z.Unknown, iV vt5.Flux.Lo, iV vt5.Flux.Hi, .bool vt5.Flux.Unknown, iV vt5.When.Lo, iV vt5.When.Hi, .bool vt5.When.Unknown, .slice A11 vt5.Frames.length c12, iV vt5.Marks], .slice (some ⟨b20, 0, none⟩) ([(⟨1, vt5⟩ : S_Change)] : List S_Change).length 1, .tuple #[.agg #[.slice A38 vt30.Commits.length c39], iV vt31, iV vt32], .agg #[.slice A38 vt30.Commits.length c39], iV vt31, iV vt32, .tuple #[.slice A63 vt56.length c64, iV vt57], .agg #[.slice A38 vt30.Commits.length c39], iV vt31, .tuple #[.slice A63 vt56.length c64, iV vt57], .slice A63 vt56.length c64, iV vt57, iV vt32, tV, tV, iV vt57, tV, tV, tV, iV vt31, tV, tV, tV, .slice A63 vt56.length c64, iV (vt56.length : Int), tV, tV, tV, .slice A63 vt56.length c64, uV, uV, uV, uV, uV], []⟩) rfl (by kernel_rfl) (by kernel_rfl) (by kernel_rfl) hnp (Sg.g0 (Sx.of [] (FM.le.refl _) HS71)) ?_
         refine takeGQ 17 [] rfl (by kernel_rfl) (by kernel_rfl) (by kernel_rfl) (by kernel_rfl) (by kernel_rfl) (by kernel_rfl) hnp (Sg.g0 (Sx.of [] (FM.le.refl _) HS71)) (fun w_ hw_ => by obtain ⟨g_, hl_, hS_⟩ := hw_.st; exact run_indexE hA82 (sz := 18) rfl Try.underlying26 (by kernel_rfl) (by kernel_rfl : _ = Value.slice A63 vt56.length c64) (by kernel_rfl : _ = Value.int .i64 0) (by decide) c76 w_) ?_
         refine takeGQ 18 [] rfl (by kernel_rfl) (by kernel_rfl) (by kernel_rfl) (by kernel_rfl) (by kernel_rfl) (by kernel_rfl) hnp (Sg.g0 (Sx.of [] (FM.le.refl _) HS71)) (fun w_ hw_ => by obtain ⟨g_, hl_, hS_⟩ := hw_.st; exact run_loadN (n := 18) rfl Try.underlying65 rfl (by kernel_rfl) (by kernel_rfl : _ = Value.pointer (some ⟨b80, of81 + (0 : Int).toNat * 18, none⟩)) (cs := [.int .i64 ((rd vt56 0).ID), .int .i64 ((((rd vt56 0).Box).X).Lo), .int .i64 ((((rd vt56 0).Box).X).Hi), .bool ((((rd vt56 0).Box).X).Unknown), .int .i64 ((((rd vt56 0).Box).Y).Lo), .int .i64 ((((rd vt56 0).Box).Y).Hi), .bool ((((rd vt56 0).Box).Y).Unknown), .int .i64 ((((rd vt56 0).Box).Z).Lo), .int .i64 ((((rd vt56 0).Box).Z).Hi), .bool ((((rd vt56 0).Box).Z).Unknown), .int .i64 (((rd vt56 0).Flux).Lo), .int .i64 (((rd vt56 0).Flux).Hi), .bool (((rd vt56 0).Flux).Unknown), .int .i64 (((rd vt56 0).When).Lo), .int .i64 (((rd vt56 0).When).Hi), .bool (((rd vt56 0).When).Unknown), .slice A83 ((rd vt56 0).Frames).length c83, .int .i64 ((rd vt56 0).Marks)]) rfl (fun j_ hj_ => ((hc79 hS_) j_ hj_))) ?_
         have hq_ := bind_some h; clear h; obtain ⟨vt84, hc85, h⟩ := hq_
         refine takeGE 19 (by kernel_rfl) rfl (by kernel_rfl) (does_call (f := 36) (args := #[.int .i64 3]) (by kernel_rfl) (spykeep3_single.calls k 3 HS71 vt84 hc85) ?_)
         rintro _ W88 ⟨f86, A90, c91, s92, rfl, L87, HS89, HO93⟩
         refine ⟨_, rfl, ?_⟩
         refine ⟨(Sg.g0 (Sx.of [s92] L87 HS89)), ?_⟩
         obtain ⟨f95, L96, HS97, HR98, th99⟩ := HO93.lend HS89
         have hq_ := bind_some h; clear h; obtain ⟨vt100, hc101, h⟩ := hq_
         refine takeGE 20 (by kernel_rfl) rfl (by kernel_rfl) (does_call (f := 21) (args := #[.agg #[.int .i64 ((rd vt56 0).ID), .int .i64 ((((rd vt56 0).Box).X).Lo), .int .i64 ((((rd vt56 0).Box).X).Hi), .bool ((((rd vt56 0).Box).X).Unknown), .int .i64 ((((rd vt56 0).Box).Y).Lo), .int .i64 ((((rd vt56 0).Box).Y).Hi), .bool ((((rd vt56 0).Box).Y).Unknown), .int .i64 ((((rd vt56 0).Box).Z).Lo), .int .i64 ((((rd vt56 0).Box).Z).Hi), .bool ((((rd vt56 0).Box).Z).Unknown), .int .i64 (((rd vt56 0).Flux).Lo), .int .i64 (((rd vt56 0).Flux).Hi), .bool (((rd vt56 0).Flux).Unknown), .int .i64 (((rd vt56 0).When).Lo), .int .i64 (((rd vt56 0).When).Hi), .bool (((rd vt56 0).When).Unknown), .slice A83 ((rd vt56 0).Frames).length c83, .int .i64 ((rd vt56 0).Marks)], .agg #[.int .i64 vt84.ID, .int .i64 vt84.Box.X.Lo, .int .i64 vt84.Box.X.Hi, .bool vt84.Box.X.Unknown, .int .i64 vt84.Box.Y.Lo, .int .i64 vt84.Box.Y.Hi, .bool vt84.Box.Y.Unknown, .int .i64 vt84.Box.Z.Lo, .int .i64 vt84.Box.Z.Hi, .bool vt84.Box.Z.Unknown, .int .i64 vt84.Flux.Lo, .int .i64 vt84.Flux.Hi, .bool vt84.Flux.Unknown, .int .i64 vt84.When.Lo, .int .i64 vt84.When.Hi, .bool vt84.When.Unknown, .slice A90 vt84.Frames.length c91, .int .i64 vt84.Marks]]) (by kernel_rfl) (catalog_Same.calls k A83 c83 A90 c91 (rd vt56 0) vt84 HS97 (HR83.mono (L87.trans L96)) HR98 vt100 hc101) ?_)
         rintro _ W104 ⟨f102, rfl, L103, HS105⟩
         refine ⟨_, rfl, ?_⟩
         obtain ⟨f106, L107, HS108⟩ := th99 L103 HS105
         refine ⟨(Sg.g0 (Sx.of [s92] (L87.trans L107) HS108)), ?_⟩
         refine takeG [21, 22] (n := 2) (fuel := 0) (l' := #[true, true, true, true, true, true, true, true, true, true, true, true, true, true, true, true, true, true, true, true, true, true, true]) (a' := ⟨#[.bool vt100, pV b43 0, iV vt31, iV vt32, .slice A63 vt56.length c64, iV vt57, .tuple #[.agg #[.slice A38 vt30.Commits.length c39], iV vt31, iV vt32], .agg #[.slice none 0 0], (ag_Row vt5 A11 c12), .agg #[iV 1, iV vt5.ID, iV vt5.Box.X.Lo, iV vt5.Box.X.Hi, .bool vt5.Box.X.Unknown, iV vt5.Box.Y.Lo, iV vt5.Box.Y.Hi, .bool vt5.Box.Y.Unknown, iV vt5.Box.Z.Lo, iV vt5.Box.Z.Hi, .bool vt5.Box.Z.Unknown, iV vt5.Flux.Lo, iV vt5.Flux.Hi, .bool vt5.Flux.Unknown, iV vt5.When.Lo, iV vt5.When.Hi, .bool vt5.When.Unknown, .slice A11 vt5.Frames.length c12, iV vt5.Marks], .slice (some ⟨b20, 0, none⟩) ([(⟨1, vt5⟩ : S_Change)] : List S_Change).length 1, .tuple #[.agg #[.slice A38 vt30.Commits.length c39], iV vt31, iV vt32], .agg #[.slice A38 vt30.Commits.length c39], iV vt31, iV vt32, .tuple #[.slice A63 vt56.length c64, iV vt57], .agg #[.slice A38 vt30.Commits.length c39], iV vt31, .tuple #[.slice A63 vt56.length c64, iV vt57], .slice A63 vt56.length c64, iV vt57, iV vt32, tV, tV, iV vt57, tV, tV, tV, iV vt31, tV, tV, tV, .slice A63 vt56.length c64, iV (vt56.length : Int), tV, tV, tV, .slice A63 vt56.length c64, pV b80 (of81 + (0 : Int).toNat * 18), (ag_Row (rd vt56 0) A83 c83), (ag_Row vt84 A90 c91), .bool vt100, .bool vt100], []⟩) rfl (by kernel_rfl) (by kernel_rfl) (by kernel_rfl) hnp (Sg.g0 (Sx.of [s92] (L87.trans L107) HS108)) ?_
         refine doneG (by kernel_rfl) ?_ _
         refine hK69 _ _ ?_
         refine wp_ret ?_
         refine hret _ _ ?_
         refine ends_still (v := Value.bool vt100) (by kernel_rfl) (by kernel_rfl) ?_
         have HS109 := HS108.drop
         have HS110 := HS109.drop
         have HS111 := HS110.drop
         injection h with h
         subst h
         exact ⟨f106, rfl, (L8.trans (L17.trans (L27.trans (L35.trans (L53.trans (L60.trans (L87.trans L107))))))), HS111⟩
       · have c75 : ¬ ((vt56.length : Int) = 1) := c75
         refine gateRwI 34 (x := ((vt56.length : Int) == 1)) (v := false) (by kernel_rfl) (beq_eq_false_iff_ne.mpr c75) ?_
         refine gateRwI 35 (x := ((vt56.length : Int) == 1)) (v := false) (by kernel_rfl) (beq_eq_false_iff_ne.mpr c75) ?_
         refine gateRwI 36 (x := ((vt56.length : Int) == 1)) (v := false) (by kernel_rfl) (beq_eq_false_iff_ne.mpr c75) ?_
         refine takeG [16, 17, 18, 19, 20, 21, 22] (n := 7) (fuel := 0) (l' := #[true, true, true, true, true, true, true, true, true, true, true, true, true, true, true, true, true, true, true, true, true, true, true]) (a' := ⟨#[fV, pV b43 0, iV vt31, iV vt32, .slice A63 vt56.length c64, iV vt57, .tuple #[.agg #[.slice A38 vt30.Commits.length c39], iV vt31, iV vt32], .agg #[.slice none 0 0], (ag_Row vt5 A11 c12), .agg #[iV 1, iV vt5.ID, iV vt5.Box.X.Lo, iV vt5.Box.X.Hi, .bool vt5.Box.X.Unknown, iV vt5.Box.Y.Lo, iV vt5.Box.Y.Hi, .bool vt5.Box.Y.Unknown, iV vt5.Box.Z.Lo, iV vt5.Box.Z.Hi, .bool vt5.Box.Z.Unknown, iV vt5.Flux.Lo, iV vt5.Flux.Hi, .bool vt5.Flux.Unknown, iV vt5.When.Lo, iV vt5.When.Hi, .bool vt5.When.Unknown, .slice A11 vt5.Frames.length c12, iV vt5.Marks], .slice (some ⟨b20, 0, none⟩) ([(⟨1, vt5⟩ : S_Change)] : List S_Change).length 1, .tuple #[.agg #[.slice A38 vt30.Commits.length c39], iV vt31, iV vt32], .agg #[.slice A38 vt30.Commits.length c39], iV vt31, iV vt32, .tuple #[.slice A63 vt56.length c64, iV vt57], .agg #[.slice A38 vt30.Commits.length c39], iV vt31, .tuple #[.slice A63 vt56.length c64, iV vt57], .slice A63 vt56.length c64, iV vt57, iV vt32, tV, tV, iV vt57, tV, tV, tV, iV vt31, tV, tV, tV, .slice A63 vt56.length c64, iV (vt56.length : Int), fV, fV, fV, uV, uV, uV, uV, uV, fV], []⟩) rfl (by kernel_rfl) (by kernel_rfl) (by kernel_rfl) hnp (Sg.g0 (Sx.of [] (FM.le.refl _) HS71)) ?_
         refine doneG (by kernel_rfl) ?_ _
         refine hK69 _ _ ?_
         refine wp_ret ?_
         refine hret _ _ ?_
         refine ends_still (v := Value.bool false) (by kernel_rfl) (by kernel_rfl) ?_
         have HS112 := HS71.drop
         have HS113 := HS112.drop
         injection h with h
         subst h
         exact ⟨f59, rfl, (L8.trans (L17.trans (L27.trans (L35.trans (L53.trans L60))))), HS113⟩
     · have c74 : ¬ (vt31 = 1) := c74
       refine gateRwI 29 (x := (vt31 == 1)) (v := false) (by kernel_rfl) (beq_eq_false_iff_ne.mpr c74) ?_
       refine gateRwI 30 (x := (vt31 == 1)) (v := false) (by kernel_rfl) (beq_eq_false_iff_ne.mpr c74) ?_
       refine gateRwI 31 (x := (vt31 == 1)) (v := false) (by kernel_rfl) (beq_eq_false_iff_ne.mpr c74) ?_
       refine takeG [11, 12, 13, 14, 15, 16, 17, 18, 19, 20, 21, 22] (n := 12) (fuel := 0) (l' := #[true, true, true, true, true, true, true, true, true, true, true, true, true, true, true, true, true, true, true, true, true, true, true]) (a' := ⟨#[fV, pV b43 0, iV vt31, iV vt32, .slice A63 vt56.length c64, iV vt57, .tuple #[.agg #[.slice A38 vt30.Commits.length c39], iV vt31, iV vt32], .agg #[.slice none 0 0], (ag_Row vt5 A11 c12), .agg #[iV 1, iV vt5.ID, iV vt5.Box.X.Lo, iV vt5.Box.X.Hi, .bool vt5.Box.X.Unknown, iV vt5.Box.Y.Lo, iV vt5.Box.Y.Hi, .bool vt5.Box.Y.Unknown, iV vt5.Box.Z.Lo, iV vt5.Box.Z.Hi, .bool vt5.Box.Z.Unknown, iV vt5.Flux.Lo, iV vt5.Flux.Hi, .bool vt5.Flux.Unknown, iV vt5.When.Lo, iV vt5.When.Hi, .bool vt5.When.Unknown, .slice A11 vt5.Frames.length c12, iV vt5.Marks], .slice (some ⟨b20, 0, none⟩) ([(⟨1, vt5⟩ : S_Change)] : List S_Change).length 1, .tuple #[.agg #[.slice A38 vt30.Commits.length c39], iV vt31, iV vt32], .agg #[.slice A38 vt30.Commits.length c39], iV vt31, iV vt32, .tuple #[.slice A63 vt56.length c64, iV vt57], .agg #[.slice A38 vt30.Commits.length c39], iV vt31, .tuple #[.slice A63 vt56.length c64, iV vt57], .slice A63 vt56.length c64, iV vt57, iV vt32, tV, tV, iV vt57, tV, tV, tV, iV vt31, fV, fV, fV, uV, uV, uV, fV, fV, uV, uV, uV, uV, uV, fV], []⟩) rfl (by kernel_rfl) (by kernel_rfl) (by kernel_rfl) hnp (Sg.g0 (Sx.of [] (FM.le.refl _) HS71)) ?_
       refine doneG (by kernel_rfl) ?_ _
       refine hK69 _ _ ?_
       refine wp_ret ?_
       refine hret _ _ ?_
       refine ends_still (v := Value.bool false) (by kernel_rfl) (by kernel_rfl) ?_
       have HS114 := HS71.drop
       have HS115 := HS114.drop
       injection h with h
       subst h
       exact ⟨f59, rfl, (L8.trans (L17.trans (L27.trans (L35.trans (L53.trans L60))))), HS115⟩
   · have c73 : ¬ (vt57 = 0) := c73
     refine gateRwI 25 (x := (vt57 == 0)) (v := false) (by kernel_rfl) (beq_eq_false_iff_ne.mpr c73) ?_
     refine gateRwI 26 (x := (vt57 == 0)) (v := false) (by kernel_rfl) (beq_eq_false_iff_ne.mpr c73) ?_
     refine gateRwI 27 (x := (vt57 == 0)) (v := false) (by kernel_rfl) (beq_eq_false_iff_ne.mpr c73) ?_
     refine takeG [7, 8, 9, 10, 11, 12, 13, 14, 15, 16, 17, 18, 19, 20, 21, 22] (n := 16) (fuel := 0) (l' := #[true, true, true, true, true, true, true, true, true, true, true, true, true, true, true, true, true, true, true, true, true, true, true]) (a' := ⟨#[fV, pV b43 0, iV vt31, iV vt32, .slice A63 vt56.length c64, iV vt57, .tuple #[.agg #[.slice A38 vt30.Commits.length c39], iV vt31, iV vt32], .agg #[.slice none 0 0], (ag_Row vt5 A11 c12), .agg #[iV 1, iV vt5.ID, iV vt5.Box.X.Lo, iV vt5.Box.X.Hi, .bool vt5.Box.X.Unknown, iV vt5.Box.Y.Lo, iV vt5.Box.Y.Hi, .bool vt5.Box.Y.Unknown, iV vt5.Box.Z.Lo, iV vt5.Box.Z.Hi, .bool vt5.Box.Z.Unknown, iV vt5.Flux.Lo, iV vt5.Flux.Hi, .bool vt5.Flux.Unknown, iV vt5.When.Lo, iV vt5.When.Hi, .bool vt5.When.Unknown, .slice A11 vt5.Frames.length c12, iV vt5.Marks], .slice (some ⟨b20, 0, none⟩) ([(⟨1, vt5⟩ : S_Change)] : List S_Change).length 1, .tuple #[.agg #[.slice A38 vt30.Commits.length c39], iV vt31, iV vt32], .agg #[.slice A38 vt30.Commits.length c39], iV vt31, iV vt32, .tuple #[.slice A63 vt56.length c64, iV vt57], .agg #[.slice A38 vt30.Commits.length c39], iV vt31, .tuple #[.slice A63 vt56.length c64, iV vt57], .slice A63 vt56.length c64, iV vt57, iV vt32, tV, tV, iV vt57, fV, fV, fV, uV, uV, fV, fV, uV, uV, uV, fV, fV, uV, uV, uV, uV, uV, fV], []⟩) rfl (by kernel_rfl) (by kernel_rfl) (by kernel_rfl) hnp (Sg.g0 (Sx.of [] (FM.le.refl _) HS71)) ?_
     refine doneG (by kernel_rfl) ?_ _
     refine hK69 _ _ ?_
     refine wp_ret ?_
     refine hret _ _ ?_
     refine ends_still (v := Value.bool false) (by kernel_rfl) (by kernel_rfl) ?_
     have HS116 := HS71.drop
     have HS117 := HS116.drop
     injection h with h
     subst h
     exact ⟨f59, rfl, (L8.trans (L17.trans (L27.trans (L35.trans (L53.trans L60))))), HS117⟩
 · have c72 : ¬ (vt32 = 0) := c72
   refine gateRwI 22 (x := (vt32 == 0)) (v := false) (by kernel_rfl) (beq_eq_false_iff_ne.mpr c72) ?_
   refine gateRwI 23 (x := (vt32 == 0)) (v := false) (by kernel_rfl) (beq_eq_false_iff_ne.mpr c72) ?_
   refine takeG [3, 4, 5, 6, 7, 8, 9, 10, 11, 12, 13, 14, 15, 16, 17, 18, 19, 20, 21, 22] (n := 20) (fuel := 0) (l' := #[true, true, true, true, true, true, true, true, true, true, true, true, true, true, true, true, true, true, true, true, true, true, true]) (a' := ⟨#[fV, pV b43 0, iV vt31, iV vt32, .slice A63 vt56.length c64, iV vt57, .tuple #[.agg #[.slice A38 vt30.Commits.length c39], iV vt31, iV vt32], .agg #[.slice none 0 0], (ag_Row vt5 A11 c12), .agg #[iV 1, iV vt5.ID, iV vt5.Box.X.Lo, iV vt5.Box.X.Hi, .bool vt5.Box.X.Unknown, iV vt5.Box.Y.Lo, iV vt5.Box.Y.Hi, .bool vt5.Box.Y.Unknown, iV vt5.Box.Z.Lo, iV vt5.Box.Z.Hi, .bool vt5.Box.Z.Unknown, iV vt5.Flux.Lo, iV vt5.Flux.Hi, .bool vt5.Flux.Unknown, iV vt5.When.Lo, iV vt5.When.Hi, .bool vt5.When.Unknown, .slice A11 vt5.Frames.length c12, iV vt5.Marks], .slice (some ⟨b20, 0, none⟩) ([(⟨1, vt5⟩ : S_Change)] : List S_Change).length 1, .tuple #[.agg #[.slice A38 vt30.Commits.length c39], iV vt31, iV vt32], .agg #[.slice A38 vt30.Commits.length c39], iV vt31, iV vt32, .tuple #[.slice A63 vt56.length c64, iV vt57], .agg #[.slice A38 vt30.Commits.length c39], iV vt31, .tuple #[.slice A63 vt56.length c64, iV vt57], .slice A63 vt56.length c64, iV vt57, iV vt32, fV, fV, uV, uV, fV, fV, uV, uV, fV, fV, uV, uV, uV, fV, fV, uV, uV, uV, uV, uV, fV], []⟩) rfl (by kernel_rfl) (by kernel_rfl) (by kernel_rfl) hnp (Sg.g0 (Sx.of [] (FM.le.refl _) HS71)) ?_
   refine doneG (by kernel_rfl) ?_ _
   refine hK69 _ _ ?_
   refine wp_ret ?_
   refine hret _ _ ?_
   refine ends_still (v := Value.bool false) (by kernel_rfl) (by kernel_rfl) ?_
   have HS118 := HS71.drop
   have HS119 := HS118.drop
   injection h with h
   subst h
   exact ⟨f59, rfl, (L8.trans (L17.trans (L27.trans (L35.trans (L53.trans L60))))), HS119⟩

set_option maxRecDepth 100000 in
set_option maxHeartbeats 4000000 in
theorem slices_EqualFunc_Row__catalog_Same.calls (k : Nat) (A2 : Option Addr) (c3 : Nat) (A6 : Option Addr) (c7 : Nat) (s11 : List S_Row) (s25 : List S_Row) {t w : World} {f : FM} {H : List Seg} (HS : St t w f (H)) (HR4 : SlR ty_Row f A2 c3 s11) (HR8 : SlR ty_Row f A6 c7 s25) (rr1 : Bool) (h : slices_EqualFunc_Row__catalog_Same k s11 s25 = some rr1) :
    Calls Try.prog 37 #[.slice A2 s11.length c3, .slice A6 s25.length c7, .func (.func 21) #[] #[]] w (fun e w' => ∃ (g : FM), e = .returned (Value.bool rr1) ∧ FM.le f g ∧ St t w' g (H)) := by
 unfold slices_EqualFunc_Row__catalog_Same at h
 refine enter Try.func37 rfl (tm := #[.slice A2 s11.length c3, .slice A6 s25.length c7, .func (.func 21) #[] #[], uV, uV, uV, uV, uV, uV, uV, uV, uV, uV, uV, uV, uV, uV, uV, uV, uV, uV, uV, uV, uV, uV, uV, uV, uV, uV, uV, uV, uV]) (by kernel_rfl) ?_
 intro B hret hnor hnp
 refine wp_seq_k (fun K9 hK10 => ?_)
 refine wp_region_lit ?_
 refine seqL1 (by kernel_rfl) ?_
 refine wpList_nil ?_
 refine hK10 _ _ ?_
 refine wp_seq_k (fun K11 hK12 => ?_)
 refine wp_seq_k (fun K13 hK14 => ?_)
 refine wp_region_lit ?_
 refine seqL5 (by kernel_rfl) ?_
 refine wpList_nil ?_
 refine hK14 _ _ ?_
 have hq_ := ite_some h; clear h; rcases hq_ with ⟨c16, h⟩ | ⟨c16, h⟩
 · have c16 : (s11.length : Int) ≠ (s25.length : Int) := c16
   refine wpRwI 14 (x := ((s11.length : Int) != (s25.length : Int))) (v := true) (by kernel_rfl) (bne_iff_ne.mpr c16) ?_
   refine condT (by kernel_rfl) ?_
   refine wp_seq_k (fun K17 hK18 => ?_)
   refine wp_region_lit ?_
   refine seqL1 (by kernel_rfl) ?_
   refine wpList_nil ?_
   refine hK18 _ _ ?_
   refine wp_ret ?_
   refine hret _ _ ?_
   refine ends_still (v := Value.bool false) (by kernel_rfl) (by kernel_rfl) ?_
   injection h with h
   subst h
   exact ⟨f, rfl, FM.le.refl _, HS⟩
 · have c16 : ¬ ((s11.length : Int) ≠ (s25.length : Int)) := c16
   refine wpRwI 14 (x := ((s11.length : Int) != (s25.length : Int))) (v := false) (by kernel_rfl) (bne_eq_false_iff_eq.mpr (Decidable.of_not_not c16)) ?_
   refine condF (by kernel_rfl) ?_
   refine wp_skip ?_
   refine hK12 _ _ ?_
   refine wp_seq_k (fun K19 hK20 => ?_)
   refine wp_seq_k (fun K21 hK22 => ?_)
   refine wp_region_lit ?_
   refine seqL3 (by kernel_rfl) ?_
   refine wpList_nil ?_
   refine hK22 _ _ ?_
   refine blockK (fun B23 hx24 hn25 hr26 ho27 hp28 => ?_)
   have hq_ := bind_some h; clear h; obtain ⟨o29, hv103, h⟩ := hq_
   have JR105 : ∀ z_, some (Sum.inl z_) = some o29 → some z_ = some rr1 := by
    intro z_ e_; injection e_ with e_; subst e_; exact h
   have J104 : ∀ (f98 : FM) (j102 : Nat → Value) (W100 : World) (a_ : Act), FM.le f f98 → some (Sum.inr ()) = some o29 → St t W100 f98 (H) → a_ = ⟨#[.slice A2 s11.length c3, .slice A6 s25.length c7, .func (.func 21) #[] #[], uV, uV, uV, (j102 0), (j102 1), (j102 2), (j102 3), .slice A2 s11.length c3, iV (s11.length : Int), .slice A6 s25.length c7, iV (s25.length : Int), fV, .slice A2 s11.length c3, iV (s11.length : Int), (j102 4), (j102 5), (j102 6), (j102 7), (j102 8), (j102 9), (j102 10), (j102 11), (j102 12), (j102 13), (j102 14), (j102 15), (j102 16), (j102 17), (j102 18)], []⟩ → K19 a_ W100 := by
    intro f98 j102 W100 a_ L99 hj106 HS101  hfr_; subst hfr_
    injection hj106 with hj106; subst hj106; try dsimp only at h
    simp only [Sum.elim_inr] at h
    refine hK20 _ _ ?_
    refine wp_seq_k (fun K111 hK112 => ?_)
    refine wp_region_lit ?_
    refine seqL1 (by kernel_rfl) ?_
    refine wpList_nil ?_
    refine hK112 _ _ ?_
    refine wp_ret ?_
    refine hret _ _ ?_
    refine ends_still (v := Value.bool true) (by kernel_rfl) (by kernel_rfl) ?_
    injection h with h
    subst h
    exact ⟨f98, rfl, L99, HS101⟩
   clear h; have h := hv103; clear hv103
   refine loopK (fun n_ a_ w_ => ∃ (f33 : FM) (x38 : Int) (j37 : Nat → Value), FM.le f f33 ∧ St t w_ f33 (H) ∧ slices_EqualFunc_Row__catalog_Same.l0 k s11 s25 n_ x38 = some o29 ∧ a_ = ⟨#[.slice A2 s11.length c3, .slice A6 s25.length c7, .func (.func 21) #[] #[], uV, uV, uV, (j37 0), (j37 1), (j37 2), (j37 3), .slice A2 s11.length c3, iV (s11.length : Int), .slice A6 s25.length c7, iV (s25.length : Int), fV, .slice A2 s11.length c3, iV (s11.length : Int), iV x38, (j37 4), (j37 5), (j37 6), (j37 7), (j37 8), (j37 9), (j37 10), (j37 11), (j37 12), (j37 13), (j37 14), (j37 15), (j37 16), (j37 17)], []⟩) k ⟨f, 0, (fun i_ => [Value.bool false, undef, undef, undef, undef, undef, undef, undef, undef, undef, undef, undef, undef, undef, undef, undef, undef, undef].getD i_ undef), (FM.le.refl _), HS, h, (by kernel_rfl)⟩ ?_
   clear h
   rintro n32 _ W35 ⟨f33, x38, j37, L34, HS36, h, rfl⟩ K30 hK31
   obtain _ | n32 := n32
   · exact nomatch h
   simp only [slices_EqualFunc_Row__catalog_Same.l0] at h
   refine wp_seq_k (fun K39 hK40 => ?_)
   refine wp_region_lit ?_
   refine seqL1 (by kernel_rfl) ?_
   refine wpList_nil ?_
   refine hK40 _ _ ?_
   refine wp_seq_k (fun K41 hK42 => ?_)
   have hq_ := ite_some h; clear h; rcases hq_ with ⟨c44, h⟩ | ⟨c44, h⟩
   · have c44 : x38 < (s11.length : Int) := c44
     refine wpRwI 18 (x := (decide (x38 < (s11.length : Int)))) (v := true) (by kernel_rfl) (decide_eq_true c44) ?_
     refine condT (by kernel_rfl) ?_
     refine wp_skip ?_
     refine hK42 _ _ ?_
     refine wp_seq_k (fun K45 hK46 => ?_)
     refine blockK (fun B47 hx48 hn49 hr50 ho51 hp52 => ?_)
     refine wp_seq_k (fun K54 hK55 => ?_)
     refine wp_region_lit ?_
     have hq_ := guard_some h; clear h; obtain ⟨c56, h⟩ := hq_
     have c56 : 0 ≤ x38 := c56
     obtain ⟨b60, of61, cs57, hA62, hr58, hc59⟩ := (HR4.mono L34).at (i := x38) c56 c44
     obtain ⟨A63, c63, rfl, HR63⟩ := hr58
     refine seqL1 (by kernel_rfl) ?_
     refine seqK rfl (does_run (run_indexE hA62 (sz := 18) rfl Try.underlying26 (by kernel_rfl) (by kernel_rfl : _ = Value.slice A2 s11.length c3) (by kernel_rfl : _ = Value.int .i64 x38) c56 c44 W35) ?_)
     refine seqK rfl (does_run (run_loadN (n := 18) rfl Try.underlying65 rfl (by kernel_rfl) (by kernel_rfl : _ = Value.pointer (some ⟨b60, of61 + (x38 : Int).toNat * 18, none⟩)) (cs := [.int .i64 ((rd s11 x38).ID), .int .i64 ((((rd s11 x38).Box).X).Lo), .int .i64 ((((rd s11 x38).Box).X).Hi), .bool ((((rd s11 x38).Box).X).Unknown), .int .i64 ((((rd s11 x38).Box).Y).Lo), .int .i64 ((((rd s11 x38).Box).Y).Hi), .bool ((((rd s11 x38).Box).Y).Unknown), .int .i64 ((((rd s11 x38).Box).Z).Lo), .int .i64 ((((rd s11 x38).Box).Z).Hi), .bool ((((rd s11 x38).Box).Z).Unknown), .int .i64 (((rd s11 x38).Flux).Lo), .int .i64 (((rd s11 x38).Flux).Hi), .bool (((rd s11 x38).Flux).Unknown), .int .i64 (((rd s11 x38).When).Lo), .int .i64 (((rd s11 x38).When).Hi), .bool (((rd s11 x38).When).Unknown), .slice A63 ((rd s11 x38).Frames).length c63, .int .i64 ((rd s11 x38).Marks)]) rfl (fun j_ hj_ => ((hc59 (FM.le.refl _) HS36) j_ hj_))) ?_)
     refine seqK rfl (does_alloc (z := Value.agg #[.int .i64 0, .int .i64 0, .int .i64 0, .bool false, .int .i64 0, .int .i64 0, .bool false, .int .i64 0, .int .i64 0, .bool false, .int .i64 0, .int .i64 0, .bool false, .int .i64 0, .int .i64 0, .bool false, .slice none 0 0, .int .i64 0]) (cs := #[.int .i64 0, .int .i64 0, .int .i64 0, .bool false, .int .i64 0, .int .i64 0, .bool false, .int .i64 0, .int .i64 0, .bool false, .int .i64 0, .int .i64 0, .bool false, .int .i64 0, .int .i64 0, .bool false, .slice none 0 0, .int .i64 0]) rfl (by kernel_rfl) rfl HS36 ?_)
     intro b64 W65 HS66
     refine seqL1 (by kernel_rfl) ?_
     refine seqK rfl (does_store (n := 18) (vs := [.int .i64 ((rd s11 x38).ID), .int .i64 ((((rd s11 x38).Box).X).Lo), .int .i64 ((((rd s11 x38).Box).X).Hi), .bool ((((rd s11 x38).Box).X).Unknown), .int .i64 ((((rd s11 x38).Box).Y).Lo), .int .i64 ((((rd s11 x38).Box).Y).Hi), .bool ((((rd s11 x38).Box).Y).Unknown), .int .i64 ((((rd s11 x38).Box).Z).Lo), .int .i64 ((((rd s11 x38).Box).Z).Hi), .bool ((((rd s11 x38).Box).Z).Unknown), .int .i64 (((rd s11 x38).Flux).Lo), .int .i64 (((rd s11 x38).Flux).Hi), .bool (((rd s11 x38).Flux).Unknown), .int .i64 (((rd s11 x38).When).Lo), .int .i64 (((rd s11 x38).When).Hi), .bool (((rd s11 x38).When).Unknown), .slice A63 ((rd s11 x38).Frames).length c63, .int .i64 ((rd s11 x38).Marks)]) (cs' := #[.int .i64 ((rd s11 x38).ID), .int .i64 ((((rd s11 x38).Box).X).Lo), .int .i64 ((((rd s11 x38).Box).X).Hi), .bool ((((rd s11 x38).Box).X).Unknown), .int .i64 ((((rd s11 x38).Box).Y).Lo), .int .i64 ((((rd s11 x38).Box).Y).Hi), .bool ((((rd s11 x38).Box).Y).Unknown), .int .i64 ((((rd s11 x38).Box).Z).Lo), .int .i64 ((((rd s11 x38).Box).Z).Hi), .bool ((((rd s11 x38).Box).Z).Unknown), .int .i64 (((rd s11 x38).Flux).Lo), .int .i64 (((rd s11 x38).Flux).Hi), .bool (((rd s11 x38).Flux).Unknown), .int .i64 (((rd s11 x38).When).Lo), .int .i64 (((rd s11 x38).When).Hi), .bool (((rd s11 x38).When).Unknown), .slice A63 ((rd s11 x38).Frames).length c63, .int .i64 ((rd s11 x38).Marks)]) rfl (by kernel_rfl) (by kernel_rfl : _ = Value.pointer (some ⟨b64, 0, none⟩)) (by kernel_rfl : _ = Value.agg #[.int .i64 ((rd s11 x38).ID), .int .i64 ((((rd s11 x38).Box).X).Lo), .int .i64 ((((rd s11 x38).Box).X).Hi), .bool ((((rd s11 x38).Box).X).Unknown), .int .i64 ((((rd s11 x38).Box).Y).Lo), .int .i64 ((((rd s11 x38).Box).Y).Hi), .bool ((((rd s11 x38).Box).Y).Unknown), .int .i64 ((((rd s11 x38).Box).Z).Lo), .int .i64 ((((rd s11 x38).Box).Z).Hi), .bool ((((rd s11 x38).Box).Z).Unknown), .int .i64 (((rd s11 x38).Flux).Lo), .int .i64 (((rd s11 x38).Flux).Hi), .bool (((rd s11 x38).Flux).Unknown), .int .i64 (((rd s11 x38).When).Lo), .int .i64 (((rd s11 x38).When).Hi), .bool (((rd s11 x38).When).Unknown), .slice A63 ((rd s11 x38).Frames).length c63, .int .i64 ((rd s11 x38).Marks)]) rfl rfl (by intro u_ hu_; simp only [List.mem_cons, List.not_mem_nil, or_false] at hu_; rcases hu_ with rfl | rfl | rfl | rfl | rfl | rfl | rfl | rfl | rfl | rfl | rfl | rfl | rfl | rfl | rfl | rfl | rfl | rfl <;> rfl) HS66 (Nat.le_of_ble_eq_true rfl) (by kernel_rfl) ?_)
     intro W68 HS69
     refine wpList_nil ?_
     refine hK55 _ _ ?_
     refine wp_seq_k (fun K70 hK71 => ?_)
     refine wp_region_lit ?_
     have hq_ := guard_some h; clear h; obtain ⟨c72, h⟩ := hq_
     have c72 : x38 < (s25.length : Int) := c72
     obtain ⟨b76, of77, cs73, hA78, hr74, hc75⟩ := (HR8.mono L34).at (i := x38) c56 c72
     obtain ⟨A79, c79, rfl, HR79⟩ := hr74
     refine seqL2 (by kernel_rfl) ?_
     refine seqK rfl (does_run (run_indexE hA78 (sz := 18) rfl Try.underlying26 (by kernel_rfl) (by kernel_rfl : _ = Value.slice A6 s25.length c7) (by kernel_rfl : _ = Value.int .i64 x38) c56 c72 W68) ?_)
     refine seqK rfl (does_run (run_loadN (n := 18) rfl Try.underlying65 rfl (by kernel_rfl) (by kernel_rfl : _ = Value.pointer (some ⟨b76, of77 + (x38 : Int).toNat * 18, none⟩)) (cs := [.int .i64 ((rd s25 x38).ID), .int .i64 ((((rd s25 x38).Box).X).Lo), .int .i64 ((((rd s25 x38).Box).X).Hi), .bool ((((rd s25 x38).Box).X).Unknown), .int .i64 ((((rd s25 x38).Box).Y).Lo), .int .i64 ((((rd s25 x38).Box).Y).Hi), .bool ((((rd s25 x38).Box).Y).Unknown), .int .i64 ((((rd s25 x38).Box).Z).Lo), .int .i64 ((((rd s25 x38).Box).Z).Hi), .bool ((((rd s25 x38).Box).Z).Unknown), .int .i64 (((rd s25 x38).Flux).Lo), .int .i64 (((rd s25 x38).Flux).Hi), .bool (((rd s25 x38).Flux).Unknown), .int .i64 (((rd s25 x38).When).Lo), .int .i64 (((rd s25 x38).When).Hi), .bool (((rd s25 x38).When).Unknown), .slice A79 ((rd s25 x38).Frames).length c79, .int .i64 ((rd s25 x38).Marks)]) rfl (fun j_ hj_ => ((hc75 (FM.le.refl _) HS69) j_ hj_))) ?_)
     refine seqK rfl (does_alloc (z := Value.agg #[.int .i64 0, .int .i64 0, .int .i64 0, .bool false, .int .i64 0, .int .i64 0, .bool false, .int .i64 0, .int .i64 0, .bool false, .int .i64 0, .int .i64 0, .bool false, .int .i64 0, .int .i64 0, .bool false, .slice none 0 0, .int .i64 0]) (cs := #[.int .i64 0, .int .i64 0, .int .i64 0, .bool false, .int .i64 0, .int .i64 0, .bool false, .int .i64 0, .int .i64 0, .bool false, .int .i64 0, .int .i64 0, .bool false, .int .i64 0, .int .i64 0, .bool false, .slice none 0 0, .int .i64 0]) rfl (by kernel_rfl) rfl HS69 ?_)
     intro b80 W81 HS82
     refine seqK rfl (does_store (n := 18) (vs := [.int .i64 ((rd s25 x38).ID), .int .i64 ((((rd s25 x38).Box).X).Lo), .int .i64 ((((rd s25 x38).Box).X).Hi), .bool ((((rd s25 x38).Box).X).Unknown), .int .i64 ((((rd s25 x38).Box).Y).Lo), .int .i64 ((((rd s25 x38).Box).Y).Hi), .bool ((((rd s25 x38).Box).Y).Unknown), .int .i64 ((((rd s25 x38).Box).Z).Lo), .int .i64 ((((rd s25 x38).Box).Z).Hi), .bool ((((rd s25 x38).Box).Z).Unknown), .int .i64 (((rd s25 x38).Flux).Lo), .int .i64 (((rd s25 x38).Flux).Hi), .bool (((rd s25 x38).Flux).Unknown), .int .i64 (((rd s25 x38).When).Lo), .int .i64 (((rd s25 x38).When).Hi), .bool (((rd s25 x38).When).Unknown), .slice A79 ((rd s25 x38).Frames).length c79, .int .i64 ((rd s25 x38).Marks)]) (cs' := #[.int .i64 ((rd s25 x38).ID), .int .i64 ((((rd s25 x38).Box).X).Lo), .int .i64 ((((rd s25 x38).Box).X).Hi), .bool ((((rd s25 x38).Box).X).Unknown), .int .i64 ((((rd s25 x38).Box).Y).Lo), .int .i64 ((((rd s25 x38).Box).Y).Hi), .bool ((((rd s25 x38).Box).Y).Unknown), .int .i64 ((((rd s25 x38).Box).Z).Lo), .int .i64 ((((rd s25 x38).Box).Z).Hi), .bool ((((rd s25 x38).Box).Z).Unknown), .int .i64 (((rd s25 x38).Flux).Lo), .int .i64 (((rd s25 x38).Flux).Hi), .bool (((rd s25 x38).Flux).Unknown), .int .i64 (((rd s25 x38).When).Lo), .int .i64 (((rd s25 x38).When).Hi), .bool (((rd s25 x38).When).Unknown), .slice A79 ((rd s25 x38).Frames).length c79, .int .i64 ((rd s25 x38).Marks)]) rfl (by kernel_rfl) (by kernel_rfl : _ = Value.pointer (some ⟨b80, 0, none⟩)) (by kernel_rfl : _ = Value.agg #[.int .i64 ((rd s25 x38).ID), .int .i64 ((((rd s25 x38).Box).X).Lo), .int .i64 ((((rd s25 x38).Box).X).Hi), .bool ((((rd s25 x38).Box).X).Unknown), .int .i64 ((((rd s25 x38).Box).Y).Lo), .int .i64 ((((rd s25 x38).Box).Y).Hi), .bool ((((rd s25 x38).Box).Y).Unknown), .int .i64 ((((rd s25 x38).Box).Z).Lo), .int .i64 ((((rd s25 x38).Box).Z).Hi), .bool ((((rd s25 x38).Box).Z).Unknown), .int .i64 (((rd s25 x38).Flux).Lo), .int .i64 (((rd s25 x38).Flux).Hi), .bool (((rd s25 x38).Flux).Unknown), .int .i64 (((rd s25 x38).When).Lo), .int .i64 (((rd s25 x38).When).Hi), .bool (((rd s25 x38).When).Unknown), .slice A79 ((rd s25 x38).Frames).length c79, .int .i64 ((rd s25 x38).Marks)]) rfl rfl (by intro u_ hu_; simp only [List.mem_cons, List.not_mem_nil, or_false] at hu_; rcases hu_ with rfl | rfl | rfl | rfl | rfl | rfl | rfl | rfl | rfl | rfl | rfl | rfl | rfl | rfl | rfl | rfl | rfl | rfl <;> rfl) HS82 (Nat.le_of_ble_eq_true rfl) (by kernel_rfl) ?_)
     intro W84 HS85
     refine wpList_nil ?_
     refine hK71 _ _ ?_
     refine wp_seq_k (fun K86 hK87 => ?_)
     refine wp_region_lit ?_
     refine seqL1 (by kernel_rfl) ?_
     refine seqK rfl (does_run (run_loadN (n := 18) rfl Try.underlying65 rfl (by kernel_rfl) (by kernel_rfl : _ = Value.pointer (some ⟨b64, 0, none⟩)) (cs := [.int .i64 ((rd s11 x38).ID), .int .i64 ((((rd s11 x38).Box).X).Lo), .int .i64 ((((rd s11 x38).Box).X).Hi), .bool ((((rd s11 x38).Box).X).Unknown), .int .i64 ((((rd s11 x38).Box).Y).Lo), .int .i64 ((((rd s11 x38).Box).Y).Hi), .bool ((((rd s11 x38).Box).Y).Unknown), .int .i64 ((((rd s11 x38).Box).Z).Lo), .int .i64 ((((rd s11 x38).Box).Z).Hi), .bool ((((rd s11 x38).Box).Z).Unknown), .int .i64 (((rd s11 x38).Flux).Lo), .int .i64 (((rd s11 x38).Flux).Hi), .bool (((rd s11 x38).Flux).Unknown), .int .i64 (((rd s11 x38).When).Lo), .int .i64 (((rd s11 x38).When).Hi), .bool (((rd s11 x38).When).Unknown), .slice A63 ((rd s11 x38).Frames).length c63, .int .i64 ((rd s11 x38).Marks)]) rfl (HS85.u1.cells 0 18 _ rfl)) ?_)
     refine seqK rfl (does_run (run_loadN (n := 18) rfl Try.underlying65 rfl (by kernel_rfl) (by kernel_rfl : _ = Value.pointer (some ⟨b80, 0, none⟩)) (cs := [.int .i64 ((rd s25 x38).ID), .int .i64 ((((rd s25 x38).Box).X).Lo), .int .i64 ((((rd s25 x38).Box).X).Hi), .bool ((((rd s25 x38).Box).X).Unknown), .int .i64 ((((rd s25 x38).Box).Y).Lo), .int .i64 ((((rd s25 x38).Box).Y).Hi), .bool ((((rd s25 x38).Box).Y).Unknown), .int .i64 ((((rd s25 x38).Box).Z).Lo), .int .i64 ((((rd s25 x38).Box).Z).Hi), .bool ((((rd s25 x38).Box).Z).Unknown), .int .i64 (((rd s25 x38).Flux).Lo), .int .i64 (((rd s25 x38).Flux).Hi), .bool (((rd s25 x38).Flux).Unknown), .int .i64 (((rd s25 x38).When).Lo), .int .i64 (((rd s25 x38).When).Hi), .bool (((rd s25 x38).When).Unknown), .slice A79 ((rd s25 x38).Frames).length c79, .int .i64 ((rd s25 x38).Marks)]) rfl (HS85.cells 0 18 _ rfl)) ?_)
     have hq_ := bind_some h; clear h; obtain ⟨vt88, hc89, h⟩ := hq_
     refine seqK rfl (does_call (f := 21) (args := #[.agg #[.int .i64 ((rd s11 x38).ID), .int .i64 ((((rd s11 x38).Box).X).Lo), .int .i64 ((((rd s11 x38).Box).X).Hi), .bool ((((rd s11 x38).Box).X).Unknown), .int .i64 ((((rd s11 x38).Box).Y).Lo), .int .i64 ((((rd s11 x38).Box).Y).Hi), .bool ((((rd s11 x38).Box).Y).Unknown), .int .i64 ((((rd s11 x38).Box).Z).Lo), .int .i64 ((((rd s11 x38).Box).Z).Hi), .bool ((((rd s11 x38).Box).Z).Unknown), .int .i64 (((rd s11 x38).Flux).Lo), .int .i64 (((rd s11 x38).Flux).Hi), .bool (((rd s11 x38).Flux).Unknown), .int .i64 (((rd s11 x38).When).Lo), .int .i64 (((rd s11 x38).When).Hi), .bool (((rd s11 x38).When).Unknown), .slice A63 ((rd s11 x38).Frames).length c63, .int .i64 ((rd s11 x38).Marks)], .agg #[.int .i64 ((rd s25 x38).ID), .int .i64 ((((rd s25 x38).Box).X).Lo), .int .i64 ((((rd s25 x38).Box).X).Hi), .bool ((((rd s25 x38).Box).X).Unknown), .int .i64 ((((rd s25 x38).Box).Y).Lo), .int .i64 ((((rd s25 x38).Box).Y).Hi), .bool ((((rd s25 x38).Box).Y).Unknown), .int .i64 ((((rd s25 x38).Box).Z).Lo), .int .i64 ((((rd s25 x38).Box).Z).Hi), .bool ((((rd s25 x38).Box).Z).Unknown), .int .i64 (((rd s25 x38).Flux).Lo), .int .i64 (((rd s25 x38).Flux).Hi), .bool (((rd s25 x38).Flux).Unknown), .int .i64 (((rd s25 x38).When).Lo), .int .i64 (((rd s25 x38).When).Hi), .bool (((rd s25 x38).When).Unknown), .slice A79 ((rd s25 x38).Frames).length c79, .int .i64 ((rd s25 x38).Marks)]]) (by kernel_rfl) (catalog_Same.calls k A63 c63 A79 c79 (rd s11 x38) (rd s25 x38) HS85 HR63 HR79 vt88 hc89) ?_)
     rintro _ W92 ⟨f90, rfl, L91, HS93⟩
     refine ⟨_, rfl, ?_⟩
     refine seqL1 (by kernel_rfl) ?_
     refine wpList_nil ?_
     refine hK87 _ _ ?_
     have hq_ := ite_some h; clear h; rcases hq_ with ⟨c95, h⟩ | ⟨c95, h⟩
     · have c95 : ¬ (vt88 = true) := c95
       refine wpRwI 30 (x := (!vt88)) (v := true) (by kernel_rfl) (congrArg (fun b_ => !b_) (show vt88 = false from (Bool.eq_false_iff.mpr c95)) : (!vt88) = true) ?_
       refine condT (by kernel_rfl) ?_
       refine wp_seq_k (fun K96 hK97 => ?_)
       refine wp_region_lit ?_
       refine seqL1 (by kernel_rfl) ?_
       refine wpList_nil ?_
       refine hK97 _ _ ?_
       refine wp_ret ?_
       refine hr50 _ _ ?_
       refine hr26 _ _ ?_
       refine hret _ _ ?_
       refine ends_still (v := Value.bool false) (by kernel_rfl) (by kernel_rfl) ?_
       have HS113 := HS93.drop
       have HS114 := HS113.drop
       replace h := JR105 _ h
       injection h with h
       subst h
       exact ⟨f90, rfl, (L34.trans L91), HS114⟩
     · have c95 : ¬ (¬ (vt88 = true)) := c95
       refine wpRwI 30 (x := (!vt88)) (v := false) (by kernel_rfl) (congrArg (fun b_ => !b_) (show vt88 = true from (Decidable.of_not_not c95)) : (!vt88) = false) ?_
       refine condF (by kernel_rfl) ?_
       refine wp_skip ?_
       refine hn49 _ _ ?_
       refine hK46 _ _ ?_
       refine wp_region_lit ?_
       refine seqL2 (by kernel_rfl) ?_
       refine wpList_nil ?_
       refine hK31 n32 _ _ (Nat.lt_succ_self _) ?_
       have HS107 := HS93.u1
       have HS108 := HS107.u1
       have HS109 := HS108.drop
       have HS110 := HS109.drop
       exact ⟨f90, (w64 (x38 + 1)), (fun i_ => [(j37 0), Value.int .i64 x38, Value.pointer (some ⟨b64, 0, none⟩), Value.pointer (some ⟨b80, 0, none⟩), Value.bool true, Value.int .i64 x38, Value.pointer (some ⟨b60, of61 + (x38 : Int).toNat * 18, none⟩), (ag_Row (rd s11 x38) A63 c63), Value.slice A6 s25.length c7, Value.int .i64 x38, Value.pointer (some ⟨b76, of77 + (x38 : Int).toNat * 18, none⟩), (ag_Row (rd s25 x38) A79 c79), Value.func (.func 21) #[] #[], (ag_Row (rd s11 x38) A63 c63), (ag_Row (rd s25 x38) A79 c79), Value.bool vt88, Value.bool false, Value.int .i64 (w64 (x38 + 1))].getD i_ undef), (L34.trans L91), HS110, h, (by kernel_rfl)⟩
   · have c44 : ¬ (x38 < (s11.length : Int)) := c44
     refine wpRwI 18 (x := (decide (x38 < (s11.length : Int)))) (v := false) (by kernel_rfl) (decide_eq_false c44) ?_
     refine condF (by kernel_rfl) ?_
     refine wp_exit ?_
     refine hx24 _ _ ?_
     exact J104 f33 (fun i_ => [(j37 0), (j37 1), (j37 2), (j37 3), Value.int .i64 x38, Value.bool false, (j37 5), (j37 6), (j37 7), (j37 8), (j37 9), (j37 10), (j37 11), (j37 12), (j37 13), (j37 14), (j37 15), (j37 16), (j37 17)].getD i_ undef) W35 _ L34 h HS36 (by kernel_rfl)

set_option maxRecDepth 100000 in
set_option maxHeartbeats 4000000 in
theorem spykeep3_sameRows.calls (k : Nat) (A2 : Option Addr) (c3 : Nat) (A6 : Option Addr) (c7 : Nat) (a1 : List S_Row) (b5 : List S_Row) {t w : World} {f : FM} {H : List Seg} (HS : St t w f (H)) (HR4 : SlR ty_Row f A2 c3 a1) (HR8 : SlR ty_Row f A6 c7 b5) (rr1 : Bool) (h : spykeep3_sameRows k a1 b5 = some rr1) :
    Calls Try.prog 12 #[.slice A2 a1.length c3, .slice A6 b5.length c7] w (fun e w' => ∃ (g : FM), e = .returned (Value.bool rr1) ∧ FM.le f g ∧ St t w' g (H)) := by
 unfold spykeep3_sameRows at h
 refine enter Try.func12 rfl (tm := #[.slice A2 a1.length c3, .slice A6 b5.length c7, uV, uV, uV, uV, uV, uV]) (by kernel_rfl) ?_
 intro B hret hnor hnp
 refine wp_seq_k (fun K9 hK10 => ?_)
 refine wp_region_lit ?_
 refine seqL1 (by kernel_rfl) ?_
 refine wpList_nil ?_
 refine hK10 _ _ ?_
 refine wp_seq_k (fun K11 hK12 => ?_)
 refine wp_region_lit ?_
 have hq_ := bind_some h; clear h; obtain ⟨vt13, hc14, h⟩ := hq_
 refine seqL2 (by kernel_rfl) ?_
 refine seqK rfl (does_call (f := 37) (args := #[.slice A2 a1.length c3, .slice A6 b5.length c7, .func (.func 21) #[] #[]]) (by kernel_rfl) (slices_EqualFunc_Row__catalog_Same.calls k A2 c3 A6 c7 a1 b5 HS HR4 HR8 vt13 hc14) ?_)
 rintro _ W17 ⟨f15, rfl, L16, HS18⟩
 refine ⟨_, rfl, ?_⟩
 refine seqL1 (by kernel_rfl) ?_
 refine wpList_nil ?_
 refine hK12 _ _ ?_
 refine wp_ret ?_
 refine hret _ _ ?_
 refine ends_still (v := Value.bool vt13) (by kernel_rfl) (by kernel_rfl) ?_
 injection h with h
 subst h
 exact ⟨f15, rfl, L16, HS18⟩

set_option maxRecDepth 100000 in
set_option maxHeartbeats 4000000 in
theorem spykeep3_CatalogKeeps.calls (k : Nat) (A2 : Option Addr) (c3 : Nat) (l1 : List Int) (n5 : Int) {t w : World} {f : FM} {H : List Seg} (HS : St t w f (H)) (HR4 : SlR (tInt .i64) f A2 c3 l1) (rr1 : Bool) (h : spykeep3_CatalogKeeps k l1 n5 = some rr1) :
    Calls Try.prog 5 #[.slice A2 l1.length c3, .int .i64 n5] w (fun e w' => ∃ (g : FM), e = .returned (Value.bool rr1) ∧ FM.le f g ∧ St t w' g (H)) := by
 unfold spykeep3_CatalogKeeps at h
 refine enter Try.func5 rfl (tm := #[.slice A2 l1.length c3, iV n5, uV, uV, uV, uV, uV, uV, uV, uV, uV, uV, uV, uV, uV, uV, uV, uV, uV, uV, uV, uV, uV, uV, uV, uV, uV, uV, uV, uV, uV, uV, uV, uV, uV, uV, uV, uV, uV, uV, uV, uV, uV, uV, uV, uV, uV, uV, uV, uV, uV, uV, uV, uV, uV, uV, uV, uV, uV]) (by kernel_rfl) ?_
 intro B hret hnor hnp
 refine wp_seq_k (fun K6 hK7 => ?_)
 refine wp_region_lit ?_
 refine seqL1 (by kernel_rfl) ?_
 refine wpList_nil ?_
 refine hK7 _ _ ?_
 refine wp_seq_k (fun K8 hK9 => ?_)
 refine wp_region_lit ?_
 refine seqL2 (by kernel_rfl) ?_
 refine seqK rfl (does_box (cs := #[.slice A2 l1.length c3, .int .i64 0]) rfl (by kernel_rfl : _ = Value.agg #[.slice A2 l1.length c3, .int .i64 0]) rfl HS ?_)
 intro b10 W11 HS12
 have hq_ := bind_some h; clear h; obtain ⟨vt14, hc15, h⟩ := hq_
 refine seqL1 (by kernel_rfl) ?_
 refine seqK rfl (does_call (f := 17) (args := #[.int .i64 n5, .int .i64 8]) (by kernel_rfl) (spymake_Below.calls k n5 8 HS12 vt14 hc15) ?_)
 rintro _ W18 ⟨f16, rfl, L17, HS19⟩
 refine ⟨_, rfl, ?_⟩
 have hq_ := bind_some h; clear h; obtain ⟨⟨vt20, vt21, vt22, vt23⟩, hc24, h⟩ := hq_
 refine seqK rfl (does_call (f := 16) (args := #[.pointer (some ⟨b10, 0, none⟩), .int .i64 vt14]) (by kernel_rfl) (spykeep3_Versions.calls k b10 A2 c3 (⟨l1, 0⟩ : S_Stream) vt14 HS19 (HR4.mono L17) vt20 vt21 vt22 vt23 hc24) ?_)
 rintro _ W27 ⟨f25, A29, c30, A32, c33, s34, rfl, L26, HS28, HR31, HO35⟩
 refine ⟨_, rfl, ?_⟩
 refine seqL4 (by kernel_rfl) ?_
 refine seqK rfl (does_alloc (z := Value.agg #[.slice none 0 0]) (cs := #[.slice none 0 0]) rfl (by kernel_rfl) rfl HS28 ?_)
 intro b37 W38 HS39
 refine seqK rfl (does_store (n := 1) (vs := [.slice A29 vt20.Commits.length c30]) (cs' := #[.slice A29 vt20.Commits.length c30]) rfl (by kernel_rfl) (by kernel_rfl : _ = Value.pointer (some ⟨b37, 0, none⟩)) (by kernel_rfl : _ = Value.agg #[.slice A29 vt20.Commits.length c30]) rfl rfl (by intro u_ hu_; simp only [List.mem_cons, List.not_mem_nil, or_false] at hu_; subst hu_; rfl) HS39 (Nat.le_of_ble_eq_true rfl) (by kernel_rfl) ?_)
 intro W41 HS42
 refine seqL2 (by kernel_rfl) ?_
 refine wpList_nil ?_
 refine hK9 _ _ ?_
 refine wp_seq_k (fun K43 hK44 => ?_)
 refine wp_seq_k (fun K45 hK46 => ?_)
 refine wp_region_lit ?_
 have hq_ := bind_some h; clear h; obtain ⟨vt47, hc48, h⟩ := hq_
 refine seqK rfl (does_call (f := 11) (args := #[]) (by kernel_rfl) (spykeep3_listed.calls k  HS42 vt47 hc48) ?_)
 rintro _ W51 ⟨f49, rfl, L50, HS52⟩
 refine ⟨_, rfl, ?_⟩
 refine seqL2 (by kernel_rfl) ?_
 have hq_ := ite_some h; clear h; rcases hq_ with ⟨c53, h⟩ | ⟨c53, h⟩
 · have c53 : ¬ (vt47 = true) := c53
   refine seqRwI 23 (x := (!vt47)) (v := true) (by kernel_rfl) (congrArg (fun b_ => !b_) (show vt47 = false from (Bool.eq_false_iff.mpr c53)) : (!vt47) = true) ?_
   refine seqRwI 24 (x := (!vt47)) (v := true) (by kernel_rfl) (congrArg (fun b_ => !b_) (show vt47 = false from (Bool.eq_false_iff.mpr c53)) : (!vt47) = true) ?_
   refine seqS12 (a' := ⟨#[.slice A2 l1.length c3, iV n5, uV, uV, fV, pV b37 0, .slice A32 vt21.length c33, .bool vt22, uV, uV, uV, uV, .tuple #[.agg #[.slice A29 vt20.Commits.length c30], .slice A32 vt21.length c33, .bool vt22], .slice A2 l1.length c3, .agg #[.slice A2 l1.length c3, iV 0], pV b10 0, iV n5, iV vt14, .tuple #[.agg #[.slice A29 vt20.Commits.length c30], .slice A32 vt21.length c33, .bool vt22], .agg #[.slice A29 vt20.Commits.length c30], .slice A32 vt21.length c33, .bool vt22, .bool vt47, tV, tV, uV, uV, tV, tV, uV, uV, uV, uV, uV, uV, uV, tV, uV, uV, uV, uV, uV, uV, uV, uV, uV, uV, uV, uV, uV, uV, uV, uV, uV, uV, uV, uV, uV, uV], []⟩) (by kernel_rfl) ?_
   refine wpList_nil ?_
   refine hK46 _ _ ?_
   refine condT (by kernel_rfl) ?_
   refine wp_seq_k (fun K54 hK55 => ?_)
   refine wp_region_lit ?_
   refine seqL1 (by kernel_rfl) ?_
   refine wpList_nil ?_
   refine hK55 _ _ ?_
   refine wp_ret ?_
   refine hret _ _ ?_
   refine ends_still (v := Value.bool false) (by kernel_rfl) (by kernel_rfl) ?_
   have HS161 := HS52.drop
   have HS162 := HS161.drop
   have HS163 := HS162.drop
   injection h with h
   subst h
   exact ⟨f49, rfl, (L17.trans (L26.trans L50)), HS163⟩
 · have c53 : ¬ (¬ (vt47 = true)) := c53
   refine seqRwI 23 (x := (!vt47)) (v := false) (by kernel_rfl) (congrArg (fun b_ => !b_) (show vt47 = true from (Decidable.of_not_not c53)) : (!vt47) = false) ?_
   refine seqRwI 24 (x := (!vt47)) (v := false) (by kernel_rfl) (congrArg (fun b_ => !b_) (show vt47 = true from (Decidable.of_not_not c53)) : (!vt47) = false) ?_
   refine seqS4 (a' := ⟨#[.slice A2 l1.length c3, iV n5, uV, uV, fV, pV b37 0, .slice A32 vt21.length c33, .bool vt22, uV, uV, uV, uV, .tuple #[.agg #[.slice A29 vt20.Commits.length c30], .slice A32 vt21.length c33, .bool vt22], .slice A2 l1.length c3, .agg #[.slice A2 l1.length c3, iV 0], pV b10 0, iV n5, iV vt14, .tuple #[.agg #[.slice A29 vt20.Commits.length c30], .slice A32 vt21.length c33, .bool vt22], .agg #[.slice A29 vt20.Commits.length c30], .slice A32 vt21.length c33, .bool vt22, .bool vt47, fV, fV, .bool vt22, .bool (!vt22), .bool (!vt22), .bool (!vt22), uV, uV, uV, uV, uV, uV, uV, uV, uV, uV, uV, uV, uV, uV, uV, uV, uV, uV, uV, uV, uV, uV, uV, uV, uV, uV, uV, uV, uV, uV], []⟩) (by kernel_rfl) ?_
   have hq_ := ite_some h; clear h; rcases hq_ with ⟨c56, h⟩ | ⟨c56, h⟩
   · have c56 : ¬ (vt22 = true) := c56
     refine seqRwI 26 (x := (!vt22)) (v := true) (by kernel_rfl) (congrArg (fun b_ => !b_) (show vt22 = false from (Bool.eq_false_iff.mpr c56)) : (!vt22) = true) ?_
     refine seqRwI 27 (x := (!vt22)) (v := true) (by kernel_rfl) (congrArg (fun b_ => !b_) (show vt22 = false from (Bool.eq_false_iff.mpr c56)) : (!vt22) = true) ?_
     refine seqRwI 28 (x := (!vt22)) (v := true) (by kernel_rfl) (congrArg (fun b_ => !b_) (show vt22 = false from (Bool.eq_false_iff.mpr c56)) : (!vt22) = true) ?_
     refine seqL8 (by kernel_rfl) ?_
     refine wpList_nil ?_
     refine hK46 _ _ ?_
     refine condT (by kernel_rfl) ?_
     refine wp_seq_k (fun K57 hK58 => ?_)
     refine wp_region_lit ?_
     refine seqL1 (by kernel_rfl) ?_
     refine wpList_nil ?_
     refine hK58 _ _ ?_
     refine wp_ret ?_
     refine hret _ _ ?_
     refine ends_still (v := Value.bool false) (by kernel_rfl) (by kernel_rfl) ?_
     have HS164 := HS52.drop
     have HS165 := HS164.drop
     have HS166 := HS165.drop
     injection h with h
     subst h
     exact ⟨f49, rfl, (L17.trans (L26.trans L50)), HS166⟩
   · have c56 : ¬ (¬ (vt22 = true)) := c56
     refine seqRwI 26 (x := (!vt22)) (v := false) (by kernel_rfl) (congrArg (fun b_ => !b_) (show vt22 = true from (Decidable.of_not_not c56)) : (!vt22) = false) ?_
     refine seqRwI 27 (x := (!vt22)) (v := false) (by kernel_rfl) (congrArg (fun b_ => !b_) (show vt22 = true from (Decidable.of_not_not c56)) : (!vt22) = false) ?_
     refine seqRwI 28 (x := (!vt22)) (v := false) (by kernel_rfl) (congrArg (fun b_ => !b_) (show vt22 = true from (Decidable.of_not_not c56)) : (!vt22) = false) ?_
     refine seqL1 (by kernel_rfl) ?_
     refine seqG (by kernel_rfl) (does_run (run_load rfl Try.underlying32 rfl (by kernel_rfl : _ = Value.pointer (some ⟨b37, 0, none⟩)) (HS52.cell 0)) ?_)
     refine seqL6 (by kernel_rfl) ?_
     refine wpList_nil ?_
     refine hK46 _ _ ?_
     have hq_ := ite_some h; clear h; rcases hq_ with ⟨c60, h⟩ | ⟨c60, h⟩
     · have c60 : (vt20.Commits.length : Int) ≠ (w64 ((vt21.length : Int) - 1)) := c60
       refine wpRwI 35 (x := ((vt20.Commits.length : Int) != (w64 ((vt21.length : Int) - 1)))) (v := true) (by kernel_rfl) (bne_iff_ne.mpr c60) ?_
       refine wpRwI 36 (x := ((vt20.Commits.length : Int) != (w64 ((vt21.length : Int) - 1)))) (v := true) (by kernel_rfl) (bne_iff_ne.mpr c60) ?_
       refine condT (by kernel_rfl) ?_
       refine wp_seq_k (fun K61 hK62 => ?_)
       refine wp_region_lit ?_
       refine seqL1 (by kernel_rfl) ?_
       refine wpList_nil ?_
       refine hK62 _ _ ?_
       refine wp_ret ?_
       refine hret _ _ ?_
       refine ends_still (v := Value.bool false) (by kernel_rfl) (by kernel_rfl) ?_
       have HS167 := HS52.drop
       have HS168 := HS167.drop
       have HS169 := HS168.drop
       injection h with h
       subst h
       exact ⟨f49, rfl, (L17.trans (L26.trans L50)), HS169⟩
     · have c60 : ¬ ((vt20.Commits.length : Int) ≠ (w64 ((vt21.length : Int) - 1))) := c60
       refine wpRwI 35 (x := ((vt20.Commits.length : Int) != (w64 ((vt21.length : Int) - 1)))) (v := false) (by kernel_rfl) (bne_eq_false_iff_eq.mpr (Decidable.of_not_not c60)) ?_
       refine wpRwI 36 (x := ((vt20.Commits.length : Int) != (w64 ((vt21.length : Int) - 1)))) (v := false) (by kernel_rfl) (bne_eq_false_iff_eq.mpr (Decidable.of_not_not c60)) ?_
       refine condF (by kernel_rfl) ?_
       refine wp_skip ?_
       refine hK44 _ _ ?_
       refine wp_seq_k (fun K63 hK64 => ?_)
       refine wp_seq_k (fun K65 hK66 => ?_)
       refine wp_region_lit ?_
       refine seqL3 (by kernel_rfl) ?_
       refine wpList_nil ?_
       refine hK66 _ _ ?_
       refine blockK (fun B67 hx68 hn69 hr70 ho71 hp72 => ?_)
       have hq_ := bind_some h; clear h; obtain ⟨o73, hv150, h⟩ := hq_
       have JR152 : ∀ z_, some (Sum.inl z_) = some o73 → some z_ = some rr1 := by
        intro z_ e_; injection e_ with e_; subst e_; exact h
       have J151 : ∀ (f145 : FM) (j149 : Nat → Value) (W147 : World) (a_ : Act), FM.le f49 f145 → some (Sum.inr ()) = some o73 → St t W147 f145 ([(b37, .cells #[.slice A29 vt20.Commits.length c30] 34 (0, 0))] :: s34 :: [(b10, .cells #[.slice A2 l1.length c3, .int .i64 vt23] 25 (0, 0))] :: H) → a_ = ⟨#[.slice A2 l1.length c3, iV n5, uV, uV, (j149 0), pV b37 0, .slice A32 vt21.length c33, .bool vt22, (j149 1), (j149 2), (j149 3), (j149 4), .tuple #[.agg #[.slice A29 vt20.Commits.length c30], .slice A32 vt21.length c33, .bool vt22], .slice A2 l1.length c3, .agg #[.slice A2 l1.length c3, iV 0], pV b10 0, iV n5, iV vt14, .tuple #[.agg #[.slice A29 vt20.Commits.length c30], .slice A32 vt21.length c33, .bool vt22], .agg #[.slice A29 vt20.Commits.length c30], .slice A32 vt21.length c33, .bool vt22, .bool vt47, fV, fV, .bool vt22, fV, fV, fV, pV b37 0, .slice A29 vt20.Commits.length c30, iV (vt20.Commits.length : Int), .slice A32 vt21.length c33, iV (vt21.length : Int), iV (w64 ((vt21.length : Int) - 1)), fV, fV, .slice A32 vt21.length c33, iV (vt21.length : Int), (j149 5), (j149 6), (j149 7), (j149 8), (j149 9), (j149 10), (j149 11), (j149 12), (j149 13), (j149 14), (j149 15), (j149 16), (j149 17), (j149 18), (j149 19), (j149 20), (j149 21), (j149 22), (j149 23), (j149 24)], []⟩ → K63 a_ W147 := by
        intro f145 j149 W147 a_ L146 hj153 HS148  hfr_; subst hfr_
        injection hj153 with hj153; subst hj153; try dsimp only at h
        simp only [Sum.elim_inr] at h
        refine hK64 _ _ ?_
        refine wp_seq_k (fun K159 hK160 => ?_)
        refine wp_region_lit ?_
        refine seqL1 (by kernel_rfl) ?_
        refine wpList_nil ?_
        refine hK160 _ _ ?_
        refine wp_ret ?_
        refine hret _ _ ?_
        refine ends_still (v := Value.bool true) (by kernel_rfl) (by kernel_rfl) ?_
        have HS178 := HS148.drop
        have HS179 := HS178.drop
        have HS180 := HS179.drop
        injection h with h
        subst h
        exact ⟨f145, rfl, (L17.trans (L26.trans (L50.trans L146))), HS180⟩
       clear h; have h := hv150; clear hv150
       refine loopK (fun n_ a_ w_ => ∃ (f77 : FM) (x82 : Int) (j81 : Nat → Value), FM.le f49 f77 ∧ St t w_ f77 ([(b37, .cells #[.slice A29 vt20.Commits.length c30] 34 (0, 0))] :: s34 :: [(b10, .cells #[.slice A2 l1.length c3, .int .i64 vt23] 25 (0, 0))] :: H) ∧ spykeep3_CatalogKeeps.l0 k vt21 vt20 n_ x82 = some o73 ∧ a_ = ⟨#[.slice A2 l1.length c3, iV n5, uV, uV, (j81 0), pV b37 0, .slice A32 vt21.length c33, .bool vt22, (j81 1), (j81 2), (j81 3), (j81 4), .tuple #[.agg #[.slice A29 vt20.Commits.length c30], .slice A32 vt21.length c33, .bool vt22], .slice A2 l1.length c3, .agg #[.slice A2 l1.length c3, iV 0], pV b10 0, iV n5, iV vt14, .tuple #[.agg #[.slice A29 vt20.Commits.length c30], .slice A32 vt21.length c33, .bool vt22], .agg #[.slice A29 vt20.Commits.length c30], .slice A32 vt21.length c33, .bool vt22, .bool vt47, fV, fV, .bool vt22, fV, fV, fV, pV b37 0, .slice A29 vt20.Commits.length c30, iV (vt20.Commits.length : Int), .slice A32 vt21.length c33, iV (vt21.length : Int), iV (w64 ((vt21.length : Int) - 1)), fV, fV, .slice A32 vt21.length c33, iV (vt21.length : Int), iV x82, (j81 5), (j81 6), (j81 7), (j81 8), (j81 9), (j81 10), (j81 11), (j81 12), (j81 13), (j81 14), (j81 15), (j81 16), (j81 17), (j81 18), (j81 19), (j81 20), (j81 21), (j81 22), (j81 23)], []⟩) k ⟨f49, 0, (fun i_ => [Value.bool false, undef, undef, undef, undef, undef, undef, undef, undef, undef, undef, undef, undef, undef, undef, undef, undef, undef, undef, undef, undef, undef, undef, undef].getD i_ undef), (FM.le.refl _), HS52, h, (by kernel_rfl)⟩ ?_
       clear h
       rintro n76 _ W79 ⟨f77, x82, j81, L78, HS80, h, rfl⟩ K74 hK75
       obtain _ | n76 := n76
       · exact nomatch h
       simp only [spykeep3_CatalogKeeps.l0] at h
       refine wp_seq_k (fun K83 hK84 => ?_)
       refine wp_region_lit ?_
       refine seqL1 (by kernel_rfl) ?_
       refine wpList_nil ?_
       refine hK84 _ _ ?_
       refine wp_seq_k (fun K85 hK86 => ?_)
       have hq_ := ite_some h; clear h; rcases hq_ with ⟨c88, h⟩ | ⟨c88, h⟩
       · have c88 : x82 < (vt21.length : Int) := c88
         refine wpRwI 40 (x := (decide (x82 < (vt21.length : Int)))) (v := true) (by kernel_rfl) (decide_eq_true c88) ?_
         refine condT (by kernel_rfl) ?_
         refine wp_skip ?_
         refine hK86 _ _ ?_
         refine wp_seq_k (fun K89 hK90 => ?_)
         refine blockK (fun B91 hx92 hn93 hr94 ho95 hp96 => ?_)
         refine wp_seq_k (fun K98 hK99 => ?_)
         refine wp_region_lit ?_
         have hq_ := guard_some h; clear h; obtain ⟨c100, h⟩ := hq_
         have c100 : 0 ≤ x82 := c100
         obtain ⟨b104, of105, cs101, hA106, hr102, hc103⟩ := (HO35.mono (L50.trans L78)).at (i := x82) c100 c88
         obtain ⟨A107, c107, rfl, HR107⟩ := hr102
         refine seqL1 (by kernel_rfl) ?_
         refine seqK rfl (does_run (run_indexE hA106 (sz := 1) rfl Try.underlying47 (by kernel_rfl) (by kernel_rfl : _ = Value.slice A32 vt21.length c33) (by kernel_rfl : _ = Value.int .i64 x82) c100 c88 W79) ?_)
         refine seqK rfl (does_run (run_load rfl Try.underlying26 rfl (by kernel_rfl : _ = Value.pointer (some ⟨b104, of105 + (x82 : Int).toNat * 1, none⟩)) ((hc103 HS80.u1) 0 (by decide))) ?_)
         refine seqL2 (by kernel_rfl) ?_
         refine wpList_nil ?_
         refine hK99 _ _ ?_
         refine wp_seq_k (fun K108 hK109 => ?_)
         refine wp_region_lit ?_
         refine seqK rfl (does_run (run_loadN (n := 1) rfl Try.underlying34 rfl (by kernel_rfl) (by kernel_rfl : _ = Value.pointer (some ⟨b37, 0, none⟩)) (cs := [.slice A29 vt20.Commits.length c30]) rfl (HS80.cells 0 1 _ rfl)) ?_)
         have hq_ := bind_some h; clear h; obtain ⟨⟨vt110, vt111⟩, hc112, h⟩ := hq_
         refine seqL1 (by kernel_rfl) ?_
         refine seqK rfl (does_call (f := 10) (args := #[.agg #[.slice A29 vt20.Commits.length c30], .int .i64 x82]) (by kernel_rfl) (catalog_At.calls k A29 c30 vt20 x82 HS80 (HR31.mono (L50.trans L78)) vt110 vt111 hc112) ?_)
         rintro _ W115 ⟨f113, A117, c118, s119, rfl, L114, HS116, HO120⟩
         refine ⟨_, rfl, ?_⟩
         refine seqL5 (by kernel_rfl) ?_
         refine wpList_nil ?_
         refine hK109 _ _ ?_
         refine wp_seq_k (fun K122 hK123 => ?_)
         refine wp_region_lit ?_
         refine seqL3 (by kernel_rfl) ?_
         have hq_ := ite_some h; clear h; rcases hq_ with ⟨c124, h⟩ | ⟨c124, h⟩
         · have c124 : vt111 ≠ 0 := c124
           refine seqRwI 51 (x := (vt111 != 0)) (v := true) (by kernel_rfl) (bne_iff_ne.mpr c124) ?_
           refine seqRwI 52 (x := (vt111 != 0)) (v := true) (by kernel_rfl) (bne_iff_ne.mpr c124) ?_
           refine seqS5 (a' := ⟨#[.slice A2 l1.length c3, iV n5, uV, uV, (j81 0), pV b37 0, .slice A32 vt21.length c33, .bool vt22, iV x82, .slice A107 (rd vt21 x82).length c107, .slice A117 vt110.length c118, iV vt111, .tuple #[.agg #[.slice A29 vt20.Commits.length c30], .slice A32 vt21.length c33, .bool vt22], .slice A2 l1.length c3, .agg #[.slice A2 l1.length c3, iV 0], pV b10 0, iV n5, iV vt14, .tuple #[.agg #[.slice A29 vt20.Commits.length c30], .slice A32 vt21.length c33, .bool vt22], .agg #[.slice A29 vt20.Commits.length c30], .slice A32 vt21.length c33, .bool vt22, .bool vt47, fV, fV, .bool vt22, fV, fV, fV, pV b37 0, .slice A29 vt20.Commits.length c30, iV (vt20.Commits.length : Int), .slice A32 vt21.length c33, iV (vt21.length : Int), iV (w64 ((vt21.length : Int) - 1)), fV, fV, .slice A32 vt21.length c33, iV (vt21.length : Int), iV x82, tV, iV x82, pV b104 (of105 + (x82 : Int).toNat * 1), .slice A107 (rd vt21 x82).length c107, .tuple #[.slice A117 vt110.length c118, iV vt111], .agg #[.slice A29 vt20.Commits.length c30], iV x82, .tuple #[.slice A117 vt110.length c118, iV vt111], .slice A117 vt110.length c118, iV vt111, iV vt111, tV, tV, uV, uV, uV, uV, tV, (j81 23)], []⟩) (by kernel_rfl) ?_
           refine wpList_nil ?_
           refine hK123 _ _ ?_
           refine condT (by kernel_rfl) ?_
           refine wp_seq_k (fun K125 hK126 => ?_)
           refine wp_region_lit ?_
           refine seqL1 (by kernel_rfl) ?_
           refine wpList_nil ?_
           refine hK126 _ _ ?_
           refine wp_ret ?_
           refine hr94 _ _ ?_
           refine hr70 _ _ ?_
           refine hret _ _ ?_
           refine ends_still (v := Value.bool false) (by kernel_rfl) (by kernel_rfl) ?_
           have HS170 := HS116.drop
           have HS171 := HS170.drop
           have HS172 := HS171.drop
           have HS173 := HS172.drop
           replace h := JR152 _ h
           injection h with h
           subst h
           exact ⟨f113, rfl, (L17.trans (L26.trans (L50.trans (L78.trans L114)))), HS173⟩
         · have c124 : ¬ (vt111 ≠ 0) := c124
           refine seqRwI 51 (x := (vt111 != 0)) (v := false) (by kernel_rfl) (bne_eq_false_iff_eq.mpr (Decidable.of_not_not c124)) ?_
           refine seqRwI 52 (x := (vt111 != 0)) (v := false) (by kernel_rfl) (bne_eq_false_iff_eq.mpr (Decidable.of_not_not c124)) ?_
           obtain ⟨f127, L128, HS129, HR130, th131⟩ := HO120.lend HS116
           have hq_ := bind_some h; clear h; obtain ⟨vt132, hc133, h⟩ := hq_
           refine seqL2 (by kernel_rfl) ?_
           refine seqG (by kernel_rfl) (does_call (f := 12) (args := #[.slice A117 vt110.length c118, .slice A107 (rd vt21 x82).length c107]) (by kernel_rfl) (spykeep3_sameRows.calls k A117 c118 A107 c107 vt110 (rd vt21 x82) HS129 HR130 (HR107.mono (L114.trans L128)) vt132 hc133) ?_)
           rintro _ W136 ⟨f134, rfl, L135, HS137⟩
           refine ⟨_, rfl, ?_⟩
           obtain ⟨f138, L139, HS140⟩ := th131 L135 HS137
           refine seqS2 (a' := ⟨#[.slice A2 l1.length c3, iV n5, uV, uV, (j81 0), pV b37 0, .slice A32 vt21.length c33, .bool vt22, iV x82, .slice A107 (rd vt21 x82).length c107, .slice A117 vt110.length c118, iV vt111, .tuple #[.agg #[.slice A29 vt20.Commits.length c30], .slice A32 vt21.length c33, .bool vt22], .slice A2 l1.length c3, .agg #[.slice A2 l1.length c3, iV 0], pV b10 0, iV n5, iV vt14, .tuple #[.agg #[.slice A29 vt20.Commits.length c30], .slice A32 vt21.length c33, .bool vt22], .agg #[.slice A29 vt20.Commits.length c30], .slice A32 vt21.length c33, .bool vt22, .bool vt47, fV, fV, .bool vt22, fV, fV, fV, pV b37 0, .slice A29 vt20.Commits.length c30, iV (vt20.Commits.length : Int), .slice A32 vt21.length c33, iV (vt21.length : Int), iV (w64 ((vt21.length : Int) - 1)), fV, fV, .slice A32 vt21.length c33, iV (vt21.length : Int), iV x82, tV, iV x82, pV b104 (of105 + (x82 : Int).toNat * 1), .slice A107 (rd vt21 x82).length c107, .tuple #[.slice A117 vt110.length c118, iV vt111], .agg #[.slice A29 vt20.Commits.length c30], iV x82, .tuple #[.slice A117 vt110.length c118, iV vt111], .slice A117 vt110.length c118, iV vt111, iV vt111, fV, fV, .slice A117 vt110.length c118, .slice A107 (rd vt21 x82).length c107, .bool vt132, .bool (!vt132), .bool (!vt132), (j81 23)], []⟩) (by kernel_rfl) ?_
           refine wpList_nil ?_
           refine hK123 _ _ ?_
           have hq_ := ite_some h; clear h; rcases hq_ with ⟨c142, h⟩ | ⟨c142, h⟩
           · have c142 : ¬ (vt132 = true) := c142
             refine wpRwI 56 (x := (!vt132)) (v := true) (by kernel_rfl) (congrArg (fun b_ => !b_) (show vt132 = false from (Bool.eq_false_iff.mpr c142)) : (!vt132) = true) ?_
             refine wpRwI 57 (x := (!vt132)) (v := true) (by kernel_rfl) (congrArg (fun b_ => !b_) (show vt132 = false from (Bool.eq_false_iff.mpr c142)) : (!vt132) = true) ?_
             refine condT (by kernel_rfl) ?_
             refine wp_seq_k (fun K143 hK144 => ?_)
             refine wp_region_lit ?_
             refine seqL1 (by kernel_rfl) ?_
             refine wpList_nil ?_
             refine hK144 _ _ ?_
             refine wp_ret ?_
             refine hr94 _ _ ?_
             refine hr70 _ _ ?_
             refine hret _ _ ?_
             refine ends_still (v := Value.bool false) (by kernel_rfl) (by kernel_rfl) ?_
             have HS174 := HS140.drop
             have HS175 := HS174.drop
             have HS176 := HS175.drop
             have HS177 := HS176.drop
             replace h := JR152 _ h
             injection h with h
             subst h
             exact ⟨f138, rfl, (L17.trans (L26.trans (L50.trans (L78.trans (L114.trans L139))))), HS177⟩
           · have c142 : ¬ (¬ (vt132 = true)) := c142
             refine wpRwI 56 (x := (!vt132)) (v := false) (by kernel_rfl) (congrArg (fun b_ => !b_) (show vt132 = true from (Decidable.of_not_not c142)) : (!vt132) = false) ?_
             refine wpRwI 57 (x := (!vt132)) (v := false) (by kernel_rfl) (congrArg (fun b_ => !b_) (show vt132 = true from (Decidable.of_not_not c142)) : (!vt132) = false) ?_
             refine condF (by kernel_rfl) ?_
             refine wp_skip ?_
             refine hn93 _ _ ?_
             refine hK90 _ _ ?_
             refine wp_region_lit ?_
             refine seqL2 (by kernel_rfl) ?_
             refine wpList_nil ?_
             refine hK75 n76 _ _ (Nat.lt_succ_self _) ?_
             have HS154 := HS140.u3
             have HS155 := HS154.u3
             have HS156 := HS155.u3
             have HS157 := HS156.u3
             have HS158 := HS157.drop
             exact ⟨f138, (w64 (x82 + 1)), (fun i_ => [(j81 0), Value.int .i64 x82, Value.slice A107 (rd vt21 x82).length c107, Value.slice A117 vt110.length c118, Value.int .i64 vt111, Value.bool true, Value.int .i64 x82, Value.pointer (some ⟨b104, of105 + (x82 : Int).toNat * 1, none⟩), Value.slice A107 (rd vt21 x82).length c107, Value.tuple #[.slice A117 vt110.length c118, .int .i64 vt111], Value.agg #[.slice A29 vt20.Commits.length c30], Value.int .i64 x82, Value.tuple #[.slice A117 vt110.length c118, .int .i64 vt111], Value.slice A117 vt110.length c118, Value.int .i64 vt111, Value.int .i64 vt111, Value.bool false, Value.bool false, Value.slice A117 vt110.length c118, Value.slice A107 (rd vt21 x82).length c107, Value.bool vt132, Value.bool false, Value.bool false, Value.int .i64 (w64 (x82 + 1))].getD i_ undef), (L78.trans (L114.trans L139)), HS158, h, (by kernel_rfl)⟩
       · have c88 : ¬ (x82 < (vt21.length : Int)) := c88
         refine wpRwI 40 (x := (decide (x82 < (vt21.length : Int)))) (v := false) (by kernel_rfl) (decide_eq_false c88) ?_
         refine condF (by kernel_rfl) ?_
         refine wp_exit ?_
         refine hx68 _ _ ?_
         exact J151 f77 (fun i_ => [(j81 0), (j81 1), (j81 2), (j81 3), (j81 4), Value.int .i64 x82, Value.bool false, (j81 6), (j81 7), (j81 8), (j81 9), (j81 10), (j81 11), (j81 12), (j81 13), (j81 14), (j81 15), (j81 16), (j81 17), (j81 18), (j81 19), (j81 20), (j81 21), (j81 22), (j81 23)].getD i_ undef) W79 _ L78 h HS80 (by kernel_rfl)

end Go.Sp.K5
