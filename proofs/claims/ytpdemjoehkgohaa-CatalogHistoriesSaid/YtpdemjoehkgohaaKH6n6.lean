import Derived.Test.YtpdemjoehkgohaaProg
import Derived.Test.YtpdemjoehkgohaaSpCopy
import Derived.Test.YtpdemjoehkgohaaFH6
import Derived.Test.YtpdemjoehkgohaaSpSort
import Derived.Test.YtpdemjoehkgohaaShelf
import Derived.Test.YtpdemjoehkgohaaSpMapR
import Derived.Test.YtpdemjoehkgohaaSpKeys
import Derived.Test.YtpdemjoehkgohaaKH6n0
import Derived.Test.YtpdemjoehkgohaaKH6n1
import Derived.Test.YtpdemjoehkgohaaKH6n2
import Derived.Test.YtpdemjoehkgohaaKH6n3
import Derived.Test.YtpdemjoehkgohaaKH6n4
import Derived.Test.YtpdemjoehkgohaaKH6n5
namespace Go.Sp.H6
open Go Go.Sp Go.Proofs
set_option linter.unusedVariables false
attribute [local irreducible] wpList AnyL Code.wp Calls Does
set_option maxRecDepth 100000 in
set_option maxHeartbeats 4000000 in
theorem spykeep3_listed.calls (k : Nat)   {t w : World} {f : FM} {H : List Seg} (HS : St t w f (H)) (rr1 : Bool) (h : spykeep3_listed k = some rr1) :
    Calls Try.prog 11 #[] w (fun e w' => ∃ (g : FM), e = .returned (Value.bool rr1) ∧ FM.le f g ∧ St t w' g (H)) := by
 unfold spykeep3_listed at h
 refine enter Try.func11 rfl (tm := #[uV, uV, uV, uV, uV, uV, uV, uV, uV, uV, uV, uV, uV, uV, uV, uV, uV, uV, uV, uV, uV, uV, uV, uV, uV, uV, uV, uV, uV, uV, uV, uV, uV, uV, uV, uV, uV, uV, uV, uV, uV, uV, uV]) (by kernel_rfl) ?_
 intro B hret hnor hnp
 refine wp_seq_k (fun K1 hK2 => ?_)
 refine wp_region_lit ?_
 refine seqL1 (by kernel_rfl) ?_
 refine wpList_nil ?_
 refine hK2 _ _ ?_
 refine wp_seq_k (fun K3 hK4 => ?_)
 refine wp_region_lit ?_
 have hq_ := bind_some h; clear h; obtain ⟨vt5, hc6, h⟩ := hq_
 refine seqL1 (by kernel_rfl) ?_
 refine seqK rfl (does_call (f := 36) (args := #[.int .i64 3]) (by kernel_rfl) (spykeep3_single.calls k 3 HS vt5 hc6) ?_)
 rintro _ W9 ⟨f7, A11, c12, s13, rfl, L8, HS10, HO14⟩
 refine ⟨_, rfl, ?_⟩
 obtain ⟨f16, L17, HS18, HR19⟩ := HO14.freeze HS10
 refine seqL1 (by kernel_rfl) ?_
 refine seqK rfl (does_lit (e := ty_Change) (E := 71) (vs := #[(0, Value.agg #[.int .i64 1, .int .i64 vt5.ID, .int .i64 vt5.Box.X.Lo, .int .i64 vt5.Box.X.Hi, .bool vt5.Box.X.Unknown, .int .i64 vt5.Box.Y.Lo, .int .i64 vt5.Box.Y.Hi, .bool vt5.Box.Y.Unknown, .int .i64 vt5.Box.Z.Lo, .int .i64 vt5.Box.Z.Hi, .bool vt5.Box.Z.Unknown, .int .i64 vt5.Flux.Lo, .int .i64 vt5.Flux.Hi, .bool vt5.Flux.Unknown, .int .i64 vt5.When.Lo, .int .i64 vt5.When.Hi, .bool vt5.When.Unknown, .slice A11 vt5.Frames.length c12, .int .i64 vt5.Marks])]) (cs := #[.int .i64 1, .int .i64 vt5.ID, .int .i64 vt5.Box.X.Lo, .int .i64 vt5.Box.X.Hi, .bool vt5.Box.X.Unknown, .int .i64 vt5.Box.Y.Lo, .int .i64 vt5.Box.Y.Hi, .bool vt5.Box.Y.Unknown, .int .i64 vt5.Box.Z.Lo, .int .i64 vt5.Box.Z.Hi, .bool vt5.Box.Z.Unknown, .int .i64 vt5.Flux.Lo, .int .i64 vt5.Flux.Hi, .bool vt5.Flux.Unknown, .int .i64 vt5.When.Lo, .int .i64 vt5.When.Hi, .bool vt5.When.Unknown, .slice A11 vt5.Frames.length c12, .int .i64 vt5.Marks]) (xs := ([(⟨1, vt5⟩ : S_Change)] : List S_Change)) rfl Try.underlying28 (by kernel_rfl) (by kernel_rfl) ⟨[.int .i64 1, .int .i64 vt5.ID, .int .i64 vt5.Box.X.Lo, .int .i64 vt5.Box.X.Hi, .bool vt5.Box.X.Unknown, .int .i64 vt5.Box.Y.Lo, .int .i64 vt5.Box.Y.Hi, .bool vt5.Box.Y.Unknown, .int .i64 vt5.Box.Z.Lo, .int .i64 vt5.Box.Z.Hi, .bool vt5.Box.Z.Unknown, .int .i64 vt5.Flux.Lo, .int .i64 vt5.Flux.Hi, .bool vt5.Flux.Unknown, .int .i64 vt5.When.Lo, .int .i64 vt5.When.Hi, .bool vt5.When.Unknown, .slice A11 vt5.Frames.length c12, .int .i64 vt5.Marks], _, rfl, ⟨A11, c12, rfl, HR19⟩, rfl⟩ rfl HS18 ?_ (by decide))
 intro b20 W21 s22 HS23 _ HO24
 obtain ⟨f26, L27, HS28, HR29⟩ := HO24.freeze HS23
 have hq_ := bind_some h; clear h; obtain ⟨⟨vt30, vt31, vt32⟩, hc33, h⟩ := hq_
 refine seqK rfl (does_call (f := 9) (args := #[.agg #[.slice none 0 0], .slice (some ⟨b20, 0, none⟩) ([(⟨1, vt5⟩ : S_Change)] : List S_Change).length 1]) (by kernel_rfl) (catalog_Commit.calls k none 0 (some ⟨b20, 0, none⟩) 1 (⟨([] : List (List S_Change))⟩ : S_Catalog) ([(⟨1, vt5⟩ : S_Change)] : List S_Change) HS28 (SlR.nil _ _) HR29 vt30 vt31 vt32 hc33) ?_)
 rintro _ W36 ⟨f34, A38, c39, s40, rfl, L35, HS37, HO41⟩
 refine ⟨_, rfl, ?_⟩
 refine seqL4 (by kernel_rfl) ?_
 refine seqK rfl (does_alloc (z := Value.agg #[.slice none 0 0]) (cs := #[.slice none 0 0]) rfl (by kernel_rfl) rfl HS37 ?_)
 intro b43 W44 HS45
 refine seqK rfl (does_store (n := 1) (vs := [.slice A38 vt30.Commits.length c39]) (cs' := #[.slice A38 vt30.Commits.length c39]) rfl (by kernel_rfl) (by kernel_rfl : _ = Value.pointer (some ⟨b43, 0, none⟩)) (by kernel_rfl : _ = Value.agg #[.slice A38 vt30.Commits.length c39]) rfl rfl (by intro u_ hu_; simp only [List.mem_cons, List.not_mem_nil, or_false] at hu_; subst hu_; rfl) HS45 (Nat.le_of_ble_eq_true rfl) (by kernel_rfl) ?_)
 intro W47 HS48
 refine seqL2 (by kernel_rfl) ?_
 refine wpList_nil ?_
 refine hK4 _ _ ?_
 refine wp_seq_k (fun K49 hK50 => ?_)
 refine wp_region_lit ?_
 refine seqK rfl (does_run (run_loadN (n := 1) rfl Try.underlying34 rfl (by kernel_rfl) (by kernel_rfl : _ = Value.pointer (some ⟨b43, 0, none⟩)) (cs := [.slice A38 vt30.Commits.length c39]) rfl (HS48.cells 0 1 _ rfl)) ?_)
 have HS51 := HS48.u1
 obtain ⟨f52, L53, HS54, HR55⟩ := HO41.freeze HS51
 have hq_ := bind_some h; clear h; obtain ⟨⟨vt56, vt57⟩, hc58, h⟩ := hq_
 refine seqL1 (by kernel_rfl) ?_
 refine seqK rfl (does_call (f := 10) (args := #[.agg #[.slice A38 vt30.Commits.length c39], .int .i64 vt31]) (by kernel_rfl) (catalog_At.calls k A38 c39 vt30 vt31 HS54 HR55 vt56 vt57 hc58) ?_)
 rintro _ W61 ⟨f59, A63, c64, s65, rfl, L60, HS62, HO66⟩
 refine ⟨_, rfl, ?_⟩
 refine seqS5 (a' := ⟨#[fV, pV b43 0, iV vt31, iV vt32, .slice A63 vt56.length c64, iV vt57, .tuple #[.agg #[.slice A38 vt30.Commits.length c39], iV vt31, iV vt32], .agg #[.slice none 0 0], (ag_Row vt5 A11 c12), .agg #[iV 1, iV vt5.ID, iV vt5.Box.X.Lo, iV vt5.Box.X.Hi, .bool vt5.Box.X.Unknown, iV vt5.Box.Y.Lo, iV vt5.Box.Y.Hi, .bool vt5.Box.Y.Unknown, iV vt5.Box.Z.Lo, iV vt5.Box.Z.Hi, .bool vt5.Box.Z.Unknown, iV vt5.Flux.Lo, iV vt5.Flux.Hi, .bool vt5.Flux.Unknown, iV vt5.When.Lo, iV vt5.When.Hi, .bool vt5.When.Unknown, .slice A11 vt5.Frames.length c12, iV vt5.Marks], .slice (some ⟨b20, 0, none⟩) ([(⟨1, vt5⟩ : S_Change)] : List S_Change).length 1, .tuple #[.agg #[.slice A38 vt30.Commits.length c39], iV vt31, iV vt32], .agg #[.slice A38 vt30.Commits.length c39], iV vt31, iV vt32, .tuple #[.slice A63 vt56.length c64, iV vt57], .agg #[.slice A38 vt30.Commits.length c39], iV vt31, .tuple #[.slice A63 vt56.length c64, iV vt57], .slice A63 vt56.length c64, iV vt57, uV, uV, uV, uV, uV, uV, uV, uV, uV, uV, uV, uV, uV, uV, uV, uV, uV, uV, uV, uV, uV, uV], []⟩) (by kernel_rfl) ?_
 refine wpList_nil ?_
 refine hK50 _ _ ?_
 refine wp_seq_k (fun K68 hK69 => ?_)
 refine heldG (S := Sg t f59 (s65 :: [(b43, .cells #[.slice A38 vt30.Commits.length c39] 34 (0, 0))] :: H) []) (n := 23) (by kernel_rfl) rfl HS62 ?_
 intro W70 HS71
 refine takeG [0, 1, 2] (n := 23) (fuel := 20) (l' := #[true, true, true, false, false, false, false, false, false, false, false, false, false, false, false, false, false, false, false, false, false, false, false]) (a' := ⟨#[fV, pV b43 0, iV vt31, iV vt32, .slice A63 vt56.length c64, iV vt57, .tuple #[.agg #[.slice A38 vt30.Commits.length c39], iV vt31, iV vt32], .agg #[.slice none 0 0], (ag_Row vt5 A11 c12), .agg #[iV 1, iV vt5.ID, iV vt5.Box.X.Lo, iV vt5.Box.X.Hi, .bool vt5.Box.X.Unknown, iV vt5.Box.Y.Lo, iV vt5.Box.Y.Hi, .bool vt5.Box.Y.Unknown, iV vt5.Box.Z.Lo, iV vt5.Box.Z.Hi, .bool vt5.Box.Z.Unknown, iV vt5.Flux.Lo, iV vt5.Flux.Hi, .bool vt5.Flux.Unknown, iV vt5.When.Lo, iV vt5.When.Hi, .bool vt5.When.Unknown, .slice A11 vt5.Frames.length c12, iV vt5.Marks], .slice (some ⟨b20, 0, none⟩) ([(⟨1, vt5⟩ : S_Change)] : List S_Change).length 1, .tuple #[.agg #[.slice A38 vt30.Commits.length c39], iV vt31, iV vt32], .agg #[.slice A38 vt30.Commits.length c39], iV vt31, iV vt32, .tuple #[.slice A63 vt56.length c64, iV vt57], .agg #[.slice A38 vt30.Commits.length c39], iV vt31, .tuple #[.slice A63 vt56.length c64, iV vt57], .slice A63 vt56.length c64, iV vt57, iV vt32, .bool (vt32 == 0), .bool (vt32 == 0), uV, uV, uV, uV, uV, uV, uV, uV, uV, uV, uV, uV, uV, uV, uV, uV, uV, uV, uV], []⟩) rfl (by kernel_rfl) (by kernel_rfl) (by kernel_rfl) hnp (Sg.g0 (Sx.of [] (FM.le.refl _) HS71)) ?_
 have hq_ := ite_some h; clear h; rcases hq_ with ⟨c72, h⟩ | ⟨c72, h⟩
 · have c72 : vt32 = 0 := c72
   refine gateRwI 22 (x := (vt32 == 0)) (v := true) (by kernel_rfl) (beq_iff_eq.mpr c72) ?_
   refine gateRwI 23 (x := (vt32 == 0)) (v := true) (by kernel_rfl) (beq_iff_eq.mpr c72) ?_
   refine takeG [3, 4, 5, 6] (n := 20) (fuel := 16) (l' := #[true, true, true, true, true, true, true, false, false, false, false, false, false, false, false, false, false, false, false, false, false, false, false]) (a' := ⟨#[fV, pV b43 0, iV vt31, iV vt32, .slice A63 vt56.length c64, iV vt57, .tuple #[.agg #[.slice A38 vt30.Commits.length c39], iV vt31, iV vt32], .agg #[.slice none 0 0], (ag_Row vt5 A11 c12), .agg #[iV 1, iV vt5.ID, iV vt5.Box.X.Lo, iV vt5.Box.X.Hi, .bool vt5.Box.X.Unknown, iV vt5.Box.Y.Lo, iV vt5.Box.Y.Hi, .bool vt5.Box.Y.Unknown, iV vt5.Box.Z.Lo, iV vt5.Box.Z.Hi, .bool vt5.Box.Z.Unknown, iV vt5.Flux.Lo, iV vt5.Flux.Hi, .bool vt5.Flux.Unknown, iV vt5.When.Lo, iV vt5.When.Hi, .bool vt5.When.Unknown, .slice A11 vt5.Frames.length c12, iV vt5.Marks], .slice (some ⟨b20, 0, none⟩) ([(⟨1, vt5⟩ : S_Change)] : List S_Change).length 1, .tuple #[.agg #[.slice A38 vt30.Commits.length c39], iV vt31, iV vt32], .agg #[.slice A38 vt30.Commits.length c39], iV vt31, iV vt32, .tuple #[.slice A63 vt56.length c64, iV vt57], .agg #[.slice A38 vt30.Commits.length c39], iV vt31, .tuple #[.slice A63 vt56.length c64, iV vt57], .slice A63 vt56.length c64, iV vt57, iV vt32, tV, tV, iV vt57, .bool (vt57 == 0), .bool (vt57 == 0), .bool (vt57 == 0), uV, uV, uV, uV, uV, uV, uV, uV, uV, uV, uV, uV, uV, uV, uV], []⟩) rfl (by kernel_rfl) (by kernel_rfl) (by kernel_rfl) hnp (Sg.g0 (Sx.of [] (FM.le.refl _) HS71)) ?_
   have hq_ := ite_some h; clear h; rcases hq_ with ⟨c73, h⟩ | ⟨c73, h⟩
   · have c73 : vt57 = 0 := c73
     refine gateRwI 25 (x := (vt57 == 0)) (v := true) (by kernel_rfl) (beq_iff_eq.mpr c73) ?_
     refine gateRwI 26 (x := (vt57 == 0)) (v := true) (by kernel_rfl) (beq_iff_eq.mpr c73) ?_
     refine gateRwI 27 (x := (vt57 == 0)) (v := true) (by kernel_rfl) (beq_iff_eq.mpr c73) ?_
     refine takeG [7, 8, 9, 10] (n := 16) (fuel := 12) (l' := #[true, true, true, true, true, true, true, true, true, true, true, false, false, false, false, false, false, false, false, false, false, false, false]) (a' := ⟨#[fV, pV b43 0, iV vt31, iV vt32, .slice A63 vt56.length c64, iV vt57, .tuple #[.agg #[.slice A38 vt30.Commits.length c39], iV vt31, iV vt32], .agg #[.slice none 0 0], (ag_Row vt5 A11 c12), .agg #[iV 1, iV vt5.ID, iV vt5.Box.X.Lo, iV vt5.Box.X.Hi, .bool vt5.Box.X.Unknown, iV vt5.Box.Y.Lo, iV vt5.Box.Y.Hi, .bool vt5.Box.Y.Unknown, iV vt5.Box.Z.Lo, iV vt5.Box.Z.Hi, .bool vt5.Box.Z.Unknown, iV vt5.Flux.Lo, iV vt5.Flux.Hi, .bool vt5.Flux.Unknown, iV vt5.When.Lo, iV vt5.When.Hi, .bool vt5.When.Unknown, .slice A11 vt5.Frames.length c12, iV vt5.Marks], .slice (some ⟨b20, 0, none⟩) ([(⟨1, vt5⟩ : S_Change)] : List S_Change).length 1, .tuple #[.agg #[.slice A38 vt30.Commits.length c39], iV vt31, iV vt32], .agg #[.slice A38 vt30.Commits.length c39], iV vt31, iV vt32, .tuple #[.slice A63 vt56.length c64, iV vt57], .agg #[.slice A38 vt30.Commits.length c39], iV vt31, .tuple #[.slice A63 vt56.length c64, iV vt57], .slice A63 vt56.length c64, iV vt57, iV vt32, tV, tV, iV vt57, tV, tV, tV, iV vt31, .bool (vt31 == 1), .bool (vt31 == 1), .bool (vt31 == 1), uV, uV, uV, uV, uV, uV, uV, uV, uV, uV, uV], []⟩) rfl (by kernel_rfl) (by kernel_rfl) (by kernel_rfl) hnp (Sg.g0 (Sx.of [] (FM.le.refl _) HS71)) ?_
     have hq_ := ite_some h; clear h; rcases hq_ with ⟨c74, h⟩ | ⟨c74, h⟩
     · have c74 : vt31 = 1 := c74
       refine gateRwI 29 (x := (vt31 == 1)) (v := true) (by kernel_rfl) (beq_iff_eq.mpr c74) ?_
       refine gateRwI 30 (x := (vt31 == 1)) (v := true) (by kernel_rfl) (beq_iff_eq.mpr c74) ?_
       refine gateRwI 31 (x := (vt31 == 1)) (v := true) (by kernel_rfl) (beq_iff_eq.mpr c74) ?_
       refine takeG [11, 12, 13, 14, 15] (n := 12) (fuel := 7) (l' := #[true, true, true, true, true, true, true, true, true, true, true, true, true, true, true, true, false, false, false, false, false, false, false]) (a' := ⟨#[fV, pV b43 0, iV vt31, iV vt32, .slice A63 vt56.length c64, iV vt57, .tuple #[.agg #[.slice A38 vt30.Commits.length c39], iV vt31, iV vt32], .agg #[.slice none 0 0], (ag_Row vt5 A11 c12), .agg #[iV 1, iV vt5.ID, iV vt5.Box.X.Lo, iV vt5.Box.X.Hi, .bool vt5.Box.X.Unknown, iV vt5.Box.Y.Lo, iV vt5.Box.Y.Hi, .bool vt5.Box.Y.Unknown, iV vt5.Box.Z.Lo, iV vt5.Box.Z.Hi, .bool vt5.Box.Z.Unknown, iV vt5.Flux.Lo, iV vt5.Flux.Hi, .bool vt5.Flux.Unknown, iV vt5.When.Lo, iV vt5.When.Hi, .bool vt5.When.Unknown, .slice A11 vt5.Frames.length c12, iV vt5.Marks], .slice (some ⟨b20, 0, none⟩) ([(⟨1, vt5⟩ : S_Change)] : List S_Change).length 1, .tuple #[.agg #[.slice A38 vt30.Commits.length c39], iV vt31, iV vt32], .agg #[.slice A38 vt30.Commits.length c39], iV vt31, iV vt32, .tuple #[.slice A63 vt56.length c64, iV vt57], .agg #[.slice A38 vt30.Commits.length c39], iV vt31, .tuple #[.slice A63 vt56.length c64, iV vt57], .slice A63 vt56.length c64, iV vt57, iV vt32, tV, tV, iV vt57, tV, tV, tV, iV vt31, tV, tV, tV, .slice A63 vt56.length c64, iV (vt56.length : Int), .bool ((vt56.length : Int) == 1), .bool ((vt56.length : Int) == 1), .bool ((vt56.length : Int) == 1), uV, uV, uV, uV, uV, uV], []⟩) rfl (by kernel_rfl) (by kernel_rfl) (by kernel_rfl) hnp (Sg.g0 (Sx.of [] (FM.le.refl _) HS71)) ?_
       have hq_ := ite_some h; clear h; rcases hq_ with ⟨c75, h⟩ | ⟨c75, h⟩
       · have c75 : (vt56.length : Int) = 1 := c75
         refine gateRwI 34 (x := ((vt56.length : Int) == 1)) (v := true) (by kernel_rfl) (beq_iff_eq.mpr c75) ?_
         refine gateRwI 35 (x := ((vt56.length : Int) == 1)) (v := true) (by kernel_rfl) (beq_iff_eq.mpr c75) ?_
         refine gateRwI 36 (x := ((vt56.length : Int) == 1)) (v := true) (by kernel_rfl) (beq_iff_eq.mpr c75) ?_
         have hq_ := guard_some h; clear h; obtain ⟨c76, h⟩ := hq_
         have c76 : 0 < (vt56.length : Int) := c76
         obtain ⟨b80, of81, cs77, hA82, hr78, hc79⟩ := HO66.at (i := 0) (by decide) c76
         obtain ⟨A83, c83, rfl, HR83⟩ := hr78
         refine takeG [16] (n := 7) (fuel := 6) (l' := #[true, true, true, true, true, true, true, true, true, true, true, true, true, true, true, true, true, false, false, false, false, false, false]) (a' := ⟨#[fV, pV b43 0, iV vt31, iV vt32, .slice A63 vt56.length c64, iV vt57, .tuple #[.agg #[.slice A38 vt30.Commits.length c39], iV vt31, iV vt32], .agg #[.slice none 0 0], (ag_Row vt5 A11 c12), .agg #[iV 1, iV vt5.ID, iV vt5.Box.X.Lo, iV vt5.Box.X.Hi, .bool vt5.Box.X.Unknown, iV vt5.Box.Y.Lo, iV vt5.Box.Y.Hi, .bool vt5.Box.Y.Unknown, iV vt5.Box.Z.Lo, iV vt5.Box.Z.Hi, .bool vt5.Box.Z.Unknown, iV vt5.Flux.Lo, iV vt5.Flux.Hi, .bool vt5.Flux.Unknown, iV vt5.When.Lo, iV vt5.When.Hi, .bool vt5.When.Unknown, .slice A11 vt5.Frames.length c12, iV vt5.Marks], .slice (some ⟨b20, 0, none⟩) ([(⟨1, vt5⟩ : S_Change)] : List S_Change).length 1, .tuple #[.agg #[.slice A38 vt30.Commits.length c39], iV vt31, iV vt32], .agg #[.slice A38 vt30.Commits.length c39], iV vt31, iV vt32, .tuple #[.slice A63 vt56.length c64, iV vt57], .agg #[.slice A38 vt30.Commits.length c39], iV vt31, .tuple #[.slice A63 vt56.length c64, iV vt57], .slice A63 vt56.length c64, iV vt57, iV vt32, tV, tV, iV vt57, tV, tV, tV, iV vt31, tV, tV, tV, .slice A63 vt56.length c64, iV (vt56.length : Int), tV, tV, tV, .slice A63 vt56.length c64, uV, uV, uV, uV, uV], []⟩) rfl (by kernel_rfl) (by kernel_rfl) (by kernel_rfl) hnp (Sg.g0 (Sx.of [] (FM.le.refl _) HS71)) ?_
         refine takeGQ 17 [] rfl (by kernel_rfl) (by kernel_rfl) (by kernel_rfl) (by kernel_rfl) (by kernel_rfl) (by kernel_rfl) hnp (Sg.g0 (Sx.of [] (FM.le.refl _) HS71)) (fun w_ hw_ => by obtain ⟨g_, hl_, hS_⟩ := hw_.st; exact run_indexE hA82 (sz := 18) rfl Try.underlying26 (by kernel_rfl) (by kernel_rfl : _ = Value.slice A63 vt56.length c64) (by kernel_rfl : _ = Value.int .i64 0) (by decide) c76 w_) ?_
         refine takeGQ 18 [] rfl (by kernel_rfl) (by kernel_rfl) (by kernel_rfl) (by kernel_rfl) (by kernel_rfl) (by kernel_rfl) hnp (Sg.g0 (Sx.of [] (FM.le.refl _) HS71)) (fun w_ hw_ => by obtain ⟨g_, hl_, hS_⟩ := hw_.st; exact run_loadN (n := 18) rfl Try.underlying65 rfl (by kernel_rfl) (by kernel_rfl : _ = Value.pointer (some ⟨b80, of81 + (0 : Int).toNat * 18, none⟩)) (cs := [.int .i64 ((rd vt56 0).ID), .int .i64 ((((rd vt56 0).Box).X).Lo), .int .i64 ((((rd vt56 0).Box).X).Hi), .bool ((((rd vt56 0).Box).X).Unknown), .int .i64 ((((rd vt56 0).Box).Y).Lo), .int .i64 ((((rd vt56 0).Box).Y).Hi), .bool ((((rd vt56 0).Box).Y).Unknown), .int .i64 ((((rd vt56 0).Box).Z).Lo), .int .i64 ((((rd vt56 0).Box).Z).Hi), .bool ((((rd vt56 0).Box).Z).Unknown), .int .i64 (((rd vt56 0).Flux).Lo), .int .i64 (((rd vt56 0).Flux).Hi), .bool (((rd vt56 0).Flux).Unknown), .int .i64 (((rd vt56 0).When).Lo), .int .i64 (((rd vt56 0).When).Hi), .bool (((rd vt56 0).When).Unknown), .slice A83 ((rd vt56 0).Frames).length c83, .int .i64 ((rd vt56 0).Marks)]) rfl (fun j_ hj_ => ((hc79 hS_) j_ hj_))) ?_
         have hq_ := bind_some h; clear h; obtain ⟨vt84, hc85, h⟩ := hq_
         refine takeGE 19 (by kernel_rfl) rfl (by kernel_rfl) (does_call (f := 36) (args := #[.int .i64 3]) (by kernel_rfl) (spykeep3_single.calls k 3 HS71 vt84 hc85) ?_)
         rintro _ W88 ⟨f86, A90, c91, s92, rfl, L87, HS89, HO93⟩
         refine ⟨_, rfl, ?_⟩
         refine ⟨(Sg.g0 (Sx.of [s92] L87 HS89)), ?_⟩
         obtain ⟨f95, L96, HS97, HR98, th99⟩ := HO93.lend HS89
         have hq_ := bind_some h; clear h; obtain ⟨vt100, hc101, h⟩ := hq_
         refine takeGE 20 (by kernel_rfl) rfl (by kernel_rfl) (does_call (f := 21) (args := #[.agg #[.int .i64 ((rd vt56 0).ID), .int .i64 ((((rd vt56 0).Box).X).Lo), .int .i64 ((((rd vt56 0).Box).X).Hi), .bool ((((rd vt56 0).Box).X).Unknown), .int .i64 ((((rd vt56 0).Box).Y).Lo), .int .i64 ((((rd vt56 0).Box).Y).Hi), .bool ((((rd vt56 0).Box).Y).Unknown), .int .i64 ((((rd vt56 0).Box).Z).Lo), .int .i64 ((((rd vt56 0).Box).Z).Hi), .bool ((((rd vt56 0).Box).Z).Unknown), .int .i64 (((rd vt56 0).Flux).Lo), .int .i64 (((rd vt56 0).Flux).Hi), .bool (((rd vt56 0).Flux).Unknown), .int .i64 (((rd vt56 0).When).Lo), .int .i64 (((rd vt56 0).When).Hi), .bool (((rd vt56 0).When).Unknown), .slice A83 ((rd vt56 0).Frames).length c83, .int .i64 ((rd vt56 0).Marks)], .agg #[.int .i64 vt84.ID, .int .i64 vt84.Box.X.Lo, .int .i64 vt84.Box.X.Hi, .bool vt84.Box.X.Unknown, .int .i64 vt84.Box.Y.Lo, .int .i64 vt84.Box.Y.Hi, .bool vt84.Box.Y.Unknown, .int .i64 vt84.Box.Z.Lo, .int .i64 vt84.Box.Z.Hi, .bool vt84.Box.Z.Unknown, .int .i64 vt84.Flux.Lo, .int .i64 vt84.Flux.Hi, .bool vt84.Flux.Unknown, .int .i64 vt84.When.Lo, .int .i64 vt84.When.Hi, .bool vt84.When.Unknown, .slice A90 vt84.Frames.length c91, .int .i64 vt84.Marks]]) (by kernel_rfl) (catalog_Same.calls k A83 c83 A90 c91 (rd vt56 0) vt84 HS97 (HR83.mono (L87.trans L96)) HR98 vt100 hc101) ?_)
         rintro _ W104 ⟨f102, rfl, L103, HS105⟩
         refine ⟨_, rfl, ?_⟩
         obtain ⟨f106, L107, HS108⟩ := th99 L103 HS105
         refine ⟨(Sg.g0 (Sx.of [s92] (L87.trans L107) HS108)), ?_⟩
         refine takeG [21, 22] (n := 2) (fuel := 0) (l' := #[true, true, true, true, true, true, true, true, true, true, true, true, true, true, true, true, true, true, true, true, true, true, true]) (a' := ⟨#[.bool vt100, pV b43 0, iV vt31, iV vt32, .slice A63 vt56.length c64, iV vt57, .tuple #[.agg #[.slice A38 vt30.Commits.length c39], iV vt31, iV vt32], .agg #[.slice none 0 0], (ag_Row vt5 A11 c12), .agg #[iV 1, iV vt5.ID, iV vt5.Box.X.Lo, iV vt5.Box.X.Hi, .bool vt5.Box.X.Unknown, iV vt5.Box.Y.Lo, iV vt5.Box.Y.Hi, .bool vt5.Box.Y.Unknown, iV vt5.Box.Z.Lo, iV vt5.Box.Z.Hi, .bool vt5.Box.Z.Unknown, iV vt5.Flux.Lo, iV vt5.Flux.Hi, .bool vt5.Flux.Unknown, iV vt5.When.Lo, iV vt5.When.Hi, .bool vt5.When.Unknown, .slice A11 vt5.Frames.length c12, iV vt5.Marks], .slice (some ⟨b20, 0, none⟩) ([(⟨1, vt5⟩ : S_Change)] : List S_Change).length 1, .tuple #[.agg #[.slice A38 vt30.Commits.length c39], iV vt31, iV vt32], .agg #[.slice A38 vt30.Commits.length c39], iV vt31, iV vt32, .tuple #[.slice A63 vt56.length c64, iV vt57], .agg #[.slice A38 vt30.Commits.length c39], iV vt31, .tuple #[.slice A63 vt56.length c64, iV vt57], .slice A63 vt56.length c64, iV vt57, iV vt32, tV, tV, iV vt57, tV, tV, tV, iV vt31, tV, tV, tV, .slice A63 vt56.length c64, iV (vt56.length : Int), tV, tV, tV, .slice A63 vt56.length c64, pV b80 (of81 + (0 : Int).toNat * 18), (ag_Row (rd vt56 0) A83 c83), (ag_Row vt84 A90 c91), .bool vt100, .bool vt100], []⟩) rfl (by kernel_rfl) (by kernel_rfl) (by kernel_rfl) hnp (Sg.g0 (Sx.of [s92] (L87.trans L107) HS108)) ?_
         refine doneG (by kernel_rfl) ?_ _
         refine hK69 _ _ ?_
         refine wp_ret ?_
         refine hret _ _ ?_
         refine ends_still (v := Value.bool vt100) (by kernel_rfl) (by kernel_rfl) ?_
         have HS109 := HS108.drop
         have HS110 := HS109.drop
         have HS111 := HS110.drop
         injection h with h
         subst h
         exact ⟨f106, rfl, (L8.trans (L17.trans (L27.trans (L35.trans (L53.trans (L60.trans (L87.trans L107))))))), HS111⟩
       · have c75 : ¬ ((vt56.length : Int) = 1) := c75
         refine gateRwI 34 (x := ((vt56.length : Int) == 1)) (v := false) (by kernel_rfl) (beq_eq_false_iff_ne.mpr c75) ?_
         refine gateRwI 35 (x := ((vt56.length : Int) == 1)) (v := false) (by kernel_rfl) (beq_eq_false_iff_ne.mpr c75) ?_
         refine gateRwI 36 (x := ((vt56.length : Int) == 1)) (v := false) (by kernel_rfl) (beq_eq_false_iff_ne.mpr c75) ?_
         refine takeG [16, 17, 18, 19, 20, 21, 22] (n := 7) (fuel := 0) (l' := #[true, true, true, true, true, true, true, true, true, true, true, true, true, true, true, true, true, true, true, true, true, true, true]) (a' := ⟨#[fV, pV b43 0, iV vt31, iV vt32, .slice A63 vt56.length c64, iV vt57, .tuple #[.agg #[.slice A38 vt30.Commits.length c39], iV vt31, iV vt32], .agg #[.slice none 0 0], (ag_Row vt5 A11 c12), .agg #[iV 1, iV vt5.ID, iV vt5.Box.X.Lo, iV vt5.Box.X.Hi, .bool vt5.Box.X.Unknown, iV vt5.Box.Y.Lo, iV vt5.Box.Y.Hi, .bool vt5.Box.Y.Unknown, iV vt5.Box.Z.Lo, iV vt5.Box.Z.Hi, .bool vt5.Box.Z.Unknown, iV vt5.Flux.Lo, iV vt5.Flux.Hi, .bool vt5.Flux.Unknown, iV vt5.When.Lo, iV vt5.When.Hi, .bool vt5.When.Unknown, .slice A11 vt5.Frames.length c12, iV vt5.Marks], .slice (some ⟨b20, 0, none⟩) ([(⟨1, vt5⟩ : S_Change)] : List S_Change).length 1, .tuple #[.agg #[.slice A38 vt30.Commits.length c39], iV vt31, iV vt32], .agg #[.slice A38 vt30.Commits.length c39], iV vt31, iV vt32, .tuple #[.slice A63 vt56.length c64, iV vt57], .agg #[.slice A38 vt30.Commits.length c39], iV vt31, .tuple #[.slice A63 vt56.length c64, iV vt57], .slice A63 vt56.length c64, iV vt57, iV vt32, tV, tV, iV vt57, tV, tV, tV, iV vt31, tV, tV, tV, .slice A63 vt56.length c64, iV (vt56.length : Int), fV, fV, fV, uV, uV, uV, uV, uV, fV], []⟩) rfl (by kernel_rfl) (by kernel_rfl) (by kernel_rfl) hnp (Sg.g0 (Sx.of [] (FM.le.refl _) HS71)) ?_
         refine doneG (by kernel_rfl) ?_ _
         refine hK69 _ _ ?_
         refine wp_ret ?_
         refine hret _ _ ?_
         refine ends_still (v := Value.bool false) (by kernel_rfl) (by kernel_rfl) ?_
         have HS112 := HS71.drop
         have HS113 := HS112.drop
         injection h with h
         subst h
         exact ⟨f59, rfl, (L8.trans (L17.trans (L27.trans (L35.trans (L53.trans L60))))), HS113⟩
     · have c74 : ¬ (vt31 = 1) := c74
       refine gateRwI 29 (x := (vt31 == 1)) (v := false) (by kernel_rfl) (beq_eq_false_iff_ne.mpr c74) ?_
       refine gateRwI 30 (x := (vt31 == 1)) (v := false) (by kernel_rfl) (beq_eq_false_iff_ne.mpr c74) ?_
       refine gateRwI 31 (x := (vt31 == 1)) (v := false) (by kernel_rfl) (beq_eq_false_iff_ne.mpr c74) ?_
       refine takeG [11, 12, 13, 14, 15, 16, 17, 18, 19, 20, 21, 22] (n := 12) (fuel := 0) (l' := #[true, true, true, true, true, true, true, true, true, true, true, true, true, true, true, true, true, true, true, true, true, true, true]) (a' := ⟨#[fV, pV b43 0, iV vt31, iV vt32, .slice A63 vt56.length c64, iV vt57, .tuple #[.agg #[.slice A38 vt30.Commits.length c39], iV vt31, iV vt32], .agg #[.slice none 0 0], (ag_Row vt5 A11 c12), .agg #[iV 1, iV vt5.ID, iV vt5.Box.X.Lo, iV vt5.Box.X.Hi, .bool vt5.Box.X.Unknown, iV vt5.Box.Y.Lo, iV vt5.Box.Y.Hi, .bool vt5.Box.Y.Unknown, iV vt5.Box.Z.Lo, iV vt5.Box.Z.Hi, .bool vt5.Box.Z.Unknown, iV vt5.Flux.Lo, iV vt5.Flux.Hi, .bool vt5.Flux.Unknown, iV vt5.When.Lo, iV vt5.When.Hi, .bool vt5.When.Unknown, .slice A11 vt5.Frames.length c12, iV vt5.Marks], .slice (some ⟨b20, 0, none⟩) ([(⟨1, vt5⟩ : S_Change)] : List S_Change).length 1, .tuple #[.agg #[.slice A38 vt30.Commits.length c39], iV vt31, iV vt32], .agg #[.slice A38 vt30.Commits.length c39], iV vt31, iV vt32, .tuple #[.slice A63 vt56.length c64, iV vt57], .agg #[.slice A38 vt30.Commits.length c39], iV vt31, .tuple #[.slice A63 vt56.length c64, iV vt57], .slice A63 vt56.length c64, iV vt57, iV vt32, tV, tV, iV vt57, tV, tV, tV, iV vt31, fV, fV, fV, uV, uV, uV, fV, fV, uV, uV, uV, uV, uV, fV], []⟩) rfl (by kernel_rfl) (by kernel_rfl) (by kernel_rfl) hnp (Sg.g0 (Sx.of [] (FM.le.refl _) HS71)) ?_
       refine doneG (by kernel_rfl) ?_ _
       refine hK69 _ _ ?_
       refine wp_ret ?_
       refine hret _ _ ?_
       refine ends_still (v := Value.bool false) (by kernel_rfl) (by kernel_rfl) ?_
       have HS114 := HS71.drop
       have HS115 := HS114.drop
       injection h with h
       subst h
       exact ⟨f59, rfl, (L8.trans (L17.trans (L27.trans (L35.trans (L53.trans L60))))), HS115⟩
   · have c73 : ¬ (vt57 = 0) := c73
     refine gateRwI 25 (x := (vt57 == 0)) (v := false) (by kernel_rfl) (beq_eq_false_iff_ne.mpr c73) ?_
     refine gateRwI 26 (x := (vt57 == 0)) (v := false) (by kernel_rfl) (beq_eq_false_iff_ne.mpr c73) ?_
     refine gateRwI 27 (x := (vt57 == 0)) (v := false) (by kernel_rfl) (beq_eq_false_iff_ne.mpr c73) ?_
     refine takeG [7, 8, 9, 10, 11, 12, 13, 14, 15, 16, 17, 18, 19, 20, 21, 22] (n := 16) (fuel := 0) (l' := #[true, true, true, true, true, true, true, true, true, true, true, true, true, true, true, true, true, true, true, true, true, true, true]) (a' := ⟨#[fV, pV b43 0, iV vt31, iV vt32, .slice A63 vt56.length c64, iV vt57, .tuple #[.agg #[.slice A38 vt30.Commits.length c39], iV vt31, iV vt32], .agg #[.slice none 0 0], (ag_Row vt5 A11 c12), .agg #[iV 1, iV vt5.ID, iV vt5.Box.X.Lo, iV vt5.Box.X.Hi, .bool vt5.Box.X.Unknown, iV vt5.Box.Y.Lo, iV vt5.Box.Y.Hi, .bool vt5.Box.Y.Unknown, iV vt5.Box.Z.Lo, iV vt5.Box.Z.Hi, .bool vt5.Box.Z.Unknown, iV vt5.Flux.Lo, iV vt5.Flux.Hi, .bool vt5.Flux.Unknown, iV vt5.When.Lo, iV vt5.When.Hi, .bool vt5.When.Unknown, .slice A11 vt5.Frames.length c12, iV vt5.Marks], .slice (some ⟨b20, 0, none⟩) ([(⟨1, vt5⟩ : S_Change)] : List S_Change).length 1, .tuple #[.agg #[.slice A38 vt30.Commits.length c39], iV vt31, iV vt32], .agg #[.slice A38 vt30.Commits.length c39], iV vt31, iV vt32, .tuple #[.slice A63 vt56.length c64, iV vt57], .agg #[.slice A38 vt30.Commits.length c39], iV vt31, .tuple #[.slice A63 vt56.length c64, iV vt57], .slice A63 vt56.length c64, iV vt57, iV vt32, tV, tV, iV vt57, fV, fV, fV, uV, uV, fV, fV, uV, uV, uV, fV, fV, uV, uV, uV, uV, uV, fV], []⟩) rfl (by kernel_rfl) (by kernel_rfl) (by kernel_rfl) hnp (Sg.g0 (Sx.of [] (FM.le.refl _) HS71)) ?_
     refine doneG (by kernel_rfl) ?_ _
     refine hK69 _ _ ?_
     refine wp_ret ?_
     refine hret _ _ ?_
     refine ends_still (v := Value.bool false) (by kernel_rfl) (by kernel_rfl) ?_
     have HS116 := HS71.drop
     have HS117 := HS116.drop
     injection h with h
     subst h
     exact ⟨f59, rfl, (L8.trans (L17.trans (L27.trans (L35.trans (L53.trans L60))))), HS117⟩
 · have c72 : ¬ (vt32 = 0) := c72
   refine gateRwI 22 (x := (vt32 == 0)) (v := false) (by kernel_rfl) (beq_eq_false_iff_ne.mpr c72) ?_
   refine gateRwI 23 (x := (vt32 == 0)) (v := false) (by kernel_rfl) (beq_eq_false_iff_ne.mpr c72) ?_
   refine takeG [3, 4, 5, 6, 7, 8, 9, 10, 11, 12, 13, 14, 15, 16, 17, 18, 19, 20, 21, 22] (n := 20) (fuel := 0) (l' := #[true, true, true, true, true, true, true, true, true, true, true, true, true, true, true, true, true, true, true, true, true, true, true]) (a' := ⟨#[fV, pV b43 0, iV vt31, iV vt32, .slice A63 vt56.length c64, iV vt57, .tuple #[.agg #[.slice A38 vt30.Commits.length c39], iV vt31, iV vt32], .agg #[.slice none 0 0], (ag_Row vt5 A11 c12), .agg #[iV 1, iV vt5.ID, iV vt5.Box.X.Lo, iV vt5.Box.X.Hi, .bool vt5.Box.X.Unknown, iV vt5.Box.Y.Lo, iV vt5.Box.Y.Hi, .bool vt5.Box.Y.Unknown, iV vt5.Box.Z.Lo, iV vt5.Box.Z.Hi, .bool vt5.Box.Z.Unknown, iV vt5.Flux.Lo, iV vt5.Flux.Hi, .bool vt5.Flux.Unknown, iV vt5.When.Lo, iV vt5.When.Hi, .bool vt5.When.Unknown, .slice A11 vt5.Frames.length c12, iV vt5.Marks], .slice (some ⟨b20, 0, none⟩) ([(⟨1, vt5⟩ : S_Change)] : List S_Change).length 1, .tuple #[.agg #[.slice A38 vt30.Commits.length c39], iV vt31, iV vt32], .agg #[.slice A38 vt30.Commits.length c39], iV vt31, iV vt32, .tuple #[.slice A63 vt56.length c64, iV vt57], .agg #[.slice A38 vt30.Commits.length c39], iV vt31, .tuple #[.slice A63 vt56.length c64, iV vt57], .slice A63 vt56.length c64, iV vt57, iV vt32, fV, fV, uV, uV, fV, fV, uV, uV, fV, fV, uV, uV, uV, fV, fV, uV, uV, uV, uV, uV, fV], []⟩) rfl (by kernel_rfl) (by kernel_rfl) (by kernel_rfl) hnp (Sg.g0 (Sx.of [] (FM.le.refl _) HS71)) ?_
   refine doneG (by kernel_rfl) ?_ _
   refine hK69 _ _ ?_
   refine wp_ret ?_
   refine hret _ _ ?_
   refine ends_still (v := Value.bool false) (by kernel_rfl) (by kernel_rfl) ?_
   have HS118 := HS71.drop
   have HS119 := HS118.drop
   injection h with h
   subst h
   exact ⟨f59, rfl, (L8.trans (L17.trans (L27.trans (L35.trans (L53.trans L60))))), HS119⟩

set_option maxRecDepth 100000 in
set_option maxHeartbeats 4000000 in
theorem spykeep3_CatalogHistories_1.calls (k : Nat) (b1 : Nat) (A5 : Option Addr) (c6 : Nat) (v3 : Int) (r4 : S_Row) {t w : World} {f : FM} {H : List Seg} (HS : St t w f ([(b1, .cells #[.int .i64 v3] 3 (0, 0))] :: H)) (HR7 : SlR (tInt .i64) f A5 c6 r4.Frames) (rr1 : Bool) (h : spykeep3_CatalogHistories_1 k v3 r4 = some rr1) :
    Calls Try.prog 19 #[.agg #[.int .i64 r4.ID, .int .i64 r4.Box.X.Lo, .int .i64 r4.Box.X.Hi, .bool r4.Box.X.Unknown, .int .i64 r4.Box.Y.Lo, .int .i64 r4.Box.Y.Hi, .bool r4.Box.Y.Unknown, .int .i64 r4.Box.Z.Lo, .int .i64 r4.Box.Z.Hi, .bool r4.Box.Z.Unknown, .int .i64 r4.Flux.Lo, .int .i64 r4.Flux.Hi, .bool r4.Flux.Unknown, .int .i64 r4.When.Lo, .int .i64 r4.When.Hi, .bool r4.When.Unknown, .slice A5 r4.Frames.length c6, .int .i64 r4.Marks], .pointer (some ⟨b1, 0, none⟩)] w (fun e w' => ∃ (g : FM), e = .returned (Value.bool rr1) ∧ FM.le f g ∧ St t w' g ([(b1, .cells #[.int .i64 v3] 3 (0, 0))] :: H)) := by
 unfold spykeep3_CatalogHistories_1 at h
 refine enter Try.func19 rfl (tm := #[(ag_Row r4 A5 c6), pV b1 0, uV, uV, uV, uV, uV, uV]) (by kernel_rfl) ?_
 intro B hret hnor hnp
 refine wp_seq_k (fun K8 hK9 => ?_)
 refine wp_region_lit ?_
 refine seqK rfl (does_box (cs := #[.int .i64 r4.ID, .int .i64 r4.Box.X.Lo, .int .i64 r4.Box.X.Hi, .bool r4.Box.X.Unknown, .int .i64 r4.Box.Y.Lo, .int .i64 r4.Box.Y.Hi, .bool r4.Box.Y.Unknown, .int .i64 r4.Box.Z.Lo, .int .i64 r4.Box.Z.Hi, .bool r4.Box.Z.Unknown, .int .i64 r4.Flux.Lo, .int .i64 r4.Flux.Hi, .bool r4.Flux.Unknown, .int .i64 r4.When.Lo, .int .i64 r4.When.Hi, .bool r4.When.Unknown, .slice A5 r4.Frames.length c6, .int .i64 r4.Marks]) rfl (by kernel_rfl : _ = Value.agg #[.int .i64 r4.ID, .int .i64 r4.Box.X.Lo, .int .i64 r4.Box.X.Hi, .bool r4.Box.X.Unknown, .int .i64 r4.Box.Y.Lo, .int .i64 r4.Box.Y.Hi, .bool r4.Box.Y.Unknown, .int .i64 r4.Box.Z.Lo, .int .i64 r4.Box.Z.Hi, .bool r4.Box.Z.Unknown, .int .i64 r4.Flux.Lo, .int .i64 r4.Flux.Hi, .bool r4.Flux.Unknown, .int .i64 r4.When.Lo, .int .i64 r4.When.Hi, .bool r4.When.Unknown, .slice A5 r4.Frames.length c6, .int .i64 r4.Marks]) rfl HS ?_)
 intro b10 W11 HS12
 refine seqL1 (by kernel_rfl) ?_
 refine wpList_nil ?_
 refine hK9 _ _ ?_
 refine wp_seq_k (fun K14 hK15 => ?_)
 refine wp_region_lit ?_
 refine seqL1 (by kernel_rfl) ?_
 refine seqK rfl (does_run (run_load rfl Try.underlying3 rfl (by kernel_rfl : _ = Value.pointer (some ⟨b10, 0, none⟩)) (HS12.cell 0)) ?_)
 refine seqK rfl (does_run (run_load rfl Try.underlying3 rfl (by kernel_rfl : _ = Value.pointer (some ⟨b1, 0, none⟩)) (HS12.u1.cell 0)) ?_)
 refine seqL2 (by kernel_rfl) ?_
 refine wpList_nil ?_
 refine hK15 _ _ ?_
 refine wp_ret ?_
 refine hret _ _ ?_
 refine ends_still (v := Value.bool (r4.ID == v3)) (by kernel_rfl) (by kernel_rfl) ?_
 have HS16 := HS12.drop
 injection h with h
 subst h
 exact ⟨f, rfl, FM.le.refl _, HS16⟩

set_option maxRecDepth 100000 in
set_option maxHeartbeats 4000000 in
theorem slices_IndexFunc_Row__spykeep3_CatalogHistories_1.calls (k : Nat) (b1 : Nat) (A5 : Option Addr) (c6 : Nat) (v3 : Int) (s4 : List S_Row) {t w : World} {f : FM} {H : List Seg} (HS : St t w f ([(b1, .cells #[.int .i64 v3] 3 (0, 0))] :: H)) (HR7 : SlR ty_Row f A5 c6 s4) (rr1 : Int) (h : slices_IndexFunc_Row__spykeep3_CatalogHistories_1 k v3 s4 = some rr1) :
    Calls Try.prog 18 #[.slice A5 s4.length c6, .func (.func 19) #[] #[.pointer (some ⟨b1, 0, none⟩)]] w (fun e w' => ∃ (g : FM), e = .returned (Value.int .i64 rr1) ∧ FM.le f g ∧ St t w' g ([(b1, .cells #[.int .i64 v3] 3 (0, 0))] :: H)) := by
 unfold slices_IndexFunc_Row__spykeep3_CatalogHistories_1 at h
 refine enter Try.func18 rfl (tm := #[.slice A5 s4.length c6, .func (.func 19) #[] #[pV b1 0], uV, uV, uV, uV, uV, uV, uV, uV, uV, uV, uV, uV, uV, uV, uV, uV, uV]) (by kernel_rfl) ?_
 intro B hret hnor hnp
 refine wp_seq_k (fun K8 hK9 => ?_)
 refine wp_region_lit ?_
 refine seqL1 (by kernel_rfl) ?_
 refine wpList_nil ?_
 refine hK9 _ _ ?_
 refine wp_seq_k (fun K10 hK11 => ?_)
 refine wp_seq_k (fun K12 hK13 => ?_)
 refine wp_region_lit ?_
 refine seqL3 (by kernel_rfl) ?_
 refine wpList_nil ?_
 refine hK13 _ _ ?_
 refine blockK (fun B14 hx15 hn16 hr17 ho18 hp19 => ?_)
 have hq_ := bind_some h; clear h; obtain ⟨o20, hv72, h⟩ := hq_
 have JR74 : ∀ z_, some (Sum.inl z_) = some o20 → some z_ = some rr1 := by
  intro z_ e_; injection e_ with e_; subst e_; exact h
 have J73 : ∀ (f67 : FM) (j71 : Nat → Value) (W69 : World) (a_ : Act), FM.le f f67 → some (Sum.inr ()) = some o20 → St t W69 f67 ([(b1, .cells #[.int .i64 v3] 3 (0, 0))] :: H) → a_ = ⟨#[.slice A5 s4.length c6, .func (.func 19) #[] #[pV b1 0], uV, uV, (j71 0), (j71 1), .slice A5 s4.length c6, iV (s4.length : Int), (j71 2), (j71 3), (j71 4), (j71 5), (j71 6), (j71 7), (j71 8), (j71 9), (j71 10), (j71 11), (j71 12)], []⟩ → K10 a_ W69 := by
  intro f67 j71 W69 a_ L68 hj75 HS70  hfr_; subst hfr_
  injection hj75 with hj75; subst hj75; try dsimp only at h
  simp only [Sum.elim_inr] at h
  refine hK11 _ _ ?_
  refine wp_seq_k (fun K76 hK77 => ?_)
  refine wp_region_lit ?_
  refine seqL1 (by kernel_rfl) ?_
  refine wpList_nil ?_
  refine hK77 _ _ ?_
  refine wp_ret ?_
  refine hret _ _ ?_
  refine ends_still (v := Value.int .i64 (-1)) (by kernel_rfl) (by kernel_rfl) ?_
  injection h with h
  subst h
  exact ⟨f67, rfl, L68, HS70⟩
 clear h; have h := hv72; clear hv72
 refine loopK (fun n_ a_ w_ => ∃ (f24 : FM) (x29 : Int) (j28 : Nat → Value), FM.le f f24 ∧ St t w_ f24 ([(b1, .cells #[.int .i64 v3] 3 (0, 0))] :: H) ∧ slices_IndexFunc_Row__spykeep3_CatalogHistories_1.l0 k s4 v3 n_ x29 = some o20 ∧ a_ = ⟨#[.slice A5 s4.length c6, .func (.func 19) #[] #[pV b1 0], uV, uV, (j28 0), (j28 1), .slice A5 s4.length c6, iV (s4.length : Int), iV x29, (j28 2), (j28 3), (j28 4), (j28 5), (j28 6), (j28 7), (j28 8), (j28 9), (j28 10), (j28 11)], []⟩) k ⟨f, 0, (fun i_ => [Value.int .i64 0, undef, undef, undef, undef, undef, undef, undef, undef, undef, undef, undef].getD i_ undef), (FM.le.refl _), HS, h, (by kernel_rfl)⟩ ?_
 clear h
 rintro n23 _ W26 ⟨f24, x29, j28, L25, HS27, h, rfl⟩ K21 hK22
 obtain _ | n23 := n23
 · exact nomatch h
 simp only [slices_IndexFunc_Row__spykeep3_CatalogHistories_1.l0] at h
 refine wp_seq_k (fun K30 hK31 => ?_)
 refine wp_region_lit ?_
 refine seqL1 (by kernel_rfl) ?_
 refine wpList_nil ?_
 refine hK31 _ _ ?_
 refine wp_seq_k (fun K32 hK33 => ?_)
 have hq_ := ite_some h; clear h; rcases hq_ with ⟨c35, h⟩ | ⟨c35, h⟩
 · have c35 : x29 < (s4.length : Int) := c35
   refine wpRwI 9 (x := (decide (x29 < (s4.length : Int)))) (v := true) (by kernel_rfl) (decide_eq_true c35) ?_
   refine condT (by kernel_rfl) ?_
   refine wp_skip ?_
   refine hK33 _ _ ?_
   refine wp_seq_k (fun K36 hK37 => ?_)
   refine blockK (fun B38 hx39 hn40 hr41 ho42 hp43 => ?_)
   refine wp_seq_k (fun K45 hK46 => ?_)
   refine wp_region_lit ?_
   refine seqL2 (by kernel_rfl) ?_
   refine wpList_nil ?_
   refine hK46 _ _ ?_
   refine wp_seq_k (fun K47 hK48 => ?_)
   refine wp_region_lit ?_
   have hq_ := guard_some h; clear h; obtain ⟨c49, h⟩ := hq_
   have c49 : 0 ≤ x29 := c49
   obtain ⟨b53, of54, cs50, hA55, hr51, hc52⟩ := (HR7.mono L25).at (i := x29) c49 c35
   obtain ⟨A56, c56, rfl, HR56⟩ := hr51
   refine seqL3 (by kernel_rfl) ?_
   refine seqK rfl (does_run (run_indexE hA55 (sz := 18) rfl Try.underlying26 (by kernel_rfl) (by kernel_rfl : _ = Value.slice A5 s4.length c6) (by kernel_rfl : _ = Value.int .i64 x29) c49 c35 W26) ?_)
   refine seqK rfl (does_run (run_loadN (n := 18) rfl Try.underlying65 rfl (by kernel_rfl) (by kernel_rfl : _ = Value.pointer (some ⟨b53, of54 + (x29 : Int).toNat * 18, none⟩)) (cs := [.int .i64 ((rd s4 x29).ID), .int .i64 ((((rd s4 x29).Box).X).Lo), .int .i64 ((((rd s4 x29).Box).X).Hi), .bool ((((rd s4 x29).Box).X).Unknown), .int .i64 ((((rd s4 x29).Box).Y).Lo), .int .i64 ((((rd s4 x29).Box).Y).Hi), .bool ((((rd s4 x29).Box).Y).Unknown), .int .i64 ((((rd s4 x29).Box).Z).Lo), .int .i64 ((((rd s4 x29).Box).Z).Hi), .bool ((((rd s4 x29).Box).Z).Unknown), .int .i64 (((rd s4 x29).Flux).Lo), .int .i64 (((rd s4 x29).Flux).Hi), .bool (((rd s4 x29).Flux).Unknown), .int .i64 (((rd s4 x29).When).Lo), .int .i64 (((rd s4 x29).When).Hi), .bool (((rd s4 x29).When).Unknown), .slice A56 ((rd s4 x29).Frames).length c56, .int .i64 ((rd s4 x29).Marks)]) rfl (fun j_ hj_ => ((hc52 (FM.le.refl _) HS27) j_ hj_))) ?_)
   have hq_ := bind_some h; clear h; obtain ⟨vt57, hc58, h⟩ := hq_
   refine seqK rfl (does_call (f := 19) (args := #[.agg #[.int .i64 ((rd s4 x29).ID), .int .i64 ((((rd s4 x29).Box).X).Lo), .int .i64 ((((rd s4 x29).Box).X).Hi), .bool ((((rd s4 x29).Box).X).Unknown), .int .i64 ((((rd s4 x29).Box).Y).Lo), .int .i64 ((((rd s4 x29).Box).Y).Hi), .bool ((((rd s4 x29).Box).Y).Unknown), .int .i64 ((((rd s4 x29).Box).Z).Lo), .int .i64 ((((rd s4 x29).Box).Z).Hi), .bool ((((rd s4 x29).Box).Z).Unknown), .int .i64 (((rd s4 x29).Flux).Lo), .int .i64 (((rd s4 x29).Flux).Hi), .bool (((rd s4 x29).Flux).Unknown), .int .i64 (((rd s4 x29).When).Lo), .int .i64 (((rd s4 x29).When).Hi), .bool (((rd s4 x29).When).Unknown), .slice A56 ((rd s4 x29).Frames).length c56, .int .i64 ((rd s4 x29).Marks)], .pointer (some ⟨b1, 0, none⟩)]) (by kernel_rfl) (spykeep3_CatalogHistories_1.calls k b1 A56 c56 v3 (rd s4 x29) HS27 HR56 vt57 hc58) ?_)
   rintro _ W61 ⟨f59, rfl, L60, HS62⟩
   refine ⟨_, rfl, ?_⟩
   refine wpList_nil ?_
   refine hK48 _ _ ?_
   have hq_ := ite_some h; clear h; rcases hq_ with ⟨c64, h⟩ | ⟨c64, h⟩
   · have c64 : vt57 = true := c64
     refine wpRwI 16 (x := vt57) (v := true) (by kernel_rfl) c64 ?_
     refine condT (by kernel_rfl) ?_
     refine wp_seq_k (fun K65 hK66 => ?_)
     refine wp_region_lit ?_
     refine seqL2 (by kernel_rfl) ?_
     refine wpList_nil ?_
     refine hK66 _ _ ?_
     refine wp_ret ?_
     refine hr41 _ _ ?_
     refine hr17 _ _ ?_
     refine hret _ _ ?_
     refine ends_still (v := Value.int .i64 x29) (by kernel_rfl) (by kernel_rfl) ?_
     replace h := JR74 _ h
     injection h with h
     subst h
     exact ⟨f59, rfl, (L25.trans L60), HS62⟩
   · have c64 : ¬ (vt57 = true) := c64
     refine wpRwI 16 (x := vt57) (v := false) (by kernel_rfl) (Bool.eq_false_iff.mpr c64) ?_
     refine condF (by kernel_rfl) ?_
     refine wp_skip ?_
     refine hn40 _ _ ?_
     refine hK37 _ _ ?_
     refine wp_region_lit ?_
     refine seqL2 (by kernel_rfl) ?_
     refine wpList_nil ?_
     refine hK22 n23 _ _ (Nat.lt_succ_self _) ?_
     exact ⟨f59, (w64 (x29 + 1)), (fun i_ => [(j28 0), Value.int .i64 x29, Value.bool true, Value.int .i64 x29, Value.func (.func 19) #[] #[.pointer (some ⟨b1, 0, none⟩)], Value.slice A5 s4.length c6, Value.int .i64 x29, Value.pointer (some ⟨b53, of54 + (x29 : Int).toNat * 18, none⟩), (ag_Row (rd s4 x29) A56 c56), Value.bool false, (j28 10), Value.int .i64 (w64 (x29 + 1))].getD i_ undef), (L25.trans L60), HS62, h, (by kernel_rfl)⟩
 · have c35 : ¬ (x29 < (s4.length : Int)) := c35
   refine wpRwI 9 (x := (decide (x29 < (s4.length : Int)))) (v := false) (by kernel_rfl) (decide_eq_false c35) ?_
   refine condF (by kernel_rfl) ?_
   refine wp_exit ?_
   refine hx15 _ _ ?_
   exact J73 f24 (fun i_ => [(j28 0), (j28 1), Value.int .i64 x29, Value.bool false, (j28 3), (j28 4), (j28 5), (j28 6), (j28 7), (j28 8), (j28 9), (j28 10), (j28 11)].getD i_ undef) W26 _ L25 h HS27 (by kernel_rfl)

set_option maxRecDepth 100000 in
set_option maxHeartbeats 4000000 in
theorem catalog_History.calls (k : Nat) (A2 : Option Addr) (c3 : Nat) (c1 : S_Catalog) (vid5 : Int) {t w : World} {f : FM} {H : List Seg} (HS : St t w f (H)) (HR4 : SlR (tSl ty_Change) f A2 c3 c1.Commits) (rr1 : List S_Entry) (rr2 : Int) (h : catalog_History k c1 vid5 = some (rr1, rr2)) :
    Calls Try.prog 20 #[.agg #[.slice A2 c1.Commits.length c3], .int .i64 vid5] w (fun e w' => ∃ (g : FM) (A294 : Option Addr) (c295 : Nat) (s296 : Seg), e = .returned (Value.tuple #[.slice A294 rr1.length c295, .int .i64 rr2]) ∧ FM.le f g ∧ St t w' g (s296 :: H) ∧ Own ty_Entry 73 g A294 c295 s296 rr1) := by
 unfold catalog_History at h
 refine enter Try.func20 rfl (tm := #[.agg #[.slice A2 c1.Commits.length c3], iV vid5, uV, uV, uV, uV, uV, uV, uV, uV, uV, uV, uV, uV, uV, uV, uV, uV, uV, uV, uV, uV, uV, uV, uV, uV, uV, uV, uV, uV, uV, uV, uV, uV, uV, uV, uV, uV, uV, uV, uV, uV, uV, uV, uV, uV, uV, uV, uV, uV]) (by kernel_rfl) ?_
 intro B hret hnor hnp
 refine wp_seq_k (fun K6 hK7 => ?_)
 refine wp_region_lit ?_
 refine seqK rfl (does_box (cs := #[.slice A2 c1.Commits.length c3]) rfl (by kernel_rfl : _ = Value.agg #[.slice A2 c1.Commits.length c3]) rfl HS ?_)
 intro b8 W9 HS10
 refine seqL2 (by kernel_rfl) ?_
 refine wpList_nil ?_
 refine hK7 _ _ ?_
 refine wp_seq_k (fun K12 hK13 => ?_)
 refine wp_seq_k (fun K14 hK15 => ?_)
 refine wp_region_lit ?_
 refine seqK rfl (does_run (run_loadN (n := 1) rfl Try.underlying34 rfl (by kernel_rfl) (by kernel_rfl : _ = Value.pointer (some ⟨b8, 0, none⟩)) (cs := [.slice A2 c1.Commits.length c3]) rfl (HS10.cells 0 1 _ rfl)) ?_)
 have hq_ := bind_some h; clear h; obtain ⟨vt16, hc17, h⟩ := hq_
 refine seqK rfl (does_call (f := 32) (args := #[.agg #[.slice A2 c1.Commits.length c3]]) (by kernel_rfl) (catalog_CheckCatalog.calls k A2 c3 c1 HS10 HR4 vt16 hc17) ?_)
 rintro _ W20 ⟨f18, rfl, L19, HS21⟩
 refine ⟨_, rfl, ?_⟩
 refine seqL1 (by kernel_rfl) ?_
 refine wpList_nil ?_
 refine hK15 _ _ ?_
 refine wp_seq_k (fun K22 hK23 => ?_)
 refine wp_region_lit ?_
 refine seqL2 (by kernel_rfl) ?_
 refine wpList_nil ?_
 refine hK23 _ _ ?_
 have hq_ := ite_some h; clear h; rcases hq_ with ⟨c25, h⟩ | ⟨c25, h⟩
 · have c25 : vt16 ≠ 0 := c25
   refine wpRwI 15 (x := (vt16 != 0)) (v := true) (by kernel_rfl) (bne_iff_ne.mpr c25) ?_
   refine condT (by kernel_rfl) ?_
   refine wp_seq_k (fun K26 hK27 => ?_)
   refine wp_region_lit ?_
   refine seqL3 (by kernel_rfl) ?_
   refine wpList_nil ?_
   refine hK27 _ _ ?_
   refine wp_ret ?_
   refine hret _ _ ?_
   have HS282 := HS21.cons_nil
   refine ends_still (v := Value.tuple #[.slice none 0 0, .int .i64 vt16]) (by kernel_rfl) (by kernel_rfl) ?_
   have HS284 := HS282.u1
   have HS285 := HS284.drop
   injection h with h
   injection h with h0_ h
   subst h0_ h
   exact ⟨f18, none, 0, [], rfl, L19, HS285, (Own.nil _)⟩
 · have c25 : ¬ (vt16 ≠ 0) := c25
   refine wpRwI 15 (x := (vt16 != 0)) (v := false) (by kernel_rfl) (bne_eq_false_iff_eq.mpr (Decidable.of_not_not c25)) ?_
   refine condF (by kernel_rfl) ?_
   refine wp_skip ?_
   refine hK13 _ _ ?_
   refine wp_seq_k (fun K28 hK29 => ?_)
   refine wp_region_lit ?_
   refine seqL1 (by kernel_rfl) ?_
   refine wpList_nil ?_
   refine hK29 _ _ ?_
   refine wp_seq_k (fun K30 hK31 => ?_)
   refine wp_seq_k (fun K32 hK33 => ?_)
   refine wp_region_lit ?_
   refine seqL1 (by kernel_rfl) ?_
   refine seqK rfl (does_run (run_load rfl Try.underlying32 rfl (by kernel_rfl : _ = Value.pointer (some ⟨b8, 0, none⟩)) (HS21.cell 0)) ?_)
   refine seqL2 (by kernel_rfl) ?_
   refine wpList_nil ?_
   refine hK33 _ _ ?_
   refine blockK (fun B34 hx35 hn36 hr37 ho38 hp39 => ?_)
   have hq_ := bind_some h; clear h; obtain ⟨o40, hv263, h⟩ := hq_
   have J264 : ∀ (f252 : FM) (A258 : Option Addr) (c259 : Nat) (s260 : Seg) (out257 : List S_Entry) (j256 : Nat → Value) (W254 : World) (a_ : Act), FM.le f18 f252 → some (out257) = some o40 → St t W254 f252 (s260 :: [(b8, .cells #[.slice A2 c1.Commits.length c3] 34 (0, 0))] :: H) → Own ty_Entry 73 f252 A258 c259 s260 out257 → a_ = ⟨#[.agg #[.slice A2 c1.Commits.length c3], iV vid5, pV b8 0, uV, .slice none 0 0, iV 0, iV vt16, .slice A258 out257.length c259, (j256 0), (j256 1), uV, (j256 2), .agg #[.slice A2 c1.Commits.length c3], iV vt16, iV vt16, fV, uV, pV b8 0, .slice A2 c1.Commits.length c3, iV (c1.Commits.length : Int), (j256 3), (j256 4), (j256 5), (j256 6), (j256 7), (j256 8), (j256 9), (j256 10), (j256 11), (j256 12), (j256 13), (j256 14), (j256 15), (j256 16), (j256 17), (j256 18), (j256 19), (j256 20), (j256 21), (j256 22), (j256 23), (j256 24), (j256 25), (j256 26), (j256 27), (j256 28), uV, uV, uV, uV], []⟩ → K30 a_ W254 := by
    intro f252 A258 c259 s260 out257 j256 W254 a_ L253 hj265 HS255 HO261 hfr_; subst hfr_
    injection hj265 with hj265; subst hj265; try dsimp only at h
    refine hK31 _ _ ?_
    refine wp_seq_k (fun K272 hK273 => ?_)
    refine wp_seq_k (fun K274 hK275 => ?_)
    refine wp_region_lit ?_
    refine seqL3 (by kernel_rfl) ?_
    refine wpList_nil ?_
    refine hK275 _ _ ?_
    have hq_ := ite_some h; clear h; rcases hq_ with ⟨c277, h⟩ | ⟨c277, h⟩
    · have c277 : (out257.length : Int) = 0 := c277
      refine wpRwI 48 (x := ((out257.length : Int) == 0)) (v := true) (by kernel_rfl) (beq_iff_eq.mpr c277) ?_
      refine condT (by kernel_rfl) ?_
      refine wp_seq_k (fun K278 hK279 => ?_)
      refine wp_region_lit ?_
      refine seqL2 (by kernel_rfl) ?_
      refine wpList_nil ?_
      refine hK279 _ _ ?_
      refine wp_ret ?_
      refine hret _ _ ?_
      have HS286 := HS255.cons_nil
      refine ends_still (v := Value.tuple #[.slice none 0 0, .int .i64 8]) (by kernel_rfl) (by kernel_rfl) ?_
      have HS288 := HS286.u2
      have HS289 := HS288.u2
      have HS290 := HS289.drop
      have HS291 := HS290.drop
      injection h with h
      injection h with h0_ h
      subst h0_ h
      exact ⟨f252, none, 0, [], rfl, (L19.trans L253), HS291, (Own.nil _)⟩
    · have c277 : ¬ ((out257.length : Int) = 0) := c277
      refine wpRwI 48 (x := ((out257.length : Int) == 0)) (v := false) (by kernel_rfl) (beq_eq_false_iff_ne.mpr c277) ?_
      refine condF (by kernel_rfl) ?_
      refine wp_skip ?_
      refine hK273 _ _ ?_
      refine wp_seq_k (fun K280 hK281 => ?_)
      refine wp_region_lit ?_
      refine seqL3 (by kernel_rfl) ?_
      refine wpList_nil ?_
      refine hK281 _ _ ?_
      refine wp_ret ?_
      refine hret _ _ ?_
      refine ends_still (v := Value.tuple #[.slice A258 out257.length c259, .int .i64 0]) (by kernel_rfl) (by kernel_rfl) ?_
      have HS292 := HS255.u1
      have HS293 := HS292.drop
      injection h with h
      injection h with h0_ h
      subst h0_ h
      exact ⟨f252, A258, c259, s260, rfl, (L19.trans L253), HS293, HO261⟩
   clear h; have h := hv263; clear hv263
   have HS266 := HS21.cons_nil
   refine loopK (fun n_ a_ w_ => ∃ (f44 : FM) (A50 : Option Addr) (c51 : Nat) (s52 : Seg) (out49 : List S_Entry) (x55 : Int) (j48 : Nat → Value), FM.le f18 f44 ∧ St t w_ f44 (s52 :: [(b8, .cells #[.slice A2 c1.Commits.length c3] 34 (0, 0))] :: H) ∧ Own ty_Entry 73 f44 A50 c51 s52 out49 ∧ catalog_History.l0 k c1 vid5 n_ out49 x55 = some o40 ∧ a_ = ⟨#[.agg #[.slice A2 c1.Commits.length c3], iV vid5, pV b8 0, uV, .slice none 0 0, iV 0, iV vt16, .slice A50 out49.length c51, (j48 0), (j48 1), uV, (j48 2), .agg #[.slice A2 c1.Commits.length c3], iV vt16, iV vt16, fV, uV, pV b8 0, .slice A2 c1.Commits.length c3, iV (c1.Commits.length : Int), iV x55, (j48 3), (j48 4), (j48 5), (j48 6), (j48 7), (j48 8), (j48 9), (j48 10), (j48 11), (j48 12), (j48 13), (j48 14), (j48 15), (j48 16), (j48 17), (j48 18), (j48 19), (j48 20), (j48 21), (j48 22), (j48 23), (j48 24), (j48 25), (j48 26), (j48 27), uV, uV, uV, uV], []⟩) k ⟨f18, none, 0, [], ([] : List S_Entry), 0, (fun i_ => [undef, undef, undef, undef, undef, undef, undef, undef, undef, undef, undef, undef, undef, undef, undef, undef, undef, undef, undef, undef, undef, undef, undef, undef, undef, undef, undef, undef].getD i_ undef), (FM.le.refl _), HS266, (Own.nil _), h, (by kernel_rfl)⟩ ?_
   clear h
   rintro n43 _ W46 ⟨f44, A50, c51, s52, out49, x55, j48, L45, HS47, HO53, h, rfl⟩ K41 hK42
   obtain _ | n43 := n43
   · exact nomatch h
   simp only [catalog_History.l0] at h
   refine wp_seq_k (fun K56 hK57 => ?_)
   refine wp_region_lit ?_
   refine seqL1 (by kernel_rfl) ?_
   refine wpList_nil ?_
   refine hK57 _ _ ?_
   refine wp_seq_k (fun K58 hK59 => ?_)
   have hq_ := ite_some h; clear h; rcases hq_ with ⟨c61, h⟩ | ⟨c61, h⟩
   · have c61 : x55 < (c1.Commits.length : Int) := c61
     refine wpRwI 21 (x := (decide (x55 < (c1.Commits.length : Int)))) (v := true) (by kernel_rfl) (decide_eq_true c61) ?_
     refine condT (by kernel_rfl) ?_
     refine wp_skip ?_
     refine hK59 _ _ ?_
     refine wp_seq_k (fun K62 hK63 => ?_)
     refine blockK (fun B64 hx65 hn66 hr67 ho68 hp69 => ?_)
     refine wp_seq_k (fun K71 hK72 => ?_)
     refine wp_region_lit ?_
     have hq_ := guard_some h; clear h; obtain ⟨c73, h⟩ := hq_
     have c73 : 0 ≤ x55 := c73
     obtain ⟨b77, of78, cs74, hA79, hr75, hc76⟩ := (HR4.mono (L19.trans L45)).at (i := x55) c73 c61
     obtain ⟨A80, c80, rfl, HR80⟩ := hr75
     refine seqL1 (by kernel_rfl) ?_
     refine seqK rfl (does_run (run_indexE hA79 (sz := 1) rfl Try.underlying32 (by kernel_rfl) (by kernel_rfl : _ = Value.slice A2 c1.Commits.length c3) (by kernel_rfl : _ = Value.int .i64 x55) c73 c61 W46) ?_)
     refine seqK rfl (does_run (run_load rfl Try.underlying28 rfl (by kernel_rfl : _ = Value.pointer (some ⟨b77, of78 + (x55 : Int).toNat * 1, none⟩)) ((hc76 (FM.le.refl _) HS47) 0 (by decide))) ?_)
     refine seqL2 (by kernel_rfl) ?_
     refine wpList_nil ?_
     refine hK72 _ _ ?_
     refine wp_seq_k (fun K81 hK82 => ?_)
     refine wp_region_lit ?_
     have hq_ := bind_some h; clear h; obtain ⟨vt83, hc84, h⟩ := hq_
     refine seqL1 (by kernel_rfl) ?_
     refine seqK rfl (does_call (f := 29) (args := #[.slice A80 (rd c1.Commits x55).length c80]) (by kernel_rfl) (catalog_copies.calls k A80 c80 (rd c1.Commits x55) HS47 HR80 vt83 hc84) ?_)
     rintro _ W87 ⟨f85, A89, c90, s91, rfl, L86, HS88, HO92⟩
     refine ⟨_, rfl, ?_⟩
     refine seqL2 (by kernel_rfl) ?_
     refine wpList_nil ?_
     refine hK82 _ _ ?_
     refine blockK (fun B94 hx95 hn96 hr97 ho98 hp99 => ?_)
     have hq_ := bind_some h; clear h; obtain ⟨o164, hv239, h⟩ := hq_
     have J240 : ∀ (f229 : FM) (A235 : Option Addr) (c236 : Nat) (s237 : Seg) (out234 : List S_Entry) (j233 : Nat → Value) (W231 : World) (a_ : Act), FM.le f85 f229 → some (out234) = some o164 → St t W231 f229 (s91 :: s237 :: [(b8, .cells #[.slice A2 c1.Commits.length c3] 34 (0, 0))] :: H) → Own ty_Entry 73 f229 A235 c236 s237 out234 → a_ = ⟨#[.agg #[.slice A2 c1.Commits.length c3], iV vid5, pV b8 0, uV, .slice none 0 0, iV 0, iV vt16, .slice A235 out234.length c236, iV x55, .slice A80 (rd c1.Commits x55).length c80, uV, (j233 0), .agg #[.slice A2 c1.Commits.length c3], iV vt16, iV vt16, fV, uV, pV b8 0, .slice A2 c1.Commits.length c3, iV (c1.Commits.length : Int), iV x55, tV, iV x55, pV b77 (of78 + (x55 : Int).toNat * 1), .slice A80 (rd c1.Commits x55).length c80, .slice A80 (rd c1.Commits x55).length c80, .slice A89 vt83.length c90, iV (vt83.length : Int), (j233 1), (j233 2), (j233 3), (j233 4), (j233 5), (j233 6), (j233 7), (j233 8), (j233 9), (j233 10), (j233 11), (j233 12), (j233 13), (j233 14), (j233 15), (j233 16), (j233 17), (j48 27), uV, uV, uV, uV], []⟩ → B64 Exit.normal a_ W231 := by
      intro f229 A235 c236 s237 out234 j233 W231 a_ L230 hj241 HS232 HO238 hfr_; subst hfr_
      injection hj241 with hj241; subst hj241; try dsimp only at h
      refine hn66 _ _ ?_
      refine hK63 _ _ ?_
      refine wp_region_lit ?_
      refine seqL2 (by kernel_rfl) ?_
      refine wpList_nil ?_
      refine hK42 n43 _ _ (Nat.lt_succ_self _) ?_
      have HS268 := HS232.u2
      have HS269 := HS268.u2
      have HS270 := HS269.u2
      have HS271 := HS270.drop
      exact ⟨f229, A235, c236, s237, out234, (w64 (x55 + 1)), (fun i_ => [Value.int .i64 x55, Value.slice A80 (rd c1.Commits x55).length c80, (j233 0), Value.bool true, Value.int .i64 x55, Value.pointer (some ⟨b77, of78 + (x55 : Int).toNat * 1, none⟩), Value.slice A80 (rd c1.Commits x55).length c80, Value.slice A80 (rd c1.Commits x55).length c80, Value.slice A89 vt83.length c90, Value.int .i64 (vt83.length : Int), (j233 1), (j233 2), (j233 3), (j233 4), (j233 5), (j233 6), (j233 7), (j233 8), (j233 9), (j233 10), (j233 11), (j233 12), (j233 13), (j233 14), (j233 15), (j233 16), (j233 17), Value.int .i64 (w64 (x55 + 1))].getD i_ undef), (L45.trans (L86.trans L230)), HS271, HO238, h, (by kernel_rfl)⟩
     clear h; have h := hv239; clear hv239
     refine loopK (fun n_ a_ w_ => ∃ (f168 : FM) (A174 : Option Addr) (c175 : Nat) (s176 : Seg) (out173 : List S_Entry) (x178 : Int) (j172 : Nat → Value), FM.le f85 f168 ∧ St t w_ f168 (s91 :: s176 :: [(b8, .cells #[.slice A2 c1.Commits.length c3] 34 (0, 0))] :: H) ∧ Own ty_Entry 73 f168 A174 c175 s176 out173 ∧ catalog_History.l1 k vt83 vid5 x55 n_ out173 x178 = some o164 ∧ a_ = ⟨#[.agg #[.slice A2 c1.Commits.length c3], iV vid5, pV b8 0, uV, .slice none 0 0, iV 0, iV vt16, .slice A174 out173.length c175, iV x55, .slice A80 (rd c1.Commits x55).length c80, uV, (j172 0), .agg #[.slice A2 c1.Commits.length c3], iV vt16, iV vt16, fV, uV, pV b8 0, .slice A2 c1.Commits.length c3, iV (c1.Commits.length : Int), iV x55, tV, iV x55, pV b77 (of78 + (x55 : Int).toNat * 1), .slice A80 (rd c1.Commits x55).length c80, .slice A80 (rd c1.Commits x55).length c80, .slice A89 vt83.length c90, iV (vt83.length : Int), iV x178, (j172 1), (j172 2), (j172 3), (j172 4), (j172 5), (j172 6), (j172 7), (j172 8), (j172 9), (j172 10), (j172 11), (j172 12), (j172 13), (j172 14), (j172 15), (j172 16), (j48 27), uV, uV, uV, uV], []⟩) k ⟨f85, A50, c51, s52, out49, 0, (fun i_ => [(j48 2), (j48 11), (j48 12), (j48 13), (j48 14), (j48 15), (j48 16), (j48 17), (j48 18), (j48 19), (j48 20), (j48 21), (j48 22), (j48 23), (j48 24), (j48 25), (j48 26)].getD i_ undef), (FM.le.refl _), HS88, (HO53.mono L86), h, (by kernel_rfl)⟩ ?_
     clear h
     rintro n167 _ W170 ⟨f168, A174, c175, s176, out173, x178, j172, L169, HS171, HO177, h, rfl⟩ K165 hK166
     obtain _ | n167 := n167
     · exact nomatch h
     simp only [catalog_History.l1] at h
     refine wp_seq_k (fun K179 hK180 => ?_)
     refine wp_region_lit ?_
     refine seqL1 (by kernel_rfl) ?_
     refine wpList_nil ?_
     refine hK180 _ _ ?_
     refine wp_seq_k (fun K181 hK182 => ?_)
     have hq_ := ite_some h; clear h; rcases hq_ with ⟨c184, h⟩ | ⟨c184, h⟩
     · have c184 : x178 < (vt83.length : Int) := c184
       refine wpRwI 29 (x := (decide (x178 < (vt83.length : Int)))) (v := true) (by kernel_rfl) (decide_eq_true c184) ?_
       refine condT (by kernel_rfl) ?_
       refine wp_skip ?_
       refine hK182 _ _ ?_
       refine wp_seq_k (fun K185 hK186 => ?_)
       refine blockK (fun B187 hx188 hn189 hr190 ho191 hp192 => ?_)
       refine wp_seq_k (fun K194 hK195 => ?_)
       refine wp_region_lit ?_
       have hq_ := guard_some h; clear h; obtain ⟨c196, h⟩ := hq_
       have c196 : 0 ≤ x178 := c196
       obtain ⟨b200, of201, cs197, hA202, hr198, hc199⟩ := (HO92.mono L169).at (i := x178) c196 c184
       obtain ⟨A203, c203, rfl, HR203⟩ := hr198
       refine seqK rfl (does_run (run_indexE hA202 (sz := 19) rfl Try.underlying28 (by kernel_rfl) (by kernel_rfl : _ = Value.slice A89 vt83.length c90) (by kernel_rfl : _ = Value.int .i64 x178) c196 c184 W170) ?_)
       refine seqK rfl (does_run (run_loadN (n := 19) rfl Try.underlying71 rfl (by kernel_rfl) (by kernel_rfl : _ = Value.pointer (some ⟨b200, of201 + (x178 : Int).toNat * 19, none⟩)) (cs := [.int .i64 ((rd vt83 x178).Kind), .int .i64 (((rd vt83 x178).Row).ID), .int .i64 (((((rd vt83 x178).Row).Box).X).Lo), .int .i64 (((((rd vt83 x178).Row).Box).X).Hi), .bool (((((rd vt83 x178).Row).Box).X).Unknown), .int .i64 (((((rd vt83 x178).Row).Box).Y).Lo), .int .i64 (((((rd vt83 x178).Row).Box).Y).Hi), .bool (((((rd vt83 x178).Row).Box).Y).Unknown), .int .i64 (((((rd vt83 x178).Row).Box).Z).Lo), .int .i64 (((((rd vt83 x178).Row).Box).Z).Hi), .bool (((((rd vt83 x178).Row).Box).Z).Unknown), .int .i64 ((((rd vt83 x178).Row).Flux).Lo), .int .i64 ((((rd vt83 x178).Row).Flux).Hi), .bool ((((rd vt83 x178).Row).Flux).Unknown), .int .i64 ((((rd vt83 x178).Row).When).Lo), .int .i64 ((((rd vt83 x178).Row).When).Hi), .bool ((((rd vt83 x178).Row).When).Unknown), .slice A203 (((rd vt83 x178).Row).Frames).length c203, .int .i64 (((rd vt83 x178).Row).Marks)]) rfl (fun j_ hj_ => ((hc199 HS171) j_ hj_))) ?_)
       refine seqK rfl (does_alloc (z := Value.agg #[.int .i64 0, .int .i64 0, .int .i64 0, .int .i64 0, .bool false, .int .i64 0, .int .i64 0, .bool false, .int .i64 0, .int .i64 0, .bool false, .int .i64 0, .int .i64 0, .bool false, .int .i64 0, .int .i64 0, .bool false, .slice none 0 0, .int .i64 0]) (cs := #[.int .i64 0, .int .i64 0, .int .i64 0, .int .i64 0, .bool false, .int .i64 0, .int .i64 0, .bool false, .int .i64 0, .int .i64 0, .bool false, .int .i64 0, .int .i64 0, .bool false, .int .i64 0, .int .i64 0, .bool false, .slice none 0 0, .int .i64 0]) rfl (by kernel_rfl) rfl HS171 ?_)
       intro b204 W205 HS206
       refine seqK rfl (does_store (n := 19) (vs := [.int .i64 ((rd vt83 x178).Kind), .int .i64 (((rd vt83 x178).Row).ID), .int .i64 (((((rd vt83 x178).Row).Box).X).Lo), .int .i64 (((((rd vt83 x178).Row).Box).X).Hi), .bool (((((rd vt83 x178).Row).Box).X).Unknown), .int .i64 (((((rd vt83 x178).Row).Box).Y).Lo), .int .i64 (((((rd vt83 x178).Row).Box).Y).Hi), .bool (((((rd vt83 x178).Row).Box).Y).Unknown), .int .i64 (((((rd vt83 x178).Row).Box).Z).Lo), .int .i64 (((((rd vt83 x178).Row).Box).Z).Hi), .bool (((((rd vt83 x178).Row).Box).Z).Unknown), .int .i64 ((((rd vt83 x178).Row).Flux).Lo), .int .i64 ((((rd vt83 x178).Row).Flux).Hi), .bool ((((rd vt83 x178).Row).Flux).Unknown), .int .i64 ((((rd vt83 x178).Row).When).Lo), .int .i64 ((((rd vt83 x178).Row).When).Hi), .bool ((((rd vt83 x178).Row).When).Unknown), .slice A203 (((rd vt83 x178).Row).Frames).length c203, .int .i64 (((rd vt83 x178).Row).Marks)]) (cs' := #[.int .i64 ((rd vt83 x178).Kind), .int .i64 (((rd vt83 x178).Row).ID), .int .i64 (((((rd vt83 x178).Row).Box).X).Lo), .int .i64 (((((rd vt83 x178).Row).Box).X).Hi), .bool (((((rd vt83 x178).Row).Box).X).Unknown), .int .i64 (((((rd vt83 x178).Row).Box).Y).Lo), .int .i64 (((((rd vt83 x178).Row).Box).Y).Hi), .bool (((((rd vt83 x178).Row).Box).Y).Unknown), .int .i64 (((((rd vt83 x178).Row).Box).Z).Lo), .int .i64 (((((rd vt83 x178).Row).Box).Z).Hi), .bool (((((rd vt83 x178).Row).Box).Z).Unknown), .int .i64 ((((rd vt83 x178).Row).Flux).Lo), .int .i64 ((((rd vt83 x178).Row).Flux).Hi), .bool ((((rd vt83 x178).Row).Flux).Unknown), .int .i64 ((((rd vt83 x178).Row).When).Lo), .int .i64 ((((rd vt83 x178).Row).When).Hi), .bool ((((rd vt83 x178).Row).When).Unknown), .slice A203 (((rd vt83 x178).Row).Frames).length c203, .int .i64 (((rd vt83 x178).Row).Marks)]) rfl (by kernel_rfl) (by kernel_rfl : _ = Value.pointer (some ⟨b204, 0, none⟩)) (by kernel_rfl : _ = Value.agg #[.int .i64 ((rd vt83 x178).Kind), .int .i64 (((rd vt83 x178).Row).ID), .int .i64 (((((rd vt83 x178).Row).Box).X).Lo), .int .i64 (((((rd vt83 x178).Row).Box).X).Hi), .bool (((((rd vt83 x178).Row).Box).X).Unknown), .int .i64 (((((rd vt83 x178).Row).Box).Y).Lo), .int .i64 (((((rd vt83 x178).Row).Box).Y).Hi), .bool (((((rd vt83 x178).Row).Box).Y).Unknown), .int .i64 (((((rd vt83 x178).Row).Box).Z).Lo), .int .i64 (((((rd vt83 x178).Row).Box).Z).Hi), .bool (((((rd vt83 x178).Row).Box).Z).Unknown), .int .i64 ((((rd vt83 x178).Row).Flux).Lo), .int .i64 ((((rd vt83 x178).Row).Flux).Hi), .bool ((((rd vt83 x178).Row).Flux).Unknown), .int .i64 ((((rd vt83 x178).Row).When).Lo), .int .i64 ((((rd vt83 x178).Row).When).Hi), .bool ((((rd vt83 x178).Row).When).Unknown), .slice A203 (((rd vt83 x178).Row).Frames).length c203, .int .i64 (((rd vt83 x178).Row).Marks)]) rfl rfl (by intro u_ hu_; simp only [List.mem_cons, List.not_mem_nil, or_false] at hu_; rcases hu_ with rfl | rfl | rfl | rfl | rfl | rfl | rfl | rfl | rfl | rfl | rfl | rfl | rfl | rfl | rfl | rfl | rfl | rfl | rfl <;> rfl) HS206 (Nat.le_of_ble_eq_true rfl) (by kernel_rfl) ?_)
       intro W208 HS209
       refine wpList_nil ?_
       refine hK195 _ _ ?_
       refine wp_seq_k (fun K210 hK211 => ?_)
       refine wp_region_lit ?_
       refine seqL2 (by kernel_rfl) ?_
       refine seqK rfl (does_run (run_load rfl Try.underlying3 rfl (by kernel_rfl : _ = Value.pointer (some ⟨b204, 1, none⟩)) (HS209.cell 1)) ?_)
       refine seqL2 (by kernel_rfl) ?_
       refine wpList_nil ?_
       refine hK211 _ _ ?_
       have hq_ := ite_some h; clear h; rcases hq_ with ⟨c213, h⟩ | ⟨c213, h⟩
       · have c213 : (((rd vt83 x178).Row).ID) = vid5 := c213
         refine wpRwI 36 (x := ((((rd vt83 x178).Row).ID) == vid5)) (v := true) (by kernel_rfl) (beq_iff_eq.mpr c213) ?_
         refine condT (by kernel_rfl) ?_
         refine wp_region_lit ?_
         refine seqL3 (by kernel_rfl) ?_
         refine seqK rfl (does_run (run_loadN (n := 19) rfl Try.underlying71 rfl (by kernel_rfl) (by kernel_rfl : _ = Value.pointer (some ⟨b204, 0, none⟩)) (cs := [.int .i64 ((rd vt83 x178).Kind), .int .i64 (((rd vt83 x178).Row).ID), .int .i64 (((((rd vt83 x178).Row).Box).X).Lo), .int .i64 (((((rd vt83 x178).Row).Box).X).Hi), .bool (((((rd vt83 x178).Row).Box).X).Unknown), .int .i64 (((((rd vt83 x178).Row).Box).Y).Lo), .int .i64 (((((rd vt83 x178).Row).Box).Y).Hi), .bool (((((rd vt83 x178).Row).Box).Y).Unknown), .int .i64 (((((rd vt83 x178).Row).Box).Z).Lo), .int .i64 (((((rd vt83 x178).Row).Box).Z).Hi), .bool (((((rd vt83 x178).Row).Box).Z).Unknown), .int .i64 ((((rd vt83 x178).Row).Flux).Lo), .int .i64 ((((rd vt83 x178).Row).Flux).Hi), .bool ((((rd vt83 x178).Row).Flux).Unknown), .int .i64 ((((rd vt83 x178).Row).When).Lo), .int .i64 ((((rd vt83 x178).Row).When).Hi), .bool ((((rd vt83 x178).Row).When).Unknown), .slice A203 (((rd vt83 x178).Row).Frames).length c203, .int .i64 (((rd vt83 x178).Row).Marks)]) rfl (HS209.cells 0 19 _ rfl)) ?_)
         refine seqL1 (by kernel_rfl) ?_
         refine seqK rfl (does_lit (e := ty_Entry) (E := 73) (vs := #[(0, Value.agg #[.int .i64 (w64 (x55 + 1)), .int .i64 ((rd vt83 x178).Kind), .int .i64 (((rd vt83 x178).Row).ID), .int .i64 (((((rd vt83 x178).Row).Box).X).Lo), .int .i64 (((((rd vt83 x178).Row).Box).X).Hi), .bool (((((rd vt83 x178).Row).Box).X).Unknown), .int .i64 (((((rd vt83 x178).Row).Box).Y).Lo), .int .i64 (((((rd vt83 x178).Row).Box).Y).Hi), .bool (((((rd vt83 x178).Row).Box).Y).Unknown), .int .i64 (((((rd vt83 x178).Row).Box).Z).Lo), .int .i64 (((((rd vt83 x178).Row).Box).Z).Hi), .bool (((((rd vt83 x178).Row).Box).Z).Unknown), .int .i64 ((((rd vt83 x178).Row).Flux).Lo), .int .i64 ((((rd vt83 x178).Row).Flux).Hi), .bool ((((rd vt83 x178).Row).Flux).Unknown), .int .i64 ((((rd vt83 x178).Row).When).Lo), .int .i64 ((((rd vt83 x178).Row).When).Hi), .bool ((((rd vt83 x178).Row).When).Unknown), .slice A203 (((rd vt83 x178).Row).Frames).length c203, .int .i64 (((rd vt83 x178).Row).Marks)])]) (cs := #[.int .i64 (w64 (x55 + 1)), .int .i64 ((rd vt83 x178).Kind), .int .i64 (((rd vt83 x178).Row).ID), .int .i64 (((((rd vt83 x178).Row).Box).X).Lo), .int .i64 (((((rd vt83 x178).Row).Box).X).Hi), .bool (((((rd vt83 x178).Row).Box).X).Unknown), .int .i64 (((((rd vt83 x178).Row).Box).Y).Lo), .int .i64 (((((rd vt83 x178).Row).Box).Y).Hi), .bool (((((rd vt83 x178).Row).Box).Y).Unknown), .int .i64 (((((rd vt83 x178).Row).Box).Z).Lo), .int .i64 (((((rd vt83 x178).Row).Box).Z).Hi), .bool (((((rd vt83 x178).Row).Box).Z).Unknown), .int .i64 ((((rd vt83 x178).Row).Flux).Lo), .int .i64 ((((rd vt83 x178).Row).Flux).Hi), .bool ((((rd vt83 x178).Row).Flux).Unknown), .int .i64 ((((rd vt83 x178).Row).When).Lo), .int .i64 ((((rd vt83 x178).Row).When).Hi), .bool ((((rd vt83 x178).Row).When).Unknown), .slice A203 (((rd vt83 x178).Row).Frames).length c203, .int .i64 (((rd vt83 x178).Row).Marks)]) (xs := ([(⟨w64 (x55 + 1), (rd vt83 x178)⟩ : S_Entry)] : List S_Entry)) rfl Try.underlying67 (by kernel_rfl) (by kernel_rfl) ⟨[.int .i64 (w64 (x55 + 1)), .int .i64 ((rd vt83 x178).Kind), .int .i64 (((rd vt83 x178).Row).ID), .int .i64 (((((rd vt83 x178).Row).Box).X).Lo), .int .i64 (((((rd vt83 x178).Row).Box).X).Hi), .bool (((((rd vt83 x178).Row).Box).X).Unknown), .int .i64 (((((rd vt83 x178).Row).Box).Y).Lo), .int .i64 (((((rd vt83 x178).Row).Box).Y).Hi), .bool (((((rd vt83 x178).Row).Box).Y).Unknown), .int .i64 (((((rd vt83 x178).Row).Box).Z).Lo), .int .i64 (((((rd vt83 x178).Row).Box).Z).Hi), .bool (((((rd vt83 x178).Row).Box).Z).Unknown), .int .i64 ((((rd vt83 x178).Row).Flux).Lo), .int .i64 ((((rd vt83 x178).Row).Flux).Hi), .bool ((((rd vt83 x178).Row).Flux).Unknown), .int .i64 ((((rd vt83 x178).Row).When).Lo), .int .i64 ((((rd vt83 x178).Row).When).Hi), .bool ((((rd vt83 x178).Row).When).Unknown), .slice A203 (((rd vt83 x178).Row).Frames).length c203, .int .i64 (((rd vt83 x178).Row).Marks)], _, rfl, ⟨A203, c203, rfl, HR203⟩, rfl⟩ rfl HS209 ?_ (by decide))
         intro b214 W215 s216 HS217 _ HO218
         have hq_ := guard_some h; clear h; obtain ⟨c220, h⟩ := hq_
         have c220 : (out173.length + 1) * 176 ≤ 140737488355328 := c220
         have HS221 := HS217.u3
         have HS222 := HS221.u1
         refine seqK rfl (does_append1 (e := ty_Entry) (E := 73) (xs := out173) (ys := ([(⟨w64 (x55 + 1), (rd vt83 x178)⟩ : S_Entry)] : List S_Entry)) rfl (by kernel_rfl : _ = Value.slice A174 out173.length c175) (by kernel_rfl : _ = Value.slice (some ⟨b214, 0, none⟩) ([(⟨w64 (x55 + 1), (rd vt83 x178)⟩ : S_Entry)] : List S_Entry).length 1) Try.underlying67 inf73 HO177 HO218 HS222 c220 (lim63 c220 (by decide)) ?_)
         intro A223 c224 s225 W226 HS227 HO228
         refine seqL1 (by kernel_rfl) ?_
         refine wpList_nil ?_
         refine hn189 _ _ ?_
         refine hK186 _ _ ?_
         refine wp_region_lit ?_
         refine seqL2 (by kernel_rfl) ?_
         refine wpList_nil ?_
         refine hK166 n167 _ _ (Nat.lt_succ_self _) ?_
         have HS242 := HS227.u3
         have HS243 := HS242.u1
         have HS244 := HS243.u3
         have HS245 := HS244.u3
         have HS246 := HS245.drop
         exact ⟨f168, A223, c224, s225, (out173 ++ ([(⟨w64 (x55 + 1), (rd vt83 x178)⟩ : S_Entry)] : List S_Entry)), (w64 (x178 + 1)), (fun i_ => [Value.pointer (some ⟨b204, 0, none⟩), Value.bool true, Value.pointer (some ⟨b200, of201 + (x178 : Int).toNat * 19, none⟩), (ag_Change (rd vt83 x178) A203 c203), Value.pointer (some ⟨b204, 1, none⟩), Value.pointer (some ⟨b204, 1, none⟩), Value.int .i64 (((rd vt83 x178).Row).ID), Value.int .i64 vid5, Value.bool true, Value.slice A174 out173.length c175, Value.int .i64 x55, Value.int .i64 (w64 (x55 + 1)), (ag_Change (rd vt83 x178) A203 c203), Value.agg #[.int .i64 (w64 (x55 + 1)), .int .i64 ((rd vt83 x178).Kind), .int .i64 (((rd vt83 x178).Row).ID), .int .i64 (((((rd vt83 x178).Row).Box).X).Lo), .int .i64 (((((rd vt83 x178).Row).Box).X).Hi), .bool (((((rd vt83 x178).Row).Box).X).Unknown), .int .i64 (((((rd vt83 x178).Row).Box).Y).Lo), .int .i64 (((((rd vt83 x178).Row).Box).Y).Hi), .bool (((((rd vt83 x178).Row).Box).Y).Unknown), .int .i64 (((((rd vt83 x178).Row).Box).Z).Lo), .int .i64 (((((rd vt83 x178).Row).Box).Z).Hi), .bool (((((rd vt83 x178).Row).Box).Z).Unknown), .int .i64 ((((rd vt83 x178).Row).Flux).Lo), .int .i64 ((((rd vt83 x178).Row).Flux).Hi), .bool ((((rd vt83 x178).Row).Flux).Unknown), .int .i64 ((((rd vt83 x178).Row).When).Lo), .int .i64 ((((rd vt83 x178).Row).When).Hi), .bool ((((rd vt83 x178).Row).When).Unknown), .slice A203 (((rd vt83 x178).Row).Frames).length c203, .int .i64 (((rd vt83 x178).Row).Marks)], Value.slice (some ⟨b214, 0, none⟩) ([(⟨w64 (x55 + 1), (rd vt83 x178)⟩ : S_Entry)] : List S_Entry).length 1, Value.slice A223 (out173 ++ ([(⟨w64 (x55 + 1), (rd vt83 x178)⟩ : S_Entry)] : List S_Entry)).length c224, Value.int .i64 (w64 (x178 + 1))].getD i_ undef), L169, HS246, HO228, h, (by kernel_rfl)⟩
       · have c213 : ¬ ((((rd vt83 x178).Row).ID) = vid5) := c213
         refine wpRwI 36 (x := ((((rd vt83 x178).Row).ID) == vid5)) (v := false) (by kernel_rfl) (beq_eq_false_iff_ne.mpr c213) ?_
         refine condF (by kernel_rfl) ?_
         refine wp_skip ?_
         refine hn189 _ _ ?_
         refine hK186 _ _ ?_
         refine wp_region_lit ?_
         refine seqL2 (by kernel_rfl) ?_
         refine wpList_nil ?_
         refine hK166 n167 _ _ (Nat.lt_succ_self _) ?_
         have HS247 := HS209.u3
         have HS248 := HS247.u3
         have HS249 := HS248.u3
         have HS250 := HS249.u3
         have HS251 := HS250.drop
         exact ⟨f168, A174, c175, s176, out173, (w64 (x178 + 1)), (fun i_ => [Value.pointer (some ⟨b204, 0, none⟩), Value.bool true, Value.pointer (some ⟨b200, of201 + (x178 : Int).toNat * 19, none⟩), (ag_Change (rd vt83 x178) A203 c203), Value.pointer (some ⟨b204, 1, none⟩), Value.pointer (some ⟨b204, 1, none⟩), Value.int .i64 (((rd vt83 x178).Row).ID), Value.int .i64 vid5, Value.bool false, (j172 9), (j172 10), (j172 11), (j172 12), (j172 13), (j172 14), (j172 15), Value.int .i64 (w64 (x178 + 1))].getD i_ undef), L169, HS251, HO177, h, (by kernel_rfl)⟩
     · have c184 : ¬ (x178 < (vt83.length : Int)) := c184
       refine wpRwI 29 (x := (decide (x178 < (vt83.length : Int)))) (v := false) (by kernel_rfl) (decide_eq_false c184) ?_
       refine condF (by kernel_rfl) ?_
       refine wp_exit ?_
       refine hx95 _ _ ?_
       exact J240 f168 A174 c175 s176 out173 (fun i_ => [(j172 0), Value.int .i64 x178, Value.bool false, (j172 2), (j172 3), (j172 4), (j172 5), (j172 6), (j172 7), (j172 8), (j172 9), (j172 10), (j172 11), (j172 12), (j172 13), (j172 14), (j172 15), (j172 16)].getD i_ undef) W170 _ L169 h HS171 HO177 (by kernel_rfl)
   · have c61 : ¬ (x55 < (c1.Commits.length : Int)) := c61
     refine wpRwI 21 (x := (decide (x55 < (c1.Commits.length : Int)))) (v := false) (by kernel_rfl) (decide_eq_false c61) ?_
     refine condF (by kernel_rfl) ?_
     refine wp_exit ?_
     refine hx35 _ _ ?_
     exact J264 f44 A50 c51 s52 out49 (fun i_ => [(j48 0), (j48 1), (j48 2), Value.int .i64 x55, Value.bool false, (j48 4), (j48 5), (j48 6), (j48 7), (j48 8), (j48 9), (j48 10), (j48 11), (j48 12), (j48 13), (j48 14), (j48 15), (j48 16), (j48 17), (j48 18), (j48 19), (j48 20), (j48 21), (j48 22), (j48 23), (j48 24), (j48 25), (j48 26), (j48 27)].getD i_ undef) W46 _ L45 h HS47 HO53 (by kernel_rfl)

set_option maxRecDepth 100000 in
set_option maxHeartbeats 4000000 in
theorem spykeep3_CatalogHistories.calls (k : Nat) (A2 : Option Addr) (c3 : Nat) (l1 : List Int) (n5 : Int) (vid6 : Int) {t w : World} {f : FM} {H : List Seg} (HS : St t w f (H)) (HR4 : SlR (tInt .i64) f A2 c3 l1) (rr1 : Bool) (h : spykeep3_CatalogHistories k l1 n5 vid6 = some rr1) :
    Calls Try.prog 6 #[.slice A2 l1.length c3, .int .i64 n5, .int .i64 vid6] w (fun e w' => ∃ (g : FM), e = .returned (Value.bool rr1) ∧ FM.le f g ∧ St t w' g (H)) := by
 unfold spykeep3_CatalogHistories at h
 refine enter Try.func6 rfl (tm := #[.slice A2 l1.length c3, iV n5, iV vid6, uV, uV, uV, uV, uV, uV, uV, uV, uV, uV, uV, uV, uV, uV, uV, uV, uV, uV, uV, uV, uV, uV, uV, uV, uV, uV, uV, uV, uV, uV, uV, uV, uV, uV, uV, uV, uV, uV, uV, uV, uV, uV, uV, uV, uV, uV, uV, uV, uV, uV, uV, uV, uV, uV, uV, uV, uV, uV, uV, uV, uV, uV, uV, uV, uV, uV, uV, uV, uV, uV, uV, uV, uV, uV, uV, uV, uV, uV, uV, uV, uV, uV, uV, uV, uV, uV, uV, uV, uV]) (by kernel_rfl) ?_
 intro B hret hnor hnp
 refine wp_seq_k (fun K7 hK8 => ?_)
 refine wp_region_lit ?_
 refine seqK rfl (does_box (cs := #[.int .i64 vid6]) rfl (by kernel_rfl : _ = Value.int .i64 vid6) rfl HS ?_)
 intro b9 W10 HS11
 refine seqL1 (by kernel_rfl) ?_
 refine wpList_nil ?_
 refine hK8 _ _ ?_
 refine wp_seq_k (fun K13 hK14 => ?_)
 refine wp_region_lit ?_
 refine seqL2 (by kernel_rfl) ?_
 refine seqK rfl (does_box (cs := #[.slice A2 l1.length c3, .int .i64 0]) rfl (by kernel_rfl : _ = Value.agg #[.slice A2 l1.length c3, .int .i64 0]) rfl HS11 ?_)
 intro b15 W16 HS17
 have hq_ := bind_some h; clear h; obtain ⟨vt19, hc20, h⟩ := hq_
 refine seqL1 (by kernel_rfl) ?_
 refine seqK rfl (does_call (f := 17) (args := #[.int .i64 n5, .int .i64 8]) (by kernel_rfl) (spymake_Below.calls k n5 8 HS17 vt19 hc20) ?_)
 rintro _ W23 ⟨f21, rfl, L22, HS24⟩
 refine ⟨_, rfl, ?_⟩
 have hq_ := bind_some h; clear h; obtain ⟨⟨vt25, vt26, vt27, vt28⟩, hc29, h⟩ := hq_
 refine seqL1 (by kernel_rfl) ?_
 refine seqK rfl (does_call (f := 16) (args := #[.pointer (some ⟨b15, 0, none⟩), .int .i64 (w64 (vt19 + 1))]) (by kernel_rfl) (spykeep3_Versions.calls k b15 A2 c3 (⟨l1, 0⟩ : S_Stream) (w64 (vt19 + 1)) HS24 (HR4.mono L22) vt25 vt26 vt27 vt28 hc29) ?_)
 rintro _ W32 ⟨f30, A34, c35, A37, c38, s39, rfl, L31, HS33, HR36, HO40⟩
 refine ⟨_, rfl, ?_⟩
 refine seqL4 (by kernel_rfl) ?_
 refine seqK rfl (does_alloc (z := Value.agg #[.slice none 0 0]) (cs := #[.slice none 0 0]) rfl (by kernel_rfl) rfl HS33 ?_)
 intro b42 W43 HS44
 refine seqK rfl (does_store (n := 1) (vs := [.slice A34 vt25.Commits.length c35]) (cs' := #[.slice A34 vt25.Commits.length c35]) rfl (by kernel_rfl) (by kernel_rfl : _ = Value.pointer (some ⟨b42, 0, none⟩)) (by kernel_rfl : _ = Value.agg #[.slice A34 vt25.Commits.length c35]) rfl rfl (by intro u_ hu_; simp only [List.mem_cons, List.not_mem_nil, or_false] at hu_; subst hu_; rfl) HS44 (Nat.le_of_ble_eq_true rfl) (by kernel_rfl) ?_)
 intro W46 HS47
 refine seqL2 (by kernel_rfl) ?_
 refine wpList_nil ?_
 refine hK14 _ _ ?_
 refine wp_seq_k (fun K48 hK49 => ?_)
 refine wp_seq_k (fun K50 hK51 => ?_)
 refine wp_region_lit ?_
 have hq_ := bind_some h; clear h; obtain ⟨vt52, hc53, h⟩ := hq_
 refine seqK rfl (does_call (f := 11) (args := #[]) (by kernel_rfl) (spykeep3_listed.calls k  HS47 vt52 hc53) ?_)
 rintro _ W56 ⟨f54, rfl, L55, HS57⟩
 refine ⟨_, rfl, ?_⟩
 refine seqL2 (by kernel_rfl) ?_
 have hq_ := ite_some h; clear h; rcases hq_ with ⟨c58, h⟩ | ⟨c58, h⟩
 · have c58 : ¬ (vt52 = true) := c58
   refine seqRwI 27 (x := (!vt52)) (v := true) (by kernel_rfl) (congrArg (fun b_ => !b_) (show vt52 = false from (Bool.eq_false_iff.mpr c58)) : (!vt52) = true) ?_
   refine seqRwI 28 (x := (!vt52)) (v := true) (by kernel_rfl) (congrArg (fun b_ => !b_) (show vt52 = false from (Bool.eq_false_iff.mpr c58)) : (!vt52) = true) ?_
   refine seqS3 (a' := ⟨#[.slice A2 l1.length c3, iV n5, iV vid6, uV, uV, pV b9 0, fV, pV b42 0, .slice A37 vt26.length c38, .bool vt27, uV, uV, uV, uV, uV, .tuple #[.agg #[.slice A34 vt25.Commits.length c35], .slice A37 vt26.length c38, .bool vt27], .slice A2 l1.length c3, .agg #[.slice A2 l1.length c3, iV 0], pV b15 0, iV n5, iV vt19, iV (w64 (vt19 + 1)), .tuple #[.agg #[.slice A34 vt25.Commits.length c35], .slice A37 vt26.length c38, .bool vt27], .agg #[.slice A34 vt25.Commits.length c35], .slice A37 vt26.length c38, .bool vt27, .bool vt52, tV, tV, uV, uV, tV, uV, uV, uV, uV, uV, uV, uV, uV, uV, uV, uV, uV, uV, uV, uV, uV, uV, uV, uV, uV, uV, uV, uV, uV, uV, uV, uV, uV, uV, uV, uV, uV, uV, uV, uV, uV, uV, uV, uV, uV, uV, uV, uV, uV, uV, uV, uV, uV, uV, uV, uV, uV, uV, uV, uV, uV, uV, uV, uV, uV], []⟩) (by kernel_rfl) ?_
   refine wpList_nil ?_
   refine hK51 _ _ ?_
   refine condT (by kernel_rfl) ?_
   refine wp_seq_k (fun K59 hK60 => ?_)
   refine wp_region_lit ?_
   refine seqL1 (by kernel_rfl) ?_
   refine wpList_nil ?_
   refine hK60 _ _ ?_
   refine wp_ret ?_
   refine hret _ _ ?_
   refine ends_still (v := Value.bool false) (by kernel_rfl) (by kernel_rfl) ?_
   have HS182 := HS57.drop
   have HS183 := HS182.drop
   have HS184 := HS183.drop
   have HS185 := HS184.drop
   injection h with h
   subst h
   exact ⟨f54, rfl, (L22.trans (L31.trans L55)), HS185⟩
 · have c58 : ¬ (¬ (vt52 = true)) := c58
   refine seqRwI 27 (x := (!vt52)) (v := false) (by kernel_rfl) (congrArg (fun b_ => !b_) (show vt52 = true from (Decidable.of_not_not c58)) : (!vt52) = false) ?_
   refine seqRwI 28 (x := (!vt52)) (v := false) (by kernel_rfl) (congrArg (fun b_ => !b_) (show vt52 = true from (Decidable.of_not_not c58)) : (!vt52) = false) ?_
   refine seqS3 (a' := ⟨#[.slice A2 l1.length c3, iV n5, iV vid6, uV, uV, pV b9 0, fV, pV b42 0, .slice A37 vt26.length c38, .bool vt27, uV, uV, uV, uV, uV, .tuple #[.agg #[.slice A34 vt25.Commits.length c35], .slice A37 vt26.length c38, .bool vt27], .slice A2 l1.length c3, .agg #[.slice A2 l1.length c3, iV 0], pV b15 0, iV n5, iV vt19, iV (w64 (vt19 + 1)), .tuple #[.agg #[.slice A34 vt25.Commits.length c35], .slice A37 vt26.length c38, .bool vt27], .agg #[.slice A34 vt25.Commits.length c35], .slice A37 vt26.length c38, .bool vt27, .bool vt52, fV, fV, .bool vt27, .bool (!vt27), .bool (!vt27), uV, uV, uV, uV, uV, uV, uV, uV, uV, uV, uV, uV, uV, uV, uV, uV, uV, uV, uV, uV, uV, uV, uV, uV, uV, uV, uV, uV, uV, uV, uV, uV, uV, uV, uV, uV, uV, uV, uV, uV, uV, uV, uV, uV, uV, uV, uV, uV, uV, uV, uV, uV, uV, uV, uV, uV, uV, uV, uV, uV], []⟩) (by kernel_rfl) ?_
   refine wpList_nil ?_
   refine hK51 _ _ ?_
   have hq_ := ite_some h; clear h; rcases hq_ with ⟨c62, h⟩ | ⟨c62, h⟩
   · have c62 : ¬ (vt27 = true) := c62
     refine wpRwI 30 (x := (!vt27)) (v := true) (by kernel_rfl) (congrArg (fun b_ => !b_) (show vt27 = false from (Bool.eq_false_iff.mpr c62)) : (!vt27) = true) ?_
     refine wpRwI 31 (x := (!vt27)) (v := true) (by kernel_rfl) (congrArg (fun b_ => !b_) (show vt27 = false from (Bool.eq_false_iff.mpr c62)) : (!vt27) = true) ?_
     refine condT (by kernel_rfl) ?_
     refine wp_seq_k (fun K63 hK64 => ?_)
     refine wp_region_lit ?_
     refine seqL1 (by kernel_rfl) ?_
     refine wpList_nil ?_
     refine hK64 _ _ ?_
     refine wp_ret ?_
     refine hret _ _ ?_
     refine ends_still (v := Value.bool false) (by kernel_rfl) (by kernel_rfl) ?_
     have HS186 := HS57.drop
     have HS187 := HS186.drop
     have HS188 := HS187.drop
     have HS189 := HS188.drop
     injection h with h
     subst h
     exact ⟨f54, rfl, (L22.trans (L31.trans L55)), HS189⟩
   · have c62 : ¬ (¬ (vt27 = true)) := c62
     refine wpRwI 30 (x := (!vt27)) (v := false) (by kernel_rfl) (congrArg (fun b_ => !b_) (show vt27 = true from (Decidable.of_not_not c62)) : (!vt27) = false) ?_
     refine wpRwI 31 (x := (!vt27)) (v := false) (by kernel_rfl) (congrArg (fun b_ => !b_) (show vt27 = true from (Decidable.of_not_not c62)) : (!vt27) = false) ?_
     refine condF (by kernel_rfl) ?_
     refine wp_skip ?_
     refine hK49 _ _ ?_
     refine wp_seq_k (fun K65 hK66 => ?_)
     refine wp_region_lit ?_
     refine seqK rfl (does_run (run_load rfl Try.underlying3 rfl (by kernel_rfl : _ = Value.pointer (some ⟨b9, 0, none⟩)) (HS57.u3.cell 0)) ?_)
     have hq_ := bind_some h; clear h; obtain ⟨vt67, hc68, h⟩ := hq_
     refine seqK rfl (does_call (f := 17) (args := #[.int .i64 vid6, .int .i64 12]) (by kernel_rfl) (spymake_Below.calls k vid6 12 HS57 vt67 hc68) ?_)
     rintro _ W71 ⟨f69, rfl, L70, HS72⟩
     refine ⟨_, rfl, ?_⟩
     have HS73 := HS72.u3
     refine seqL1 (by kernel_rfl) ?_
     refine seqK rfl (does_store (n := 1) (vs := [.int .i64 (w64 (vt67 + 1))]) (cs' := #[.int .i64 (w64 (vt67 + 1))]) rfl (by kernel_rfl) (by kernel_rfl : _ = Value.pointer (some ⟨b9, 0, none⟩)) (by kernel_rfl : _ = Value.int .i64 (w64 (vt67 + 1))) rfl rfl (by intro u_ hu_; simp only [List.mem_cons, List.not_mem_nil, or_false] at hu_; subst hu_; rfl) HS73 (Nat.le_of_ble_eq_true rfl) (by kernel_rfl) ?_)
     intro W74 HS75
     refine wpList_nil ?_
     refine hK66 _ _ ?_
     refine wp_seq_k (fun K76 hK77 => ?_)
     refine wp_region_lit ?_
     have hq_ := guard_some h; clear h; obtain ⟨c78, h⟩ := hq_
     have c78 : 0 ≤ (w64 ((vt26.length : Int) - 1)) := c78
     have hq_ := guard_some h; clear h; obtain ⟨c79, h⟩ := hq_
     have c79 : (w64 ((vt26.length : Int) - 1)) < (vt26.length : Int) := c79
     obtain ⟨b83, of84, cs80, hA85, hr81, hc82⟩ := (HO40.mono (L55.trans L70)).at (i := w64 ((vt26.length : Int) - 1)) c78 c79
     obtain ⟨A86, c86, rfl, HR86⟩ := hr81
     refine seqL4 (by kernel_rfl) ?_
     refine seqK rfl (does_run (run_indexE hA85 (sz := 1) rfl Try.underlying47 (by kernel_rfl) (by kernel_rfl : _ = Value.slice A37 vt26.length c38) (by kernel_rfl : _ = Value.int .i64 (w64 ((vt26.length : Int) - 1))) c78 c79 W74) ?_)
     refine seqK rfl (does_run (run_load rfl Try.underlying26 rfl (by kernel_rfl : _ = Value.pointer (some ⟨b83, of84 + (w64 ((vt26.length : Int) - 1) : Int).toNat * 1, none⟩)) ((hc82 HS75.u2) 0 (by decide))) ?_)
     refine seqL1 (by kernel_rfl) ?_
     refine wpList_nil ?_
     refine hK77 _ _ ?_
     refine wp_seq_k (fun K87 hK88 => ?_)
     refine wp_region_lit ?_
     have hq_ := bind_some h; clear h; obtain ⟨vt89, hc90, h⟩ := hq_
     refine seqL2 (by kernel_rfl) ?_
     refine seqK rfl (does_call (f := 18) (args := #[.slice A86 (rd vt26 (w64 ((vt26.length : Int) - 1))).length c86, .func (.func 19) #[] #[.pointer (some ⟨b9, 0, none⟩)]]) (by kernel_rfl) (slices_IndexFunc_Row__spykeep3_CatalogHistories_1.calls k b9 A86 c86 (w64 (vt67 + 1)) (rd vt26 (w64 ((vt26.length : Int) - 1))) HS75 HR86 vt89 hc90) ?_)
     rintro _ W93 ⟨f91, rfl, L92, HS94⟩
     refine ⟨_, rfl, ?_⟩
     refine seqL1 (by kernel_rfl) ?_
     refine wpList_nil ?_
     refine hK88 _ _ ?_
     refine wp_seq_k (fun K95 hK96 => ?_)
     refine wp_region_lit ?_
     refine seqK rfl (does_run (run_loadN (n := 1) rfl Try.underlying34 rfl (by kernel_rfl) (by kernel_rfl : _ = Value.pointer (some ⟨b42, 0, none⟩)) (cs := [.slice A34 vt25.Commits.length c35]) rfl (HS94.u1.cells 0 1 _ rfl)) ?_)
     refine seqK rfl (does_run (run_load rfl Try.underlying3 rfl (by kernel_rfl : _ = Value.pointer (some ⟨b9, 0, none⟩)) (HS94.cell 0)) ?_)
     have hq_ := bind_some h; clear h; obtain ⟨⟨vt97, vt98⟩, hc99, h⟩ := hq_
     refine seqK rfl (does_call (f := 20) (args := #[.agg #[.slice A34 vt25.Commits.length c35], .int .i64 (w64 (vt67 + 1))]) (by kernel_rfl) (catalog_History.calls k A34 c35 vt25 (w64 (vt67 + 1)) HS94 (HR36.mono (L55.trans (L70.trans L92))) vt97 vt98 hc99) ?_)
     rintro _ W102 ⟨f100, A104, c105, s106, rfl, L101, HS103, HO107⟩
     refine ⟨_, rfl, ?_⟩
     refine seqL5 (by kernel_rfl) ?_
     refine wpList_nil ?_
     refine hK96 _ _ ?_
     refine wp_seq_k (fun K109 hK110 => ?_)
     refine wp_seq_k (fun K111 hK112 => ?_)
     refine wp_region_lit ?_
     refine seqS2 (a' := ⟨#[.slice A2 l1.length c3, iV n5, iV vid6, uV, uV, pV b9 0, fV, pV b42 0, .slice A37 vt26.length c38, .bool vt27, .slice A86 (rd vt26 (w64 ((vt26.length : Int) - 1))).length c86, iV vt89, .slice A104 vt97.length c105, iV vt98, uV, .tuple #[.agg #[.slice A34 vt25.Commits.length c35], .slice A37 vt26.length c38, .bool vt27], .slice A2 l1.length c3, .agg #[.slice A2 l1.length c3, iV 0], pV b15 0, iV n5, iV vt19, iV (w64 (vt19 + 1)), .tuple #[.agg #[.slice A34 vt25.Commits.length c35], .slice A37 vt26.length c38, .bool vt27], .agg #[.slice A34 vt25.Commits.length c35], .slice A37 vt26.length c38, .bool vt27, .bool vt52, fV, fV, .bool vt27, fV, fV, iV vid6, iV vt67, iV (w64 (vt67 + 1)), .slice A37 vt26.length c38, .slice A37 vt26.length c38, iV (vt26.length : Int), iV (w64 ((vt26.length : Int) - 1)), pV b83 (of84 + (w64 ((vt26.length : Int) - 1) : Int).toNat * 1), .slice A86 (rd vt26 (w64 ((vt26.length : Int) - 1))).length c86, .slice A86 (rd vt26 (w64 ((vt26.length : Int) - 1))).length c86, .func (.func 19) #[] #[pV b9 0], iV vt89, .tuple #[.slice A104 vt97.length c105, iV vt98], .agg #[.slice A34 vt25.Commits.length c35], iV (w64 (vt67 + 1)), .tuple #[.slice A104 vt97.length c105, iV vt98], .slice A104 vt97.length c105, iV vt98, iV vt98, .bool (vt98 != 0), uV, uV, uV, uV, uV, uV, uV, uV, uV, uV, uV, uV, uV, uV, uV, uV, uV, uV, uV, uV, uV, uV, uV, uV, uV, uV, uV, uV, uV, uV, uV, uV, uV, uV, uV, uV, uV, uV, uV, uV], []⟩) (by kernel_rfl) ?_
     refine wpList_nil ?_
     refine hK112 _ _ ?_
     have hq_ := ite_some h; clear h; rcases hq_ with ⟨c114, h⟩ | ⟨c114, h⟩
     · have c114 : vt98 ≠ 0 := c114
       refine wpRwI 51 (x := (vt98 != 0)) (v := true) (by kernel_rfl) (bne_iff_ne.mpr c114) ?_
       refine condT (by kernel_rfl) ?_
       refine wp_seq_k (fun K115 hK116 => ?_)
       refine wp_region_lit ?_
       refine seqL3 (by kernel_rfl) ?_
       have hq_ := ite_some h; clear h; rcases hq_ with ⟨c117, h⟩ | ⟨c117, h⟩
       · have c117 : vt98 = 8 := c117
         refine seqRwI 53 (x := (vt98 == 8)) (v := true) (by kernel_rfl) (beq_iff_eq.mpr c117) ?_
         refine seqRwI 54 (x := (vt98 == 8)) (v := true) (by kernel_rfl) (beq_iff_eq.mpr c117) ?_
         refine seqL4 (by kernel_rfl) ?_
         refine wpList_nil ?_
         refine hK116 _ _ ?_
         refine wp_ret ?_
         refine hret _ _ ?_
         refine ends_still (v := Value.bool (decide (vt89 < 0))) (by kernel_rfl) (by kernel_rfl) ?_
         have HS190 := HS103.drop
         have HS191 := HS190.drop
         have HS192 := HS191.drop
         have HS193 := HS192.drop
         have HS194 := HS193.drop
         injection h with h
         subst h
         exact ⟨f100, rfl, (L22.trans (L31.trans (L55.trans (L70.trans (L92.trans L101))))), HS194⟩
       · have c117 : ¬ (vt98 = 8) := c117
         refine seqRwI 53 (x := (vt98 == 8)) (v := false) (by kernel_rfl) (beq_eq_false_iff_ne.mpr c117) ?_
         refine seqRwI 54 (x := (vt98 == 8)) (v := false) (by kernel_rfl) (beq_eq_false_iff_ne.mpr c117) ?_
         refine seqL4 (by kernel_rfl) ?_
         refine wpList_nil ?_
         refine hK116 _ _ ?_
         refine wp_ret ?_
         refine hret _ _ ?_
         refine ends_still (v := Value.bool false) (by kernel_rfl) (by kernel_rfl) ?_
         have HS195 := HS103.drop
         have HS196 := HS195.drop
         have HS197 := HS196.drop
         have HS198 := HS197.drop
         have HS199 := HS198.drop
         injection h with h
         subst h
         exact ⟨f100, rfl, (L22.trans (L31.trans (L55.trans (L70.trans (L92.trans L101))))), HS199⟩
     · have c114 : ¬ (vt98 ≠ 0) := c114
       refine wpRwI 51 (x := (vt98 != 0)) (v := false) (by kernel_rfl) (bne_eq_false_iff_eq.mpr (Decidable.of_not_not c114)) ?_
       refine condF (by kernel_rfl) ?_
       refine wp_skip ?_
       refine hK110 _ _ ?_
       refine wp_seq_k (fun K118 hK119 => ?_)
       refine wp_seq_k (fun K120 hK121 => ?_)
       refine wp_region_lit ?_
       refine seqL4 (by kernel_rfl) ?_
       have hq_ := ite_some h; clear h; rcases hq_ with ⟨c122, h⟩ | ⟨c122, h⟩
       · have c122 : (vt97.length : Int) = 0 := c122
         refine seqRwI 60 (x := ((vt97.length : Int) == 0)) (v := true) (by kernel_rfl) (beq_iff_eq.mpr c122) ?_
         refine seqRwI 61 (x := ((vt97.length : Int) == 0)) (v := true) (by kernel_rfl) (beq_iff_eq.mpr c122) ?_
         refine seqL7 (by kernel_rfl) ?_
         refine wpList_nil ?_
         refine hK121 _ _ ?_
         refine condT (by kernel_rfl) ?_
         refine wp_seq_k (fun K123 hK124 => ?_)
         refine wp_region_lit ?_
         refine seqL1 (by kernel_rfl) ?_
         refine wpList_nil ?_
         refine hK124 _ _ ?_
         refine wp_ret ?_
         refine hret _ _ ?_
         refine ends_still (v := Value.bool false) (by kernel_rfl) (by kernel_rfl) ?_
         have HS200 := HS103.drop
         have HS201 := HS200.drop
         have HS202 := HS201.drop
         have HS203 := HS202.drop
         have HS204 := HS203.drop
         injection h with h
         subst h
         exact ⟨f100, rfl, (L22.trans (L31.trans (L55.trans (L70.trans (L92.trans L101))))), HS204⟩
       · have c122 : ¬ ((vt97.length : Int) = 0) := c122
         refine seqRwI 60 (x := ((vt97.length : Int) == 0)) (v := false) (by kernel_rfl) (beq_eq_false_iff_ne.mpr c122) ?_
         refine seqRwI 61 (x := ((vt97.length : Int) == 0)) (v := false) (by kernel_rfl) (beq_eq_false_iff_ne.mpr c122) ?_
         have hq_ := guard_some h; clear h; obtain ⟨c125, h⟩ := hq_
         have c125 : 0 < (vt97.length : Int) := c125
         obtain ⟨b129, of130, cs126, hA131, hr127, hc128⟩ := HO107.at (i := 0) (by decide) c125
         obtain ⟨A132, c132, rfl, HR132⟩ := hr127
         refine seqL1 (by kernel_rfl) ?_
         refine seqG (by kernel_rfl) (does_run (run_indexE hA131 (sz := 20) rfl Try.underlying67 (by kernel_rfl) (by kernel_rfl : _ = Value.slice A104 vt97.length c105) (by kernel_rfl : _ = Value.int .i64 0) (by decide) c125 W102) ?_)
         refine seqL2 (by kernel_rfl) ?_
         refine seqG (by kernel_rfl) (does_run (run_load rfl Try.underlying3 rfl (by kernel_rfl : _ = Value.pointer (some ⟨b129, of130 + (0 : Int).toNat * 20 + 1, none⟩)) ((hc128 HS103) 1 (by decide))) ?_)
         refine seqL2 (by kernel_rfl) ?_
         refine wpList_nil ?_
         refine hK121 _ _ ?_
         have hq_ := ite_some h; clear h; rcases hq_ with ⟨c134, h⟩ | ⟨c134, h⟩
         · have c134 : (((rd vt97 0).Change).Kind) ≠ 1 := c134
           refine wpRwI 67 (x := ((((rd vt97 0).Change).Kind) != 1)) (v := true) (by kernel_rfl) (bne_iff_ne.mpr c134) ?_
           refine wpRwI 68 (x := ((((rd vt97 0).Change).Kind) != 1)) (v := true) (by kernel_rfl) (bne_iff_ne.mpr c134) ?_
           refine condT (by kernel_rfl) ?_
           refine wp_seq_k (fun K135 hK136 => ?_)
           refine wp_region_lit ?_
           refine seqL1 (by kernel_rfl) ?_
           refine wpList_nil ?_
           refine hK136 _ _ ?_
           refine wp_ret ?_
           refine hret _ _ ?_
           refine ends_still (v := Value.bool false) (by kernel_rfl) (by kernel_rfl) ?_
           have HS205 := HS103.drop
           have HS206 := HS205.drop
           have HS207 := HS206.drop
           have HS208 := HS207.drop
           have HS209 := HS208.drop
           injection h with h
           subst h
           exact ⟨f100, rfl, (L22.trans (L31.trans (L55.trans (L70.trans (L92.trans L101))))), HS209⟩
         · have c134 : ¬ ((((rd vt97 0).Change).Kind) ≠ 1) := c134
           refine wpRwI 67 (x := ((((rd vt97 0).Change).Kind) != 1)) (v := false) (by kernel_rfl) (bne_eq_false_iff_eq.mpr (Decidable.of_not_not c134)) ?_
           refine wpRwI 68 (x := ((((rd vt97 0).Change).Kind) != 1)) (v := false) (by kernel_rfl) (bne_eq_false_iff_eq.mpr (Decidable.of_not_not c134)) ?_
           refine condF (by kernel_rfl) ?_
           refine wp_skip ?_
           refine hK119 _ _ ?_
           refine wp_seq_k (fun K137 hK138 => ?_)
           refine wp_region_lit ?_
           have hq_ := guard_some h; clear h; obtain ⟨c139, h⟩ := hq_
           have c139 : 0 ≤ (w64 ((vt97.length : Int) - 1)) := c139
           have hq_ := guard_some h; clear h; obtain ⟨c140, h⟩ := hq_
           have c140 : (w64 ((vt97.length : Int) - 1)) < (vt97.length : Int) := c140
           obtain ⟨b144, of145, cs141, hA146, hr142, hc143⟩ := HO107.at (i := w64 ((vt97.length : Int) - 1)) c139 c140
           obtain ⟨A147, c147, rfl, HR147⟩ := hr142
           refine seqL4 (by kernel_rfl) ?_
           refine seqK rfl (does_run (run_indexE hA146 (sz := 20) rfl Try.underlying67 (by kernel_rfl) (by kernel_rfl : _ = Value.slice A104 vt97.length c105) (by kernel_rfl : _ = Value.int .i64 (w64 ((vt97.length : Int) - 1))) c139 c140 W102) ?_)
           refine seqL1 (by kernel_rfl) ?_
           refine seqK rfl (does_run (run_loadN (n := 19) rfl Try.underlying71 rfl (by kernel_rfl) (by kernel_rfl : _ = Value.pointer (some ⟨b144, of145 + (w64 ((vt97.length : Int) - 1) : Int).toNat * 20 + 1, none⟩)) (cs := [.int .i64 (((rd vt97 (w64 ((vt97.length : Int) - 1))).Change).Kind), .int .i64 ((((rd vt97 (w64 ((vt97.length : Int) - 1))).Change).Row).ID), .int .i64 ((((((rd vt97 (w64 ((vt97.length : Int) - 1))).Change).Row).Box).X).Lo), .int .i64 ((((((rd vt97 (w64 ((vt97.length : Int) - 1))).Change).Row).Box).X).Hi), .bool ((((((rd vt97 (w64 ((vt97.length : Int) - 1))).Change).Row).Box).X).Unknown), .int .i64 ((((((rd vt97 (w64 ((vt97.length : Int) - 1))).Change).Row).Box).Y).Lo), .int .i64 ((((((rd vt97 (w64 ((vt97.length : Int) - 1))).Change).Row).Box).Y).Hi), .bool ((((((rd vt97 (w64 ((vt97.length : Int) - 1))).Change).Row).Box).Y).Unknown), .int .i64 ((((((rd vt97 (w64 ((vt97.length : Int) - 1))).Change).Row).Box).Z).Lo), .int .i64 ((((((rd vt97 (w64 ((vt97.length : Int) - 1))).Change).Row).Box).Z).Hi), .bool ((((((rd vt97 (w64 ((vt97.length : Int) - 1))).Change).Row).Box).Z).Unknown), .int .i64 (((((rd vt97 (w64 ((vt97.length : Int) - 1))).Change).Row).Flux).Lo), .int .i64 (((((rd vt97 (w64 ((vt97.length : Int) - 1))).Change).Row).Flux).Hi), .bool (((((rd vt97 (w64 ((vt97.length : Int) - 1))).Change).Row).Flux).Unknown), .int .i64 (((((rd vt97 (w64 ((vt97.length : Int) - 1))).Change).Row).When).Lo), .int .i64 (((((rd vt97 (w64 ((vt97.length : Int) - 1))).Change).Row).When).Hi), .bool (((((rd vt97 (w64 ((vt97.length : Int) - 1))).Change).Row).When).Unknown), .slice A147 ((((rd vt97 (w64 ((vt97.length : Int) - 1))).Change).Row).Frames).length c147, .int .i64 ((((rd vt97 (w64 ((vt97.length : Int) - 1))).Change).Row).Marks)]) rfl (part_cells (fo := 1) (n := 19) (full := [.int .i64 ((rd vt97 (w64 ((vt97.length : Int) - 1))).Version), .int .i64 (((rd vt97 (w64 ((vt97.length : Int) - 1))).Change).Kind), .int .i64 ((((rd vt97 (w64 ((vt97.length : Int) - 1))).Change).Row).ID), .int .i64 ((((((rd vt97 (w64 ((vt97.length : Int) - 1))).Change).Row).Box).X).Lo), .int .i64 ((((((rd vt97 (w64 ((vt97.length : Int) - 1))).Change).Row).Box).X).Hi), .bool ((((((rd vt97 (w64 ((vt97.length : Int) - 1))).Change).Row).Box).X).Unknown), .int .i64 ((((((rd vt97 (w64 ((vt97.length : Int) - 1))).Change).Row).Box).Y).Lo), .int .i64 ((((((rd vt97 (w64 ((vt97.length : Int) - 1))).Change).Row).Box).Y).Hi), .bool ((((((rd vt97 (w64 ((vt97.length : Int) - 1))).Change).Row).Box).Y).Unknown), .int .i64 ((((((rd vt97 (w64 ((vt97.length : Int) - 1))).Change).Row).Box).Z).Lo), .int .i64 ((((((rd vt97 (w64 ((vt97.length : Int) - 1))).Change).Row).Box).Z).Hi), .bool ((((((rd vt97 (w64 ((vt97.length : Int) - 1))).Change).Row).Box).Z).Unknown), .int .i64 (((((rd vt97 (w64 ((vt97.length : Int) - 1))).Change).Row).Flux).Lo), .int .i64 (((((rd vt97 (w64 ((vt97.length : Int) - 1))).Change).Row).Flux).Hi), .bool (((((rd vt97 (w64 ((vt97.length : Int) - 1))).Change).Row).Flux).Unknown), .int .i64 (((((rd vt97 (w64 ((vt97.length : Int) - 1))).Change).Row).When).Lo), .int .i64 (((((rd vt97 (w64 ((vt97.length : Int) - 1))).Change).Row).When).Hi), .bool (((((rd vt97 (w64 ((vt97.length : Int) - 1))).Change).Row).When).Unknown), .slice A147 ((((rd vt97 (w64 ((vt97.length : Int) - 1))).Change).Row).Frames).length c147, .int .i64 ((((rd vt97 (w64 ((vt97.length : Int) - 1))).Change).Row).Marks)]) (cs := [.int .i64 (((rd vt97 (w64 ((vt97.length : Int) - 1))).Change).Kind), .int .i64 ((((rd vt97 (w64 ((vt97.length : Int) - 1))).Change).Row).ID), .int .i64 ((((((rd vt97 (w64 ((vt97.length : Int) - 1))).Change).Row).Box).X).Lo), .int .i64 ((((((rd vt97 (w64 ((vt97.length : Int) - 1))).Change).Row).Box).X).Hi), .bool ((((((rd vt97 (w64 ((vt97.length : Int) - 1))).Change).Row).Box).X).Unknown), .int .i64 ((((((rd vt97 (w64 ((vt97.length : Int) - 1))).Change).Row).Box).Y).Lo), .int .i64 ((((((rd vt97 (w64 ((vt97.length : Int) - 1))).Change).Row).Box).Y).Hi), .bool ((((((rd vt97 (w64 ((vt97.length : Int) - 1))).Change).Row).Box).Y).Unknown), .int .i64 ((((((rd vt97 (w64 ((vt97.length : Int) - 1))).Change).Row).Box).Z).Lo), .int .i64 ((((((rd vt97 (w64 ((vt97.length : Int) - 1))).Change).Row).Box).Z).Hi), .bool ((((((rd vt97 (w64 ((vt97.length : Int) - 1))).Change).Row).Box).Z).Unknown), .int .i64 (((((rd vt97 (w64 ((vt97.length : Int) - 1))).Change).Row).Flux).Lo), .int .i64 (((((rd vt97 (w64 ((vt97.length : Int) - 1))).Change).Row).Flux).Hi), .bool (((((rd vt97 (w64 ((vt97.length : Int) - 1))).Change).Row).Flux).Unknown), .int .i64 (((((rd vt97 (w64 ((vt97.length : Int) - 1))).Change).Row).When).Lo), .int .i64 (((((rd vt97 (w64 ((vt97.length : Int) - 1))).Change).Row).When).Hi), .bool (((((rd vt97 (w64 ((vt97.length : Int) - 1))).Change).Row).When).Unknown), .slice A147 ((((rd vt97 (w64 ((vt97.length : Int) - 1))).Change).Row).Frames).length c147, .int .i64 ((((rd vt97 (w64 ((vt97.length : Int) - 1))).Change).Row).Marks)]) (fun j_ hj_ => (hc143 HS103) j_ hj_) rfl (Nat.le_of_ble_eq_true rfl))) ?_)
           refine seqK rfl (does_alloc (z := Value.agg #[.int .i64 0, .int .i64 0, .int .i64 0, .int .i64 0, .bool false, .int .i64 0, .int .i64 0, .bool false, .int .i64 0, .int .i64 0, .bool false, .int .i64 0, .int .i64 0, .bool false, .int .i64 0, .int .i64 0, .bool false, .slice none 0 0, .int .i64 0]) (cs := #[.int .i64 0, .int .i64 0, .int .i64 0, .int .i64 0, .bool false, .int .i64 0, .int .i64 0, .bool false, .int .i64 0, .int .i64 0, .bool false, .int .i64 0, .int .i64 0, .bool false, .int .i64 0, .int .i64 0, .bool false, .slice none 0 0, .int .i64 0]) rfl (by kernel_rfl) rfl HS103 ?_)
           intro b148 W149 HS150
           refine seqK rfl (does_store (n := 19) (vs := [.int .i64 (((rd vt97 (w64 ((vt97.length : Int) - 1))).Change).Kind), .int .i64 ((((rd vt97 (w64 ((vt97.length : Int) - 1))).Change).Row).ID), .int .i64 ((((((rd vt97 (w64 ((vt97.length : Int) - 1))).Change).Row).Box).X).Lo), .int .i64 ((((((rd vt97 (w64 ((vt97.length : Int) - 1))).Change).Row).Box).X).Hi), .bool ((((((rd vt97 (w64 ((vt97.length : Int) - 1))).Change).Row).Box).X).Unknown), .int .i64 ((((((rd vt97 (w64 ((vt97.length : Int) - 1))).Change).Row).Box).Y).Lo), .int .i64 ((((((rd vt97 (w64 ((vt97.length : Int) - 1))).Change).Row).Box).Y).Hi), .bool ((((((rd vt97 (w64 ((vt97.length : Int) - 1))).Change).Row).Box).Y).Unknown), .int .i64 ((((((rd vt97 (w64 ((vt97.length : Int) - 1))).Change).Row).Box).Z).Lo), .int .i64 ((((((rd vt97 (w64 ((vt97.length : Int) - 1))).Change).Row).Box).Z).Hi), .bool ((((((rd vt97 (w64 ((vt97.length : Int) - 1))).Change).Row).Box).Z).Unknown), .int .i64 (((((rd vt97 (w64 ((vt97.length : Int) - 1))).Change).Row).Flux).Lo), .int .i64 (((((rd vt97 (w64 ((vt97.length : Int) - 1))).Change).Row).Flux).Hi), .bool (((((rd vt97 (w64 ((vt97.length : Int) - 1))).Change).Row).Flux).Unknown), .int .i64 (((((rd vt97 (w64 ((vt97.length : Int) - 1))).Change).Row).When).Lo), .int .i64 (((((rd vt97 (w64 ((vt97.length : Int) - 1))).Change).Row).When).Hi), .bool (((((rd vt97 (w64 ((vt97.length : Int) - 1))).Change).Row).When).Unknown), .slice A147 ((((rd vt97 (w64 ((vt97.length : Int) - 1))).Change).Row).Frames).length c147, .int .i64 ((((rd vt97 (w64 ((vt97.length : Int) - 1))).Change).Row).Marks)]) (cs' := #[.int .i64 (((rd vt97 (w64 ((vt97.length : Int) - 1))).Change).Kind), .int .i64 ((((rd vt97 (w64 ((vt97.length : Int) - 1))).Change).Row).ID), .int .i64 ((((((rd vt97 (w64 ((vt97.length : Int) - 1))).Change).Row).Box).X).Lo), .int .i64 ((((((rd vt97 (w64 ((vt97.length : Int) - 1))).Change).Row).Box).X).Hi), .bool ((((((rd vt97 (w64 ((vt97.length : Int) - 1))).Change).Row).Box).X).Unknown), .int .i64 ((((((rd vt97 (w64 ((vt97.length : Int) - 1))).Change).Row).Box).Y).Lo), .int .i64 ((((((rd vt97 (w64 ((vt97.length : Int) - 1))).Change).Row).Box).Y).Hi), .bool ((((((rd vt97 (w64 ((vt97.length : Int) - 1))).Change).Row).Box).Y).Unknown), .int .i64 ((((((rd vt97 (w64 ((vt97.length : Int) - 1))).Change).Row).Box).Z).Lo), .int .i64 ((((((rd vt97 (w64 ((vt97.length : Int) - 1))).Change).Row).Box).Z).Hi), .bool ((((((rd vt97 (w64 ((vt97.length : Int) - 1))).Change).Row).Box).Z).Unknown), .int .i64 (((((rd vt97 (w64 ((vt97.length : Int) - 1))).Change).Row).Flux).Lo), .int .i64 (((((rd vt97 (w64 ((vt97.length : Int) - 1))).Change).Row).Flux).Hi), .bool (((((rd vt97 (w64 ((vt97.length : Int) - 1))).Change).Row).Flux).Unknown), .int .i64 (((((rd vt97 (w64 ((vt97.length : Int) - 1))).Change).Row).When).Lo), .int .i64 (((((rd vt97 (w64 ((vt97.length : Int) - 1))).Change).Row).When).Hi), .bool (((((rd vt97 (w64 ((vt97.length : Int) - 1))).Change).Row).When).Unknown), .slice A147 ((((rd vt97 (w64 ((vt97.length : Int) - 1))).Change).Row).Frames).length c147, .int .i64 ((((rd vt97 (w64 ((vt97.length : Int) - 1))).Change).Row).Marks)]) rfl (by kernel_rfl) (by kernel_rfl : _ = Value.pointer (some ⟨b148, 0, none⟩)) (by kernel_rfl : _ = Value.agg #[.int .i64 (((rd vt97 (w64 ((vt97.length : Int) - 1))).Change).Kind), .int .i64 ((((rd vt97 (w64 ((vt97.length : Int) - 1))).Change).Row).ID), .int .i64 ((((((rd vt97 (w64 ((vt97.length : Int) - 1))).Change).Row).Box).X).Lo), .int .i64 ((((((rd vt97 (w64 ((vt97.length : Int) - 1))).Change).Row).Box).X).Hi), .bool ((((((rd vt97 (w64 ((vt97.length : Int) - 1))).Change).Row).Box).X).Unknown), .int .i64 ((((((rd vt97 (w64 ((vt97.length : Int) - 1))).Change).Row).Box).Y).Lo), .int .i64 ((((((rd vt97 (w64 ((vt97.length : Int) - 1))).Change).Row).Box).Y).Hi), .bool ((((((rd vt97 (w64 ((vt97.length : Int) - 1))).Change).Row).Box).Y).Unknown), .int .i64 ((((((rd vt97 (w64 ((vt97.length : Int) - 1))).Change).Row).Box).Z).Lo), .int .i64 ((((((rd vt97 (w64 ((vt97.length : Int) - 1))).Change).Row).Box).Z).Hi), .bool ((((((rd vt97 (w64 ((vt97.length : Int) - 1))).Change).Row).Box).Z).Unknown), .int .i64 (((((rd vt97 (w64 ((vt97.length : Int) - 1))).Change).Row).Flux).Lo), .int .i64 (((((rd vt97 (w64 ((vt97.length : Int) - 1))).Change).Row).Flux).Hi), .bool (((((rd vt97 (w64 ((vt97.length : Int) - 1))).Change).Row).Flux).Unknown), .int .i64 (((((rd vt97 (w64 ((vt97.length : Int) - 1))).Change).Row).When).Lo), .int .i64 (((((rd vt97 (w64 ((vt97.length : Int) - 1))).Change).Row).When).Hi), .bool (((((rd vt97 (w64 ((vt97.length : Int) - 1))).Change).Row).When).Unknown), .slice A147 ((((rd vt97 (w64 ((vt97.length : Int) - 1))).Change).Row).Frames).length c147, .int .i64 ((((rd vt97 (w64 ((vt97.length : Int) - 1))).Change).Row).Marks)]) rfl rfl (by intro u_ hu_; simp only [List.mem_cons, List.not_mem_nil, or_false] at hu_; rcases hu_ with rfl | rfl | rfl | rfl | rfl | rfl | rfl | rfl | rfl | rfl | rfl | rfl | rfl | rfl | rfl | rfl | rfl | rfl | rfl <;> rfl) HS150 (Nat.le_of_ble_eq_true rfl) (by kernel_rfl) ?_)
           intro W152 HS153
           refine wpList_nil ?_
           refine hK138 _ _ ?_
           refine wp_seq_k (fun K154 hK155 => ?_)
           refine wp_seq_k (fun K156 hK157 => ?_)
           refine wp_region_lit ?_
           refine seqL1 (by kernel_rfl) ?_
           refine seqK rfl (does_run (run_load rfl Try.underlying3 rfl (by kernel_rfl : _ = Value.pointer (some ⟨b148, 0, none⟩)) (HS153.cell 0)) ?_)
           refine seqS1 (a' := ⟨#[.slice A2 l1.length c3, iV n5, iV vid6, uV, uV, pV b9 0, fV, pV b42 0, .slice A37 vt26.length c38, .bool vt27, .slice A86 (rd vt26 (w64 ((vt26.length : Int) - 1))).length c86, iV vt89, .slice A104 vt97.length c105, iV vt98, pV b148 0, .tuple #[.agg #[.slice A34 vt25.Commits.length c35], .slice A37 vt26.length c38, .bool vt27], .slice A2 l1.length c3, .agg #[.slice A2 l1.length c3, iV 0], pV b15 0, iV n5, iV vt19, iV (w64 (vt19 + 1)), .tuple #[.agg #[.slice A34 vt25.Commits.length c35], .slice A37 vt26.length c38, .bool vt27], .agg #[.slice A34 vt25.Commits.length c35], .slice A37 vt26.length c38, .bool vt27, .bool vt52, fV, fV, .bool vt27, fV, fV, iV vid6, iV vt67, iV (w64 (vt67 + 1)), .slice A37 vt26.length c38, .slice A37 vt26.length c38, iV (vt26.length : Int), iV (w64 ((vt26.length : Int) - 1)), pV b83 (of84 + (w64 ((vt26.length : Int) - 1) : Int).toNat * 1), .slice A86 (rd vt26 (w64 ((vt26.length : Int) - 1))).length c86, .slice A86 (rd vt26 (w64 ((vt26.length : Int) - 1))).length c86, .func (.func 19) #[] #[pV b9 0], iV vt89, .tuple #[.slice A104 vt97.length c105, iV vt98], .agg #[.slice A34 vt25.Commits.length c35], iV (w64 (vt67 + 1)), .tuple #[.slice A104 vt97.length c105, iV vt98], .slice A104 vt97.length c105, iV vt98, iV vt98, fV, uV, uV, uV, uV, uV, uV, .slice A104 vt97.length c105, iV (vt97.length : Int), fV, fV, .slice A104 vt97.length c105, pV b129 (of130 + (0 : Int).toNat * 20), pV b129 (of130 + (0 : Int).toNat * 20 + 1), pV b129 (of130 + (0 : Int).toNat * 20 + 1), iV (((rd vt97 0).Change).Kind), fV, fV, .slice A104 vt97.length c105, .slice A104 vt97.length c105, iV (vt97.length : Int), iV (w64 ((vt97.length : Int) - 1)), pV b144 (of145 + (w64 ((vt97.length : Int) - 1) : Int).toNat * 20), pV b144 (of145 + (w64 ((vt97.length : Int) - 1) : Int).toNat * 20 + 1), (ag_Change ((rd vt97 (w64 ((vt97.length : Int) - 1))).Change) A147 c147), pV b148 0, iV (((rd vt97 (w64 ((vt97.length : Int) - 1))).Change).Kind), .bool ((((rd vt97 (w64 ((vt97.length : Int) - 1))).Change).Kind) == 3), uV, uV, uV, uV, uV, uV, uV, uV, uV, uV, uV, uV, uV], []⟩) (by kernel_rfl) ?_
           refine wpList_nil ?_
           refine hK157 _ _ ?_
           have hq_ := ite_some h; clear h; rcases hq_ with ⟨c159, h⟩ | ⟨c159, h⟩
           · have c159 : (((rd vt97 (w64 ((vt97.length : Int) - 1))).Change).Kind) = 3 := c159
             refine wpRwI 78 (x := ((((rd vt97 (w64 ((vt97.length : Int) - 1))).Change).Kind) == 3)) (v := true) (by kernel_rfl) (beq_iff_eq.mpr c159) ?_
             refine condT (by kernel_rfl) ?_
             refine wp_seq_k (fun K160 hK161 => ?_)
             refine wp_region_lit ?_
             refine seqL3 (by kernel_rfl) ?_
             refine wpList_nil ?_
             refine hK161 _ _ ?_
             refine wp_ret ?_
             refine hret _ _ ?_
             refine ends_still (v := Value.bool (decide (vt89 < 0))) (by kernel_rfl) (by kernel_rfl) ?_
             have HS210 := HS153.drop
             have HS211 := HS210.drop
             have HS212 := HS211.drop
             have HS213 := HS212.drop
             have HS214 := HS213.drop
             have HS215 := HS214.drop
             injection h with h
             subst h
             exact ⟨f100, rfl, (L22.trans (L31.trans (L55.trans (L70.trans (L92.trans L101))))), HS215⟩
           · have c159 : ¬ ((((rd vt97 (w64 ((vt97.length : Int) - 1))).Change).Kind) = 3) := c159
             refine wpRwI 78 (x := ((((rd vt97 (w64 ((vt97.length : Int) - 1))).Change).Kind) == 3)) (v := false) (by kernel_rfl) (beq_eq_false_iff_ne.mpr c159) ?_
             refine condF (by kernel_rfl) ?_
             refine wp_skip ?_
             refine hK155 _ _ ?_
             refine wp_seq_k (fun K162 hK163 => ?_)
             refine heldG (S := Sg t f100 ([(b148, .cells #[.int .i64 (((rd vt97 (w64 ((vt97.length : Int) - 1))).Change).Kind), .int .i64 ((((rd vt97 (w64 ((vt97.length : Int) - 1))).Change).Row).ID), .int .i64 ((((((rd vt97 (w64 ((vt97.length : Int) - 1))).Change).Row).Box).X).Lo), .int .i64 ((((((rd vt97 (w64 ((vt97.length : Int) - 1))).Change).Row).Box).X).Hi), .bool ((((((rd vt97 (w64 ((vt97.length : Int) - 1))).Change).Row).Box).X).Unknown), .int .i64 ((((((rd vt97 (w64 ((vt97.length : Int) - 1))).Change).Row).Box).Y).Lo), .int .i64 ((((((rd vt97 (w64 ((vt97.length : Int) - 1))).Change).Row).Box).Y).Hi), .bool ((((((rd vt97 (w64 ((vt97.length : Int) - 1))).Change).Row).Box).Y).Unknown), .int .i64 ((((((rd vt97 (w64 ((vt97.length : Int) - 1))).Change).Row).Box).Z).Lo), .int .i64 ((((((rd vt97 (w64 ((vt97.length : Int) - 1))).Change).Row).Box).Z).Hi), .bool ((((((rd vt97 (w64 ((vt97.length : Int) - 1))).Change).Row).Box).Z).Unknown), .int .i64 (((((rd vt97 (w64 ((vt97.length : Int) - 1))).Change).Row).Flux).Lo), .int .i64 (((((rd vt97 (w64 ((vt97.length : Int) - 1))).Change).Row).Flux).Hi), .bool (((((rd vt97 (w64 ((vt97.length : Int) - 1))).Change).Row).Flux).Unknown), .int .i64 (((((rd vt97 (w64 ((vt97.length : Int) - 1))).Change).Row).When).Lo), .int .i64 (((((rd vt97 (w64 ((vt97.length : Int) - 1))).Change).Row).When).Hi), .bool (((((rd vt97 (w64 ((vt97.length : Int) - 1))).Change).Row).When).Unknown), .slice A147 ((((rd vt97 (w64 ((vt97.length : Int) - 1))).Change).Row).Frames).length c147, .int .i64 ((((rd vt97 (w64 ((vt97.length : Int) - 1))).Change).Row).Marks)] 71 (0, 0))] :: s106 :: [(b9, .cells #[.int .i64 (w64 (vt67 + 1))] 3 (0, 0))] :: [(b42, .cells #[.slice A34 vt25.Commits.length c35] 34 (0, 0))] :: s39 :: [(b15, .cells #[.slice A2 l1.length c3, .int .i64 vt28] 25 (0, 0))] :: H) []) (n := 12) (by kernel_rfl) rfl HS153 ?_
             intro W164 HS165
             refine takeG [0, 1, 2] (n := 12) (fuel := 9) (l' := #[true, true, true, false, false, false, false, false, false, false, false, false]) (a' := ⟨#[.slice A2 l1.length c3, iV n5, iV vid6, uV, uV, pV b9 0, fV, pV b42 0, .slice A37 vt26.length c38, .bool vt27, .slice A86 (rd vt26 (w64 ((vt26.length : Int) - 1))).length c86, iV vt89, .slice A104 vt97.length c105, iV vt98, pV b148 0, .tuple #[.agg #[.slice A34 vt25.Commits.length c35], .slice A37 vt26.length c38, .bool vt27], .slice A2 l1.length c3, .agg #[.slice A2 l1.length c3, iV 0], pV b15 0, iV n5, iV vt19, iV (w64 (vt19 + 1)), .tuple #[.agg #[.slice A34 vt25.Commits.length c35], .slice A37 vt26.length c38, .bool vt27], .agg #[.slice A34 vt25.Commits.length c35], .slice A37 vt26.length c38, .bool vt27, .bool vt52, fV, fV, .bool vt27, fV, fV, iV vid6, iV vt67, iV (w64 (vt67 + 1)), .slice A37 vt26.length c38, .slice A37 vt26.length c38, iV (vt26.length : Int), iV (w64 ((vt26.length : Int) - 1)), pV b83 (of84 + (w64 ((vt26.length : Int) - 1) : Int).toNat * 1), .slice A86 (rd vt26 (w64 ((vt26.length : Int) - 1))).length c86, .slice A86 (rd vt26 (w64 ((vt26.length : Int) - 1))).length c86, .func (.func 19) #[] #[pV b9 0], iV vt89, .tuple #[.slice A104 vt97.length c105, iV vt98], .agg #[.slice A34 vt25.Commits.length c35], iV (w64 (vt67 + 1)), .tuple #[.slice A104 vt97.length c105, iV vt98], .slice A104 vt97.length c105, iV vt98, iV vt98, fV, uV, uV, uV, uV, uV, uV, .slice A104 vt97.length c105, iV (vt97.length : Int), fV, fV, .slice A104 vt97.length c105, pV b129 (of130 + (0 : Int).toNat * 20), pV b129 (of130 + (0 : Int).toNat * 20 + 1), pV b129 (of130 + (0 : Int).toNat * 20 + 1), iV (((rd vt97 0).Change).Kind), fV, fV, .slice A104 vt97.length c105, .slice A104 vt97.length c105, iV (vt97.length : Int), iV (w64 ((vt97.length : Int) - 1)), pV b144 (of145 + (w64 ((vt97.length : Int) - 1) : Int).toNat * 20), pV b144 (of145 + (w64 ((vt97.length : Int) - 1) : Int).toNat * 20 + 1), (ag_Change ((rd vt97 (w64 ((vt97.length : Int) - 1))).Change) A147 c147), pV b148 0, iV (((rd vt97 (w64 ((vt97.length : Int) - 1))).Change).Kind), fV, uV, uV, iV vt89, .bool (decide (vt89 ≥ 0)), .bool (decide (vt89 ≥ 0)), uV, uV, uV, uV, uV, uV, uV, uV], []⟩) rfl (by kernel_rfl) (by kernel_rfl) (by kernel_rfl) hnp (Sg.g0 (Sx.of [] (FM.le.refl _) HS165)) ?_
             have hq_ := ite_some h; clear h; rcases hq_ with ⟨c166, h⟩ | ⟨c166, h⟩
             · have c166 : vt89 ≥ 0 := c166
               refine gateRwI 82 (x := (decide (vt89 ≥ 0))) (v := true) (by kernel_rfl) (decide_eq_true c166) ?_
               refine gateRwI 83 (x := (decide (vt89 ≥ 0))) (v := true) (by kernel_rfl) (decide_eq_true c166) ?_
               have hq_ := guard_some h; clear h; obtain ⟨c167, h⟩ := hq_
               have c167 : 0 ≤ vt89 := c167
               have hq_ := guard_some h; clear h; obtain ⟨c168, h⟩ := hq_
               have c168 : vt89 < ((rd vt26 (w64 ((vt26.length : Int) - 1))).length : Int) := c168
               obtain ⟨b172, of173, cs169, hA174, hr170, hc171⟩ := (HR86.mono (L92.trans L101)).at (i := vt89) c167 c168
               obtain ⟨A175, c175, rfl, HR175⟩ := hr170
               refine takeG [3, 4] (n := 9) (fuel := 7) (l' := #[true, true, true, true, true, false, false, false, false, false, false, false]) (a' := ⟨#[.slice A2 l1.length c3, iV n5, iV vid6, uV, uV, pV b9 0, fV, pV b42 0, .slice A37 vt26.length c38, .bool vt27, .slice A86 (rd vt26 (w64 ((vt26.length : Int) - 1))).length c86, iV vt89, .slice A104 vt97.length c105, iV vt98, pV b148 0, .tuple #[.agg #[.slice A34 vt25.Commits.length c35], .slice A37 vt26.length c38, .bool vt27], .slice A2 l1.length c3, .agg #[.slice A2 l1.length c3, iV 0], pV b15 0, iV n5, iV vt19, iV (w64 (vt19 + 1)), .tuple #[.agg #[.slice A34 vt25.Commits.length c35], .slice A37 vt26.length c38, .bool vt27], .agg #[.slice A34 vt25.Commits.length c35], .slice A37 vt26.length c38, .bool vt27, .bool vt52, fV, fV, .bool vt27, fV, fV, iV vid6, iV vt67, iV (w64 (vt67 + 1)), .slice A37 vt26.length c38, .slice A37 vt26.length c38, iV (vt26.length : Int), iV (w64 ((vt26.length : Int) - 1)), pV b83 (of84 + (w64 ((vt26.length : Int) - 1) : Int).toNat * 1), .slice A86 (rd vt26 (w64 ((vt26.length : Int) - 1))).length c86, .slice A86 (rd vt26 (w64 ((vt26.length : Int) - 1))).length c86, .func (.func 19) #[] #[pV b9 0], iV vt89, .tuple #[.slice A104 vt97.length c105, iV vt98], .agg #[.slice A34 vt25.Commits.length c35], iV (w64 (vt67 + 1)), .tuple #[.slice A104 vt97.length c105, iV vt98], .slice A104 vt97.length c105, iV vt98, iV vt98, fV, uV, uV, uV, uV, uV, uV, .slice A104 vt97.length c105, iV (vt97.length : Int), fV, fV, .slice A104 vt97.length c105, pV b129 (of130 + (0 : Int).toNat * 20), pV b129 (of130 + (0 : Int).toNat * 20 + 1), pV b129 (of130 + (0 : Int).toNat * 20 + 1), iV (((rd vt97 0).Change).Kind), fV, fV, .slice A104 vt97.length c105, .slice A104 vt97.length c105, iV (vt97.length : Int), iV (w64 ((vt97.length : Int) - 1)), pV b144 (of145 + (w64 ((vt97.length : Int) - 1) : Int).toNat * 20), pV b144 (of145 + (w64 ((vt97.length : Int) - 1) : Int).toNat * 20 + 1), (ag_Change ((rd vt97 (w64 ((vt97.length : Int) - 1))).Change) A147 c147), pV b148 0, iV (((rd vt97 (w64 ((vt97.length : Int) - 1))).Change).Kind), fV, uV, uV, iV vt89, tV, tV, .slice A86 (rd vt26 (w64 ((vt26.length : Int) - 1))).length c86, iV vt89, uV, uV, uV, uV, uV, uV], []⟩) rfl (by kernel_rfl) (by kernel_rfl) (by kernel_rfl) hnp (Sg.g0 (Sx.of [] (FM.le.refl _) HS165)) ?_
               refine takeGQ 5 [] rfl (by kernel_rfl) (by kernel_rfl) (by kernel_rfl) (by kernel_rfl) (by kernel_rfl) (by kernel_rfl) hnp (Sg.g0 (Sx.of [] (FM.le.refl _) HS165)) (fun w_ hw_ => by obtain ⟨g_, hl_, hS_⟩ := hw_.st; exact run_indexE hA174 (sz := 18) rfl Try.underlying26 (by kernel_rfl) (by kernel_rfl : _ = Value.slice A86 (rd vt26 (w64 ((vt26.length : Int) - 1))).length c86) (by kernel_rfl : _ = Value.int .i64 vt89) c167 c168 w_) ?_
               refine takeGQ 6 [] rfl (by kernel_rfl) (by kernel_rfl) (by kernel_rfl) (by kernel_rfl) (by kernel_rfl) (by kernel_rfl) hnp (Sg.g0 (Sx.of [] (FM.le.refl _) HS165)) (fun w_ hw_ => by obtain ⟨g_, hl_, hS_⟩ := hw_.st; exact run_loadN (n := 18) rfl Try.underlying65 rfl (by kernel_rfl) (by kernel_rfl : _ = Value.pointer (some ⟨b172, of173 + (vt89 : Int).toNat * 18, none⟩)) (cs := [.int .i64 ((rd (rd vt26 (w64 ((vt26.length : Int) - 1))) vt89).ID), .int .i64 ((((rd (rd vt26 (w64 ((vt26.length : Int) - 1))) vt89).Box).X).Lo), .int .i64 ((((rd (rd vt26 (w64 ((vt26.length : Int) - 1))) vt89).Box).X).Hi), .bool ((((rd (rd vt26 (w64 ((vt26.length : Int) - 1))) vt89).Box).X).Unknown), .int .i64 ((((rd (rd vt26 (w64 ((vt26.length : Int) - 1))) vt89).Box).Y).Lo), .int .i64 ((((rd (rd vt26 (w64 ((vt26.length : Int) - 1))) vt89).Box).Y).Hi), .bool ((((rd (rd vt26 (w64 ((vt26.length : Int) - 1))) vt89).Box).Y).Unknown), .int .i64 ((((rd (rd vt26 (w64 ((vt26.length : Int) - 1))) vt89).Box).Z).Lo), .int .i64 ((((rd (rd vt26 (w64 ((vt26.length : Int) - 1))) vt89).Box).Z).Hi), .bool ((((rd (rd vt26 (w64 ((vt26.length : Int) - 1))) vt89).Box).Z).Unknown), .int .i64 (((rd (rd vt26 (w64 ((vt26.length : Int) - 1))) vt89).Flux).Lo), .int .i64 (((rd (rd vt26 (w64 ((vt26.length : Int) - 1))) vt89).Flux).Hi), .bool (((rd (rd vt26 (w64 ((vt26.length : Int) - 1))) vt89).Flux).Unknown), .int .i64 (((rd (rd vt26 (w64 ((vt26.length : Int) - 1))) vt89).When).Lo), .int .i64 (((rd (rd vt26 (w64 ((vt26.length : Int) - 1))) vt89).When).Hi), .bool (((rd (rd vt26 (w64 ((vt26.length : Int) - 1))) vt89).When).Unknown), .slice A175 ((rd (rd vt26 (w64 ((vt26.length : Int) - 1))) vt89).Frames).length c175, .int .i64 ((rd (rd vt26 (w64 ((vt26.length : Int) - 1))) vt89).Marks)]) rfl (fun j_ hj_ => ((hc171 hl_ hS_) j_ hj_))) ?_
               refine takeG [7] (n := 5) (fuel := 4) (l' := #[true, true, true, true, true, true, true, true, false, false, false, false]) (a' := ⟨#[.slice A2 l1.length c3, iV n5, iV vid6, uV, uV, pV b9 0, fV, pV b42 0, .slice A37 vt26.length c38, .bool vt27, .slice A86 (rd vt26 (w64 ((vt26.length : Int) - 1))).length c86, iV vt89, .slice A104 vt97.length c105, iV vt98, pV b148 0, .tuple #[.agg #[.slice A34 vt25.Commits.length c35], .slice A37 vt26.length c38, .bool vt27], .slice A2 l1.length c3, .agg #[.slice A2 l1.length c3, iV 0], pV b15 0, iV n5, iV vt19, iV (w64 (vt19 + 1)), .tuple #[.agg #[.slice A34 vt25.Commits.length c35], .slice A37 vt26.length c38, .bool vt27], .agg #[.slice A34 vt25.Commits.length c35], .slice A37 vt26.length c38, .bool vt27, .bool vt52, fV, fV, .bool vt27, fV, fV, iV vid6, iV vt67, iV (w64 (vt67 + 1)), .slice A37 vt26.length c38, .slice A37 vt26.length c38, iV (vt26.length : Int), iV (w64 ((vt26.length : Int) - 1)), pV b83 (of84 + (w64 ((vt26.length : Int) - 1) : Int).toNat * 1), .slice A86 (rd vt26 (w64 ((vt26.length : Int) - 1))).length c86, .slice A86 (rd vt26 (w64 ((vt26.length : Int) - 1))).length c86, .func (.func 19) #[] #[pV b9 0], iV vt89, .tuple #[.slice A104 vt97.length c105, iV vt98], .agg #[.slice A34 vt25.Commits.length c35], iV (w64 (vt67 + 1)), .tuple #[.slice A104 vt97.length c105, iV vt98], .slice A104 vt97.length c105, iV vt98, iV vt98, fV, uV, uV, uV, uV, uV, uV, .slice A104 vt97.length c105, iV (vt97.length : Int), fV, fV, .slice A104 vt97.length c105, pV b129 (of130 + (0 : Int).toNat * 20), pV b129 (of130 + (0 : Int).toNat * 20 + 1), pV b129 (of130 + (0 : Int).toNat * 20 + 1), iV (((rd vt97 0).Change).Kind), fV, fV, .slice A104 vt97.length c105, .slice A104 vt97.length c105, iV (vt97.length : Int), iV (w64 ((vt97.length : Int) - 1)), pV b144 (of145 + (w64 ((vt97.length : Int) - 1) : Int).toNat * 20), pV b144 (of145 + (w64 ((vt97.length : Int) - 1) : Int).toNat * 20 + 1), (ag_Change ((rd vt97 (w64 ((vt97.length : Int) - 1))).Change) A147 c147), pV b148 0, iV (((rd vt97 (w64 ((vt97.length : Int) - 1))).Change).Kind), fV, uV, uV, iV vt89, tV, tV, .slice A86 (rd vt26 (w64 ((vt26.length : Int) - 1))).length c86, iV vt89, pV b172 (of173 + (vt89 : Int).toNat * 18), (ag_Row (rd (rd vt26 (w64 ((vt26.length : Int) - 1))) vt89) A175 c175), pV b148 1, uV, uV, uV], []⟩) rfl (by kernel_rfl) (by kernel_rfl) (by kernel_rfl) hnp (Sg.g0 (Sx.of [] (FM.le.refl _) HS165)) ?_
               refine takeGQ 8 [] rfl (by kernel_rfl) (by kernel_rfl) (by kernel_rfl) (by kernel_rfl) (by kernel_rfl) (by kernel_rfl) hnp (Sg.g0 (Sx.of [] (FM.le.refl _) HS165)) (fun w_ hw_ => by obtain ⟨g_, hl_, hS_⟩ := hw_.st; exact run_loadN (n := 18) rfl Try.underlying65 rfl (by kernel_rfl) (by kernel_rfl : _ = Value.pointer (some ⟨b148, 1, none⟩)) (cs := [.int .i64 ((((rd vt97 (w64 ((vt97.length : Int) - 1))).Change).Row).ID), .int .i64 ((((((rd vt97 (w64 ((vt97.length : Int) - 1))).Change).Row).Box).X).Lo), .int .i64 ((((((rd vt97 (w64 ((vt97.length : Int) - 1))).Change).Row).Box).X).Hi), .bool ((((((rd vt97 (w64 ((vt97.length : Int) - 1))).Change).Row).Box).X).Unknown), .int .i64 ((((((rd vt97 (w64 ((vt97.length : Int) - 1))).Change).Row).Box).Y).Lo), .int .i64 ((((((rd vt97 (w64 ((vt97.length : Int) - 1))).Change).Row).Box).Y).Hi), .bool ((((((rd vt97 (w64 ((vt97.length : Int) - 1))).Change).Row).Box).Y).Unknown), .int .i64 ((((((rd vt97 (w64 ((vt97.length : Int) - 1))).Change).Row).Box).Z).Lo), .int .i64 ((((((rd vt97 (w64 ((vt97.length : Int) - 1))).Change).Row).Box).Z).Hi), .bool ((((((rd vt97 (w64 ((vt97.length : Int) - 1))).Change).Row).Box).Z).Unknown), .int .i64 (((((rd vt97 (w64 ((vt97.length : Int) - 1))).Change).Row).Flux).Lo), .int .i64 (((((rd vt97 (w64 ((vt97.length : Int) - 1))).Change).Row).Flux).Hi), .bool (((((rd vt97 (w64 ((vt97.length : Int) - 1))).Change).Row).Flux).Unknown), .int .i64 (((((rd vt97 (w64 ((vt97.length : Int) - 1))).Change).Row).When).Lo), .int .i64 (((((rd vt97 (w64 ((vt97.length : Int) - 1))).Change).Row).When).Hi), .bool (((((rd vt97 (w64 ((vt97.length : Int) - 1))).Change).Row).When).Unknown), .slice A147 ((((rd vt97 (w64 ((vt97.length : Int) - 1))).Change).Row).Frames).length c147, .int .i64 ((((rd vt97 (w64 ((vt97.length : Int) - 1))).Change).Row).Marks)]) rfl (hS_.cells 1 18 _ rfl)) ?_
               have hq_ := bind_some h; clear h; obtain ⟨vt176, hc177, h⟩ := hq_
               refine takeGE 9 (by kernel_rfl) rfl (by kernel_rfl) (does_call (f := 21) (args := #[.agg #[.int .i64 ((rd (rd vt26 (w64 ((vt26.length : Int) - 1))) vt89).ID), .int .i64 ((((rd (rd vt26 (w64 ((vt26.length : Int) - 1))) vt89).Box).X).Lo), .int .i64 ((((rd (rd vt26 (w64 ((vt26.length : Int) - 1))) vt89).Box).X).Hi), .bool ((((rd (rd vt26 (w64 ((vt26.length : Int) - 1))) vt89).Box).X).Unknown), .int .i64 ((((rd (rd vt26 (w64 ((vt26.length : Int) - 1))) vt89).Box).Y).Lo), .int .i64 ((((rd (rd vt26 (w64 ((vt26.length : Int) - 1))) vt89).Box).Y).Hi), .bool ((((rd (rd vt26 (w64 ((vt26.length : Int) - 1))) vt89).Box).Y).Unknown), .int .i64 ((((rd (rd vt26 (w64 ((vt26.length : Int) - 1))) vt89).Box).Z).Lo), .int .i64 ((((rd (rd vt26 (w64 ((vt26.length : Int) - 1))) vt89).Box).Z).Hi), .bool ((((rd (rd vt26 (w64 ((vt26.length : Int) - 1))) vt89).Box).Z).Unknown), .int .i64 (((rd (rd vt26 (w64 ((vt26.length : Int) - 1))) vt89).Flux).Lo), .int .i64 (((rd (rd vt26 (w64 ((vt26.length : Int) - 1))) vt89).Flux).Hi), .bool (((rd (rd vt26 (w64 ((vt26.length : Int) - 1))) vt89).Flux).Unknown), .int .i64 (((rd (rd vt26 (w64 ((vt26.length : Int) - 1))) vt89).When).Lo), .int .i64 (((rd (rd vt26 (w64 ((vt26.length : Int) - 1))) vt89).When).Hi), .bool (((rd (rd vt26 (w64 ((vt26.length : Int) - 1))) vt89).When).Unknown), .slice A175 ((rd (rd vt26 (w64 ((vt26.length : Int) - 1))) vt89).Frames).length c175, .int .i64 ((rd (rd vt26 (w64 ((vt26.length : Int) - 1))) vt89).Marks)], .agg #[.int .i64 ((((rd vt97 (w64 ((vt97.length : Int) - 1))).Change).Row).ID), .int .i64 ((((((rd vt97 (w64 ((vt97.length : Int) - 1))).Change).Row).Box).X).Lo), .int .i64 ((((((rd vt97 (w64 ((vt97.length : Int) - 1))).Change).Row).Box).X).Hi), .bool ((((((rd vt97 (w64 ((vt97.length : Int) - 1))).Change).Row).Box).X).Unknown), .int .i64 ((((((rd vt97 (w64 ((vt97.length : Int) - 1))).Change).Row).Box).Y).Lo), .int .i64 ((((((rd vt97 (w64 ((vt97.length : Int) - 1))).Change).Row).Box).Y).Hi), .bool ((((((rd vt97 (w64 ((vt97.length : Int) - 1))).Change).Row).Box).Y).Unknown), .int .i64 ((((((rd vt97 (w64 ((vt97.length : Int) - 1))).Change).Row).Box).Z).Lo), .int .i64 ((((((rd vt97 (w64 ((vt97.length : Int) - 1))).Change).Row).Box).Z).Hi), .bool ((((((rd vt97 (w64 ((vt97.length : Int) - 1))).Change).Row).Box).Z).Unknown), .int .i64 (((((rd vt97 (w64 ((vt97.length : Int) - 1))).Change).Row).Flux).Lo), .int .i64 (((((rd vt97 (w64 ((vt97.length : Int) - 1))).Change).Row).Flux).Hi), .bool (((((rd vt97 (w64 ((vt97.length : Int) - 1))).Change).Row).Flux).Unknown), .int .i64 (((((rd vt97 (w64 ((vt97.length : Int) - 1))).Change).Row).When).Lo), .int .i64 (((((rd vt97 (w64 ((vt97.length : Int) - 1))).Change).Row).When).Hi), .bool (((((rd vt97 (w64 ((vt97.length : Int) - 1))).Change).Row).When).Unknown), .slice A147 ((((rd vt97 (w64 ((vt97.length : Int) - 1))).Change).Row).Frames).length c147, .int .i64 ((((rd vt97 (w64 ((vt97.length : Int) - 1))).Change).Row).Marks)]]) (by kernel_rfl) (catalog_Same.calls k A175 c175 A147 c147 (rd (rd vt26 (w64 ((vt26.length : Int) - 1))) vt89) (((rd vt97 (w64 ((vt97.length : Int) - 1))).Change).Row) HS165 HR175 HR147 vt176 hc177) ?_)
               rintro _ W180 ⟨f178, rfl, L179, HS181⟩
               refine ⟨_, rfl, ?_⟩
               refine ⟨(Sg.g0 (Sx.of [] L179 HS181)), ?_⟩
               refine takeG [10, 11] (n := 2) (fuel := 0) (l' := #[true, true, true, true, true, true, true, true, true, true, true, true]) (a' := ⟨#[.slice A2 l1.length c3, iV n5, iV vid6, uV, uV, pV b9 0, .bool vt176, pV b42 0, .slice A37 vt26.length c38, .bool vt27, .slice A86 (rd vt26 (w64 ((vt26.length : Int) - 1))).length c86, iV vt89, .slice A104 vt97.length c105, iV vt98, pV b148 0, .tuple #[.agg #[.slice A34 vt25.Commits.length c35], .slice A37 vt26.length c38, .bool vt27], .slice A2 l1.length c3, .agg #[.slice A2 l1.length c3, iV 0], pV b15 0, iV n5, iV vt19, iV (w64 (vt19 + 1)), .tuple #[.agg #[.slice A34 vt25.Commits.length c35], .slice A37 vt26.length c38, .bool vt27], .agg #[.slice A34 vt25.Commits.length c35], .slice A37 vt26.length c38, .bool vt27, .bool vt52, fV, fV, .bool vt27, fV, fV, iV vid6, iV vt67, iV (w64 (vt67 + 1)), .slice A37 vt26.length c38, .slice A37 vt26.length c38, iV (vt26.length : Int), iV (w64 ((vt26.length : Int) - 1)), pV b83 (of84 + (w64 ((vt26.length : Int) - 1) : Int).toNat * 1), .slice A86 (rd vt26 (w64 ((vt26.length : Int) - 1))).length c86, .slice A86 (rd vt26 (w64 ((vt26.length : Int) - 1))).length c86, .func (.func 19) #[] #[pV b9 0], iV vt89, .tuple #[.slice A104 vt97.length c105, iV vt98], .agg #[.slice A34 vt25.Commits.length c35], iV (w64 (vt67 + 1)), .tuple #[.slice A104 vt97.length c105, iV vt98], .slice A104 vt97.length c105, iV vt98, iV vt98, fV, uV, uV, uV, uV, uV, uV, .slice A104 vt97.length c105, iV (vt97.length : Int), fV, fV, .slice A104 vt97.length c105, pV b129 (of130 + (0 : Int).toNat * 20), pV b129 (of130 + (0 : Int).toNat * 20 + 1), pV b129 (of130 + (0 : Int).toNat * 20 + 1), iV (((rd vt97 0).Change).Kind), fV, fV, .slice A104 vt97.length c105, .slice A104 vt97.length c105, iV (vt97.length : Int), iV (w64 ((vt97.length : Int) - 1)), pV b144 (of145 + (w64 ((vt97.length : Int) - 1) : Int).toNat * 20), pV b144 (of145 + (w64 ((vt97.length : Int) - 1) : Int).toNat * 20 + 1), (ag_Change ((rd vt97 (w64 ((vt97.length : Int) - 1))).Change) A147 c147), pV b148 0, iV (((rd vt97 (w64 ((vt97.length : Int) - 1))).Change).Kind), fV, uV, uV, iV vt89, tV, tV, .slice A86 (rd vt26 (w64 ((vt26.length : Int) - 1))).length c86, iV vt89, pV b172 (of173 + (vt89 : Int).toNat * 18), (ag_Row (rd (rd vt26 (w64 ((vt26.length : Int) - 1))) vt89) A175 c175), pV b148 1, (ag_Row (((rd vt97 (w64 ((vt97.length : Int) - 1))).Change).Row) A147 c147), .bool vt176, .bool vt176], []⟩) rfl (by kernel_rfl) (by kernel_rfl) (by kernel_rfl) hnp (Sg.g0 (Sx.of [] L179 HS181)) ?_
               refine doneG (by kernel_rfl) ?_ _
               refine hK163 _ _ ?_
               refine wp_ret ?_
               refine hret _ _ ?_
               refine ends_still (v := Value.bool vt176) (by kernel_rfl) (by kernel_rfl) ?_
               have HS216 := HS181.drop
               have HS217 := HS216.drop
               have HS218 := HS217.drop
               have HS219 := HS218.drop
               have HS220 := HS219.drop
               have HS221 := HS220.drop
               injection h with h
               subst h
               exact ⟨f178, rfl, (L22.trans (L31.trans (L55.trans (L70.trans (L92.trans (L101.trans L179)))))), HS221⟩
             · have c166 : ¬ (vt89 ≥ 0) := c166
               refine gateRwI 82 (x := (decide (vt89 ≥ 0))) (v := false) (by kernel_rfl) (decide_eq_false c166) ?_
               refine gateRwI 83 (x := (decide (vt89 ≥ 0))) (v := false) (by kernel_rfl) (decide_eq_false c166) ?_
               refine takeG [3, 4, 5, 6, 7, 8, 9, 10, 11] (n := 9) (fuel := 0) (l' := #[true, true, true, true, true, true, true, true, true, true, true, true]) (a' := ⟨#[.slice A2 l1.length c3, iV n5, iV vid6, uV, uV, pV b9 0, fV, pV b42 0, .slice A37 vt26.length c38, .bool vt27, .slice A86 (rd vt26 (w64 ((vt26.length : Int) - 1))).length c86, iV vt89, .slice A104 vt97.length c105, iV vt98, pV b148 0, .tuple #[.agg #[.slice A34 vt25.Commits.length c35], .slice A37 vt26.length c38, .bool vt27], .slice A2 l1.length c3, .agg #[.slice A2 l1.length c3, iV 0], pV b15 0, iV n5, iV vt19, iV (w64 (vt19 + 1)), .tuple #[.agg #[.slice A34 vt25.Commits.length c35], .slice A37 vt26.length c38, .bool vt27], .agg #[.slice A34 vt25.Commits.length c35], .slice A37 vt26.length c38, .bool vt27, .bool vt52, fV, fV, .bool vt27, fV, fV, iV vid6, iV vt67, iV (w64 (vt67 + 1)), .slice A37 vt26.length c38, .slice A37 vt26.length c38, iV (vt26.length : Int), iV (w64 ((vt26.length : Int) - 1)), pV b83 (of84 + (w64 ((vt26.length : Int) - 1) : Int).toNat * 1), .slice A86 (rd vt26 (w64 ((vt26.length : Int) - 1))).length c86, .slice A86 (rd vt26 (w64 ((vt26.length : Int) - 1))).length c86, .func (.func 19) #[] #[pV b9 0], iV vt89, .tuple #[.slice A104 vt97.length c105, iV vt98], .agg #[.slice A34 vt25.Commits.length c35], iV (w64 (vt67 + 1)), .tuple #[.slice A104 vt97.length c105, iV vt98], .slice A104 vt97.length c105, iV vt98, iV vt98, fV, uV, uV, uV, uV, uV, uV, .slice A104 vt97.length c105, iV (vt97.length : Int), fV, fV, .slice A104 vt97.length c105, pV b129 (of130 + (0 : Int).toNat * 20), pV b129 (of130 + (0 : Int).toNat * 20 + 1), pV b129 (of130 + (0 : Int).toNat * 20 + 1), iV (((rd vt97 0).Change).Kind), fV, fV, .slice A104 vt97.length c105, .slice A104 vt97.length c105, iV (vt97.length : Int), iV (w64 ((vt97.length : Int) - 1)), pV b144 (of145 + (w64 ((vt97.length : Int) - 1) : Int).toNat * 20), pV b144 (of145 + (w64 ((vt97.length : Int) - 1) : Int).toNat * 20 + 1), (ag_Change ((rd vt97 (w64 ((vt97.length : Int) - 1))).Change) A147 c147), pV b148 0, iV (((rd vt97 (w64 ((vt97.length : Int) - 1))).Change).Kind), fV, uV, uV, iV vt89, fV, fV, uV, uV, uV, uV, uV, uV, uV, fV], []⟩) rfl (by kernel_rfl) (by kernel_rfl) (by kernel_rfl) hnp (Sg.g0 (Sx.of [] (FM.le.refl _) HS165)) ?_
               refine doneG (by kernel_rfl) ?_ _
               refine hK163 _ _ ?_
               refine wp_ret ?_
               refine hret _ _ ?_
               refine ends_still (v := Value.bool false) (by kernel_rfl) (by kernel_rfl) ?_
               have HS222 := HS165.drop
               have HS223 := HS222.drop
               have HS224 := HS223.drop
               have HS225 := HS224.drop
               have HS226 := HS225.drop
               have HS227 := HS226.drop
               injection h with h
               subst h
               exact ⟨f100, rfl, (L22.trans (L31.trans (L55.trans (L70.trans (L92.trans L101))))), HS227⟩

end Go.Sp.H6
