import Derived.Test.YtpdemjoehkgohaaProg
import Derived.Test.YtpdemjoehkgohaaSpCopy
import Derived.Test.YtpdemjoehkgohaaFM4
import Derived.Test.YtpdemjoehkgohaaSpSort
import Derived.Test.YtpdemjoehkgohaaShelf
import Derived.Test.YtpdemjoehkgohaaSpMapR
import Derived.Test.YtpdemjoehkgohaaSpKeys
import Derived.Test.YtpdemjoehkgohaaSpRound
import Derived.Test.YtpdemjoehkgohaaKM4n0
import Derived.Test.YtpdemjoehkgohaaKM4n1
import Derived.Test.YtpdemjoehkgohaaKM4n2
import Derived.Test.YtpdemjoehkgohaaKM4n3
import Derived.Test.YtpdemjoehkgohaaKM4n4
import Derived.Test.YtpdemjoehkgohaaKM4n5
namespace Go.Sp.M4
open Go Go.Sp Go.Proofs
set_option linter.unusedVariables false
attribute [local irreducible] wpList AnyL Code.wp Calls Does Code.wpIn wpListIn CallsIn bodyPostM LeavesInM
set_option maxRecDepth 100000 in
set_option maxHeartbeats 4000000 in
theorem catalog_Commit.calls (k : Nat) (A2 : Option Addr) (c3 : Nat) (A6 : Option Addr) (c7 : Nat) (c1 : S_Catalog) (l5 : List S_Change) {t w : World} {f : FM} {H : List Seg} (HS : St t w f (H)) (HR4 : SlR (tSl ty_Change) f A2 c3 c1.Commits) (HR8 : SlR ty_Change f A6 c7 l5) (rr1 : S_Catalog) (rr2 : Int) (rr3 : Int) (h : catalog_Commit k c1 l5 = some (rr1, rr2, rr3)) :
    Calls Try.prog 9 #[.agg #[.slice A2 c1.Commits.length c3], .slice A6 l5.length c7] w (fun e w' => ∃ (g : FM) (A363 : Option Addr) (c364 : Nat) (s365 : Seg), e = .returned (Value.tuple #[.agg #[.slice A363 rr1.Commits.length c364], .int .i64 rr2, .int .i64 rr3]) ∧ FM.le f g ∧ St t w' g (s365 :: H) ∧ Own (tSl ty_Change) 28 g A363 c364 s365 rr1.Commits) := by
 unfold catalog_Commit at h
 refine enter Try.func9 rfl (tm := #[.agg #[.slice A2 c1.Commits.length c3], .slice A6 l5.length c7, uV, uV, uV, uV, uV, uV, uV, uV, uV, uV, uV, uV, uV, uV, uV, uV, uV, uV, uV, uV, uV, uV, uV, uV, uV, uV, uV, uV, uV, uV, uV, uV, uV, uV, uV, uV, uV, uV, uV, uV, uV, uV, uV, uV, uV, uV, uV, uV, uV, uV, uV, uV, uV, uV, uV, uV, uV, uV, uV, uV, uV, uV, uV]) (by kernel_rfl) ?_
 intro B hret hnor hnp
 refine wp_seq_k (fun K9 hK10 => ?_)
 refine wp_region_lit ?_
 refine seqK rfl (does_box (cs := #[.slice A2 c1.Commits.length c3]) rfl (by kernel_rfl : _ = Value.agg #[.slice A2 c1.Commits.length c3]) rfl HS ?_)
 intro b11 W12 HS13
 refine seqK rfl (does_alloc (z := Value.agg #[.slice none 0 0]) (cs := #[.slice none 0 0]) rfl (by kernel_rfl) rfl HS13 ?_)
 intro b15 W16 HS17
 refine seqL2 (by kernel_rfl) ?_
 refine wpList_nil ?_
 refine hK10 _ _ ?_
 refine wp_seq_k (fun K19 hK20 => ?_)
 refine wp_region_lit ?_
 refine seqK rfl (does_run (run_loadN (n := 1) rfl Try.underlying34 rfl (by kernel_rfl) (by kernel_rfl : _ = Value.pointer (some ⟨b11, 0, none⟩)) (cs := [.slice A2 c1.Commits.length c3]) rfl (HS17.u1.cells 0 1 _ rfl)) ?_)
 refine seqL1 (by kernel_rfl) ?_
 refine seqK rfl (does_run (run_load rfl Try.underlying32 rfl (by kernel_rfl : _ = Value.pointer (some ⟨b11, 0, none⟩)) (HS17.u1.cell 0)) ?_)
 have hq_ := bind_some h; clear h; obtain ⟨⟨vt21, vt22⟩, hc23, h⟩ := hq_
 refine seqL1 (by kernel_rfl) ?_
 refine seqK rfl (does_call (f := 30) (args := #[.agg #[.slice A2 c1.Commits.length c3], .int .i64 (c1.Commits.length : Int)]) (by kernel_rfl) (catalog_replay.calls k A2 c3 c1 (c1.Commits.length : Int) HS17 HR4 vt21 vt22 hc23) ?_)
 rintro _ W26 ⟨f24, A28, c29, s30, rfl, L25, HS27, HO31⟩
 refine ⟨_, rfl, ?_⟩
 refine seqL5 (by kernel_rfl) ?_
 refine wpList_nil ?_
 refine hK20 _ _ ?_
 refine wp_seq_k (fun K33 hK34 => ?_)
 refine blockK (fun B35 hx36 hn37 hr38 ho39 hp40 => ?_)
 refine wp_seq_k (fun K42 hK43 => ?_)
 refine wp_region_lit ?_
 refine seqL3 (by kernel_rfl) ?_
 refine wpList_nil ?_
 refine hK43 _ _ ?_
 have hq_ := ite_some h; clear h; rcases hq_ with ⟨c45, h⟩ | ⟨c45, h⟩
 · have c45 : vt22 ≠ 0 := c45
   refine wpRwI 21 (x := (vt22 != 0)) (v := true) (by kernel_rfl) (bne_iff_ne.mpr c45) ?_
   refine wpRwI 23 (x := (vt22 != 0)) (v := true) (by kernel_rfl) (bne_iff_ne.mpr c45) ?_
   refine condT (by kernel_rfl) ?_
   refine wp_seq_k (fun K46 hK47 => ?_)
   refine wp_region_lit ?_
   have HS48 := HS27.u1
   refine seqL2 (by kernel_rfl) ?_
   refine seqK rfl (does_store (n := 1) (vs := [.slice none 0 0]) (cs' := #[.slice none 0 0]) rfl (by kernel_rfl) (by kernel_rfl : _ = Value.pointer (some ⟨b15, 0, none⟩)) (by kernel_rfl : _ = Value.agg #[.slice none 0 0]) rfl rfl (by intro u_ hu_; simp only [List.mem_cons, List.not_mem_nil, or_false] at hu_; subst hu_; rfl) HS48 (Nat.le_of_ble_eq_true rfl) (by kernel_rfl) ?_)
   intro W49 HS50
   refine seqS2 (a' := ⟨#[.agg #[.slice A2 c1.Commits.length c3], .slice A6 l5.length c7, pV b11 0, uV, pV b15 0, iV 0, iV vt22, .map (mb A28), iV vt22, uV, uV, uV, uV, .tuple #[.map (mb A28), iV vt22], .agg #[.slice A2 c1.Commits.length c3], pV b11 0, .slice A2 c1.Commits.length c3, iV (c1.Commits.length : Int), .tuple #[.map (mb A28), iV vt22], .map (mb A28), iV vt22, tV, iV vt22, tV, .agg #[.slice none 0 0], iV vt22, uV, uV, uV, uV, uV, uV, uV, uV, uV, uV, uV, uV, uV, uV, uV, uV, uV, uV, uV, uV, uV, uV, uV, uV, uV, uV, uV, uV, uV, uV, uV, uV, uV, uV, uV, uV, uV, uV, uV], []⟩) (by kernel_rfl) ?_
   refine wpList_nil ?_
   refine hK47 _ _ ?_
   refine wp_ret ?_
   refine hr38 _ _ ?_
   refine hret _ _ ?_
   have HS330 := HS50.cons_nil
   refine ends (v := Value.tuple #[.agg #[.slice none 0 0], .int .i64 0, .int .i64 vt22]) (results3 (q1 := .cell 4 34) (q2 := .tmp 5) (q3 := .tmp 6) (by kernel_rfl) (resN (n := 1) (cs := [.slice none 0 0]) (by kernel_rfl : _ = Value.pointer (some ⟨b15, 0, none⟩)) Try.underlying34 rfl (by kernel_rfl) rfl (HS330.u1.cells 0 1 _ rfl)) (resT (by kernel_rfl : _ = Value.int .i64 0)) (resT (by kernel_rfl : _ = Value.int .i64 vt22))) (by kernel_rfl) ?_
   have HS332 := HS330.u3
   have HS333 := HS332.u3
   have HS334 := HS333.u3
   have HS335 := HS334.drop
   have HS336 := HS335.drop
   have HS337 := HS336.drop
   injection h with h
   injection h with h0_ h
   injection h with h1_ h
   subst h0_ h1_ h
   exact ⟨f24, none, 0, [], rfl, L25, HS337, (Own.nil _)⟩
 · have c45 : ¬ (vt22 ≠ 0) := c45
   refine wpRwI 21 (x := (vt22 != 0)) (v := false) (by kernel_rfl) (bne_eq_false_iff_eq.mpr (Decidable.of_not_not c45)) ?_
   refine wpRwI 23 (x := (vt22 != 0)) (v := false) (by kernel_rfl) (bne_eq_false_iff_eq.mpr (Decidable.of_not_not c45)) ?_
   refine condF (by kernel_rfl) ?_
   refine wp_seq_k (fun K51 hK52 => ?_)
   refine wp_region_lit ?_
   refine seqL1 (by kernel_rfl) ?_
   refine seqK rfl (does_run (run_load rfl Try.underlying32 rfl (by kernel_rfl : _ = Value.pointer (some ⟨b11, 0, none⟩)) (HS27.u2.cell 0)) ?_)
   refine seqS3 (a' := ⟨#[.agg #[.slice A2 c1.Commits.length c3], .slice A6 l5.length c7, pV b11 0, uV, pV b15 0, iV 0, iV 0, .map (mb A28), iV vt22, uV, uV, uV, uV, .tuple #[.map (mb A28), iV vt22], .agg #[.slice A2 c1.Commits.length c3], pV b11 0, .slice A2 c1.Commits.length c3, iV (c1.Commits.length : Int), .tuple #[.map (mb A28), iV vt22], .map (mb A28), iV vt22, fV, iV vt22, fV, uV, uV, .bool ((c1.Commits.length : Int) == 32), pV b11 0, .slice A2 c1.Commits.length c3, iV (c1.Commits.length : Int), .bool ((c1.Commits.length : Int) == 32), uV, uV, uV, uV, uV, uV, uV, uV, uV, uV, uV, uV, uV, uV, uV, uV, uV, uV, uV, uV, uV, uV, uV, uV, uV, uV, uV, uV, uV, uV, uV, uV, uV, uV], []⟩) (by kernel_rfl) ?_
   refine wpList_nil ?_
   refine hK52 _ _ ?_
   have hq_ := ite_some h; clear h; rcases hq_ with ⟨c54, h⟩ | ⟨c54, h⟩
   · have c54 : (c1.Commits.length : Int) = 32 := c54
     refine wpRwI 26 (x := ((c1.Commits.length : Int) == 32)) (v := true) (by kernel_rfl) (beq_iff_eq.mpr c54) ?_
     refine wpRwI 30 (x := ((c1.Commits.length : Int) == 32)) (v := true) (by kernel_rfl) (beq_iff_eq.mpr c54) ?_
     refine condT (by kernel_rfl) ?_
     refine wp_seq_k (fun K55 hK56 => ?_)
     refine wp_region_lit ?_
     have HS57 := HS27.u1
     refine seqL1 (by kernel_rfl) ?_
     refine seqK rfl (does_store (n := 1) (vs := [.slice none 0 0]) (cs' := #[.slice none 0 0]) rfl (by kernel_rfl) (by kernel_rfl : _ = Value.pointer (some ⟨b15, 0, none⟩)) (by kernel_rfl : _ = Value.agg #[.slice none 0 0]) rfl rfl (by intro u_ hu_; simp only [List.mem_cons, List.not_mem_nil, or_false] at hu_; subst hu_; rfl) HS57 (Nat.le_of_ble_eq_true rfl) (by kernel_rfl) ?_)
     intro W58 HS59
     refine seqL2 (by kernel_rfl) ?_
     refine wpList_nil ?_
     refine hK56 _ _ ?_
     refine wp_ret ?_
     refine hr38 _ _ ?_
     refine hret _ _ ?_
     have HS338 := HS59.cons_nil
     refine ends (v := Value.tuple #[.agg #[.slice none 0 0], .int .i64 0, .int .i64 9]) (results3 (q1 := .cell 4 34) (q2 := .tmp 5) (q3 := .tmp 6) (by kernel_rfl) (resN (n := 1) (cs := [.slice none 0 0]) (by kernel_rfl : _ = Value.pointer (some ⟨b15, 0, none⟩)) Try.underlying34 rfl (by kernel_rfl) rfl (HS338.u1.cells 0 1 _ rfl)) (resT (by kernel_rfl : _ = Value.int .i64 0)) (resT (by kernel_rfl : _ = Value.int .i64 9))) (by kernel_rfl) ?_
     have HS340 := HS338.u3
     have HS341 := HS340.u3
     have HS342 := HS341.u3
     have HS343 := HS342.drop
     have HS344 := HS343.drop
     have HS345 := HS344.drop
     injection h with h
     injection h with h0_ h
     injection h with h1_ h
     subst h0_ h1_ h
     exact ⟨f24, none, 0, [], rfl, L25, HS345, (Own.nil _)⟩
   · have c54 : ¬ ((c1.Commits.length : Int) = 32) := c54
     refine wpRwI 26 (x := ((c1.Commits.length : Int) == 32)) (v := false) (by kernel_rfl) (beq_eq_false_iff_ne.mpr c54) ?_
     refine wpRwI 30 (x := ((c1.Commits.length : Int) == 32)) (v := false) (by kernel_rfl) (beq_eq_false_iff_ne.mpr c54) ?_
     refine condF (by kernel_rfl) ?_
     refine wp_skip ?_
     refine hn37 _ _ ?_
     refine hK34 _ _ ?_
     refine wp_seq_k (fun K60 hK61 => ?_)
     refine wp_seq_k (fun K62 hK63 => ?_)
     refine wp_region_lit ?_
     have hq_ := bind_some h; clear h; obtain ⟨⟨vt64, vt65⟩, hc66, h⟩ := hq_
     refine seqL2 (by kernel_rfl) ?_
     refine seqK rfl (does_call (f := 31) (args := #[.map (mb A28), .slice A6 l5.length c7]) (by kernel_rfl) (catalog_state_apply.calls k A28 c29 s30 A6 c7 vt21 l5 HS27 HO31 (HR8.mono L25) vt64 vt65 hc66) ?_)
     rintro _ W69 ⟨f67, s71, rfl, L68, HS70, HO72, HL73⟩
     refine ⟨_, rfl, ?_⟩
     refine seqL1 (by kernel_rfl) ?_
     refine wpList_nil ?_
     refine hK63 _ _ ?_
     refine wp_seq_k (fun K74 hK75 => ?_)
     refine wp_region_lit ?_
     refine seqL2 (by kernel_rfl) ?_
     refine wpList_nil ?_
     refine hK75 _ _ ?_
     have hq_ := ite_some h; clear h; rcases hq_ with ⟨c77, h⟩ | ⟨c77, h⟩
     · have c77 : vt64 ≠ 0 := c77
       refine wpRwI 36 (x := (vt64 != 0)) (v := true) (by kernel_rfl) (bne_iff_ne.mpr c77) ?_
       refine condT (by kernel_rfl) ?_
       refine wp_seq_k (fun K78 hK79 => ?_)
       refine wp_region_lit ?_
       have HS80 := HS70.u1
       refine seqL2 (by kernel_rfl) ?_
       refine seqK rfl (does_store (n := 1) (vs := [.slice none 0 0]) (cs' := #[.slice none 0 0]) rfl (by kernel_rfl) (by kernel_rfl : _ = Value.pointer (some ⟨b15, 0, none⟩)) (by kernel_rfl : _ = Value.agg #[.slice none 0 0]) rfl rfl (by intro u_ hu_; simp only [List.mem_cons, List.not_mem_nil, or_false] at hu_; subst hu_; rfl) HS80 (Nat.le_of_ble_eq_true rfl) (by kernel_rfl) ?_)
       intro W81 HS82
       refine seqL2 (by kernel_rfl) ?_
       refine wpList_nil ?_
       refine hK79 _ _ ?_
       refine wp_ret ?_
       refine hret _ _ ?_
       have HS346 := HS82.cons_nil
       refine ends (v := Value.tuple #[.agg #[.slice none 0 0], .int .i64 0, .int .i64 vt64]) (results3 (q1 := .cell 4 34) (q2 := .tmp 5) (q3 := .tmp 6) (by kernel_rfl) (resN (n := 1) (cs := [.slice none 0 0]) (by kernel_rfl : _ = Value.pointer (some ⟨b15, 0, none⟩)) Try.underlying34 rfl (by kernel_rfl) rfl (HS346.u1.cells 0 1 _ rfl)) (resT (by kernel_rfl : _ = Value.int .i64 0)) (resT (by kernel_rfl : _ = Value.int .i64 vt64))) (by kernel_rfl) ?_
       have HS348 := HS346.u3
       have HS349 := HS348.u3
       have HS350 := HS349.u3
       have HS351 := HS350.drop
       have HS352 := HS351.drop
       have HS353 := HS352.drop
       injection h with h
       injection h with h0_ h
       injection h with h1_ h
       subst h0_ h1_ h
       exact ⟨f67, none, 0, [], rfl, (L25.trans L68), HS353, (Own.nil _)⟩
     · have c77 : ¬ (vt64 ≠ 0) := c77
       refine wpRwI 36 (x := (vt64 != 0)) (v := false) (by kernel_rfl) (bne_eq_false_iff_eq.mpr (Decidable.of_not_not c77)) ?_
       refine condF (by kernel_rfl) ?_
       refine wp_skip ?_
       refine hK61 _ _ ?_
       refine wp_seq_k (fun K83 hK84 => ?_)
       refine wp_region_lit ?_
       refine seqK rfl (does_alloc (z := Value.agg #[.slice none 0 0]) (cs := #[.slice none 0 0]) rfl (by kernel_rfl) rfl HS70 ?_)
       intro b85 W86 HS87
       refine wpList_nil ?_
       refine hK84 _ _ ?_
       refine wp_seq_k (fun K89 hK90 => ?_)
       refine wp_seq_k (fun K91 hK92 => ?_)
       refine wp_region_lit ?_
       refine seqL1 (by kernel_rfl) ?_
       refine seqK rfl (does_run (run_load rfl Try.underlying32 rfl (by kernel_rfl : _ = Value.pointer (some ⟨b11, 0, none⟩)) (HS87.u3.cell 0)) ?_)
       refine seqL2 (by kernel_rfl) ?_
       refine wpList_nil ?_
       refine hK92 _ _ ?_
       refine blockK (fun B93 hx94 hn95 hr96 ho97 hp98 => ?_)
       have hq_ := bind_some h; clear h; obtain ⟨o175, hv267, h⟩ := hq_
       have J268 : ∀ (f256 : FM) (A262 : Option Addr) (c263 : Nat) (s264 : Seg) (x261 : List (List S_Change)) (j260 : Nat → Value) (W258 : World) (a_ : Act), FM.le f67 f256 → some (x261) = some o175 → St t W258 f256 (s264 :: [(b85, .cells #[.slice A262 x261.length c263] 34 (0, 0))] :: s71 :: [(b15, .cells #[.slice none 0 0] 34 (0, 0))] :: [(b11, .cells #[.slice A2 c1.Commits.length c3] 34 (0, 0))] :: H) → Own (tSl ty_Change) 28 f256 A262 c263 s264 x261 → a_ = ⟨#[.agg #[.slice A2 c1.Commits.length c3], .slice A6 l5.length c7, pV b11 0, uV, pV b15 0, iV 0, iV 0, .map (mb A28), iV vt22, iV vt64, pV b85 0, uV, (j260 0), .tuple #[.map (mb A28), iV vt22], .agg #[.slice A2 c1.Commits.length c3], pV b11 0, .slice A2 c1.Commits.length c3, iV (c1.Commits.length : Int), .tuple #[.map (mb A28), iV vt22], .map (mb A28), iV vt22, fV, iV vt22, fV, uV, uV, fV, pV b11 0, .slice A2 c1.Commits.length c3, iV (c1.Commits.length : Int), fV, uV, .map (mb A28), .slice A6 l5.length c7, iV vt64, iV vt64, fV, uV, uV, pV b11 0, .slice A2 c1.Commits.length c3, iV (c1.Commits.length : Int), (j260 1), (j260 2), (j260 3), (j260 4), (j260 5), (j260 6), (j260 7), (j260 8), (j260 9), (j260 10), (j260 11), (j260 12), uV, uV, uV, uV, uV, uV, uV, uV, uV, uV, uV], []⟩ → K89 a_ W258 := by
        intro f256 A262 c263 s264 x261 j260 W258 a_ L257 hj269 HS259 HO265 hfr_; subst hfr_
        injection hj269 with hj269; subst hj269; try dsimp only at h
        refine hK90 _ _ ?_
        refine wp_seq_k (fun K277 hK278 => ?_)
        have HS279 := HS259.u4
        have HS280 := HS279.u4
        have HS281 := HS280.u4
        have HS282 := HS281.u4
        have HS283 := HS282.u4
        refine heldG (S := Sg t f256 (s71 :: [(b15, .cells #[.slice none 0 0] 34 (0, 0))] :: [(b11, .cells #[.slice A2 c1.Commits.length c3] 34 (0, 0))] :: H) [(5, s264), (5, [(b85, .cells #[.slice A262 x261.length c263] 34 (0, 0))])]) (n := 8) (by kernel_rfl) rfl HS283 ?_
        intro W284 HS285
        refine takeG [0] (n := 8) (fuel := 7) (l' := #[true, false, false, false, false, false, false, false]) (a' := ⟨#[.agg #[.slice A2 c1.Commits.length c3], .slice A6 l5.length c7, pV b11 0, uV, pV b15 0, iV 0, iV 0, .map (mb A28), iV vt22, iV vt64, pV b85 0, uV, (j260 0), .tuple #[.map (mb A28), iV vt22], .agg #[.slice A2 c1.Commits.length c3], pV b11 0, .slice A2 c1.Commits.length c3, iV (c1.Commits.length : Int), .tuple #[.map (mb A28), iV vt22], .map (mb A28), iV vt22, fV, iV vt22, fV, uV, uV, fV, pV b11 0, .slice A2 c1.Commits.length c3, iV (c1.Commits.length : Int), fV, uV, .map (mb A28), .slice A6 l5.length c7, iV vt64, iV vt64, fV, uV, uV, pV b11 0, .slice A2 c1.Commits.length c3, iV (c1.Commits.length : Int), (j260 1), (j260 2), (j260 3), (j260 4), (j260 5), (j260 6), (j260 7), (j260 8), (j260 9), (j260 10), (j260 11), (j260 12), pV b85 0, uV, uV, uV, uV, uV, uV, uV, uV, uV, uV], []⟩) rfl (by kernel_rfl) (by kernel_rfl) (by kernel_rfl) hnp (Sg.g2 (Sx.of [s264, [(b85, .cells #[.slice A262 x261.length c263] 34 (0, 0))]] (FM.le.refl _) HS285) (fun _ => St.only [] HS285 (FM.le.refl _)) (fun _ => St.only [s264] HS285 (FM.le.refl _))) ?_
        refine takeGQ 1 [5] rfl (by kernel_rfl) (by kernel_rfl) (by kernel_rfl) (by kernel_rfl) (by kernel_rfl) (by kernel_rfl) hnp (Sg.g2 (Sx.of [s264, [(b85, .cells #[.slice A262 x261.length c263] 34 (0, 0))]] (FM.le.refl _) HS285) (fun _ => St.only [] HS285 (FM.le.refl _)) (fun _ => St.only [s264] HS285 (FM.le.refl _))) (fun w_ hw_ => by obtain ⟨g_, hl_, hS_⟩ := hw_.seg (j := 5) (s := [(b85, .cells #[.slice A262 x261.length c263] 34 (0, 0))]) (by simp) (by simp); exact run_load rfl Try.underlying32 rfl (by kernel_rfl : _ = Value.pointer (some ⟨b85, 0, none⟩)) (hS_.cell 0)) ?_
        refine takeG [2] (n := 6) (fuel := 5) (l' := #[true, true, true, false, false, false, false, false]) (a' := ⟨#[.agg #[.slice A2 c1.Commits.length c3], .slice A6 l5.length c7, pV b11 0, uV, pV b15 0, iV 0, iV 0, .map (mb A28), iV vt22, iV vt64, pV b85 0, uV, (j260 0), .tuple #[.map (mb A28), iV vt22], .agg #[.slice A2 c1.Commits.length c3], pV b11 0, .slice A2 c1.Commits.length c3, iV (c1.Commits.length : Int), .tuple #[.map (mb A28), iV vt22], .map (mb A28), iV vt22, fV, iV vt22, fV, uV, uV, fV, pV b11 0, .slice A2 c1.Commits.length c3, iV (c1.Commits.length : Int), fV, uV, .map (mb A28), .slice A6 l5.length c7, iV vt64, iV vt64, fV, uV, uV, pV b11 0, .slice A2 c1.Commits.length c3, iV (c1.Commits.length : Int), (j260 1), (j260 2), (j260 3), (j260 4), (j260 5), (j260 6), (j260 7), (j260 8), (j260 9), (j260 10), (j260 11), (j260 12), pV b85 0, .slice A262 x261.length c263, .slice A6 l5.length c7, uV, uV, uV, uV, uV, uV, uV, uV], []⟩) rfl (by kernel_rfl) (by kernel_rfl) (by kernel_rfl) hnp (Sg.g2 (Sx.of [s264, [(b85, .cells #[.slice A262 x261.length c263] 34 (0, 0))]] (FM.le.refl _) HS285) (fun _ => St.only [] HS285 (FM.le.refl _)) (fun _ => St.only [s264] HS285 (FM.le.refl _))) ?_
        have hq_ := bind_some h; clear h; obtain ⟨vt286, hc287, h⟩ := hq_
        refine takeGE 3 (by kernel_rfl) rfl (by kernel_rfl) (does_call (f := 29) (args := #[.slice A6 l5.length c7]) (by kernel_rfl) (catalog_copies.calls k A6 c7 l5 HS285 (HR8.mono (L25.trans (L68.trans L257))) vt286 hc287) ?_)
        rintro _ W290 ⟨f288, A292, c293, s294, rfl, L289, HS291, HO295⟩
        refine ⟨_, rfl, ?_⟩
        refine ⟨(Sg.g2 (Sx.of [s294, s264, [(b85, .cells #[.slice A262 x261.length c263] 34 (0, 0))]] L289 HS291) (fun _ => St.only [s294] HS291 L289) (fun _ => St.only [s294, s264] HS291 L289)), ?_⟩
        obtain ⟨f297, L298, HS299, HR300⟩ := HO295.freeze HS291
        refine takeGE 4 (by kernel_rfl) rfl (by kernel_rfl) (does_lit (e := (tSl ty_Change)) (E := 28) (vs := #[(0, Value.slice A292 vt286.length c293)]) (cs := #[.slice A292 vt286.length c293]) (xs := ([vt286] : List (List S_Change))) rfl Try.underlying32 (by kernel_rfl) (by kernel_rfl) ⟨[.slice A292 vt286.length c293], _, rfl, ⟨A292, c293, rfl, HR300⟩, rfl⟩ rfl HS299 ?_ (by decide))
        intro b301 W302 s303 HS304 _ HO305
        refine ⟨(Sg.g2 (Sx.of [s303, s264, [(b85, .cells #[.slice A262 x261.length c263] 34 (0, 0))]] (L289.trans L298) HS304) (fun _ => St.only [s303] HS304 (L289.trans L298)) (fun _ => St.only [s303, s264] HS304 (L289.trans L298))), ?_⟩
        have hq_ := guard_some h; clear h; obtain ⟨c307, h⟩ := hq_
        have c307 : (x261.length + 1) * 24 ≤ 140737488355328 := c307
        have HS308 := HS304.u1
        have HS309 := HS308.u1
        refine takeGE 5 (by kernel_rfl) rfl (by kernel_rfl) (does_append1 (e := (tSl ty_Change)) (E := 28) (xs := x261) (ys := ([vt286] : List (List S_Change))) rfl (by kernel_rfl : _ = Value.slice A262 x261.length c263) (by kernel_rfl : _ = Value.slice (some ⟨b301, 0, none⟩) ([vt286] : List (List S_Change)).length 1) Try.underlying32 inf28 (HO265.mono (L289.trans L298)) HO305 HS309 c307 (lim63 c307 (by decide)) ?_)
        intro A310 c311 s312 W313 HS314 HO315
        refine ⟨(Sg.g2 (Sx.of [s312, [(b85, .cells #[.slice A262 x261.length c263] 34 (0, 0))]] (L289.trans L298) HS314) (fun hl_ => Bool.noConfusion (show true = false from hl_)) (fun hl_ => Bool.noConfusion (show true = false from hl_))), ?_⟩
        refine takeG [6] (n := 2) (fuel := 1) (l' := #[true, true, true, true, true, true, true, false]) (a' := ⟨#[.agg #[.slice A2 c1.Commits.length c3], .slice A6 l5.length c7, pV b11 0, uV, pV b15 0, iV 0, iV 0, .map (mb A28), iV vt22, iV vt64, pV b85 0, uV, (j260 0), .tuple #[.map (mb A28), iV vt22], .agg #[.slice A2 c1.Commits.length c3], pV b11 0, .slice A2 c1.Commits.length c3, iV (c1.Commits.length : Int), .tuple #[.map (mb A28), iV vt22], .map (mb A28), iV vt22, fV, iV vt22, fV, uV, uV, fV, pV b11 0, .slice A2 c1.Commits.length c3, iV (c1.Commits.length : Int), fV, uV, .map (mb A28), .slice A6 l5.length c7, iV vt64, iV vt64, fV, uV, uV, pV b11 0, .slice A2 c1.Commits.length c3, iV (c1.Commits.length : Int), (j260 1), (j260 2), (j260 3), (j260 4), (j260 5), (j260 6), (j260 7), (j260 8), (j260 9), (j260 10), (j260 11), (j260 12), pV b85 0, .slice A262 x261.length c263, .slice A6 l5.length c7, .slice A292 vt286.length c293, .slice (some ⟨b301, 0, none⟩) ([vt286] : List (List S_Change)).length 1, .slice A310 (x261 ++ ([vt286] : List (List S_Change))).length c311, pV b85 0, uV, uV, uV, uV], []⟩) rfl (by kernel_rfl) (by kernel_rfl) (by kernel_rfl) hnp (Sg.g2 (Sx.of [s312, [(b85, .cells #[.slice A262 x261.length c263] 34 (0, 0))]] (L289.trans L298) HS314) (fun hl_ => Bool.noConfusion (show true = false from hl_)) (fun hl_ => Bool.noConfusion (show true = false from hl_))) ?_
        have HS316 := HS314.u1
        refine takeGE 7 (by kernel_rfl) rfl (by kernel_rfl) (does_store (n := 1) (vs := [.slice A310 (x261 ++ ([vt286] : List (List S_Change))).length c311]) (cs' := #[.slice A310 (x261 ++ ([vt286] : List (List S_Change))).length c311]) rfl (by kernel_rfl) (by kernel_rfl : _ = Value.pointer (some ⟨b85, 0, none⟩)) (by kernel_rfl : _ = Value.slice A310 (x261 ++ ([vt286] : List (List S_Change))).length c311) rfl rfl (by intro u_ hu_; simp only [List.mem_cons, List.not_mem_nil, or_false] at hu_; subst hu_; rfl) HS316 (Nat.le_of_ble_eq_true rfl) (by kernel_rfl) ?_)
        intro W317 HS318
        refine ⟨(Sg.g2 (Sx.of [[(b85, .cells #[.slice A310 (x261 ++ ([vt286] : List (List S_Change))).length c311] 34 (0, 0))], s312] (L289.trans L298) HS318) (fun hl_ => Bool.noConfusion (show true = false from hl_)) (fun hl_ => Bool.noConfusion (show true = false from hl_))), ?_⟩
        refine doneG (by kernel_rfl) ?_ _
        refine hK278 _ _ ?_
        refine wp_seq_k (fun K319 hK320 => ?_)
        have HS321 := HS318.u4
        have HS322 := HS321.u3
        have HS323 := HS322.u3
        have HS324 := HS323.u3
        have HS325 := HS324.u4
        refine heldG (S := Sg t f297 ([(b85, .cells #[.slice A310 (x261 ++ ([vt286] : List (List S_Change))).length c311] 34 (0, 0))] :: s312 :: s71 :: [(b11, .cells #[.slice A2 c1.Commits.length c3] 34 (0, 0))] :: H) [(4, [(b15, .cells #[.slice none 0 0] 34 (0, 0))])]) (n := 7) (by kernel_rfl) rfl HS325 ?_
        intro W326 HS327
        refine takeGQ 0 [] rfl (by kernel_rfl) (by kernel_rfl) (by kernel_rfl) (by kernel_rfl) (by kernel_rfl) (by kernel_rfl) hnp (Sg.g1 (Sx.of [[(b15, .cells #[.slice none 0 0] 34 (0, 0))]] (FM.le.refl _) HS327) (fun _ => St.only [] HS327 (FM.le.refl _))) (fun w_ hw_ => by obtain ⟨g_, hl_, hS_⟩ := hw_.st; exact run_loadN (n := 1) rfl Try.underlying34 rfl (by kernel_rfl) (by kernel_rfl : _ = Value.pointer (some ⟨b85, 0, none⟩)) (cs := [.slice A310 (x261 ++ ([vt286] : List (List S_Change))).length c311]) rfl (hS_.cells 0 1 _ rfl)) ?_
        refine takeG [1] (n := 6) (fuel := 5) (l' := #[true, true, false, false, false, false, false]) (a' := ⟨#[.agg #[.slice A2 c1.Commits.length c3], .slice A6 l5.length c7, pV b11 0, uV, pV b15 0, iV 0, iV 0, .map (mb A28), iV vt22, iV vt64, pV b85 0, uV, (j260 0), .tuple #[.map (mb A28), iV vt22], .agg #[.slice A2 c1.Commits.length c3], pV b11 0, .slice A2 c1.Commits.length c3, iV (c1.Commits.length : Int), .tuple #[.map (mb A28), iV vt22], .map (mb A28), iV vt22, fV, iV vt22, fV, uV, uV, fV, pV b11 0, .slice A2 c1.Commits.length c3, iV (c1.Commits.length : Int), fV, uV, .map (mb A28), .slice A6 l5.length c7, iV vt64, iV vt64, fV, uV, uV, pV b11 0, .slice A2 c1.Commits.length c3, iV (c1.Commits.length : Int), (j260 1), (j260 2), (j260 3), (j260 4), (j260 5), (j260 6), (j260 7), (j260 8), (j260 9), (j260 10), (j260 11), (j260 12), pV b85 0, .slice A262 x261.length c263, .slice A6 l5.length c7, .slice A292 vt286.length c293, .slice (some ⟨b301, 0, none⟩) ([vt286] : List (List S_Change)).length 1, .slice A310 (x261 ++ ([vt286] : List (List S_Change))).length c311, pV b85 0, .agg #[.slice A310 (x261 ++ ([vt286] : List (List S_Change))).length c311], pV b85 0, uV, uV], []⟩) rfl (by kernel_rfl) (by kernel_rfl) (by kernel_rfl) hnp (Sg.g1 (Sx.of [[(b15, .cells #[.slice none 0 0] 34 (0, 0))]] (FM.le.refl _) HS327) (fun _ => St.only [] HS327 (FM.le.refl _))) ?_
        refine takeGQ 2 [] rfl (by kernel_rfl) (by kernel_rfl) (by kernel_rfl) (by kernel_rfl) (by kernel_rfl) (by kernel_rfl) hnp (Sg.g1 (Sx.of [[(b15, .cells #[.slice none 0 0] 34 (0, 0))]] (FM.le.refl _) HS327) (fun _ => St.only [] HS327 (FM.le.refl _))) (fun w_ hw_ => by obtain ⟨g_, hl_, hS_⟩ := hw_.st; exact run_load rfl Try.underlying32 rfl (by kernel_rfl : _ = Value.pointer (some ⟨b85, 0, none⟩)) (hS_.cell 0)) ?_
        refine takeG [3] (n := 4) (fuel := 3) (l' := #[true, true, true, true, false, false, false]) (a' := ⟨#[.agg #[.slice A2 c1.Commits.length c3], .slice A6 l5.length c7, pV b11 0, uV, pV b15 0, iV 0, iV 0, .map (mb A28), iV vt22, iV vt64, pV b85 0, uV, (j260 0), .tuple #[.map (mb A28), iV vt22], .agg #[.slice A2 c1.Commits.length c3], pV b11 0, .slice A2 c1.Commits.length c3, iV (c1.Commits.length : Int), .tuple #[.map (mb A28), iV vt22], .map (mb A28), iV vt22, fV, iV vt22, fV, uV, uV, fV, pV b11 0, .slice A2 c1.Commits.length c3, iV (c1.Commits.length : Int), fV, uV, .map (mb A28), .slice A6 l5.length c7, iV vt64, iV vt64, fV, uV, uV, pV b11 0, .slice A2 c1.Commits.length c3, iV (c1.Commits.length : Int), (j260 1), (j260 2), (j260 3), (j260 4), (j260 5), (j260 6), (j260 7), (j260 8), (j260 9), (j260 10), (j260 11), (j260 12), pV b85 0, .slice A262 x261.length c263, .slice A6 l5.length c7, .slice A292 vt286.length c293, .slice (some ⟨b301, 0, none⟩) ([vt286] : List (List S_Change)).length 1, .slice A310 (x261 ++ ([vt286] : List (List S_Change))).length c311, pV b85 0, .agg #[.slice A310 (x261 ++ ([vt286] : List (List S_Change))).length c311], pV b85 0, .slice A310 (x261 ++ ([vt286] : List (List S_Change))).length c311, iV ((x261 ++ ([vt286] : List (List S_Change))).length : Int)], []⟩) rfl (by kernel_rfl) (by kernel_rfl) (by kernel_rfl) hnp (Sg.g1 (Sx.of [[(b15, .cells #[.slice none 0 0] 34 (0, 0))]] (FM.le.refl _) HS327) (fun _ => St.only [] HS327 (FM.le.refl _))) ?_
        refine takeGE 4 (by kernel_rfl) rfl (by kernel_rfl) (does_store (n := 1) (vs := [.slice A310 (x261 ++ ([vt286] : List (List S_Change))).length c311]) (cs' := #[.slice A310 (x261 ++ ([vt286] : List (List S_Change))).length c311]) rfl (by kernel_rfl) (by kernel_rfl : _ = Value.pointer (some ⟨b15, 0, none⟩)) (by kernel_rfl : _ = Value.agg #[.slice A310 (x261 ++ ([vt286] : List (List S_Change))).length c311]) rfl rfl (by intro u_ hu_; simp only [List.mem_cons, List.not_mem_nil, or_false] at hu_; subst hu_; rfl) HS327 (Nat.le_of_ble_eq_true rfl) (by kernel_rfl) ?_)
        intro W328 HS329
        refine ⟨(Sg.g1 (Sx.of [[(b15, .cells #[.slice A310 (x261 ++ ([vt286] : List (List S_Change))).length c311] 34 (0, 0))]] (FM.le.refl _) HS329) (fun hl_ => Bool.noConfusion (show true = false from hl_))), ?_⟩
        refine takeG [5, 6] (n := 2) (fuel := 0) (l' := #[true, true, true, true, true, true, true]) (a' := ⟨#[.agg #[.slice A2 c1.Commits.length c3], .slice A6 l5.length c7, pV b11 0, uV, pV b15 0, iV ((x261 ++ ([vt286] : List (List S_Change))).length : Int), iV 0, .map (mb A28), iV vt22, iV vt64, pV b85 0, uV, (j260 0), .tuple #[.map (mb A28), iV vt22], .agg #[.slice A2 c1.Commits.length c3], pV b11 0, .slice A2 c1.Commits.length c3, iV (c1.Commits.length : Int), .tuple #[.map (mb A28), iV vt22], .map (mb A28), iV vt22, fV, iV vt22, fV, uV, uV, fV, pV b11 0, .slice A2 c1.Commits.length c3, iV (c1.Commits.length : Int), fV, uV, .map (mb A28), .slice A6 l5.length c7, iV vt64, iV vt64, fV, uV, uV, pV b11 0, .slice A2 c1.Commits.length c3, iV (c1.Commits.length : Int), (j260 1), (j260 2), (j260 3), (j260 4), (j260 5), (j260 6), (j260 7), (j260 8), (j260 9), (j260 10), (j260 11), (j260 12), pV b85 0, .slice A262 x261.length c263, .slice A6 l5.length c7, .slice A292 vt286.length c293, .slice (some ⟨b301, 0, none⟩) ([vt286] : List (List S_Change)).length 1, .slice A310 (x261 ++ ([vt286] : List (List S_Change))).length c311, pV b85 0, .agg #[.slice A310 (x261 ++ ([vt286] : List (List S_Change))).length c311], pV b85 0, .slice A310 (x261 ++ ([vt286] : List (List S_Change))).length c311, iV ((x261 ++ ([vt286] : List (List S_Change))).length : Int)], []⟩) rfl (by kernel_rfl) (by kernel_rfl) (by kernel_rfl) hnp (Sg.g1 (Sx.of [[(b15, .cells #[.slice A310 (x261 ++ ([vt286] : List (List S_Change))).length c311] 34 (0, 0))]] (FM.le.refl _) HS329) (fun hl_ => Bool.noConfusion (show true = false from hl_))) ?_
        refine doneG (by kernel_rfl) ?_ _
        refine hK320 _ _ ?_
        refine wp_ret ?_
        refine hret _ _ ?_
        refine ends (v := Value.tuple #[.agg #[.slice A310 (x261 ++ ([vt286] : List (List S_Change))).length c311], .int .i64 ((x261 ++ ([vt286] : List (List S_Change))).length : Int), .int .i64 0]) (results3 (q1 := .cell 4 34) (q2 := .tmp 5) (q3 := .tmp 6) (by kernel_rfl) (resN (n := 1) (cs := [.slice A310 (x261 ++ ([vt286] : List (List S_Change))).length c311]) (by kernel_rfl : _ = Value.pointer (some ⟨b15, 0, none⟩)) Try.underlying34 rfl (by kernel_rfl) rfl (HS329.cells 0 1 _ rfl)) (resT (by kernel_rfl : _ = Value.int .i64 ((x261 ++ ([vt286] : List (List S_Change))).length : Int))) (resT (by kernel_rfl : _ = Value.int .i64 0))) (by kernel_rfl) ?_
        have HS354 := HS329.u2
        have HS355 := HS354.u4
        have HS356 := HS355.u4
        have HS357 := HS356.u4
        have HS358 := HS357.u4
        have HS359 := HS358.drop
        have HS360 := HS359.drop
        have HS361 := HS360.drop
        have HS362 := HS361.drop
        injection h with h
        injection h with h0_ h
        injection h with h1_ h
        subst h0_ h1_ h
        exact ⟨f297, A310, c311, s312, rfl, (L25.trans (L68.trans (L257.trans (L289.trans L298)))), HS362, HO315⟩
       clear h; have h := hv267; clear hv267
       have HS270 := HS87.cons_nil
       refine loopK (fun n_ a_ w_ => ∃ (f179 : FM) (A186 : Option Addr) (c187 : Nat) (s188 : Seg) (x184 : Int) (x185 : List (List S_Change)) (j183 : Nat → Value), FM.le f67 f179 ∧ St t w_ f179 (s188 :: [(b85, .cells #[.slice A186 x185.length c187] 34 (0, 0))] :: s71 :: [(b15, .cells #[.slice none 0 0] 34 (0, 0))] :: [(b11, .cells #[.slice A2 c1.Commits.length c3] 34 (0, 0))] :: H) ∧ Own (tSl ty_Change) 28 f179 A186 c187 s188 x185 ∧ catalog_Commit.l0 k c1 n_ x184 x185 = some o175 ∧ a_ = ⟨#[.agg #[.slice A2 c1.Commits.length c3], .slice A6 l5.length c7, pV b11 0, uV, pV b15 0, iV 0, iV 0, .map (mb A28), iV vt22, iV vt64, pV b85 0, uV, (j183 0), .tuple #[.map (mb A28), iV vt22], .agg #[.slice A2 c1.Commits.length c3], pV b11 0, .slice A2 c1.Commits.length c3, iV (c1.Commits.length : Int), .tuple #[.map (mb A28), iV vt22], .map (mb A28), iV vt22, fV, iV vt22, fV, uV, uV, fV, pV b11 0, .slice A2 c1.Commits.length c3, iV (c1.Commits.length : Int), fV, uV, .map (mb A28), .slice A6 l5.length c7, iV vt64, iV vt64, fV, uV, uV, pV b11 0, .slice A2 c1.Commits.length c3, iV (c1.Commits.length : Int), iV x184, (j183 1), (j183 2), (j183 3), (j183 4), (j183 5), (j183 6), (j183 7), (j183 8), (j183 9), (j183 10), (j183 11), uV, uV, uV, uV, uV, uV, uV, uV, uV, uV, uV], []⟩) k ⟨f67, none, 0, [], 0, ([] : List (List S_Change)), (fun i_ => [undef, undef, undef, undef, undef, undef, undef, undef, undef, undef, undef, undef].getD i_ undef), (FM.le.refl _), HS270, (Own.nil _), h, (by kernel_rfl)⟩ ?_
       clear h
       rintro n178 _ W181 ⟨f179, A186, c187, s188, x184, x185, j183, L180, HS182, HO189, h, rfl⟩ K176 hK177
       obtain _ | n178 := n178
       · exact nomatch h
       simp only [catalog_Commit.l0] at h
       refine wp_seq_k (fun K191 hK192 => ?_)
       refine wp_region_lit ?_
       refine seqL1 (by kernel_rfl) ?_
       refine wpList_nil ?_
       refine hK192 _ _ ?_
       refine wp_seq_k (fun K193 hK194 => ?_)
       have hq_ := ite_some h; clear h; rcases hq_ with ⟨c196, h⟩ | ⟨c196, h⟩
       · have c196 : x184 < (c1.Commits.length : Int) := c196
         refine wpRwI 43 (x := (decide (x184 < (c1.Commits.length : Int)))) (v := true) (by kernel_rfl) (decide_eq_true c196) ?_
         refine condT (by kernel_rfl) ?_
         refine wp_skip ?_
         refine hK194 _ _ ?_
         refine wp_seq_k (fun K197 hK198 => ?_)
         refine blockK (fun B199 hx200 hn201 hr202 ho203 hp204 => ?_)
         refine wp_seq_k (fun K206 hK207 => ?_)
         refine wp_region_lit ?_
         have hq_ := guard_some h; clear h; obtain ⟨c208, h⟩ := hq_
         have c208 : 0 ≤ x184 := c208
         obtain ⟨b212, of213, cs209, hA214, hr210, hc211⟩ := (HR4.mono (L25.trans (L68.trans L180))).at (i := x184) c208 c196
         obtain ⟨A215, c215, rfl, HR215⟩ := hr210
         refine seqK rfl (does_run (run_indexE hA214 (sz := 1) rfl Try.underlying32 (by kernel_rfl) (by kernel_rfl : _ = Value.slice A2 c1.Commits.length c3) (by kernel_rfl : _ = Value.int .i64 x184) c208 c196 W181) ?_)
         refine seqK rfl (does_run (run_load rfl Try.underlying28 rfl (by kernel_rfl : _ = Value.pointer (some ⟨b212, of213 + (x184 : Int).toNat * 1, none⟩)) ((hc211 (FM.le.refl _) HS182) 0 (by decide))) ?_)
         refine seqL1 (by kernel_rfl) ?_
         refine wpList_nil ?_
         refine hK207 _ _ ?_
         have HS216 := HS182.u4
         have HS217 := HS216.u4
         have HS218 := HS217.u4
         have HS219 := HS218.u4
         have HS220 := HS219.u4
         refine heldG (S := Sg t f179 (s71 :: [(b15, .cells #[.slice none 0 0] 34 (0, 0))] :: [(b11, .cells #[.slice A2 c1.Commits.length c3] 34 (0, 0))] :: H) [(5, s188), (5, [(b85, .cells #[.slice A186 x185.length c187] 34 (0, 0))])]) (n := 8) (by kernel_rfl) rfl HS220 ?_
         intro W221 HS222
         refine takeG [0] (n := 8) (fuel := 7) (l' := #[true, false, false, false, false, false, false, false]) (a' := ⟨#[.agg #[.slice A2 c1.Commits.length c3], .slice A6 l5.length c7, pV b11 0, uV, pV b15 0, iV 0, iV 0, .map (mb A28), iV vt22, iV vt64, pV b85 0, uV, .slice A215 (rd c1.Commits x184).length c215, .tuple #[.map (mb A28), iV vt22], .agg #[.slice A2 c1.Commits.length c3], pV b11 0, .slice A2 c1.Commits.length c3, iV (c1.Commits.length : Int), .tuple #[.map (mb A28), iV vt22], .map (mb A28), iV vt22, fV, iV vt22, fV, uV, uV, fV, pV b11 0, .slice A2 c1.Commits.length c3, iV (c1.Commits.length : Int), fV, uV, .map (mb A28), .slice A6 l5.length c7, iV vt64, iV vt64, fV, uV, uV, pV b11 0, .slice A2 c1.Commits.length c3, iV (c1.Commits.length : Int), iV x184, tV, pV b212 (of213 + (x184 : Int).toNat * 1), .slice A215 (rd c1.Commits x184).length c215, pV b85 0, (j183 5), (j183 6), (j183 7), (j183 8), (j183 9), (j183 10), (j183 11), uV, uV, uV, uV, uV, uV, uV, uV, uV, uV, uV], []⟩) rfl (by kernel_rfl) (by kernel_rfl) (by kernel_rfl) (fun ch_ a_ w_ q_ => (fun ch_ a_ w_ q_ => hnp ch_ a_ w_ (hp98 ch_ a_ w_ q_)) ch_ a_ w_ (hp204 ch_ a_ w_ q_)) (Sg.g2 (Sx.of [s188, [(b85, .cells #[.slice A186 x185.length c187] 34 (0, 0))]] (FM.le.refl _) HS222) (fun _ => St.only [] HS222 (FM.le.refl _)) (fun _ => St.only [s188] HS222 (FM.le.refl _))) ?_
         refine takeGQ 1 [5] rfl (by kernel_rfl) (by kernel_rfl) (by kernel_rfl) (by kernel_rfl) (by kernel_rfl) (by kernel_rfl) (fun ch_ a_ w_ q_ => (fun ch_ a_ w_ q_ => hnp ch_ a_ w_ (hp98 ch_ a_ w_ q_)) ch_ a_ w_ (hp204 ch_ a_ w_ q_)) (Sg.g2 (Sx.of [s188, [(b85, .cells #[.slice A186 x185.length c187] 34 (0, 0))]] (FM.le.refl _) HS222) (fun _ => St.only [] HS222 (FM.le.refl _)) (fun _ => St.only [s188] HS222 (FM.le.refl _))) (fun w_ hw_ => by obtain ⟨g_, hl_, hS_⟩ := hw_.seg (j := 5) (s := [(b85, .cells #[.slice A186 x185.length c187] 34 (0, 0))]) (by simp) (by simp); exact run_load rfl Try.underlying32 rfl (by kernel_rfl : _ = Value.pointer (some ⟨b85, 0, none⟩)) (hS_.cell 0)) ?_
         refine takeG [2] (n := 6) (fuel := 5) (l' := #[true, true, true, false, false, false, false, false]) (a' := ⟨#[.agg #[.slice A2 c1.Commits.length c3], .slice A6 l5.length c7, pV b11 0, uV, pV b15 0, iV 0, iV 0, .map (mb A28), iV vt22, iV vt64, pV b85 0, uV, .slice A215 (rd c1.Commits x184).length c215, .tuple #[.map (mb A28), iV vt22], .agg #[.slice A2 c1.Commits.length c3], pV b11 0, .slice A2 c1.Commits.length c3, iV (c1.Commits.length : Int), .tuple #[.map (mb A28), iV vt22], .map (mb A28), iV vt22, fV, iV vt22, fV, uV, uV, fV, pV b11 0, .slice A2 c1.Commits.length c3, iV (c1.Commits.length : Int), fV, uV, .map (mb A28), .slice A6 l5.length c7, iV vt64, iV vt64, fV, uV, uV, pV b11 0, .slice A2 c1.Commits.length c3, iV (c1.Commits.length : Int), iV x184, tV, pV b212 (of213 + (x184 : Int).toNat * 1), .slice A215 (rd c1.Commits x184).length c215, pV b85 0, .slice A186 x185.length c187, .slice A215 (rd c1.Commits x184).length c215, (j183 7), (j183 8), (j183 9), (j183 10), (j183 11), uV, uV, uV, uV, uV, uV, uV, uV, uV, uV, uV], []⟩) rfl (by kernel_rfl) (by kernel_rfl) (by kernel_rfl) (fun ch_ a_ w_ q_ => (fun ch_ a_ w_ q_ => hnp ch_ a_ w_ (hp98 ch_ a_ w_ q_)) ch_ a_ w_ (hp204 ch_ a_ w_ q_)) (Sg.g2 (Sx.of [s188, [(b85, .cells #[.slice A186 x185.length c187] 34 (0, 0))]] (FM.le.refl _) HS222) (fun _ => St.only [] HS222 (FM.le.refl _)) (fun _ => St.only [s188] HS222 (FM.le.refl _))) ?_
         have hq_ := bind_some h; clear h; obtain ⟨vt223, hc224, h⟩ := hq_
         refine takeGE 3 (by kernel_rfl) rfl (by kernel_rfl) (does_call (f := 29) (args := #[.slice A215 (rd c1.Commits x184).length c215]) (by kernel_rfl) (catalog_copies.calls k A215 c215 (rd c1.Commits x184) HS222 HR215 vt223 hc224) ?_)
         rintro _ W227 ⟨f225, A229, c230, s231, rfl, L226, HS228, HO232⟩
         refine ⟨_, rfl, ?_⟩
         refine ⟨(Sg.g2 (Sx.of [s231, s188, [(b85, .cells #[.slice A186 x185.length c187] 34 (0, 0))]] L226 HS228) (fun _ => St.only [s231] HS228 L226) (fun _ => St.only [s231, s188] HS228 L226)), ?_⟩
         obtain ⟨f234, L235, HS236, HR237⟩ := HO232.freeze HS228
         refine takeGE 4 (by kernel_rfl) rfl (by kernel_rfl) (does_lit (e := (tSl ty_Change)) (E := 28) (vs := #[(0, Value.slice A229 vt223.length c230)]) (cs := #[.slice A229 vt223.length c230]) (xs := ([vt223] : List (List S_Change))) rfl Try.underlying32 (by kernel_rfl) (by kernel_rfl) ⟨[.slice A229 vt223.length c230], _, rfl, ⟨A229, c230, rfl, HR237⟩, rfl⟩ rfl HS236 ?_ (by decide))
         intro b238 W239 s240 HS241 _ HO242
         refine ⟨(Sg.g2 (Sx.of [s240, s188, [(b85, .cells #[.slice A186 x185.length c187] 34 (0, 0))]] (L226.trans L235) HS241) (fun _ => St.only [s240] HS241 (L226.trans L235)) (fun _ => St.only [s240, s188] HS241 (L226.trans L235))), ?_⟩
         have hq_ := guard_some h; clear h; obtain ⟨c244, h⟩ := hq_
         have c244 : (x185.length + 1) * 24 ≤ 140737488355328 := c244
         have HS245 := HS241.u1
         have HS246 := HS245.u1
         refine takeGE 5 (by kernel_rfl) rfl (by kernel_rfl) (does_append1 (e := (tSl ty_Change)) (E := 28) (xs := x185) (ys := ([vt223] : List (List S_Change))) rfl (by kernel_rfl : _ = Value.slice A186 x185.length c187) (by kernel_rfl : _ = Value.slice (some ⟨b238, 0, none⟩) ([vt223] : List (List S_Change)).length 1) Try.underlying32 inf28 (HO189.mono (L226.trans L235)) HO242 HS246 c244 (lim63 c244 (by decide)) ?_)
         intro A247 c248 s249 W250 HS251 HO252
         refine ⟨(Sg.g2 (Sx.of [s249, [(b85, .cells #[.slice A186 x185.length c187] 34 (0, 0))]] (L226.trans L235) HS251) (fun hl_ => Bool.noConfusion (show true = false from hl_)) (fun hl_ => Bool.noConfusion (show true = false from hl_))), ?_⟩
         refine takeG [6] (n := 2) (fuel := 1) (l' := #[true, true, true, true, true, true, true, false]) (a' := ⟨#[.agg #[.slice A2 c1.Commits.length c3], .slice A6 l5.length c7, pV b11 0, uV, pV b15 0, iV 0, iV 0, .map (mb A28), iV vt22, iV vt64, pV b85 0, uV, .slice A215 (rd c1.Commits x184).length c215, .tuple #[.map (mb A28), iV vt22], .agg #[.slice A2 c1.Commits.length c3], pV b11 0, .slice A2 c1.Commits.length c3, iV (c1.Commits.length : Int), .tuple #[.map (mb A28), iV vt22], .map (mb A28), iV vt22, fV, iV vt22, fV, uV, uV, fV, pV b11 0, .slice A2 c1.Commits.length c3, iV (c1.Commits.length : Int), fV, uV, .map (mb A28), .slice A6 l5.length c7, iV vt64, iV vt64, fV, uV, uV, pV b11 0, .slice A2 c1.Commits.length c3, iV (c1.Commits.length : Int), iV x184, tV, pV b212 (of213 + (x184 : Int).toNat * 1), .slice A215 (rd c1.Commits x184).length c215, pV b85 0, .slice A186 x185.length c187, .slice A215 (rd c1.Commits x184).length c215, .slice A229 vt223.length c230, .slice (some ⟨b238, 0, none⟩) ([vt223] : List (List S_Change)).length 1, .slice A247 (x185 ++ ([vt223] : List (List S_Change))).length c248, pV b85 0, (j183 11), uV, uV, uV, uV, uV, uV, uV, uV, uV, uV, uV], []⟩) rfl (by kernel_rfl) (by kernel_rfl) (by kernel_rfl) (fun ch_ a_ w_ q_ => (fun ch_ a_ w_ q_ => hnp ch_ a_ w_ (hp98 ch_ a_ w_ q_)) ch_ a_ w_ (hp204 ch_ a_ w_ q_)) (Sg.g2 (Sx.of [s249, [(b85, .cells #[.slice A186 x185.length c187] 34 (0, 0))]] (L226.trans L235) HS251) (fun hl_ => Bool.noConfusion (show true = false from hl_)) (fun hl_ => Bool.noConfusion (show true = false from hl_))) ?_
         have HS253 := HS251.u1
         refine takeGE 7 (by kernel_rfl) rfl (by kernel_rfl) (does_store (n := 1) (vs := [.slice A247 (x185 ++ ([vt223] : List (List S_Change))).length c248]) (cs' := #[.slice A247 (x185 ++ ([vt223] : List (List S_Change))).length c248]) rfl (by kernel_rfl) (by kernel_rfl : _ = Value.pointer (some ⟨b85, 0, none⟩)) (by kernel_rfl : _ = Value.slice A247 (x185 ++ ([vt223] : List (List S_Change))).length c248) rfl rfl (by intro u_ hu_; simp only [List.mem_cons, List.not_mem_nil, or_false] at hu_; subst hu_; rfl) HS253 (Nat.le_of_ble_eq_true rfl) (by kernel_rfl) ?_)
         intro W254 HS255
         refine ⟨(Sg.g2 (Sx.of [[(b85, .cells #[.slice A247 (x185 ++ ([vt223] : List (List S_Change))).length c248] 34 (0, 0))], s249] (L226.trans L235) HS255) (fun hl_ => Bool.noConfusion (show true = false from hl_)) (fun hl_ => Bool.noConfusion (show true = false from hl_))), ?_⟩
         refine doneG (by kernel_rfl) ?_ _
         refine hn201 _ _ ?_
         refine hK198 _ _ ?_
         refine wp_region_lit ?_
         refine seqL2 (by kernel_rfl) ?_
         refine wpList_nil ?_
         refine hK177 n178 _ _ (Nat.lt_succ_self _) ?_
         have HS272 := HS255.u4
         have HS273 := HS272.u4
         have HS274 := HS273.u4
         have HS275 := HS274.u3
         have HS276 := HS275.u4
         exact ⟨f234, A247, c248, s249, (w64 (x184 + 1)), (x185 ++ ([vt223] : List (List S_Change))), (fun i_ => [Value.slice A215 (rd c1.Commits x184).length c215, Value.bool true, Value.pointer (some ⟨b212, of213 + (x184 : Int).toNat * 1, none⟩), Value.slice A215 (rd c1.Commits x184).length c215, Value.pointer (some ⟨b85, 0, none⟩), Value.slice A186 x185.length c187, Value.slice A215 (rd c1.Commits x184).length c215, Value.slice A229 vt223.length c230, Value.slice (some ⟨b238, 0, none⟩) ([vt223] : List (List S_Change)).length 1, Value.slice A247 (x185 ++ ([vt223] : List (List S_Change))).length c248, Value.pointer (some ⟨b85, 0, none⟩), Value.int .i64 (w64 (x184 + 1))].getD i_ undef), (L180.trans (L226.trans L235)), HS276, HO252, h, (by kernel_rfl)⟩
       · have c196 : ¬ (x184 < (c1.Commits.length : Int)) := c196
         refine wpRwI 43 (x := (decide (x184 < (c1.Commits.length : Int)))) (v := false) (by kernel_rfl) (decide_eq_false c196) ?_
         refine condF (by kernel_rfl) ?_
         refine wp_exit ?_
         refine hx94 _ _ ?_
         exact J268 f179 A186 c187 s188 x185 (fun i_ => [(j183 0), Value.int .i64 x184, Value.bool false, (j183 2), (j183 3), (j183 4), (j183 5), (j183 6), (j183 7), (j183 8), (j183 9), (j183 10), (j183 11)].getD i_ undef) W181 _ L180 h HS182 HO189 (by kernel_rfl)

set_option maxRecDepth 100000 in
set_option maxHeartbeats 4000000 in
theorem catalog_CheckCatalog.calls (k : Nat) (A2 : Option Addr) (c3 : Nat) (c1 : S_Catalog) {t w : World} {f : FM} {H : List Seg} (HS : St t w f (H)) (HR4 : SlR (tSl ty_Change) f A2 c3 c1.Commits) (rr1 : Int) (h : catalog_CheckCatalog k c1 = some rr1) :
    Calls Try.prog 32 #[.agg #[.slice A2 c1.Commits.length c3]] w (fun e w' => ∃ (g : FM), e = .returned (Value.int .i64 rr1) ∧ FM.le f g ∧ St t w' g (H)) := by
 unfold catalog_CheckCatalog at h
 refine enter Try.func32 rfl (tm := #[.agg #[.slice A2 c1.Commits.length c3], uV, uV, uV, uV, uV, uV, uV, uV, uV, uV, uV, uV, uV]) (by kernel_rfl) ?_
 intro B hret hnor hnp
 refine wp_seq_k (fun K5 hK6 => ?_)
 refine wp_region_lit ?_
 refine seqK rfl (does_box (cs := #[.slice A2 c1.Commits.length c3]) rfl (by kernel_rfl : _ = Value.agg #[.slice A2 c1.Commits.length c3]) rfl HS ?_)
 intro b7 W8 HS9
 refine seqL1 (by kernel_rfl) ?_
 refine wpList_nil ?_
 refine hK6 _ _ ?_
 refine wp_seq_k (fun K11 hK12 => ?_)
 refine wp_region_lit ?_
 refine seqK rfl (does_run (run_loadN (n := 1) rfl Try.underlying34 rfl (by kernel_rfl) (by kernel_rfl : _ = Value.pointer (some ⟨b7, 0, none⟩)) (cs := [.slice A2 c1.Commits.length c3]) rfl (HS9.cells 0 1 _ rfl)) ?_)
 refine seqL1 (by kernel_rfl) ?_
 refine seqK rfl (does_run (run_load rfl Try.underlying32 rfl (by kernel_rfl : _ = Value.pointer (some ⟨b7, 0, none⟩)) (HS9.cell 0)) ?_)
 have hq_ := bind_some h; clear h; obtain ⟨⟨vt13, vt14⟩, hc15, h⟩ := hq_
 refine seqL1 (by kernel_rfl) ?_
 refine seqK rfl (does_call (f := 30) (args := #[.agg #[.slice A2 c1.Commits.length c3], .int .i64 (c1.Commits.length : Int)]) (by kernel_rfl) (catalog_replay.calls k A2 c3 c1 (c1.Commits.length : Int) HS9 HR4 vt13 vt14 hc15) ?_)
 rintro _ W18 ⟨f16, A20, c21, s22, rfl, L17, HS19, HO23⟩
 refine ⟨_, rfl, ?_⟩
 refine seqL5 (by kernel_rfl) ?_
 refine wpList_nil ?_
 refine hK12 _ _ ?_
 refine wp_seq_k (fun K25 hK26 => ?_)
 refine wp_region_lit ?_
 refine seqL2 (by kernel_rfl) ?_
 refine wpList_nil ?_
 refine hK26 _ _ ?_
 refine wp_ret ?_
 refine hret _ _ ?_
 refine ends_still (v := Value.int .i64 vt14) (by kernel_rfl) (by kernel_rfl) ?_
 have HS27 := HS19.drop
 have HS28 := HS27.drop
 injection h with h
 subst h
 exact ⟨f16, rfl, L17, HS28⟩

set_option maxRecDepth 100000 in
set_option maxHeartbeats 4000000 in
theorem catalog_At.calls (k : Nat) (A2 : Option Addr) (c3 : Nat) (c1 : S_Catalog) (version5 : Int) {t w : World} {f : FM} {H : List Seg} (HS : St t w f (H)) (HR4 : SlR (tSl ty_Change) f A2 c3 c1.Commits) (rr1 : List S_Row) (rr2 : Int) (h : catalog_At k c1 version5 = some (rr1, rr2)) :
    Calls Try.prog 10 #[.agg #[.slice A2 c1.Commits.length c3], .int .i64 version5] w (fun e w' => ∃ (g : FM) (A192 : Option Addr) (c193 : Nat) (s194 : Seg), e = .returned (Value.tuple #[.slice A192 rr1.length c193, .int .i64 rr2]) ∧ FM.le f g ∧ St t w' g (s194 :: H) ∧ Own ty_Row 65 g A192 c193 s194 rr1) := by
 unfold catalog_At at h
 refine enter Try.func10 rfl (tm := #[.agg #[.slice A2 c1.Commits.length c3], iV version5, uV, uV, uV, uV, uV, uV, uV, uV, uV, uV, uV, uV, uV, uV, uV, uV, uV, uV, uV, uV, uV, uV, uV, uV, uV, uV, uV, uV, uV, uV, uV, uV, uV, uV, uV, uV, uV, uV, uV, uV, uV, uV, uV, uV, uV, uV, uV]) (by kernel_rfl) ?_
 intro B hret hnor hnp
 refine wp_seq_k (fun K6 hK7 => ?_)
 refine wp_region_lit ?_
 refine seqK rfl (does_box (cs := #[.slice A2 c1.Commits.length c3]) rfl (by kernel_rfl : _ = Value.agg #[.slice A2 c1.Commits.length c3]) rfl HS ?_)
 intro b8 W9 HS10
 refine seqL2 (by kernel_rfl) ?_
 refine wpList_nil ?_
 refine hK7 _ _ ?_
 refine wp_seq_k (fun K12 hK13 => ?_)
 refine wp_seq_k (fun K14 hK15 => ?_)
 refine wp_region_lit ?_
 refine seqK rfl (does_run (run_loadN (n := 1) rfl Try.underlying34 rfl (by kernel_rfl) (by kernel_rfl : _ = Value.pointer (some ⟨b8, 0, none⟩)) (cs := [.slice A2 c1.Commits.length c3]) rfl (HS10.cells 0 1 _ rfl)) ?_)
 have hq_ := bind_some h; clear h; obtain ⟨vt16, hc17, h⟩ := hq_
 refine seqK rfl (does_call (f := 32) (args := #[.agg #[.slice A2 c1.Commits.length c3]]) (by kernel_rfl) (catalog_CheckCatalog.calls k A2 c3 c1 HS10 HR4 vt16 hc17) ?_)
 rintro _ W20 ⟨f18, rfl, L19, HS21⟩
 refine ⟨_, rfl, ?_⟩
 refine seqL1 (by kernel_rfl) ?_
 refine wpList_nil ?_
 refine hK15 _ _ ?_
 refine wp_seq_k (fun K22 hK23 => ?_)
 refine wp_region_lit ?_
 refine seqL2 (by kernel_rfl) ?_
 refine wpList_nil ?_
 refine hK23 _ _ ?_
 have hq_ := ite_some h; clear h; rcases hq_ with ⟨c25, h⟩ | ⟨c25, h⟩
 · have c25 : vt16 ≠ 0 := c25
   refine wpRwI 15 (x := (vt16 != 0)) (v := true) (by kernel_rfl) (bne_iff_ne.mpr c25) ?_
   refine condT (by kernel_rfl) ?_
   refine wp_seq_k (fun K26 hK27 => ?_)
   refine wp_region_lit ?_
   refine seqL3 (by kernel_rfl) ?_
   refine wpList_nil ?_
   refine hK27 _ _ ?_
   refine wp_ret ?_
   refine hret _ _ ?_
   have HS172 := HS21.cons_nil
   refine ends_still (v := Value.tuple #[.slice none 0 0, .int .i64 vt16]) (by kernel_rfl) (by kernel_rfl) ?_
   have HS174 := HS172.u1
   have HS175 := HS174.drop
   injection h with h
   injection h with h0_ h
   subst h0_ h
   exact ⟨f18, none, 0, [], rfl, L19, HS175, (Own.nil _)⟩
 · have c25 : ¬ (vt16 ≠ 0) := c25
   refine wpRwI 15 (x := (vt16 != 0)) (v := false) (by kernel_rfl) (bne_eq_false_iff_eq.mpr (Decidable.of_not_not c25)) ?_
   refine condF (by kernel_rfl) ?_
   refine wp_skip ?_
   refine hK13 _ _ ?_
   refine wp_seq_k (fun K28 hK29 => ?_)
   refine wp_seq_k (fun K30 hK31 => ?_)
   refine wp_region_lit ?_
   refine seqL3 (by kernel_rfl) ?_
   have hq_ := ite_some h; clear h; rcases hq_ with ⟨c32, h⟩ | ⟨c32, h⟩
   · have c32 : version5 < 0 := c32
     refine seqRwI 18 (x := (decide (version5 < 0))) (v := true) (by kernel_rfl) (decide_eq_true c32) ?_
     refine seqRwI 19 (x := (decide (version5 < 0))) (v := true) (by kernel_rfl) (decide_eq_true c32) ?_
     refine seqL6 (by kernel_rfl) ?_
     refine wpList_nil ?_
     refine hK31 _ _ ?_
     refine condT (by kernel_rfl) ?_
     refine wp_seq_k (fun K33 hK34 => ?_)
     refine wp_region_lit ?_
     refine seqS2 (a' := ⟨#[.agg #[.slice A2 c1.Commits.length c3], iV version5, pV b8 0, uV, .slice none 0 0, iV 4, iV vt16, uV, uV, uV, uV, uV, .agg #[.slice A2 c1.Commits.length c3], iV vt16, iV vt16, fV, uV, iV version5, tV, tV, uV, uV, uV, uV, uV, tV, uV, uV, uV, uV, uV, uV, uV, uV, uV, uV, uV, uV, uV, uV, uV, uV, uV, uV, uV, uV, uV, uV, uV], []⟩) (by kernel_rfl) ?_
     refine wpList_nil ?_
     refine hK34 _ _ ?_
     refine wp_ret ?_
     refine hret _ _ ?_
     have HS176 := HS21.cons_nil
     refine ends_still (v := Value.tuple #[.slice none 0 0, .int .i64 4]) (by kernel_rfl) (by kernel_rfl) ?_
     have HS178 := HS176.u1
     have HS179 := HS178.drop
     injection h with h
     injection h with h0_ h
     subst h0_ h
     exact ⟨f18, none, 0, [], rfl, L19, HS179, (Own.nil _)⟩
   · have c32 : ¬ (version5 < 0) := c32
     refine seqRwI 18 (x := (decide (version5 < 0))) (v := false) (by kernel_rfl) (decide_eq_false c32) ?_
     refine seqRwI 19 (x := (decide (version5 < 0))) (v := false) (by kernel_rfl) (decide_eq_false c32) ?_
     refine seqL2 (by kernel_rfl) ?_
     refine seqG (by kernel_rfl) (does_run (run_load rfl Try.underlying32 rfl (by kernel_rfl : _ = Value.pointer (some ⟨b8, 0, none⟩)) (HS21.cell 0)) ?_)
     refine seqL3 (by kernel_rfl) ?_
     refine wpList_nil ?_
     refine hK31 _ _ ?_
     have hq_ := ite_some h; clear h; rcases hq_ with ⟨c36, h⟩ | ⟨c36, h⟩
     · have c36 : version5 > (c1.Commits.length : Int) := c36
       refine wpRwI 24 (x := (decide (version5 > (c1.Commits.length : Int)))) (v := true) (by kernel_rfl) (decide_eq_true c36) ?_
       refine wpRwI 25 (x := (decide (version5 > (c1.Commits.length : Int)))) (v := true) (by kernel_rfl) (decide_eq_true c36) ?_
       refine condT (by kernel_rfl) ?_
       refine wp_seq_k (fun K37 hK38 => ?_)
       refine wp_region_lit ?_
       refine seqS2 (a' := ⟨#[.agg #[.slice A2 c1.Commits.length c3], iV version5, pV b8 0, uV, .slice none 0 0, iV 4, iV vt16, uV, uV, uV, uV, uV, .agg #[.slice A2 c1.Commits.length c3], iV vt16, iV vt16, fV, uV, iV version5, fV, fV, iV version5, pV b8 0, .slice A2 c1.Commits.length c3, iV (c1.Commits.length : Int), tV, tV, uV, uV, uV, uV, uV, uV, uV, uV, uV, uV, uV, uV, uV, uV, uV, uV, uV, uV, uV, uV, uV, uV, uV], []⟩) (by kernel_rfl) ?_
       refine wpList_nil ?_
       refine hK38 _ _ ?_
       refine wp_ret ?_
       refine hret _ _ ?_
       have HS180 := HS21.cons_nil
       refine ends_still (v := Value.tuple #[.slice none 0 0, .int .i64 4]) (by kernel_rfl) (by kernel_rfl) ?_
       have HS182 := HS180.u1
       have HS183 := HS182.drop
       injection h with h
       injection h with h0_ h
       subst h0_ h
       exact ⟨f18, none, 0, [], rfl, L19, HS183, (Own.nil _)⟩
     · have c36 : ¬ (version5 > (c1.Commits.length : Int)) := c36
       refine wpRwI 24 (x := (decide (version5 > (c1.Commits.length : Int)))) (v := false) (by kernel_rfl) (decide_eq_false c36) ?_
       refine wpRwI 25 (x := (decide (version5 > (c1.Commits.length : Int)))) (v := false) (by kernel_rfl) (decide_eq_false c36) ?_
       refine condF (by kernel_rfl) ?_
       refine wp_skip ?_
       refine hK29 _ _ ?_
       refine wp_seq_k (fun K39 hK40 => ?_)
       refine wp_region_lit ?_
       refine seqK rfl (does_run (run_loadN (n := 1) rfl Try.underlying34 rfl (by kernel_rfl) (by kernel_rfl : _ = Value.pointer (some ⟨b8, 0, none⟩)) (cs := [.slice A2 c1.Commits.length c3]) rfl (HS21.cells 0 1 _ rfl)) ?_)
       have hq_ := bind_some h; clear h; obtain ⟨⟨vt41, vt42⟩, hc43, h⟩ := hq_
       refine seqL1 (by kernel_rfl) ?_
       refine seqK rfl (does_call (f := 30) (args := #[.agg #[.slice A2 c1.Commits.length c3], .int .i64 version5]) (by kernel_rfl) (catalog_replay.calls k A2 c3 c1 version5 HS21 (HR4.mono L19) vt41 vt42 hc43) ?_)
       rintro _ W46 ⟨f44, A48, c49, s50, rfl, L45, HS47, HO51⟩
       refine ⟨_, rfl, ?_⟩
       refine seqS5 (a' := ⟨#[.agg #[.slice A2 c1.Commits.length c3], iV version5, pV b8 0, uV, .slice none 0 0, iV 0, iV vt16, .map (mb A48), iV vt42, uV, uV, uV, .agg #[.slice A2 c1.Commits.length c3], iV vt16, iV vt16, fV, uV, iV version5, fV, fV, iV version5, pV b8 0, .slice A2 c1.Commits.length c3, iV (c1.Commits.length : Int), fV, fV, .tuple #[.map (mb A48), iV vt42], .agg #[.slice A2 c1.Commits.length c3], iV version5, .tuple #[.map (mb A48), iV vt42], .map (mb A48), iV vt42, uV, uV, uV, uV, uV, uV, uV, uV, uV, uV, uV, uV, uV, uV, uV, uV, uV], []⟩) (by kernel_rfl) ?_
       refine wpList_nil ?_
       refine hK40 _ _ ?_
       refine wp_seq_k (fun K53 hK54 => ?_)
       refine wp_region_lit ?_
       refine seqL1 (by kernel_rfl) ?_
       refine wpList_nil ?_
       refine hK54 _ _ ?_
       refine wp_seq_k (fun K55 hK56 => ?_)
       refine wp_seq_k (fun K57 hK58 => ?_)
       refine wp_region_lit ?_
       refine seqL1 (by kernel_rfl) ?_
       refine seqK rfl (does_call (f := 34) (args := #[Value.map (mb A48)]) (by kernel_rfl) (keys_calls (M := 85) (g := 50) Try.keys34 rfl rfl rfl HS47) ?_)
       rintro _ W60 ⟨b59, rfl, HS61⟩
       refine ⟨_, rfl, ?_⟩
       have HS63 := HS61.u1
       have HS64 := HS63.u1
       have hq_ := bind_some h; clear h; obtain ⟨vt65, hc66, h⟩ := hq_
       refine seqK rfl (does_call (f := 33) (args := #[Value.func (.func 50) #[] #[.pointer (some ⟨b59, 0, none⟩)]]) (by kernel_rfl) (sorted_calls Try.keys34 Try.sorted33 rfl rfl rfl rfl rfl Try.underlying3 Try.slices_Sort_int Try.slices_Sort_int_none (Go.Proofs.enters_of Try.func49 (by kernel_rfl) rfl) (Go.Proofs.enters_of Try.func50 (by kernel_rfl) rfl) HO51 HS64 vt65 hc66) ?_)
       rintro _ W70 ⟨A67, c68, s69, rfl, HS71, HO72⟩
       refine ⟨_, rfl, ?_⟩
       refine seqL2 (by kernel_rfl) ?_
       refine wpList_nil ?_
       refine hK58 _ _ ?_
       refine blockK (fun B74 hx75 hn76 hr77 ho78 hp79 => ?_)
       have hq_ := bind_some h; clear h; obtain ⟨o80, hv150, h⟩ := hq_
       have J151 : ∀ (f139 : FM) (A145 : Option Addr) (c146 : Nat) (s147 : Seg) (out144 : List S_Row) (j143 : Nat → Value) (W141 : World) (a_ : Act), FM.le f44 f139 → some (out144) = some o80 → St t W141 f139 (s147 :: s69 :: [(b59, .cells #[.map (mb A48)] 85 (0, 0))] :: s50 :: [(b8, .cells #[.slice A2 c1.Commits.length c3] 34 (0, 0))] :: H) → Own ty_Row 65 f139 A145 c146 s147 out144 → a_ = ⟨#[.agg #[.slice A2 c1.Commits.length c3], iV version5, pV b8 0, uV, .slice none 0 0, iV 0, iV vt16, .map (mb A48), iV vt42, .slice A145 out144.length c146, uV, (j143 0), .agg #[.slice A2 c1.Commits.length c3], iV vt16, iV vt16, fV, uV, iV version5, fV, fV, iV version5, pV b8 0, .slice A2 c1.Commits.length c3, iV (c1.Commits.length : Int), fV, fV, .tuple #[.map (mb A48), iV vt42], .agg #[.slice A2 c1.Commits.length c3], iV version5, .tuple #[.map (mb A48), iV vt42], .map (mb A48), iV vt42, .map (mb A48), .func (.func 50) #[] #[pV b59 0], .slice A67 vt65.length c68, iV (vt65.length : Int), (j143 1), (j143 2), (j143 3), (j143 4), (j143 5), (j143 6), (j143 7), (j143 8), (j143 9), (j143 10), (j143 11), uV, uV], []⟩ → K55 a_ W141 := by
        intro f139 A145 c146 s147 out144 j143 W141 a_ L140 hj152 HS142 HO148 hfr_; subst hfr_
        injection hj152 with hj152; subst hj152; try dsimp only at h
        refine hK56 _ _ ?_
        refine wp_seq_k (fun K155 hK156 => ?_)
        refine wp_region_lit ?_
        obtain ⟨f157, L158, HS159, HR160⟩ := HO148.freeze HS142
        have hq_ := bind_some h; clear h; obtain ⟨vt161, hc162, h⟩ := hq_
        refine seqL1 (by kernel_rfl) ?_
        refine seqK rfl (does_call (f := 35) (args := #[.slice A145 out144.length c146]) (by kernel_rfl) (catalog_Copy.calls k A145 c146 out144 HS159 HR160 vt161 hc162) ?_)
        rintro _ W165 ⟨f163, A167, c168, s169, rfl, L164, HS166, HO170⟩
        refine ⟨_, rfl, ?_⟩
        refine seqL2 (by kernel_rfl) ?_
        refine wpList_nil ?_
        refine hK156 _ _ ?_
        refine wp_ret ?_
        refine hret _ _ ?_
        refine ends_still (v := Value.tuple #[.slice A167 vt161.length c168, .int .i64 0]) (by kernel_rfl) (by kernel_rfl) ?_
        have HS184 := HS166.u4
        have HS185 := HS184.u4
        have HS186 := HS185.u4
        have HS187 := HS186.u4
        have HS188 := HS187.drop
        have HS189 := HS188.drop
        have HS190 := HS189.drop
        have HS191 := HS190.drop
        injection h with h
        injection h with h0_ h
        subst h0_ h
        exact ⟨f163, A167, c168, s169, rfl, (L19.trans (L45.trans (L140.trans (L158.trans L164)))), HS191, HO170⟩
       clear h; have h := hv150; clear hv150
       have HS153 := HS71.cons_nil
       refine loopK (fun n_ a_ w_ => ∃ (f84 : FM) (A90 : Option Addr) (c91 : Nat) (s92 : Seg) (out89 : List S_Row) (x95 : Int) (j88 : Nat → Value), FM.le f44 f84 ∧ St t w_ f84 (s92 :: s69 :: [(b59, .cells #[.map (mb A48)] 85 (0, 0))] :: s50 :: [(b8, .cells #[.slice A2 c1.Commits.length c3] 34 (0, 0))] :: H) ∧ Own ty_Row 65 f84 A90 c91 s92 out89 ∧ catalog_At.l0 k vt65 vt41 n_ out89 x95 = some o80 ∧ a_ = ⟨#[.agg #[.slice A2 c1.Commits.length c3], iV version5, pV b8 0, uV, .slice none 0 0, iV 0, iV vt16, .map (mb A48), iV vt42, .slice A90 out89.length c91, uV, (j88 0), .agg #[.slice A2 c1.Commits.length c3], iV vt16, iV vt16, fV, uV, iV version5, fV, fV, iV version5, pV b8 0, .slice A2 c1.Commits.length c3, iV (c1.Commits.length : Int), fV, fV, .tuple #[.map (mb A48), iV vt42], .agg #[.slice A2 c1.Commits.length c3], iV version5, .tuple #[.map (mb A48), iV vt42], .map (mb A48), iV vt42, .map (mb A48), .func (.func 50) #[] #[pV b59 0], .slice A67 vt65.length c68, iV (vt65.length : Int), iV x95, (j88 1), (j88 2), (j88 3), (j88 4), (j88 5), (j88 6), (j88 7), (j88 8), (j88 9), (j88 10), uV, uV], []⟩) k ⟨f44, none, 0, [], ([] : List S_Row), 0, (fun i_ => [undef, undef, undef, undef, undef, undef, undef, undef, undef, undef, undef].getD i_ undef), (FM.le.refl _), HS153, (Own.nil _), h, (by kernel_rfl)⟩ ?_
       clear h
       rintro n83 _ W86 ⟨f84, A90, c91, s92, out89, x95, j88, L85, HS87, HO93, h, rfl⟩ K81 hK82
       obtain _ | n83 := n83
       · exact nomatch h
       simp only [catalog_At.l0] at h
       refine wp_seq_k (fun K96 hK97 => ?_)
       refine wp_region_lit ?_
       refine seqL1 (by kernel_rfl) ?_
       refine wpList_nil ?_
       refine hK97 _ _ ?_
       refine wp_seq_k (fun K98 hK99 => ?_)
       have hq_ := ite_some h; clear h; rcases hq_ with ⟨c101, h⟩ | ⟨c101, h⟩
       · have c101 : x95 < (vt65.length : Int) := c101
         refine wpRwI 37 (x := (decide (x95 < (vt65.length : Int)))) (v := true) (by kernel_rfl) (decide_eq_true c101) ?_
         refine condT (by kernel_rfl) ?_
         refine wp_skip ?_
         refine hK99 _ _ ?_
         refine wp_seq_k (fun K102 hK103 => ?_)
         refine blockK (fun B104 hx105 hn106 hr107 ho108 hp109 => ?_)
         refine wp_seq_k (fun K111 hK112 => ?_)
         refine wp_region_lit ?_
         have hq_ := guard_some h; clear h; obtain ⟨c113, h⟩ := hq_
         have c113 : 0 ≤ x95 := c113
         obtain ⟨b117, of118, cs114, hA119, hr115, hc116⟩ := (HO72.mono L85).at (i := x95) c113 c101
         obtain rfl := hr115
         refine seqK rfl (does_run (run_indexE hA119 (sz := 1) rfl Try.underlying22 (by kernel_rfl) (by kernel_rfl : _ = Value.slice A67 vt65.length c68) (by kernel_rfl : _ = Value.int .i64 x95) c113 c101 W86) ?_)
         refine seqK rfl (does_run (run_load rfl Try.underlying3 rfl (by kernel_rfl : _ = Value.pointer (some ⟨b117, of118 + (x95 : Int).toNat * 1, none⟩)) ((hc116 HS87.u1) 0 (by decide))) ?_)
         refine seqL1 (by kernel_rfl) ?_
         refine wpList_nil ?_
         refine hK112 _ _ ?_
         refine wp_region_lit ?_
         obtain ⟨cs120, hr121, hl122⟩ := (HO51.mono L85).look (z := zero_Row) (zc := #[Value.int .i64 0, Value.int .i64 0, Value.int .i64 0, Value.bool false, Value.int .i64 0, Value.int .i64 0, Value.bool false, Value.int .i64 0, Value.int .i64 0, Value.bool false, Value.int .i64 0, Value.int .i64 0, Value.bool false, Value.int .i64 0, Value.int .i64 0, Value.bool false, Value.slice none 0 0, Value.int .i64 0]) (rd vt65 x95) ⟨none, 0, rfl, SlR.nil _ _⟩
         obtain ⟨A123, c123, rfl, HR123⟩ := hr121
         refine seqL3 (by kernel_rfl) ?_
         refine seqK rfl (does_run (hl122 (ok := false) rfl Try.underlying85 Try.underlying3 (by kernel_rfl) (by kernel_rfl : _ = Value.map (mb A48)) (by kernel_rfl : _ = Value.int .i64 (rd vt65 x95)) HS87.u3) ?_)
         refine seqK rfl (does_lit (e := ty_Row) (E := 65) (vs := #[(0, Value.agg #[.int .i64 ((mget zero_Row vt41 (rd vt65 x95)).ID), .int .i64 ((((mget zero_Row vt41 (rd vt65 x95)).Box).X).Lo), .int .i64 ((((mget zero_Row vt41 (rd vt65 x95)).Box).X).Hi), .bool ((((mget zero_Row vt41 (rd vt65 x95)).Box).X).Unknown), .int .i64 ((((mget zero_Row vt41 (rd vt65 x95)).Box).Y).Lo), .int .i64 ((((mget zero_Row vt41 (rd vt65 x95)).Box).Y).Hi), .bool ((((mget zero_Row vt41 (rd vt65 x95)).Box).Y).Unknown), .int .i64 ((((mget zero_Row vt41 (rd vt65 x95)).Box).Z).Lo), .int .i64 ((((mget zero_Row vt41 (rd vt65 x95)).Box).Z).Hi), .bool ((((mget zero_Row vt41 (rd vt65 x95)).Box).Z).Unknown), .int .i64 (((mget zero_Row vt41 (rd vt65 x95)).Flux).Lo), .int .i64 (((mget zero_Row vt41 (rd vt65 x95)).Flux).Hi), .bool (((mget zero_Row vt41 (rd vt65 x95)).Flux).Unknown), .int .i64 (((mget zero_Row vt41 (rd vt65 x95)).When).Lo), .int .i64 (((mget zero_Row vt41 (rd vt65 x95)).When).Hi), .bool (((mget zero_Row vt41 (rd vt65 x95)).When).Unknown), .slice A123 ((mget zero_Row vt41 (rd vt65 x95)).Frames).length c123, .int .i64 ((mget zero_Row vt41 (rd vt65 x95)).Marks)])]) (cs := #[.int .i64 ((mget zero_Row vt41 (rd vt65 x95)).ID), .int .i64 ((((mget zero_Row vt41 (rd vt65 x95)).Box).X).Lo), .int .i64 ((((mget zero_Row vt41 (rd vt65 x95)).Box).X).Hi), .bool ((((mget zero_Row vt41 (rd vt65 x95)).Box).X).Unknown), .int .i64 ((((mget zero_Row vt41 (rd vt65 x95)).Box).Y).Lo), .int .i64 ((((mget zero_Row vt41 (rd vt65 x95)).Box).Y).Hi), .bool ((((mget zero_Row vt41 (rd vt65 x95)).Box).Y).Unknown), .int .i64 ((((mget zero_Row vt41 (rd vt65 x95)).Box).Z).Lo), .int .i64 ((((mget zero_Row vt41 (rd vt65 x95)).Box).Z).Hi), .bool ((((mget zero_Row vt41 (rd vt65 x95)).Box).Z).Unknown), .int .i64 (((mget zero_Row vt41 (rd vt65 x95)).Flux).Lo), .int .i64 (((mget zero_Row vt41 (rd vt65 x95)).Flux).Hi), .bool (((mget zero_Row vt41 (rd vt65 x95)).Flux).Unknown), .int .i64 (((mget zero_Row vt41 (rd vt65 x95)).When).Lo), .int .i64 (((mget zero_Row vt41 (rd vt65 x95)).When).Hi), .bool (((mget zero_Row vt41 (rd vt65 x95)).When).Unknown), .slice A123 ((mget zero_Row vt41 (rd vt65 x95)).Frames).length c123, .int .i64 ((mget zero_Row vt41 (rd vt65 x95)).Marks)]) (xs := ([(mget zero_Row vt41 (rd vt65 x95))] : List S_Row)) rfl Try.underlying26 (by kernel_rfl) (by kernel_rfl) ⟨[.int .i64 ((mget zero_Row vt41 (rd vt65 x95)).ID), .int .i64 ((((mget zero_Row vt41 (rd vt65 x95)).Box).X).Lo), .int .i64 ((((mget zero_Row vt41 (rd vt65 x95)).Box).X).Hi), .bool ((((mget zero_Row vt41 (rd vt65 x95)).Box).X).Unknown), .int .i64 ((((mget zero_Row vt41 (rd vt65 x95)).Box).Y).Lo), .int .i64 ((((mget zero_Row vt41 (rd vt65 x95)).Box).Y).Hi), .bool ((((mget zero_Row vt41 (rd vt65 x95)).Box).Y).Unknown), .int .i64 ((((mget zero_Row vt41 (rd vt65 x95)).Box).Z).Lo), .int .i64 ((((mget zero_Row vt41 (rd vt65 x95)).Box).Z).Hi), .bool ((((mget zero_Row vt41 (rd vt65 x95)).Box).Z).Unknown), .int .i64 (((mget zero_Row vt41 (rd vt65 x95)).Flux).Lo), .int .i64 (((mget zero_Row vt41 (rd vt65 x95)).Flux).Hi), .bool (((mget zero_Row vt41 (rd vt65 x95)).Flux).Unknown), .int .i64 (((mget zero_Row vt41 (rd vt65 x95)).When).Lo), .int .i64 (((mget zero_Row vt41 (rd vt65 x95)).When).Hi), .bool (((mget zero_Row vt41 (rd vt65 x95)).When).Unknown), .slice A123 ((mget zero_Row vt41 (rd vt65 x95)).Frames).length c123, .int .i64 ((mget zero_Row vt41 (rd vt65 x95)).Marks)], _, rfl, ⟨A123, c123, rfl, HR123⟩, rfl⟩ rfl HS87 ?_ (by decide))
         intro b124 W125 s126 HS127 _ HO128
         have hq_ := guard_some h; clear h; obtain ⟨c130, h⟩ := hq_
         have c130 : (out89.length + 1) * 160 ≤ 140737488355328 := c130
         have HS131 := HS127.u1
         have HS132 := HS131.u1
         refine seqK rfl (does_append1 (e := ty_Row) (E := 65) (xs := out89) (ys := ([(mget zero_Row vt41 (rd vt65 x95))] : List S_Row)) rfl (by kernel_rfl : _ = Value.slice A90 out89.length c91) (by kernel_rfl : _ = Value.slice (some ⟨b124, 0, none⟩) ([(mget zero_Row vt41 (rd vt65 x95))] : List S_Row).length 1) Try.underlying26 inf65 HO93 HO128 HS132 c130 (lim63 c130 (by decide)) ?_)
         intro A133 c134 s135 W136 HS137 HO138
         refine seqL1 (by kernel_rfl) ?_
         refine wpList_nil ?_
         refine hn106 _ _ ?_
         refine hK103 _ _ ?_
         refine wp_region_lit ?_
         refine seqL2 (by kernel_rfl) ?_
         refine wpList_nil ?_
         refine hK82 n83 _ _ (Nat.lt_succ_self _) ?_
         exact ⟨f84, A133, c134, s135, (out89 ++ ([(mget zero_Row vt41 (rd vt65 x95))] : List S_Row)), (w64 (x95 + 1)), (fun i_ => [Value.int .i64 (rd vt65 x95), Value.bool true, Value.pointer (some ⟨b117, of118 + (x95 : Int).toNat * 1, none⟩), Value.int .i64 (rd vt65 x95), Value.slice A90 out89.length c91, Value.map (mb A48), Value.int .i64 (rd vt65 x95), (ag_Row (mget zero_Row vt41 (rd vt65 x95)) A123 c123), Value.slice (some ⟨b124, 0, none⟩) ([(mget zero_Row vt41 (rd vt65 x95))] : List S_Row).length 1, Value.slice A133 (out89 ++ ([(mget zero_Row vt41 (rd vt65 x95))] : List S_Row)).length c134, Value.int .i64 (w64 (x95 + 1))].getD i_ undef), L85, HS137, HO138, h, (by kernel_rfl)⟩
       · have c101 : ¬ (x95 < (vt65.length : Int)) := c101
         refine wpRwI 37 (x := (decide (x95 < (vt65.length : Int)))) (v := false) (by kernel_rfl) (decide_eq_false c101) ?_
         refine condF (by kernel_rfl) ?_
         refine wp_exit ?_
         refine hx75 _ _ ?_
         exact J151 f84 A90 c91 s92 out89 (fun i_ => [(j88 0), Value.int .i64 x95, Value.bool false, (j88 2), (j88 3), (j88 4), (j88 5), (j88 6), (j88 7), (j88 8), (j88 9), (j88 10)].getD i_ undef) W86 _ L85 h HS87 HO93 (by kernel_rfl)

set_option maxRecDepth 100000 in
set_option maxHeartbeats 4000000 in
theorem spykeep3_listed.calls (k : Nat)   {t w : World} {f : FM} {H : List Seg} (HS : St t w f (H)) (rr1 : Bool) (h : spykeep3_listed k = some rr1) :
    Calls Try.prog 11 #[] w (fun e w' => ∃ (g : FM), e = .returned (Value.bool rr1) ∧ FM.le f g ∧ St t w' g (H)) := by
 unfold spykeep3_listed at h
 refine enter Try.func11 rfl (tm := #[uV, uV, uV, uV, uV, uV, uV, uV, uV, uV, uV, uV, uV, uV, uV, uV, uV, uV, uV, uV, uV, uV, uV, uV, uV, uV, uV, uV, uV, uV, uV, uV, uV, uV, uV, uV, uV, uV, uV, uV, uV, uV, uV]) (by kernel_rfl) ?_
 intro B hret hnor hnp
 refine wp_seq_k (fun K1 hK2 => ?_)
 refine wp_region_lit ?_
 refine seqL1 (by kernel_rfl) ?_
 refine wpList_nil ?_
 refine hK2 _ _ ?_
 refine wp_seq_k (fun K3 hK4 => ?_)
 refine wp_region_lit ?_
 have hq_ := bind_some h; clear h; obtain ⟨vt5, hc6, h⟩ := hq_
 refine seqL1 (by kernel_rfl) ?_
 refine seqK rfl (does_call (f := 36) (args := #[.int .i64 3]) (by kernel_rfl) (spykeep3_single.calls k 3 HS vt5 hc6) ?_)
 rintro _ W9 ⟨f7, A11, c12, s13, rfl, L8, HS10, HO14⟩
 refine ⟨_, rfl, ?_⟩
 obtain ⟨f16, L17, HS18, HR19⟩ := HO14.freeze HS10
 refine seqL1 (by kernel_rfl) ?_
 refine seqK rfl (does_lit (e := ty_Change) (E := 71) (vs := #[(0, Value.agg #[.int .i64 1, .int .i64 vt5.ID, .int .i64 vt5.Box.X.Lo, .int .i64 vt5.Box.X.Hi, .bool vt5.Box.X.Unknown, .int .i64 vt5.Box.Y.Lo, .int .i64 vt5.Box.Y.Hi, .bool vt5.Box.Y.Unknown, .int .i64 vt5.Box.Z.Lo, .int .i64 vt5.Box.Z.Hi, .bool vt5.Box.Z.Unknown, .int .i64 vt5.Flux.Lo, .int .i64 vt5.Flux.Hi, .bool vt5.Flux.Unknown, .int .i64 vt5.When.Lo, .int .i64 vt5.When.Hi, .bool vt5.When.Unknown, .slice A11 vt5.Frames.length c12, .int .i64 vt5.Marks])]) (cs := #[.int .i64 1, .int .i64 vt5.ID, .int .i64 vt5.Box.X.Lo, .int .i64 vt5.Box.X.Hi, .bool vt5.Box.X.Unknown, .int .i64 vt5.Box.Y.Lo, .int .i64 vt5.Box.Y.Hi, .bool vt5.Box.Y.Unknown, .int .i64 vt5.Box.Z.Lo, .int .i64 vt5.Box.Z.Hi, .bool vt5.Box.Z.Unknown, .int .i64 vt5.Flux.Lo, .int .i64 vt5.Flux.Hi, .bool vt5.Flux.Unknown, .int .i64 vt5.When.Lo, .int .i64 vt5.When.Hi, .bool vt5.When.Unknown, .slice A11 vt5.Frames.length c12, .int .i64 vt5.Marks]) (xs := ([(⟨1, vt5⟩ : S_Change)] : List S_Change)) rfl Try.underlying28 (by kernel_rfl) (by kernel_rfl) ⟨[.int .i64 1, .int .i64 vt5.ID, .int .i64 vt5.Box.X.Lo, .int .i64 vt5.Box.X.Hi, .bool vt5.Box.X.Unknown, .int .i64 vt5.Box.Y.Lo, .int .i64 vt5.Box.Y.Hi, .bool vt5.Box.Y.Unknown, .int .i64 vt5.Box.Z.Lo, .int .i64 vt5.Box.Z.Hi, .bool vt5.Box.Z.Unknown, .int .i64 vt5.Flux.Lo, .int .i64 vt5.Flux.Hi, .bool vt5.Flux.Unknown, .int .i64 vt5.When.Lo, .int .i64 vt5.When.Hi, .bool vt5.When.Unknown, .slice A11 vt5.Frames.length c12, .int .i64 vt5.Marks], _, rfl, ⟨A11, c12, rfl, HR19⟩, rfl⟩ rfl HS18 ?_ (by decide))
 intro b20 W21 s22 HS23 _ HO24
 obtain ⟨f26, L27, HS28, HR29⟩ := HO24.freeze HS23
 have hq_ := bind_some h; clear h; obtain ⟨⟨vt30, vt31, vt32⟩, hc33, h⟩ := hq_
 refine seqK rfl (does_call (f := 9) (args := #[.agg #[.slice none 0 0], .slice (some ⟨b20, 0, none⟩) ([(⟨1, vt5⟩ : S_Change)] : List S_Change).length 1]) (by kernel_rfl) (catalog_Commit.calls k none 0 (some ⟨b20, 0, none⟩) 1 (⟨([] : List (List S_Change))⟩ : S_Catalog) ([(⟨1, vt5⟩ : S_Change)] : List S_Change) HS28 (SlR.nil _ _) HR29 vt30 vt31 vt32 hc33) ?_)
 rintro _ W36 ⟨f34, A38, c39, s40, rfl, L35, HS37, HO41⟩
 refine ⟨_, rfl, ?_⟩
 refine seqL4 (by kernel_rfl) ?_
 refine seqK rfl (does_alloc (z := Value.agg #[.slice none 0 0]) (cs := #[.slice none 0 0]) rfl (by kernel_rfl) rfl HS37 ?_)
 intro b43 W44 HS45
 refine seqK rfl (does_store (n := 1) (vs := [.slice A38 vt30.Commits.length c39]) (cs' := #[.slice A38 vt30.Commits.length c39]) rfl (by kernel_rfl) (by kernel_rfl : _ = Value.pointer (some ⟨b43, 0, none⟩)) (by kernel_rfl : _ = Value.agg #[.slice A38 vt30.Commits.length c39]) rfl rfl (by intro u_ hu_; simp only [List.mem_cons, List.not_mem_nil, or_false] at hu_; subst hu_; rfl) HS45 (Nat.le_of_ble_eq_true rfl) (by kernel_rfl) ?_)
 intro W47 HS48
 refine seqL2 (by kernel_rfl) ?_
 refine wpList_nil ?_
 refine hK4 _ _ ?_
 refine wp_seq_k (fun K49 hK50 => ?_)
 refine wp_region_lit ?_
 refine seqK rfl (does_run (run_loadN (n := 1) rfl Try.underlying34 rfl (by kernel_rfl) (by kernel_rfl : _ = Value.pointer (some ⟨b43, 0, none⟩)) (cs := [.slice A38 vt30.Commits.length c39]) rfl (HS48.cells 0 1 _ rfl)) ?_)
 have HS51 := HS48.u1
 obtain ⟨f52, L53, HS54, HR55⟩ := HO41.freeze HS51
 have hq_ := bind_some h; clear h; obtain ⟨⟨vt56, vt57⟩, hc58, h⟩ := hq_
 refine seqL1 (by kernel_rfl) ?_
 refine seqK rfl (does_call (f := 10) (args := #[.agg #[.slice A38 vt30.Commits.length c39], .int .i64 vt31]) (by kernel_rfl) (catalog_At.calls k A38 c39 vt30 vt31 HS54 HR55 vt56 vt57 hc58) ?_)
 rintro _ W61 ⟨f59, A63, c64, s65, rfl, L60, HS62, HO66⟩
 refine ⟨_, rfl, ?_⟩
 refine seqS5 (a' := ⟨#[fV, pV b43 0, iV vt31, iV vt32, .slice A63 vt56.length c64, iV vt57, .tuple #[.agg #[.slice A38 vt30.Commits.length c39], iV vt31, iV vt32], .agg #[.slice none 0 0], (ag_Row vt5 A11 c12), .agg #[iV 1, iV vt5.ID, iV vt5.Box.X.Lo, iV vt5.Box.X.Hi, .bool vt5.Box.X.Unknown, iV vt5.Box.Y.Lo, iV vt5.Box.Y.Hi, .bool vt5.Box.Y.Unknown, iV vt5.Box.Z.Lo, iV vt5.Box.Z.Hi, .bool vt5.Box.Z.Unknown, iV vt5.Flux.Lo, iV vt5.Flux.Hi, .bool vt5.Flux.Unknown, iV vt5.When.Lo, iV vt5.When.Hi, .bool vt5.When.Unknown, .slice A11 vt5.Frames.length c12, iV vt5.Marks], .slice (some ⟨b20, 0, none⟩) ([(⟨1, vt5⟩ : S_Change)] : List S_Change).length 1, .tuple #[.agg #[.slice A38 vt30.Commits.length c39], iV vt31, iV vt32], .agg #[.slice A38 vt30.Commits.length c39], iV vt31, iV vt32, .tuple #[.slice A63 vt56.length c64, iV vt57], .agg #[.slice A38 vt30.Commits.length c39], iV vt31, .tuple #[.slice A63 vt56.length c64, iV vt57], .slice A63 vt56.length c64, iV vt57, uV, uV, uV, uV, uV, uV, uV, uV, uV, uV, uV, uV, uV, uV, uV, uV, uV, uV, uV, uV, uV, uV], []⟩) (by kernel_rfl) ?_
 refine wpList_nil ?_
 refine hK50 _ _ ?_
 refine wp_seq_k (fun K68 hK69 => ?_)
 refine heldG (S := Sg t f59 (s65 :: [(b43, .cells #[.slice A38 vt30.Commits.length c39] 34 (0, 0))] :: H) []) (n := 23) (by kernel_rfl) rfl HS62 ?_
 intro W70 HS71
 refine takeG [0, 1, 2] (n := 23) (fuel := 20) (l' := #[true, true, true, false, false, false, false, false, false, false, false, false, false, false, false, false, false, false, false, false, false, false, false]) (a' := ⟨#[fV, pV b43 0, iV vt31, iV vt32, .slice A63 vt56.length c64, iV vt57, .tuple #[.agg #[.slice A38 vt30.Commits.length c39], iV vt31, iV vt32], .agg #[.slice none 0 0], (ag_Row vt5 A11 c12), .agg #[iV 1, iV vt5.ID, iV vt5.Box.X.Lo, iV vt5.Box.X.Hi, .bool vt5.Box.X.Unknown, iV vt5.Box.Y.Lo, iV vt5.Box.Y.Hi, .bool vt5.Box.Y.Unknown, iV vt5.Box.Z.Lo, iV vt5.Box.Z.Hi, .bool vt5.Box.Z.Unknown, iV vt5.Flux.Lo, iV vt5.Flux.Hi, .bool vt5.Flux.Unknown, iV vt5.When.Lo, iV vt5.When.Hi, .bool vt5.When.Unknown, .slice A11 vt5.Frames.length c12, iV vt5.Marks], .slice (some ⟨b20, 0, none⟩) ([(⟨1, vt5⟩ : S_Change)] : List S_Change).length 1, .tuple #[.agg #[.slice A38 vt30.Commits.length c39], iV vt31, iV vt32], .agg #[.slice A38 vt30.Commits.length c39], iV vt31, iV vt32, .tuple #[.slice A63 vt56.length c64, iV vt57], .agg #[.slice A38 vt30.Commits.length c39], iV vt31, .tuple #[.slice A63 vt56.length c64, iV vt57], .slice A63 vt56.length c64, iV vt57, iV vt32, .bool (vt32 == 0), .bool (vt32 == 0), uV, uV, uV, uV, uV, uV, uV, uV, uV, uV, uV, uV, uV, uV, uV, uV, uV, uV, uV], []⟩) rfl (by kernel_rfl) (by kernel_rfl) (by kernel_rfl) hnp (Sg.g0 (Sx.of [] (FM.le.refl _) HS71)) ?_
 have hq_ := ite_some h; clear h; rcases hq_ with ⟨c72, h⟩ | ⟨c72, h⟩
 · have c72 : vt32 = 0 := c72
   refine gateRwI 22 (x := (vt32 == 0)) (v := true) (by kernel_rfl) (beq_iff_eq.mpr c72) ?_
   refine gateRwI 23 (x := (vt32 == 0)) (v := true) (by kernel_rfl) (beq_iff_eq.mpr c72) ?_
   refine takeG [3, 4, 5, 6] (n := 20) (fuel := 16) (l' := #[true, true, true, true, true, true, true, false, false, false, false, false, false, false, false, false, false, false, false, false, false, false, false]) (a' := ⟨#[fV, pV b43 0, iV vt31, iV vt32, .slice A63 vt56.length c64, iV vt57, .tuple #[.agg #[.slice A38 vt30.Commits.length c39], iV vt31, iV vt32], .agg #[.slice none 0 0], (ag_Row vt5 A11 c12), .agg #[iV 1, iV vt5.ID, iV vt5.Box.X.Lo, iV vt5.Box.X.Hi, .bool vt5.Box.X.Unknown, iV vt5.Box.Y.Lo, iV vt5.Box.Y.Hi, .bool vt5.Box.Y.Unknown, iV vt5.Box.Z.Lo, iV vt5.Box.Z.Hi, .bool vt5.Box.Z.Unknown, iV vt5.Flux.Lo, iV vt5.Flux.Hi, .bool vt5.Flux.Unknown, iV vt5.When.Lo, iV vt5.When.Hi, .bool vt5.When.Unknown, .slice A11 vt5.Frames.length c12, iV vt5.Marks], .slice (some ⟨b20, 0, none⟩) ([(⟨1, vt5⟩ : S_Change)] : List S_Change).length 1, .tuple #[.agg #[.slice A38 vt30.Commits.length c39], iV vt31, iV vt32], .agg #[.slice A38 vt30.Commits.length c39], iV vt31, iV vt32, .tuple #[.slice A63 vt56.length c64, iV vt57], .agg #[.slice A38 vt30.Commits.length c39], iV vt31, .tuple #[.slice A63 vt56.length c64, iV vt57], .slice A63 vt56.length c64, iV vt57, iV vt32, tV, tV, iV vt57, .bool (vt57 == 0), .bool (vt57 == 0), .bool (vt57 == 0), uV, uV, uV, uV, uV, uV, uV, uV, uV, uV, uV, uV, uV, uV, uV], []⟩) rfl (by kernel_rfl) (by kernel_rfl) (by kernel_rfl) hnp (Sg.g0 (Sx.of [] (FM.le.refl _) HS71)) ?_
   have hq_ := ite_some h; clear h; rcases hq_ with ⟨c73, h⟩ | ⟨c73, h⟩
   · have c73 : vt57 = 0 := c73
     refine gateRwI 25 (x := (vt57 == 0)) (v := true) (by kernel_rfl) (beq_iff_eq.mpr c73) ?_
     refine gateRwI 26 (x := (vt57 == 0)) (v := true) (by kernel_rfl) (beq_iff_eq.mpr c73) ?_
     refine gateRwI 27 (x := (vt57 == 0)) (v := true) (by kernel_rfl) (beq_iff_eq.mpr c73) ?_
     refine takeG [7, 8, 9, 10] (n := 16) (fuel := 12) (l' := #[true, true, true, true, true, true, true, true, true, true, true, false, false, false, false, false, false, false, false, false, false, false, false]) (a' := ⟨#[fV, pV b43 0, iV vt31, iV vt32, .slice A63 vt56.length c64, iV vt57, .tuple #[.agg #[.slice A38 vt30.Commits.length c39], iV vt31, iV vt32], .agg #[.slice none 0 0], (ag_Row vt5 A11 c12), .agg #[iV 1, iV vt5.ID, iV vt5.Box.X.Lo, iV vt5.Box.X.Hi, .bool vt5.Box.X.Unknown, iV vt5.Box.Y.Lo, iV vt5.Box.Y.Hi, .bool vt5.Box.Y.Unknown, iV vt5.Box.Z.Lo, iV vt5.Box.Z.Hi, .bool vt5.Box.Z.Unknown, iV vt5.Flux.Lo, iV vt5.Flux.Hi, .bool vt5.Flux.Unknown, iV vt5.When.Lo, iV vt5.When.Hi, .bool vt5.When.Unknown, .slice A11 vt5.Frames.length c12, iV vt5.Marks], .slice (some ⟨b20, 0, none⟩) ([(⟨1, vt5⟩ : S_Change)] : List S_Change).length 1, .tuple #[.agg #[.slice A38 vt30.Commits.length c39], iV vt31, iV vt32], .agg #[.slice A38 vt30.Commits.length c39], iV vt31, iV vt32, .tuple #[.slice A63 vt56.length c64, iV vt57], .agg #[.slice A38 vt30.Commits.length c39], iV vt31, .tuple #[.slice A63 vt56.length c64, iV vt57], .slice A63 vt56.length c64, iV vt57, iV vt32, tV, tV, iV vt57, tV, tV, tV, iV vt31, .bool (vt31 == 1), .bool (vt31 == 1), .bool (vt31 == 1), uV, uV, uV, uV, uV, uV, uV, uV, uV, uV, uV], []⟩) rfl (by kernel_rfl) (by kernel_rfl) (by kernel_rfl) hnp (Sg.g0 (Sx.of [] (FM.le.refl _) HS71)) ?_
     have hq_ := ite_some h; clear h; rcases hq_ with ⟨c74, h⟩ | ⟨c74, h⟩
     · have c74 : vt31 = 1 := c74
       refine gateRwI 29 (x := (vt31 == 1)) (v := true) (by kernel_rfl) (beq_iff_eq.mpr c74) ?_
       refine gateRwI 30 (x := (vt31 == 1)) (v := true) (by kernel_rfl) (beq_iff_eq.mpr c74) ?_
       refine gateRwI 31 (x := (vt31 == 1)) (v := true) (by kernel_rfl) (beq_iff_eq.mpr c74) ?_
       refine takeG [11, 12, 13, 14, 15] (n := 12) (fuel := 7) (l' := #[true, true, true, true, true, true, true, true, true, true, true, true, true, true, true, true, false, false, false, false, false, false, false]) (a' := ⟨#[fV, pV b43 0, iV vt31, iV vt32, .slice A63 vt56.length c64, iV vt57, .tuple #[.agg #[.slice A38 vt30.Commits.length c39], iV vt31, iV vt32], .agg #[.slice none 0 0], (ag_Row vt5 A11 c12), .agg #[iV 1, iV vt5.ID, iV vt5.Box.X.Lo, iV vt5.Box.X.Hi, .bool vt5.Box.X.Unknown, iV vt5.Box.Y.Lo, iV vt5.Box.Y.Hi, .bool vt5.Box.Y.Unknown, iV vt5.Box.Z.Lo, iV vt5.Box.Z.Hi, .bool vt5.Box.Z.Unknown, iV vt5.Flux.Lo, iV vt5.Flux.Hi, .bool vt5.Flux.Unknown, iV vt5.When.Lo, iV vt5.When.Hi, .bool vt5.When.Unknown, .slice A11 vt5.Frames.length c12, iV vt5.Marks], .slice (some ⟨b20, 0, none⟩) ([(⟨1, vt5⟩ : S_Change)] : List S_Change).length 1, .tuple #[.agg #[.slice A38 vt30.Commits.length c39], iV vt31, iV vt32], .agg #[.slice A38 vt30.Commits.length c39], iV vt31, iV vt32, .tuple #[.slice A63 vt56.length c64, iV vt57], .agg #[.slice A38 vt30.Commits.length c39], iV vt31, .tuple #[.slice A63 vt56.length c64, iV vt57], .slice A63 vt56.length c64, iV vt57, iV vt32, tV, tV, iV vt57, tV, tV, tV, iV vt31, tV, tV, tV, .slice A63 vt56.length c64, iV (vt56.length : Int), .bool ((vt56.length : Int) == 1), .bool ((vt56.length : Int) == 1), .bool ((vt56.length : Int) == 1), uV, uV, uV, uV, uV, uV], []⟩) rfl (by kernel_rfl) (by kernel_rfl) (by kernel_rfl) hnp (Sg.g0 (Sx.of [] (FM.le.refl _) HS71)) ?_
       have hq_ := ite_some h; clear h; rcases hq_ with ⟨c75, h⟩ | ⟨c75, h⟩
       · have c75 : (vt56.length : Int) = 1 := c75
         refine gateRwI 34 (x := ((vt56.length : Int) == 1)) (v := true) (by kernel_rfl) (beq_iff_eq.mpr c75) ?_
         refine gateRwI 35 (x := ((vt56.length : Int) == 1)) (v := true) (by kernel_rfl) (beq_iff_eq.mpr c75) ?_
         refine gateRwI 36 (x := ((vt56.length : Int) == 1)) (v := true) (by kernel_rfl) (beq_iff_eq.mpr c75) ?_
         have hq_ := guard_some h; clear h; obtain ⟨c76, h⟩ := hq_
         have c76 : 0 < (vt56.length : Int) := c76
         obtain ⟨b80, of81, cs77, hA82, hr78, hc79⟩ := HO66.at (i := 0) (by decide) c76
         obtain ⟨A83, c83, rfl, HR83⟩ := hr78
         refine takeG [16] (n := 7) (fuel := 6) (l' := #[true, true, true, true, true, true, true, true, true, true, true, true, true, true, true, true, true, false, false, false, false, false, false]) (a' := ⟨#[fV, pV b43 0, iV vt31, iV vt32, .slice A63 vt56.length c64, iV vt57, .tuple #[.agg #[.slice A38 vt30.Commits.length c39], iV vt31, iV vt32], .agg #[.slice none 0 0], (ag_Row vt5 A11 c12), .agg #[iV 1, iV vt5.ID, iV vt5.Box.X.Lo, iV vt5.Box.X.Hi, .bool vt5.Box.X.Unknown, iV vt5.Box.Y.Lo, iV vt5.Box.Y.Hi, .bool vt5.Box.Y.Unknown, iV vt5.Box.Z.Lo, iV vt5.Box.Z.Hi, .bool vt5.Box.Z.Unknown, iV vt5.Flux.Lo, iV vt5.Flux.Hi, .bool vt5.Flux.Unknown, iV vt5.When.Lo, iV vt5.When.Hi, .bool vt5.When.Unknown, .slice A11 vt5.Frames.length c12, iV vt5.Marks], .slice (some ⟨b20, 0, none⟩) ([(⟨1, vt5⟩ : S_Change)] : List S_Change).length 1, .tuple #[.agg #[.slice A38 vt30.Commits.length c39], iV vt31, iV vt32], .agg #[.slice A38 vt30.Commits.length c39], iV vt31, iV vt32, .tuple #[.slice A63 vt56.length c64, iV vt57], .agg #[.slice A38 vt30.Commits.length c39], iV vt31, .tuple #[.slice A63 vt56.length c64, iV vt57], .slice A63 vt56.length c64, iV vt57, iV vt32, tV, tV, iV vt57, tV, tV, tV, iV vt31, tV, tV, tV, .slice A63 vt56.length c64, iV (vt56.length : Int), tV, tV, tV, .slice A63 vt56.length c64, uV, uV, uV, uV, uV], []⟩) rfl (by kernel_rfl) (by kernel_rfl) (by kernel_rfl) hnp (Sg.g0 (Sx.of [] (FM.le.refl _) HS71)) ?_
         refine takeGQ 17 [] rfl (by kernel_rfl) (by kernel_rfl) (by kernel_rfl) (by kernel_rfl) (by kernel_rfl) (by kernel_rfl) hnp (Sg.g0 (Sx.of [] (FM.le.refl _) HS71)) (fun w_ hw_ => by obtain ⟨g_, hl_, hS_⟩ := hw_.st; exact run_indexE hA82 (sz := 18) rfl Try.underlying26 (by kernel_rfl) (by kernel_rfl : _ = Value.slice A63 vt56.length c64) (by kernel_rfl : _ = Value.int .i64 0) (by decide) c76 w_) ?_
         refine takeGQ 18 [] rfl (by kernel_rfl) (by kernel_rfl) (by kernel_rfl) (by kernel_rfl) (by kernel_rfl) (by kernel_rfl) hnp (Sg.g0 (Sx.of [] (FM.le.refl _) HS71)) (fun w_ hw_ => by obtain ⟨g_, hl_, hS_⟩ := hw_.st; exact run_loadN (n := 18) rfl Try.underlying65 rfl (by kernel_rfl) (by kernel_rfl : _ = Value.pointer (some ⟨b80, of81 + (0 : Int).toNat * 18, none⟩)) (cs := [.int .i64 ((rd vt56 0).ID), .int .i64 ((((rd vt56 0).Box).X).Lo), .int .i64 ((((rd vt56 0).Box).X).Hi), .bool ((((rd vt56 0).Box).X).Unknown), .int .i64 ((((rd vt56 0).Box).Y).Lo), .int .i64 ((((rd vt56 0).Box).Y).Hi), .bool ((((rd vt56 0).Box).Y).Unknown), .int .i64 ((((rd vt56 0).Box).Z).Lo), .int .i64 ((((rd vt56 0).Box).Z).Hi), .bool ((((rd vt56 0).Box).Z).Unknown), .int .i64 (((rd vt56 0).Flux).Lo), .int .i64 (((rd vt56 0).Flux).Hi), .bool (((rd vt56 0).Flux).Unknown), .int .i64 (((rd vt56 0).When).Lo), .int .i64 (((rd vt56 0).When).Hi), .bool (((rd vt56 0).When).Unknown), .slice A83 ((rd vt56 0).Frames).length c83, .int .i64 ((rd vt56 0).Marks)]) rfl (fun j_ hj_ => ((hc79 hS_) j_ hj_))) ?_
         have hq_ := bind_some h; clear h; obtain ⟨vt84, hc85, h⟩ := hq_
         refine takeGE 19 (by kernel_rfl) rfl (by kernel_rfl) (does_call (f := 36) (args := #[.int .i64 3]) (by kernel_rfl) (spykeep3_single.calls k 3 HS71 vt84 hc85) ?_)
         rintro _ W88 ⟨f86, A90, c91, s92, rfl, L87, HS89, HO93⟩
         refine ⟨_, rfl, ?_⟩
         refine ⟨(Sg.g0 (Sx.of [s92] L87 HS89)), ?_⟩
         obtain ⟨f95, L96, HS97, HR98, th99⟩ := HO93.lend HS89
         have hq_ := bind_some h; clear h; obtain ⟨vt100, hc101, h⟩ := hq_
         refine takeGE 20 (by kernel_rfl) rfl (by kernel_rfl) (does_call (f := 21) (args := #[.agg #[.int .i64 ((rd vt56 0).ID), .int .i64 ((((rd vt56 0).Box).X).Lo), .int .i64 ((((rd vt56 0).Box).X).Hi), .bool ((((rd vt56 0).Box).X).Unknown), .int .i64 ((((rd vt56 0).Box).Y).Lo), .int .i64 ((((rd vt56 0).Box).Y).Hi), .bool ((((rd vt56 0).Box).Y).Unknown), .int .i64 ((((rd vt56 0).Box).Z).Lo), .int .i64 ((((rd vt56 0).Box).Z).Hi), .bool ((((rd vt56 0).Box).Z).Unknown), .int .i64 (((rd vt56 0).Flux).Lo), .int .i64 (((rd vt56 0).Flux).Hi), .bool (((rd vt56 0).Flux).Unknown), .int .i64 (((rd vt56 0).When).Lo), .int .i64 (((rd vt56 0).When).Hi), .bool (((rd vt56 0).When).Unknown), .slice A83 ((rd vt56 0).Frames).length c83, .int .i64 ((rd vt56 0).Marks)], .agg #[.int .i64 vt84.ID, .int .i64 vt84.Box.X.Lo, .int .i64 vt84.Box.X.Hi, .bool vt84.Box.X.Unknown, .int .i64 vt84.Box.Y.Lo, .int .i64 vt84.Box.Y.Hi, .bool vt84.Box.Y.Unknown, .int .i64 vt84.Box.Z.Lo, .int .i64 vt84.Box.Z.Hi, .bool vt84.Box.Z.Unknown, .int .i64 vt84.Flux.Lo, .int .i64 vt84.Flux.Hi, .bool vt84.Flux.Unknown, .int .i64 vt84.When.Lo, .int .i64 vt84.When.Hi, .bool vt84.When.Unknown, .slice A90 vt84.Frames.length c91, .int .i64 vt84.Marks]]) (by kernel_rfl) (catalog_Same.calls k A83 c83 A90 c91 (rd vt56 0) vt84 HS97 (HR83.mono (L87.trans L96)) HR98 vt100 hc101) ?_)
         rintro _ W104 ⟨f102, rfl, L103, HS105⟩
         refine ⟨_, rfl, ?_⟩
         obtain ⟨f106, L107, HS108⟩ := th99 L103 HS105
         refine ⟨(Sg.g0 (Sx.of [s92] (L87.trans L107) HS108)), ?_⟩
         refine takeG [21, 22] (n := 2) (fuel := 0) (l' := #[true, true, true, true, true, true, true, true, true, true, true, true, true, true, true, true, true, true, true, true, true, true, true]) (a' := ⟨#[.bool vt100, pV b43 0, iV vt31, iV vt32, .slice A63 vt56.length c64, iV vt57, .tuple #[.agg #[.slice A38 vt30.Commits.length c39], iV vt31, iV vt32], .agg #[.slice none 0 0], (ag_Row vt5 A11 c12), .agg #[iV 1, iV vt5.ID, iV vt5.Box.X.Lo, iV vt5.Box.X.Hi, .bool vt5.Box.X.Unknown, iV vt5.Box.Y.Lo, iV vt5.Box.Y.Hi, .bool vt5.Box.Y.Unknown, iV vt5.Box.Z.Lo, iV vt5.Box.Z.Hi, .bool vt5.Box.Z.Unknown, iV vt5.Flux.Lo, iV vt5.Flux.Hi, .bool vt5.Flux.Unknown, iV vt5.When.Lo, iV vt5.When.Hi, .bool vt5.When.Unknown, .slice A11 vt5.Frames.length c12, iV vt5.Marks], .slice (some ⟨b20, 0, none⟩) ([(⟨1, vt5⟩ : S_Change)] : List S_Change).length 1, .tuple #[.agg #[.slice A38 vt30.Commits.length c39], iV vt31, iV vt32], .agg #[.slice A38 vt30.Commits.length c39], iV vt31, iV vt32, .tuple #[.slice A63 vt56.length c64, iV vt57], .agg #[.slice A38 vt30.Commits.length c39], iV vt31, .tuple #[.slice A63 vt56.length c64, iV vt57], .slice A63 vt56.length c64, iV vt57, iV vt32, tV, tV, iV vt57, tV, tV, tV, iV vt31, tV, tV, tV, .slice A63 vt56.length c64, iV (vt56.length : Int), tV, tV, tV, .slice A63 vt56.length c64, pV b80 (of81 + (0 : Int).toNat * 18), (ag_Row (rd vt56 0) A83 c83), (ag_Row vt84 A90 c91), .bool vt100, .bool vt100], []⟩) rfl (by kernel_rfl) (by kernel_rfl) (by kernel_rfl) hnp (Sg.g0 (Sx.of [s92] (L87.trans L107) HS108)) ?_
         refine doneG (by kernel_rfl) ?_ _
         refine hK69 _ _ ?_
         refine wp_ret ?_
         refine hret _ _ ?_
         refine ends_still (v := Value.bool vt100) (by kernel_rfl) (by kernel_rfl) ?_
         have HS109 := HS108.drop
         have HS110 := HS109.drop
         have HS111 := HS110.drop
         injection h with h
         subst h
         exact ⟨f106, rfl, (L8.trans (L17.trans (L27.trans (L35.trans (L53.trans (L60.trans (L87.trans L107))))))), HS111⟩
       · have c75 : ¬ ((vt56.length : Int) = 1) := c75
         refine gateRwI 34 (x := ((vt56.length : Int) == 1)) (v := false) (by kernel_rfl) (beq_eq_false_iff_ne.mpr c75) ?_
         refine gateRwI 35 (x := ((vt56.length : Int) == 1)) (v := false) (by kernel_rfl) (beq_eq_false_iff_ne.mpr c75) ?_
         refine gateRwI 36 (x := ((vt56.length : Int) == 1)) (v := false) (by kernel_rfl) (beq_eq_false_iff_ne.mpr c75) ?_
         refine takeG [16, 17, 18, 19, 20, 21, 22] (n := 7) (fuel := 0) (l' := #[true, true, true, true, true, true, true, true, true, true, true, true, true, true, true, true, true, true, true, true, true, true, true]) (a' := ⟨#[fV, pV b43 0, iV vt31, iV vt32, .slice A63 vt56.length c64, iV vt57, .tuple #[.agg #[.slice A38 vt30.Commits.length c39], iV vt31, iV vt32], .agg #[.slice none 0 0], (ag_Row vt5 A11 c12), .agg #[iV 1, iV vt5.ID, iV vt5.Box.X.Lo, iV vt5.Box.X.Hi, .bool vt5.Box.X.Unknown, iV vt5.Box.Y.Lo, iV vt5.Box.Y.Hi, .bool vt5.Box.Y.Unknown, iV vt5.Box.Z.Lo, iV vt5.Box.Z.Hi, .bool vt5.Box.Z.Unknown, iV vt5.Flux.Lo, iV vt5.Flux.Hi, .bool vt5.Flux.Unknown, iV vt5.When.Lo, iV vt5.When.Hi, .bool vt5.When.Unknown, .slice A11 vt5.Frames.length c12, iV vt5.Marks], .slice (some ⟨b20, 0, none⟩) ([(⟨1, vt5⟩ : S_Change)] : List S_Change).length 1, .tuple #[.agg #[.slice A38 vt30.Commits.length c39], iV vt31, iV vt32], .agg #[.slice A38 vt30.Commits.length c39], iV vt31, iV vt32, .tuple #[.slice A63 vt56.length c64, iV vt57], .agg #[.slice A38 vt30.Commits.length c39], iV vt31, .tuple #[.slice A63 vt56.length c64, iV vt57], .slice A63 vt56.length c64, iV vt57, iV vt32, tV, tV, iV vt57, tV, tV, tV, iV vt31, tV, tV, tV, .slice A63 vt56.length c64, iV (vt56.length : Int), fV, fV, fV, uV, uV, uV, uV, uV, fV], []⟩) rfl (by kernel_rfl) (by kernel_rfl) (by kernel_rfl) hnp (Sg.g0 (Sx.of [] (FM.le.refl _) HS71)) ?_
         refine doneG (by kernel_rfl) ?_ _
         refine hK69 _ _ ?_
         refine wp_ret ?_
         refine hret _ _ ?_
         refine ends_still (v := Value.bool false) (by kernel_rfl) (by kernel_rfl) ?_
         have HS112 := HS71.drop
         have HS113 := HS112.drop
         injection h with h
         subst h
         exact ⟨f59, rfl, (L8.trans (L17.trans (L27.trans (L35.trans (L53.trans L60))))), HS113⟩
     · have c74 : ¬ (vt31 = 1) := c74
       refine gateRwI 29 (x := (vt31 == 1)) (v := false) (by kernel_rfl) (beq_eq_false_iff_ne.mpr c74) ?_
       refine gateRwI 30 (x := (vt31 == 1)) (v := false) (by kernel_rfl) (beq_eq_false_iff_ne.mpr c74) ?_
       refine gateRwI 31 (x := (vt31 == 1)) (v := false) (by kernel_rfl) (beq_eq_false_iff_ne.mpr c74) ?_
       refine takeG [11, 12, 13, 14, 15, 16, 17, 18, 19, 20, 21, 22] (n := 12) (fuel := 0) (l' := #[true, true, true, true, true, true, true, true, true, true, true, true, true, true, true, true, true, true, true, true, true, true, true]) (a' := ⟨#[fV, pV b43 0, iV vt31, iV vt32, .slice A63 vt56.length c64, iV vt57, .tuple #[.agg #[.slice A38 vt30.Commits.length c39], iV vt31, iV vt32], .agg #[.slice none 0 0], (ag_Row vt5 A11 c12), .agg #[iV 1, iV vt5.ID, iV vt5.Box.X.Lo, iV vt5.Box.X.Hi, .bool vt5.Box.X.Unknown, iV vt5.Box.Y.Lo, iV vt5.Box.Y.Hi, .bool vt5.Box.Y.Unknown, iV vt5.Box.Z.Lo, iV vt5.Box.Z.Hi, .bool vt5.Box.Z.Unknown, iV vt5.Flux.Lo, iV vt5.Flux.Hi, .bool vt5.Flux.Unknown, iV vt5.When.Lo, iV vt5.When.Hi, .bool vt5.When.Unknown, .slice A11 vt5.Frames.length c12, iV vt5.Marks], .slice (some ⟨b20, 0, none⟩) ([(⟨1, vt5⟩ : S_Change)] : List S_Change).length 1, .tuple #[.agg #[.slice A38 vt30.Commits.length c39], iV vt31, iV vt32], .agg #[.slice A38 vt30.Commits.length c39], iV vt31, iV vt32, .tuple #[.slice A63 vt56.length c64, iV vt57], .agg #[.slice A38 vt30.Commits.length c39], iV vt31, .tuple #[.slice A63 vt56.length c64, iV vt57], .slice A63 vt56.length c64, iV vt57, iV vt32, tV, tV, iV vt57, tV, tV, tV, iV vt31, fV, fV, fV, uV, uV, uV, fV, fV, uV, uV, uV, uV, uV, fV], []⟩) rfl (by kernel_rfl) (by kernel_rfl) (by kernel_rfl) hnp (Sg.g0 (Sx.of [] (FM.le.refl _) HS71)) ?_
       refine doneG (by kernel_rfl) ?_ _
       refine hK69 _ _ ?_
       refine wp_ret ?_
       refine hret _ _ ?_
       refine ends_still (v := Value.bool false) (by kernel_rfl) (by kernel_rfl) ?_
       have HS114 := HS71.drop
       have HS115 := HS114.drop
       injection h with h
       subst h
       exact ⟨f59, rfl, (L8.trans (L17.trans (L27.trans (L35.trans (L53.trans L60))))), HS115⟩
   · have c73 : ¬ (vt57 = 0) := c73
     refine gateRwI 25 (x := (vt57 == 0)) (v := false) (by kernel_rfl) (beq_eq_false_iff_ne.mpr c73) ?_
     refine gateRwI 26 (x := (vt57 == 0)) (v := false) (by kernel_rfl) (beq_eq_false_iff_ne.mpr c73) ?_
     refine gateRwI 27 (x := (vt57 == 0)) (v := false) (by kernel_rfl) (beq_eq_false_iff_ne.mpr c73) ?_
     refine takeG [7, 8, 9, 10, 11, 12, 13, 14, 15, 16, 17, 18, 19, 20, 21, 22] (n := 16) (fuel := 0) (l' := #[true, true, true, true, true, true, true, true, true, true, true, true, true, true, true, true, true, true, true, true, true, true, true]) (a' := ⟨#[fV, pV b43 0, iV vt31, iV vt32, .slice A63 vt56.length c64, iV vt57, .tuple #[.agg #[.slice A38 vt30.Commits.length c39], iV vt31, iV vt32], .agg #[.slice none 0 0], (ag_Row vt5 A11 c12), .agg #[iV 1, iV vt5.ID, iV vt5.Box.X.Lo, iV vt5.Box.X.Hi, .bool vt5.Box.X.Unknown, iV vt5.Box.Y.Lo, iV vt5.Box.Y.Hi, .bool vt5.Box.Y.Unknown, iV vt5.Box.Z.Lo, iV vt5.Box.Z.Hi, .bool vt5.Box.Z.Unknown, iV vt5.Flux.Lo, iV vt5.Flux.Hi, .bool vt5.Flux.Unknown, iV vt5.When.Lo, iV vt5.When.Hi, .bool vt5.When.Unknown, .slice A11 vt5.Frames.length c12, iV vt5.Marks], .slice (some ⟨b20, 0, none⟩) ([(⟨1, vt5⟩ : S_Change)] : List S_Change).length 1, .tuple #[.agg #[.slice A38 vt30.Commits.length c39], iV vt31, iV vt32], .agg #[.slice A38 vt30.Commits.length c39], iV vt31, iV vt32, .tuple #[.slice A63 vt56.length c64, iV vt57], .agg #[.slice A38 vt30.Commits.length c39], iV vt31, .tuple #[.slice A63 vt56.length c64, iV vt57], .slice A63 vt56.length c64, iV vt57, iV vt32, tV, tV, iV vt57, fV, fV, fV, uV, uV, fV, fV, uV, uV, uV, fV, fV, uV, uV, uV, uV, uV, fV], []⟩) rfl (by kernel_rfl) (by kernel_rfl) (by kernel_rfl) hnp (Sg.g0 (Sx.of [] (FM.le.refl _) HS71)) ?_
     refine doneG (by kernel_rfl) ?_ _
     refine hK69 _ _ ?_
     refine wp_ret ?_
     refine hret _ _ ?_
     refine ends_still (v := Value.bool false) (by kernel_rfl) (by kernel_rfl) ?_
     have HS116 := HS71.drop
     have HS117 := HS116.drop
     injection h with h
     subst h
     exact ⟨f59, rfl, (L8.trans (L17.trans (L27.trans (L35.trans (L53.trans L60))))), HS117⟩
 · have c72 : ¬ (vt32 = 0) := c72
   refine gateRwI 22 (x := (vt32 == 0)) (v := false) (by kernel_rfl) (beq_eq_false_iff_ne.mpr c72) ?_
   refine gateRwI 23 (x := (vt32 == 0)) (v := false) (by kernel_rfl) (beq_eq_false_iff_ne.mpr c72) ?_
   refine takeG [3, 4, 5, 6, 7, 8, 9, 10, 11, 12, 13, 14, 15, 16, 17, 18, 19, 20, 21, 22] (n := 20) (fuel := 0) (l' := #[true, true, true, true, true, true, true, true, true, true, true, true, true, true, true, true, true, true, true, true, true, true, true]) (a' := ⟨#[fV, pV b43 0, iV vt31, iV vt32, .slice A63 vt56.length c64, iV vt57, .tuple #[.agg #[.slice A38 vt30.Commits.length c39], iV vt31, iV vt32], .agg #[.slice none 0 0], (ag_Row vt5 A11 c12), .agg #[iV 1, iV vt5.ID, iV vt5.Box.X.Lo, iV vt5.Box.X.Hi, .bool vt5.Box.X.Unknown, iV vt5.Box.Y.Lo, iV vt5.Box.Y.Hi, .bool vt5.Box.Y.Unknown, iV vt5.Box.Z.Lo, iV vt5.Box.Z.Hi, .bool vt5.Box.Z.Unknown, iV vt5.Flux.Lo, iV vt5.Flux.Hi, .bool vt5.Flux.Unknown, iV vt5.When.Lo, iV vt5.When.Hi, .bool vt5.When.Unknown, .slice A11 vt5.Frames.length c12, iV vt5.Marks], .slice (some ⟨b20, 0, none⟩) ([(⟨1, vt5⟩ : S_Change)] : List S_Change).length 1, .tuple #[.agg #[.slice A38 vt30.Commits.length c39], iV vt31, iV vt32], .agg #[.slice A38 vt30.Commits.length c39], iV vt31, iV vt32, .tuple #[.slice A63 vt56.length c64, iV vt57], .agg #[.slice A38 vt30.Commits.length c39], iV vt31, .tuple #[.slice A63 vt56.length c64, iV vt57], .slice A63 vt56.length c64, iV vt57, iV vt32, fV, fV, uV, uV, fV, fV, uV, uV, fV, fV, uV, uV, uV, fV, fV, uV, uV, uV, uV, uV, fV], []⟩) rfl (by kernel_rfl) (by kernel_rfl) (by kernel_rfl) hnp (Sg.g0 (Sx.of [] (FM.le.refl _) HS71)) ?_
   refine doneG (by kernel_rfl) ?_ _
   refine hK69 _ _ ?_
   refine wp_ret ?_
   refine hret _ _ ?_
   refine ends_still (v := Value.bool false) (by kernel_rfl) (by kernel_rfl) ?_
   have HS118 := HS71.drop
   have HS119 := HS118.drop
   injection h with h
   subst h
   exact ⟨f59, rfl, (L8.trans (L17.trans (L27.trans (L35.trans (L53.trans L60))))), HS119⟩

set_option maxRecDepth 100000 in
set_option maxHeartbeats 4000000 in
theorem slices_EqualFunc_Row__catalog_Same.calls (k : Nat) (A2 : Option Addr) (c3 : Nat) (A6 : Option Addr) (c7 : Nat) (s11 : List S_Row) (s25 : List S_Row) {t w : World} {f : FM} {H : List Seg} (HS : St t w f (H)) (HR4 : SlR ty_Row f A2 c3 s11) (HR8 : SlR ty_Row f A6 c7 s25) (rr1 : Bool) (h : slices_EqualFunc_Row__catalog_Same k s11 s25 = some rr1) :
    Calls Try.prog 37 #[.slice A2 s11.length c3, .slice A6 s25.length c7, .func (.func 21) #[] #[]] w (fun e w' => ∃ (g : FM), e = .returned (Value.bool rr1) ∧ FM.le f g ∧ St t w' g (H)) := by
 unfold slices_EqualFunc_Row__catalog_Same at h
 refine enter Try.func37 rfl (tm := #[.slice A2 s11.length c3, .slice A6 s25.length c7, .func (.func 21) #[] #[], uV, uV, uV, uV, uV, uV, uV, uV, uV, uV, uV, uV, uV, uV, uV, uV, uV, uV, uV, uV, uV, uV, uV, uV, uV, uV, uV, uV, uV]) (by kernel_rfl) ?_
 intro B hret hnor hnp
 refine wp_seq_k (fun K9 hK10 => ?_)
 refine wp_region_lit ?_
 refine seqL1 (by kernel_rfl) ?_
 refine wpList_nil ?_
 refine hK10 _ _ ?_
 refine wp_seq_k (fun K11 hK12 => ?_)
 refine wp_seq_k (fun K13 hK14 => ?_)
 refine wp_region_lit ?_
 refine seqL5 (by kernel_rfl) ?_
 refine wpList_nil ?_
 refine hK14 _ _ ?_
 have hq_ := ite_some h; clear h; rcases hq_ with ⟨c16, h⟩ | ⟨c16, h⟩
 · have c16 : (s11.length : Int) ≠ (s25.length : Int) := c16
   refine wpRwI 14 (x := ((s11.length : Int) != (s25.length : Int))) (v := true) (by kernel_rfl) (bne_iff_ne.mpr c16) ?_
   refine condT (by kernel_rfl) ?_
   refine wp_seq_k (fun K17 hK18 => ?_)
   refine wp_region_lit ?_
   refine seqL1 (by kernel_rfl) ?_
   refine wpList_nil ?_
   refine hK18 _ _ ?_
   refine wp_ret ?_
   refine hret _ _ ?_
   refine ends_still (v := Value.bool false) (by kernel_rfl) (by kernel_rfl) ?_
   injection h with h
   subst h
   exact ⟨f, rfl, FM.le.refl _, HS⟩
 · have c16 : ¬ ((s11.length : Int) ≠ (s25.length : Int)) := c16
   refine wpRwI 14 (x := ((s11.length : Int) != (s25.length : Int))) (v := false) (by kernel_rfl) (bne_eq_false_iff_eq.mpr (Decidable.of_not_not c16)) ?_
   refine condF (by kernel_rfl) ?_
   refine wp_skip ?_
   refine hK12 _ _ ?_
   refine wp_seq_k (fun K19 hK20 => ?_)
   refine wp_seq_k (fun K21 hK22 => ?_)
   refine wp_region_lit ?_
   refine seqL3 (by kernel_rfl) ?_
   refine wpList_nil ?_
   refine hK22 _ _ ?_
   refine blockK (fun B23 hx24 hn25 hr26 ho27 hp28 => ?_)
   have hq_ := bind_some h; clear h; obtain ⟨o29, hv103, h⟩ := hq_
   have JR105 : ∀ z_, some (Sum.inl z_) = some o29 → some z_ = some rr1 := by
    intro z_ e_; injection e_ with e_; subst e_; exact h
   have J104 : ∀ (f98 : FM) (j102 : Nat → Value) (W100 : World) (a_ : Act), FM.le f f98 → some (Sum.inr ()) = some o29 → St t W100 f98 (H) → a_ = ⟨#[.slice A2 s11.length c3, .slice A6 s25.length c7, .func (.func 21) #[] #[], uV, uV, uV, (j102 0), (j102 1), (j102 2), (j102 3), .slice A2 s11.length c3, iV (s11.length : Int), .slice A6 s25.length c7, iV (s25.length : Int), fV, .slice A2 s11.length c3, iV (s11.length : Int), (j102 4), (j102 5), (j102 6), (j102 7), (j102 8), (j102 9), (j102 10), (j102 11), (j102 12), (j102 13), (j102 14), (j102 15), (j102 16), (j102 17), (j102 18)], []⟩ → K19 a_ W100 := by
    intro f98 j102 W100 a_ L99 hj106 HS101  hfr_; subst hfr_
    injection hj106 with hj106; subst hj106; try dsimp only at h
    simp only [Sum.elim_inr] at h
    refine hK20 _ _ ?_
    refine wp_seq_k (fun K111 hK112 => ?_)
    refine wp_region_lit ?_
    refine seqL1 (by kernel_rfl) ?_
    refine wpList_nil ?_
    refine hK112 _ _ ?_
    refine wp_ret ?_
    refine hret _ _ ?_
    refine ends_still (v := Value.bool true) (by kernel_rfl) (by kernel_rfl) ?_
    injection h with h
    subst h
    exact ⟨f98, rfl, L99, HS101⟩
   clear h; have h := hv103; clear hv103
   refine loopK (fun n_ a_ w_ => ∃ (f33 : FM) (x38 : Int) (j37 : Nat → Value), FM.le f f33 ∧ St t w_ f33 (H) ∧ slices_EqualFunc_Row__catalog_Same.l0 k s11 s25 n_ x38 = some o29 ∧ a_ = ⟨#[.slice A2 s11.length c3, .slice A6 s25.length c7, .func (.func 21) #[] #[], uV, uV, uV, (j37 0), (j37 1), (j37 2), (j37 3), .slice A2 s11.length c3, iV (s11.length : Int), .slice A6 s25.length c7, iV (s25.length : Int), fV, .slice A2 s11.length c3, iV (s11.length : Int), iV x38, (j37 4), (j37 5), (j37 6), (j37 7), (j37 8), (j37 9), (j37 10), (j37 11), (j37 12), (j37 13), (j37 14), (j37 15), (j37 16), (j37 17)], []⟩) k ⟨f, 0, (fun i_ => [Value.bool false, undef, undef, undef, undef, undef, undef, undef, undef, undef, undef, undef, undef, undef, undef, undef, undef, undef].getD i_ undef), (FM.le.refl _), HS, h, (by kernel_rfl)⟩ ?_
   clear h
   rintro n32 _ W35 ⟨f33, x38, j37, L34, HS36, h, rfl⟩ K30 hK31
   obtain _ | n32 := n32
   · exact nomatch h
   simp only [slices_EqualFunc_Row__catalog_Same.l0] at h
   refine wp_seq_k (fun K39 hK40 => ?_)
   refine wp_region_lit ?_
   refine seqL1 (by kernel_rfl) ?_
   refine wpList_nil ?_
   refine hK40 _ _ ?_
   refine wp_seq_k (fun K41 hK42 => ?_)
   have hq_ := ite_some h; clear h; rcases hq_ with ⟨c44, h⟩ | ⟨c44, h⟩
   · have c44 : x38 < (s11.length : Int) := c44
     refine wpRwI 18 (x := (decide (x38 < (s11.length : Int)))) (v := true) (by kernel_rfl) (decide_eq_true c44) ?_
     refine condT (by kernel_rfl) ?_
     refine wp_skip ?_
     refine hK42 _ _ ?_
     refine wp_seq_k (fun K45 hK46 => ?_)
     refine blockK (fun B47 hx48 hn49 hr50 ho51 hp52 => ?_)
     refine wp_seq_k (fun K54 hK55 => ?_)
     refine wp_region_lit ?_
     have hq_ := guard_some h; clear h; obtain ⟨c56, h⟩ := hq_
     have c56 : 0 ≤ x38 := c56
     obtain ⟨b60, of61, cs57, hA62, hr58, hc59⟩ := (HR4.mono L34).at (i := x38) c56 c44
     obtain ⟨A63, c63, rfl, HR63⟩ := hr58
     refine seqL1 (by kernel_rfl) ?_
     refine seqK rfl (does_run (run_indexE hA62 (sz := 18) rfl Try.underlying26 (by kernel_rfl) (by kernel_rfl : _ = Value.slice A2 s11.length c3) (by kernel_rfl : _ = Value.int .i64 x38) c56 c44 W35) ?_)
     refine seqK rfl (does_run (run_loadN (n := 18) rfl Try.underlying65 rfl (by kernel_rfl) (by kernel_rfl : _ = Value.pointer (some ⟨b60, of61 + (x38 : Int).toNat * 18, none⟩)) (cs := [.int .i64 ((rd s11 x38).ID), .int .i64 ((((rd s11 x38).Box).X).Lo), .int .i64 ((((rd s11 x38).Box).X).Hi), .bool ((((rd s11 x38).Box).X).Unknown), .int .i64 ((((rd s11 x38).Box).Y).Lo), .int .i64 ((((rd s11 x38).Box).Y).Hi), .bool ((((rd s11 x38).Box).Y).Unknown), .int .i64 ((((rd s11 x38).Box).Z).Lo), .int .i64 ((((rd s11 x38).Box).Z).Hi), .bool ((((rd s11 x38).Box).Z).Unknown), .int .i64 (((rd s11 x38).Flux).Lo), .int .i64 (((rd s11 x38).Flux).Hi), .bool (((rd s11 x38).Flux).Unknown), .int .i64 (((rd s11 x38).When).Lo), .int .i64 (((rd s11 x38).When).Hi), .bool (((rd s11 x38).When).Unknown), .slice A63 ((rd s11 x38).Frames).length c63, .int .i64 ((rd s11 x38).Marks)]) rfl (fun j_ hj_ => ((hc59 (FM.le.refl _) HS36) j_ hj_))) ?_)
     refine seqK rfl (does_alloc (z := Value.agg #[.int .i64 0, .int .i64 0, .int .i64 0, .bool false, .int .i64 0, .int .i64 0, .bool false, .int .i64 0, .int .i64 0, .bool false, .int .i64 0, .int .i64 0, .bool false, .int .i64 0, .int .i64 0, .bool false, .slice none 0 0, .int .i64 0]) (cs := #[.int .i64 0, .int .i64 0, .int .i64 0, .bool false, .int .i64 0, .int .i64 0, .bool false, .int .i64 0, .int .i64 0, .bool false, .int .i64 0, .int .i64 0, .bool false, .int .i64 0, .int .i64 0, .bool false, .slice none 0 0, .int .i64 0]) rfl (by kernel_rfl) rfl HS36 ?_)
     intro b64 W65 HS66
     refine seqL1 (by kernel_rfl) ?_
     refine seqK rfl (does_store (n := 18) (vs := [.int .i64 ((rd s11 x38).ID), .int .i64 ((((rd s11 x38).Box).X).Lo), .int .i64 ((((rd s11 x38).Box).X).Hi), .bool ((((rd s11 x38).Box).X).Unknown), .int .i64 ((((rd s11 x38).Box).Y).Lo), .int .i64 ((((rd s11 x38).Box).Y).Hi), .bool ((((rd s11 x38).Box).Y).Unknown), .int .i64 ((((rd s11 x38).Box).Z).Lo), .int .i64 ((((rd s11 x38).Box).Z).Hi), .bool ((((rd s11 x38).Box).Z).Unknown), .int .i64 (((rd s11 x38).Flux).Lo), .int .i64 (((rd s11 x38).Flux).Hi), .bool (((rd s11 x38).Flux).Unknown), .int .i64 (((rd s11 x38).When).Lo), .int .i64 (((rd s11 x38).When).Hi), .bool (((rd s11 x38).When).Unknown), .slice A63 ((rd s11 x38).Frames).length c63, .int .i64 ((rd s11 x38).Marks)]) (cs' := #[.int .i64 ((rd s11 x38).ID), .int .i64 ((((rd s11 x38).Box).X).Lo), .int .i64 ((((rd s11 x38).Box).X).Hi), .bool ((((rd s11 x38).Box).X).Unknown), .int .i64 ((((rd s11 x38).Box).Y).Lo), .int .i64 ((((rd s11 x38).Box).Y).Hi), .bool ((((rd s11 x38).Box).Y).Unknown), .int .i64 ((((rd s11 x38).Box).Z).Lo), .int .i64 ((((rd s11 x38).Box).Z).Hi), .bool ((((rd s11 x38).Box).Z).Unknown), .int .i64 (((rd s11 x38).Flux).Lo), .int .i64 (((rd s11 x38).Flux).Hi), .bool (((rd s11 x38).Flux).Unknown), .int .i64 (((rd s11 x38).When).Lo), .int .i64 (((rd s11 x38).When).Hi), .bool (((rd s11 x38).When).Unknown), .slice A63 ((rd s11 x38).Frames).length c63, .int .i64 ((rd s11 x38).Marks)]) rfl (by kernel_rfl) (by kernel_rfl : _ = Value.pointer (some ⟨b64, 0, none⟩)) (by kernel_rfl : _ = Value.agg #[.int .i64 ((rd s11 x38).ID), .int .i64 ((((rd s11 x38).Box).X).Lo), .int .i64 ((((rd s11 x38).Box).X).Hi), .bool ((((rd s11 x38).Box).X).Unknown), .int .i64 ((((rd s11 x38).Box).Y).Lo), .int .i64 ((((rd s11 x38).Box).Y).Hi), .bool ((((rd s11 x38).Box).Y).Unknown), .int .i64 ((((rd s11 x38).Box).Z).Lo), .int .i64 ((((rd s11 x38).Box).Z).Hi), .bool ((((rd s11 x38).Box).Z).Unknown), .int .i64 (((rd s11 x38).Flux).Lo), .int .i64 (((rd s11 x38).Flux).Hi), .bool (((rd s11 x38).Flux).Unknown), .int .i64 (((rd s11 x38).When).Lo), .int .i64 (((rd s11 x38).When).Hi), .bool (((rd s11 x38).When).Unknown), .slice A63 ((rd s11 x38).Frames).length c63, .int .i64 ((rd s11 x38).Marks)]) rfl rfl (by intro u_ hu_; simp only [List.mem_cons, List.not_mem_nil, or_false] at hu_; rcases hu_ with rfl | rfl | rfl | rfl | rfl | rfl | rfl | rfl | rfl | rfl | rfl | rfl | rfl | rfl | rfl | rfl | rfl | rfl <;> rfl) HS66 (Nat.le_of_ble_eq_true rfl) (by kernel_rfl) ?_)
     intro W68 HS69
     refine wpList_nil ?_
     refine hK55 _ _ ?_
     refine wp_seq_k (fun K70 hK71 => ?_)
     refine wp_region_lit ?_
     have hq_ := guard_some h; clear h; obtain ⟨c72, h⟩ := hq_
     have c72 : x38 < (s25.length : Int) := c72
     obtain ⟨b76, of77, cs73, hA78, hr74, hc75⟩ := (HR8.mono L34).at (i := x38) c56 c72
     obtain ⟨A79, c79, rfl, HR79⟩ := hr74
     refine seqL2 (by kernel_rfl) ?_
     refine seqK rfl (does_run (run_indexE hA78 (sz := 18) rfl Try.underlying26 (by kernel_rfl) (by kernel_rfl : _ = Value.slice A6 s25.length c7) (by kernel_rfl : _ = Value.int .i64 x38) c56 c72 W68) ?_)
     refine seqK rfl (does_run (run_loadN (n := 18) rfl Try.underlying65 rfl (by kernel_rfl) (by kernel_rfl : _ = Value.pointer (some ⟨b76, of77 + (x38 : Int).toNat * 18, none⟩)) (cs := [.int .i64 ((rd s25 x38).ID), .int .i64 ((((rd s25 x38).Box).X).Lo), .int .i64 ((((rd s25 x38).Box).X).Hi), .bool ((((rd s25 x38).Box).X).Unknown), .int .i64 ((((rd s25 x38).Box).Y).Lo), .int .i64 ((((rd s25 x38).Box).Y).Hi), .bool ((((rd s25 x38).Box).Y).Unknown), .int .i64 ((((rd s25 x38).Box).Z).Lo), .int .i64 ((((rd s25 x38).Box).Z).Hi), .bool ((((rd s25 x38).Box).Z).Unknown), .int .i64 (((rd s25 x38).Flux).Lo), .int .i64 (((rd s25 x38).Flux).Hi), .bool (((rd s25 x38).Flux).Unknown), .int .i64 (((rd s25 x38).When).Lo), .int .i64 (((rd s25 x38).When).Hi), .bool (((rd s25 x38).When).Unknown), .slice A79 ((rd s25 x38).Frames).length c79, .int .i64 ((rd s25 x38).Marks)]) rfl (fun j_ hj_ => ((hc75 (FM.le.refl _) HS69) j_ hj_))) ?_)
     refine seqK rfl (does_alloc (z := Value.agg #[.int .i64 0, .int .i64 0, .int .i64 0, .bool false, .int .i64 0, .int .i64 0, .bool false, .int .i64 0, .int .i64 0, .bool false, .int .i64 0, .int .i64 0, .bool false, .int .i64 0, .int .i64 0, .bool false, .slice none 0 0, .int .i64 0]) (cs := #[.int .i64 0, .int .i64 0, .int .i64 0, .bool false, .int .i64 0, .int .i64 0, .bool false, .int .i64 0, .int .i64 0, .bool false, .int .i64 0, .int .i64 0, .bool false, .int .i64 0, .int .i64 0, .bool false, .slice none 0 0, .int .i64 0]) rfl (by kernel_rfl) rfl HS69 ?_)
     intro b80 W81 HS82
     refine seqK rfl (does_store (n := 18) (vs := [.int .i64 ((rd s25 x38).ID), .int .i64 ((((rd s25 x38).Box).X).Lo), .int .i64 ((((rd s25 x38).Box).X).Hi), .bool ((((rd s25 x38).Box).X).Unknown), .int .i64 ((((rd s25 x38).Box).Y).Lo), .int .i64 ((((rd s25 x38).Box).Y).Hi), .bool ((((rd s25 x38).Box).Y).Unknown), .int .i64 ((((rd s25 x38).Box).Z).Lo), .int .i64 ((((rd s25 x38).Box).Z).Hi), .bool ((((rd s25 x38).Box).Z).Unknown), .int .i64 (((rd s25 x38).Flux).Lo), .int .i64 (((rd s25 x38).Flux).Hi), .bool (((rd s25 x38).Flux).Unknown), .int .i64 (((rd s25 x38).When).Lo), .int .i64 (((rd s25 x38).When).Hi), .bool (((rd s25 x38).When).Unknown), .slice A79 ((rd s25 x38).Frames).length c79, .int .i64 ((rd s25 x38).Marks)]) (cs' := #[.int .i64 ((rd s25 x38).ID), .int .i64 ((((rd s25 x38).Box).X).Lo), .int .i64 ((((rd s25 x38).Box).X).Hi), .bool ((((rd s25 x38).Box).X).Unknown), .int .i64 ((((rd s25 x38).Box).Y).Lo), .int .i64 ((((rd s25 x38).Box).Y).Hi), .bool ((((rd s25 x38).Box).Y).Unknown), .int .i64 ((((rd s25 x38).Box).Z).Lo), .int .i64 ((((rd s25 x38).Box).Z).Hi), .bool ((((rd s25 x38).Box).Z).Unknown), .int .i64 (((rd s25 x38).Flux).Lo), .int .i64 (((rd s25 x38).Flux).Hi), .bool (((rd s25 x38).Flux).Unknown), .int .i64 (((rd s25 x38).When).Lo), .int .i64 (((rd s25 x38).When).Hi), .bool (((rd s25 x38).When).Unknown), .slice A79 ((rd s25 x38).Frames).length c79, .int .i64 ((rd s25 x38).Marks)]) rfl (by kernel_rfl) (by kernel_rfl : _ = Value.pointer (some ⟨b80, 0, none⟩)) (by kernel_rfl : _ = Value.agg #[.int .i64 ((rd s25 x38).ID), .int .i64 ((((rd s25 x38).Box).X).Lo), .int .i64 ((((rd s25 x38).Box).X).Hi), .bool ((((rd s25 x38).Box).X).Unknown), .int .i64 ((((rd s25 x38).Box).Y).Lo), .int .i64 ((((rd s25 x38).Box).Y).Hi), .bool ((((rd s25 x38).Box).Y).Unknown), .int .i64 ((((rd s25 x38).Box).Z).Lo), .int .i64 ((((rd s25 x38).Box).Z).Hi), .bool ((((rd s25 x38).Box).Z).Unknown), .int .i64 (((rd s25 x38).Flux).Lo), .int .i64 (((rd s25 x38).Flux).Hi), .bool (((rd s25 x38).Flux).Unknown), .int .i64 (((rd s25 x38).When).Lo), .int .i64 (((rd s25 x38).When).Hi), .bool (((rd s25 x38).When).Unknown), .slice A79 ((rd s25 x38).Frames).length c79, .int .i64 ((rd s25 x38).Marks)]) rfl rfl (by intro u_ hu_; simp only [List.mem_cons, List.not_mem_nil, or_false] at hu_; rcases hu_ with rfl | rfl | rfl | rfl | rfl | rfl | rfl | rfl | rfl | rfl | rfl | rfl | rfl | rfl | rfl | rfl | rfl | rfl <;> rfl) HS82 (Nat.le_of_ble_eq_true rfl) (by kernel_rfl) ?_)
     intro W84 HS85
     refine wpList_nil ?_
     refine hK71 _ _ ?_
     refine wp_seq_k (fun K86 hK87 => ?_)
     refine wp_region_lit ?_
     refine seqL1 (by kernel_rfl) ?_
     refine seqK rfl (does_run (run_loadN (n := 18) rfl Try.underlying65 rfl (by kernel_rfl) (by kernel_rfl : _ = Value.pointer (some ⟨b64, 0, none⟩)) (cs := [.int .i64 ((rd s11 x38).ID), .int .i64 ((((rd s11 x38).Box).X).Lo), .int .i64 ((((rd s11 x38).Box).X).Hi), .bool ((((rd s11 x38).Box).X).Unknown), .int .i64 ((((rd s11 x38).Box).Y).Lo), .int .i64 ((((rd s11 x38).Box).Y).Hi), .bool ((((rd s11 x38).Box).Y).Unknown), .int .i64 ((((rd s11 x38).Box).Z).Lo), .int .i64 ((((rd s11 x38).Box).Z).Hi), .bool ((((rd s11 x38).Box).Z).Unknown), .int .i64 (((rd s11 x38).Flux).Lo), .int .i64 (((rd s11 x38).Flux).Hi), .bool (((rd s11 x38).Flux).Unknown), .int .i64 (((rd s11 x38).When).Lo), .int .i64 (((rd s11 x38).When).Hi), .bool (((rd s11 x38).When).Unknown), .slice A63 ((rd s11 x38).Frames).length c63, .int .i64 ((rd s11 x38).Marks)]) rfl (HS85.u1.cells 0 18 _ rfl)) ?_)
     refine seqK rfl (does_run (run_loadN (n := 18) rfl Try.underlying65 rfl (by kernel_rfl) (by kernel_rfl : _ = Value.pointer (some ⟨b80, 0, none⟩)) (cs := [.int .i64 ((rd s25 x38).ID), .int .i64 ((((rd s25 x38).Box).X).Lo), .int .i64 ((((rd s25 x38).Box).X).Hi), .bool ((((rd s25 x38).Box).X).Unknown), .int .i64 ((((rd s25 x38).Box).Y).Lo), .int .i64 ((((rd s25 x38).Box).Y).Hi), .bool ((((rd s25 x38).Box).Y).Unknown), .int .i64 ((((rd s25 x38).Box).Z).Lo), .int .i64 ((((rd s25 x38).Box).Z).Hi), .bool ((((rd s25 x38).Box).Z).Unknown), .int .i64 (((rd s25 x38).Flux).Lo), .int .i64 (((rd s25 x38).Flux).Hi), .bool (((rd s25 x38).Flux).Unknown), .int .i64 (((rd s25 x38).When).Lo), .int .i64 (((rd s25 x38).When).Hi), .bool (((rd s25 x38).When).Unknown), .slice A79 ((rd s25 x38).Frames).length c79, .int .i64 ((rd s25 x38).Marks)]) rfl (HS85.cells 0 18 _ rfl)) ?_)
     have hq_ := bind_some h; clear h; obtain ⟨vt88, hc89, h⟩ := hq_
     refine seqK rfl (does_call (f := 21) (args := #[.agg #[.int .i64 ((rd s11 x38).ID), .int .i64 ((((rd s11 x38).Box).X).Lo), .int .i64 ((((rd s11 x38).Box).X).Hi), .bool ((((rd s11 x38).Box).X).Unknown), .int .i64 ((((rd s11 x38).Box).Y).Lo), .int .i64 ((((rd s11 x38).Box).Y).Hi), .bool ((((rd s11 x38).Box).Y).Unknown), .int .i64 ((((rd s11 x38).Box).Z).Lo), .int .i64 ((((rd s11 x38).Box).Z).Hi), .bool ((((rd s11 x38).Box).Z).Unknown), .int .i64 (((rd s11 x38).Flux).Lo), .int .i64 (((rd s11 x38).Flux).Hi), .bool (((rd s11 x38).Flux).Unknown), .int .i64 (((rd s11 x38).When).Lo), .int .i64 (((rd s11 x38).When).Hi), .bool (((rd s11 x38).When).Unknown), .slice A63 ((rd s11 x38).Frames).length c63, .int .i64 ((rd s11 x38).Marks)], .agg #[.int .i64 ((rd s25 x38).ID), .int .i64 ((((rd s25 x38).Box).X).Lo), .int .i64 ((((rd s25 x38).Box).X).Hi), .bool ((((rd s25 x38).Box).X).Unknown), .int .i64 ((((rd s25 x38).Box).Y).Lo), .int .i64 ((((rd s25 x38).Box).Y).Hi), .bool ((((rd s25 x38).Box).Y).Unknown), .int .i64 ((((rd s25 x38).Box).Z).Lo), .int .i64 ((((rd s25 x38).Box).Z).Hi), .bool ((((rd s25 x38).Box).Z).Unknown), .int .i64 (((rd s25 x38).Flux).Lo), .int .i64 (((rd s25 x38).Flux).Hi), .bool (((rd s25 x38).Flux).Unknown), .int .i64 (((rd s25 x38).When).Lo), .int .i64 (((rd s25 x38).When).Hi), .bool (((rd s25 x38).When).Unknown), .slice A79 ((rd s25 x38).Frames).length c79, .int .i64 ((rd s25 x38).Marks)]]) (by kernel_rfl) (catalog_Same.calls k A63 c63 A79 c79 (rd s11 x38) (rd s25 x38) HS85 HR63 HR79 vt88 hc89) ?_)
     rintro _ W92 ⟨f90, rfl, L91, HS93⟩
     refine ⟨_, rfl, ?_⟩
     refine seqL1 (by kernel_rfl) ?_
     refine wpList_nil ?_
     refine hK87 _ _ ?_
     have hq_ := ite_some h; clear h; rcases hq_ with ⟨c95, h⟩ | ⟨c95, h⟩
     · have c95 : ¬ (vt88 = true) := c95
       refine wpRwI 30 (x := (!vt88)) (v := true) (by kernel_rfl) (congrArg (fun b_ => !b_) (show vt88 = false from (Bool.eq_false_iff.mpr c95)) : (!vt88) = true) ?_
       refine condT (by kernel_rfl) ?_
       refine wp_seq_k (fun K96 hK97 => ?_)
       refine wp_region_lit ?_
       refine seqL1 (by kernel_rfl) ?_
       refine wpList_nil ?_
       refine hK97 _ _ ?_
       refine wp_ret ?_
       refine hr50 _ _ ?_
       refine hr26 _ _ ?_
       refine hret _ _ ?_
       refine ends_still (v := Value.bool false) (by kernel_rfl) (by kernel_rfl) ?_
       have HS113 := HS93.drop
       have HS114 := HS113.drop
       replace h := JR105 _ h
       injection h with h
       subst h
       exact ⟨f90, rfl, (L34.trans L91), HS114⟩
     · have c95 : ¬ (¬ (vt88 = true)) := c95
       refine wpRwI 30 (x := (!vt88)) (v := false) (by kernel_rfl) (congrArg (fun b_ => !b_) (show vt88 = true from (Decidable.of_not_not c95)) : (!vt88) = false) ?_
       refine condF (by kernel_rfl) ?_
       refine wp_skip ?_
       refine hn49 _ _ ?_
       refine hK46 _ _ ?_
       refine wp_region_lit ?_
       refine seqL2 (by kernel_rfl) ?_
       refine wpList_nil ?_
       refine hK31 n32 _ _ (Nat.lt_succ_self _) ?_
       have HS107 := HS93.u1
       have HS108 := HS107.u1
       have HS109 := HS108.drop
       have HS110 := HS109.drop
       exact ⟨f90, (w64 (x38 + 1)), (fun i_ => [(j37 0), Value.int .i64 x38, Value.pointer (some ⟨b64, 0, none⟩), Value.pointer (some ⟨b80, 0, none⟩), Value.bool true, Value.int .i64 x38, Value.pointer (some ⟨b60, of61 + (x38 : Int).toNat * 18, none⟩), (ag_Row (rd s11 x38) A63 c63), Value.slice A6 s25.length c7, Value.int .i64 x38, Value.pointer (some ⟨b76, of77 + (x38 : Int).toNat * 18, none⟩), (ag_Row (rd s25 x38) A79 c79), Value.func (.func 21) #[] #[], (ag_Row (rd s11 x38) A63 c63), (ag_Row (rd s25 x38) A79 c79), Value.bool vt88, Value.bool false, Value.int .i64 (w64 (x38 + 1))].getD i_ undef), (L34.trans L91), HS110, h, (by kernel_rfl)⟩
   · have c44 : ¬ (x38 < (s11.length : Int)) := c44
     refine wpRwI 18 (x := (decide (x38 < (s11.length : Int)))) (v := false) (by kernel_rfl) (decide_eq_false c44) ?_
     refine condF (by kernel_rfl) ?_
     refine wp_exit ?_
     refine hx24 _ _ ?_
     exact J104 f33 (fun i_ => [(j37 0), (j37 1), (j37 2), (j37 3), Value.int .i64 x38, Value.bool false, (j37 5), (j37 6), (j37 7), (j37 8), (j37 9), (j37 10), (j37 11), (j37 12), (j37 13), (j37 14), (j37 15), (j37 16), (j37 17)].getD i_ undef) W35 _ L34 h HS36 (by kernel_rfl)

set_option maxRecDepth 100000 in
set_option maxHeartbeats 4000000 in
theorem spykeep3_sameRows.calls (k : Nat) (A2 : Option Addr) (c3 : Nat) (A6 : Option Addr) (c7 : Nat) (a1 : List S_Row) (b5 : List S_Row) {t w : World} {f : FM} {H : List Seg} (HS : St t w f (H)) (HR4 : SlR ty_Row f A2 c3 a1) (HR8 : SlR ty_Row f A6 c7 b5) (rr1 : Bool) (h : spykeep3_sameRows k a1 b5 = some rr1) :
    Calls Try.prog 12 #[.slice A2 a1.length c3, .slice A6 b5.length c7] w (fun e w' => ∃ (g : FM), e = .returned (Value.bool rr1) ∧ FM.le f g ∧ St t w' g (H)) := by
 unfold spykeep3_sameRows at h
 refine enter Try.func12 rfl (tm := #[.slice A2 a1.length c3, .slice A6 b5.length c7, uV, uV, uV, uV, uV, uV]) (by kernel_rfl) ?_
 intro B hret hnor hnp
 refine wp_seq_k (fun K9 hK10 => ?_)
 refine wp_region_lit ?_
 refine seqL1 (by kernel_rfl) ?_
 refine wpList_nil ?_
 refine hK10 _ _ ?_
 refine wp_seq_k (fun K11 hK12 => ?_)
 refine wp_region_lit ?_
 have hq_ := bind_some h; clear h; obtain ⟨vt13, hc14, h⟩ := hq_
 refine seqL2 (by kernel_rfl) ?_
 refine seqK rfl (does_call (f := 37) (args := #[.slice A2 a1.length c3, .slice A6 b5.length c7, .func (.func 21) #[] #[]]) (by kernel_rfl) (slices_EqualFunc_Row__catalog_Same.calls k A2 c3 A6 c7 a1 b5 HS HR4 HR8 vt13 hc14) ?_)
 rintro _ W17 ⟨f15, rfl, L16, HS18⟩
 refine ⟨_, rfl, ?_⟩
 refine seqL1 (by kernel_rfl) ?_
 refine wpList_nil ?_
 refine hK12 _ _ ?_
 refine wp_ret ?_
 refine hret _ _ ?_
 refine ends_still (v := Value.bool vt13) (by kernel_rfl) (by kernel_rfl) ?_
 injection h with h
 subst h
 exact ⟨f15, rfl, L16, HS18⟩

end Go.Sp.M4
