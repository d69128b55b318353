import Derived.Test.YtpdemjoehkgohaaProg
import Derived.Test.YtpdemjoehkgohaaSpCopy
import Derived.Test.YtpdemjoehkgohaaFM4
import Derived.Test.YtpdemjoehkgohaaSpSort
import Derived.Test.YtpdemjoehkgohaaShelf
import Derived.Test.YtpdemjoehkgohaaSpMapR
import Derived.Test.YtpdemjoehkgohaaSpKeys
import Derived.Test.YtpdemjoehkgohaaSpRound
import Derived.Test.YtpdemjoehkgohaaKM4n0
import Derived.Test.YtpdemjoehkgohaaKM4n1
namespace Go.Sp.M4
open Go Go.Sp Go.Proofs
set_option linter.unusedVariables false
attribute [local irreducible] wpList AnyL Code.wp Calls Does Code.wpIn wpListIn CallsIn bodyPostM LeavesInM
set_option maxRecDepth 100000 in
set_option maxHeartbeats 4000000 in
theorem bound_Check_Coord.calls (k : Nat)  (b1 : S_Bound) {t w : World} {f : FM} {H : List Seg} (HS : St t w f (H)) (rr1 : Int) (h : bound_Check_Coord k b1 = some rr1) :
    Calls Try.prog 60 #[.agg #[.int .i64 b1.Lo, .int .i64 b1.Hi, .bool b1.Unknown]] w (fun e w' => ∃ (g : FM), e = .returned (Value.int .i64 rr1) ∧ FM.le f g ∧ St t w' g (H)) := by
 unfold bound_Check_Coord at h
 refine enter Try.func60 rfl (tm := #[(ag_Bound b1), uV, uV, uV, uV, uV, uV, uV, uV, uV, uV, uV, uV, uV, uV, uV, uV, uV, uV, uV, uV, uV, uV, uV, uV, uV, uV, uV, uV, uV, uV, uV, uV, uV, uV, uV, uV]) (by kernel_rfl) ?_
 intro B hret hnor hnp
 refine wp_seq_k (fun K2 hK3 => ?_)
 refine wp_region_lit ?_
 refine seqK rfl (does_box (cs := #[.int .i64 b1.Lo, .int .i64 b1.Hi, .bool b1.Unknown]) rfl (by kernel_rfl : _ = Value.agg #[.int .i64 b1.Lo, .int .i64 b1.Hi, .bool b1.Unknown]) rfl HS ?_)
 intro b4 W5 HS6
 refine seqL1 (by kernel_rfl) ?_
 refine wpList_nil ?_
 refine hK3 _ _ ?_
 refine wp_seq_k (fun K8 hK9 => ?_)
 refine blockK (fun B10 hx11 hn12 hr13 ho14 hp15 => ?_)
 refine wp_seq_k (fun K17 hK18 => ?_)
 refine wp_region_lit ?_
 refine seqL1 (by kernel_rfl) ?_
 refine seqK rfl (does_run (run_load rfl Try.underlying4 rfl (by kernel_rfl : _ = Value.pointer (some ⟨b4, 2, none⟩)) (HS6.cell 2)) ?_)
 refine seqL1 (by kernel_rfl) ?_
 have hq_ := ite_some h; clear h; rcases hq_ with ⟨c19, h⟩ | ⟨c19, h⟩
 · have c19 : b1.Unknown = true := c19
   refine seqRwI 5 (x := b1.Unknown) (v := true) (by kernel_rfl) c19 ?_
   refine seqRwI 6 (x := b1.Unknown) (v := true) (by kernel_rfl) c19 ?_
   refine seqL1 (by kernel_rfl) ?_
   refine seqG (by kernel_rfl) (does_run (run_load rfl Try.underlying53 rfl (by kernel_rfl : _ = Value.pointer (some ⟨b4, 0, none⟩)) (HS6.cell 0)) ?_)
   refine seqL2 (by kernel_rfl) ?_
   have hq_ := ite_some h; clear h; rcases hq_ with ⟨c20, h⟩ | ⟨c20, h⟩
   · have c20 : b1.Lo ≠ 0 := c20
     refine seqRwI 9 (x := (b1.Lo != 0)) (v := true) (by kernel_rfl) (bne_iff_ne.mpr c20) ?_
     refine seqRwI 10 (x := (b1.Lo != 0)) (v := true) (by kernel_rfl) (bne_iff_ne.mpr c20) ?_
     refine seqL6 (by kernel_rfl) ?_
     refine wpList_nil ?_
     refine hK18 _ _ ?_
     refine condT (by kernel_rfl) ?_
     refine wp_seq_k (fun K21 hK22 => ?_)
     refine wp_region_lit ?_
     refine seqL1 (by kernel_rfl) ?_
     refine wpList_nil ?_
     refine hK22 _ _ ?_
     refine wp_ret ?_
     refine hr13 _ _ ?_
     refine hret _ _ ?_
     refine ends_still (v := Value.int .i64 3) (by kernel_rfl) (by kernel_rfl) ?_
     have HS61 := HS6.drop
     injection h with h
     subst h
     exact ⟨f, rfl, FM.le.refl _, HS61⟩
   · have c20 : ¬ (b1.Lo ≠ 0) := c20
     refine seqRwI 9 (x := (b1.Lo != 0)) (v := false) (by kernel_rfl) (bne_eq_false_iff_eq.mpr (Decidable.of_not_not c20)) ?_
     refine seqRwI 10 (x := (b1.Lo != 0)) (v := false) (by kernel_rfl) (bne_eq_false_iff_eq.mpr (Decidable.of_not_not c20)) ?_
     refine seqL1 (by kernel_rfl) ?_
     refine seqG (by kernel_rfl) (does_run (run_load rfl Try.underlying53 rfl (by kernel_rfl : _ = Value.pointer (some ⟨b4, 1, none⟩)) (HS6.cell 1)) ?_)
     refine seqL4 (by kernel_rfl) ?_
     refine wpList_nil ?_
     refine hK18 _ _ ?_
     have hq_ := ite_some h; clear h; rcases hq_ with ⟨c24, h⟩ | ⟨c24, h⟩
     · have c24 : b1.Hi ≠ 0 := c24
       refine wpRwI 3 (x := (b1.Hi != 0)) (v := true) (by kernel_rfl) (bne_iff_ne.mpr c24) ?_
       refine wpRwI 13 (x := (b1.Hi != 0)) (v := true) (by kernel_rfl) (bne_iff_ne.mpr c24) ?_
       refine wpRwI 14 (x := (b1.Hi != 0)) (v := true) (by kernel_rfl) (bne_iff_ne.mpr c24) ?_
       refine wpRwI 15 (x := (b1.Hi != 0)) (v := true) (by kernel_rfl) (bne_iff_ne.mpr c24) ?_
       refine condT (by kernel_rfl) ?_
       refine wp_seq_k (fun K25 hK26 => ?_)
       refine wp_region_lit ?_
       refine seqL1 (by kernel_rfl) ?_
       refine wpList_nil ?_
       refine hK26 _ _ ?_
       refine wp_ret ?_
       refine hr13 _ _ ?_
       refine hret _ _ ?_
       refine ends_still (v := Value.int .i64 3) (by kernel_rfl) (by kernel_rfl) ?_
       have HS62 := HS6.drop
       injection h with h
       subst h
       exact ⟨f, rfl, FM.le.refl _, HS62⟩
     · have c24 : ¬ (b1.Hi ≠ 0) := c24
       refine wpRwI 3 (x := (b1.Hi != 0)) (v := false) (by kernel_rfl) (bne_eq_false_iff_eq.mpr (Decidable.of_not_not c24)) ?_
       refine wpRwI 13 (x := (b1.Hi != 0)) (v := false) (by kernel_rfl) (bne_eq_false_iff_eq.mpr (Decidable.of_not_not c24)) ?_
       refine wpRwI 14 (x := (b1.Hi != 0)) (v := false) (by kernel_rfl) (bne_eq_false_iff_eq.mpr (Decidable.of_not_not c24)) ?_
       refine wpRwI 15 (x := (b1.Hi != 0)) (v := false) (by kernel_rfl) (bne_eq_false_iff_eq.mpr (Decidable.of_not_not c24)) ?_
       refine condF (by kernel_rfl) ?_
       refine wp_seq_k (fun K27 hK28 => ?_)
       refine wp_region_lit ?_
       refine seqL1 (by kernel_rfl) ?_
       refine seqK rfl (does_run (run_load rfl Try.underlying53 rfl (by kernel_rfl : _ = Value.pointer (some ⟨b4, 0, none⟩)) (HS6.cell 0)) ?_)
       refine seqL1 (by kernel_rfl) ?_
       refine seqK rfl (does_run (run_load rfl Try.underlying53 rfl (by kernel_rfl : _ = Value.pointer (some ⟨b4, 1, none⟩)) (HS6.cell 1)) ?_)
       refine seqS3 (a' := ⟨#[(ag_Bound b1), pV b4 0, iV 0, fV, pV b4 2, tV, tV, pV b4 0, iV b1.Lo, fV, fV, pV b4 1, iV b1.Hi, fV, fV, fV, uV, pV b4 0, iV b1.Lo, pV b4 1, iV b1.Hi, iV (mn b1.Lo b1.Hi), .bool (decide ((mn b1.Lo b1.Hi) < (-1152921504606846976))), .bool (decide ((mn b1.Lo b1.Hi) < (-1152921504606846976))), uV, uV, uV, uV, uV, uV, uV, uV, uV, uV, uV, uV, uV], []⟩) (by kernel_rfl) ?_
       have hq_ := ite_some h; clear h; rcases hq_ with ⟨c29, h⟩ | ⟨c29, h⟩
       · have c29 : (mn b1.Lo b1.Hi) < (-1152921504606846976) := c29
         refine seqRwI 22 (x := (decide ((mn b1.Lo b1.Hi) < (-1152921504606846976)))) (v := true) (by kernel_rfl) (decide_eq_true c29) ?_
         refine seqRwI 23 (x := (decide ((mn b1.Lo b1.Hi) < (-1152921504606846976)))) (v := true) (by kernel_rfl) (decide_eq_true c29) ?_
         refine seqL8 (by kernel_rfl) ?_
         refine wpList_nil ?_
         refine hK28 _ _ ?_
         refine condT (by kernel_rfl) ?_
         refine wp_seq_k (fun K30 hK31 => ?_)
         refine wp_region_lit ?_
         refine seqL1 (by kernel_rfl) ?_
         refine wpList_nil ?_
         refine hK31 _ _ ?_
         refine wp_ret ?_
         refine hr13 _ _ ?_
         refine hret _ _ ?_
         refine ends_still (v := Value.int .i64 4) (by kernel_rfl) (by kernel_rfl) ?_
         have HS63 := HS6.drop
         injection h with h
         subst h
         exact ⟨f, rfl, FM.le.refl _, HS63⟩
       · have c29 : ¬ ((mn b1.Lo b1.Hi) < (-1152921504606846976)) := c29
         refine seqRwI 22 (x := (decide ((mn b1.Lo b1.Hi) < (-1152921504606846976)))) (v := false) (by kernel_rfl) (decide_eq_false c29) ?_
         refine seqRwI 23 (x := (decide ((mn b1.Lo b1.Hi) < (-1152921504606846976)))) (v := false) (by kernel_rfl) (decide_eq_false c29) ?_
         refine seqL1 (by kernel_rfl) ?_
         refine seqG (by kernel_rfl) (does_run (run_load rfl Try.underlying53 rfl (by kernel_rfl : _ = Value.pointer (some ⟨b4, 0, none⟩)) (HS6.cell 0)) ?_)
         refine seqL1 (by kernel_rfl) ?_
         refine seqG (by kernel_rfl) (does_run (run_load rfl Try.underlying53 rfl (by kernel_rfl : _ = Value.pointer (some ⟨b4, 1, none⟩)) (HS6.cell 1)) ?_)
         refine seqL4 (by kernel_rfl) ?_
         refine wpList_nil ?_
         refine hK28 _ _ ?_
         have hq_ := ite_some h; clear h; rcases hq_ with ⟨c33, h⟩ | ⟨c33, h⟩
         · have c33 : (mx b1.Lo b1.Hi) > 1152921504606846976 := c33
           refine wpRwI 16 (x := (decide ((mx b1.Lo b1.Hi) > 1152921504606846976))) (v := true) (by kernel_rfl) (decide_eq_true c33) ?_
           refine wpRwI 29 (x := (decide ((mx b1.Lo b1.Hi) > 1152921504606846976))) (v := true) (by kernel_rfl) (decide_eq_true c33) ?_
           refine wpRwI 30 (x := (decide ((mx b1.Lo b1.Hi) > 1152921504606846976))) (v := true) (by kernel_rfl) (decide_eq_true c33) ?_
           refine condT (by kernel_rfl) ?_
           refine wp_seq_k (fun K34 hK35 => ?_)
           refine wp_region_lit ?_
           refine seqL1 (by kernel_rfl) ?_
           refine wpList_nil ?_
           refine hK35 _ _ ?_
           refine wp_ret ?_
           refine hr13 _ _ ?_
           refine hret _ _ ?_
           refine ends_still (v := Value.int .i64 4) (by kernel_rfl) (by kernel_rfl) ?_
           have HS64 := HS6.drop
           injection h with h
           subst h
           exact ⟨f, rfl, FM.le.refl _, HS64⟩
         · have c33 : ¬ ((mx b1.Lo b1.Hi) > 1152921504606846976) := c33
           refine wpRwI 16 (x := (decide ((mx b1.Lo b1.Hi) > 1152921504606846976))) (v := false) (by kernel_rfl) (decide_eq_false c33) ?_
           refine wpRwI 29 (x := (decide ((mx b1.Lo b1.Hi) > 1152921504606846976))) (v := false) (by kernel_rfl) (decide_eq_false c33) ?_
           refine wpRwI 30 (x := (decide ((mx b1.Lo b1.Hi) > 1152921504606846976))) (v := false) (by kernel_rfl) (decide_eq_false c33) ?_
           refine condF (by kernel_rfl) ?_
           refine wp_seq_k (fun K36 hK37 => ?_)
           refine wp_region_lit ?_
           refine seqL1 (by kernel_rfl) ?_
           refine seqK rfl (does_run (run_load rfl Try.underlying53 rfl (by kernel_rfl : _ = Value.pointer (some ⟨b4, 0, none⟩)) (HS6.cell 0)) ?_)
           refine seqL1 (by kernel_rfl) ?_
           refine seqK rfl (does_run (run_load rfl Try.underlying53 rfl (by kernel_rfl : _ = Value.pointer (some ⟨b4, 1, none⟩)) (HS6.cell 1)) ?_)
           refine seqL2 (by kernel_rfl) ?_
           refine wpList_nil ?_
           refine hK37 _ _ ?_
           have hq_ := ite_some h; clear h; rcases hq_ with ⟨c39, h⟩ | ⟨c39, h⟩
           · have c39 : b1.Lo > b1.Hi := c39
             refine wpRwI 31 (x := (decide (b1.Lo > b1.Hi))) (v := true) (by kernel_rfl) (decide_eq_true c39) ?_
             refine wpRwI 36 (x := (decide (b1.Lo > b1.Hi))) (v := true) (by kernel_rfl) (decide_eq_true c39) ?_
             refine condT (by kernel_rfl) ?_
             refine wp_seq_k (fun K40 hK41 => ?_)
             refine wp_region_lit ?_
             refine seqL1 (by kernel_rfl) ?_
             refine wpList_nil ?_
             refine hK41 _ _ ?_
             refine wp_ret ?_
             refine hr13 _ _ ?_
             refine hret _ _ ?_
             refine ends_still (v := Value.int .i64 11) (by kernel_rfl) (by kernel_rfl) ?_
             have HS65 := HS6.drop
             injection h with h
             subst h
             exact ⟨f, rfl, FM.le.refl _, HS65⟩
           · have c39 : ¬ (b1.Lo > b1.Hi) := c39
             refine wpRwI 31 (x := (decide (b1.Lo > b1.Hi))) (v := false) (by kernel_rfl) (decide_eq_false c39) ?_
             refine wpRwI 36 (x := (decide (b1.Lo > b1.Hi))) (v := false) (by kernel_rfl) (decide_eq_false c39) ?_
             refine condF (by kernel_rfl) ?_
             refine wp_skip ?_
             refine hn12 _ _ ?_
             refine hK9 _ _ ?_
             refine wp_seq_k (fun K57 hK58 => ?_)
             refine wp_region_lit ?_
             refine seqL1 (by kernel_rfl) ?_
             refine wpList_nil ?_
             refine hK58 _ _ ?_
             refine wp_ret ?_
             refine hret _ _ ?_
             refine ends_still (v := Value.int .i64 0) (by kernel_rfl) (by kernel_rfl) ?_
             have HS69 := HS6.drop
             injection h with h
             subst h
             exact ⟨f, rfl, FM.le.refl _, HS69⟩
 · have c19 : ¬ (b1.Unknown = true) := c19
   refine seqRwI 5 (x := b1.Unknown) (v := false) (by kernel_rfl) (Bool.eq_false_iff.mpr c19) ?_
   refine seqRwI 6 (x := b1.Unknown) (v := false) (by kernel_rfl) (Bool.eq_false_iff.mpr c19) ?_
   refine seqL10 (by kernel_rfl) ?_
   refine wpList_nil ?_
   refine hK18 _ _ ?_
   refine condF (by kernel_rfl) ?_
   refine wp_seq_k (fun K42 hK43 => ?_)
   refine wp_region_lit ?_
   refine seqL1 (by kernel_rfl) ?_
   refine seqK rfl (does_run (run_load rfl Try.underlying53 rfl (by kernel_rfl : _ = Value.pointer (some ⟨b4, 0, none⟩)) (HS6.cell 0)) ?_)
   refine seqL1 (by kernel_rfl) ?_
   refine seqK rfl (does_run (run_load rfl Try.underlying53 rfl (by kernel_rfl : _ = Value.pointer (some ⟨b4, 1, none⟩)) (HS6.cell 1)) ?_)
   refine seqS3 (a' := ⟨#[(ag_Bound b1), pV b4 0, iV 0, fV, pV b4 2, fV, fV, uV, uV, uV, uV, uV, uV, uV, uV, fV, uV, pV b4 0, iV b1.Lo, pV b4 1, iV b1.Hi, iV (mn b1.Lo b1.Hi), .bool (decide ((mn b1.Lo b1.Hi) < (-1152921504606846976))), .bool (decide ((mn b1.Lo b1.Hi) < (-1152921504606846976))), uV, uV, uV, uV, uV, uV, uV, uV, uV, uV, uV, uV, uV], []⟩) (by kernel_rfl) ?_
   have hq_ := ite_some h; clear h; rcases hq_ with ⟨c44, h⟩ | ⟨c44, h⟩
   · have c44 : (mn b1.Lo b1.Hi) < (-1152921504606846976) := c44
     refine seqRwI 22 (x := (decide ((mn b1.Lo b1.Hi) < (-1152921504606846976)))) (v := true) (by kernel_rfl) (decide_eq_true c44) ?_
     refine seqRwI 23 (x := (decide ((mn b1.Lo b1.Hi) < (-1152921504606846976)))) (v := true) (by kernel_rfl) (decide_eq_true c44) ?_
     refine seqL8 (by kernel_rfl) ?_
     refine wpList_nil ?_
     refine hK43 _ _ ?_
     refine condT (by kernel_rfl) ?_
     refine wp_seq_k (fun K45 hK46 => ?_)
     refine wp_region_lit ?_
     refine seqL1 (by kernel_rfl) ?_
     refine wpList_nil ?_
     refine hK46 _ _ ?_
     refine wp_ret ?_
     refine hr13 _ _ ?_
     refine hret _ _ ?_
     refine ends_still (v := Value.int .i64 4) (by kernel_rfl) (by kernel_rfl) ?_
     have HS66 := HS6.drop
     injection h with h
     subst h
     exact ⟨f, rfl, FM.le.refl _, HS66⟩
   · have c44 : ¬ ((mn b1.Lo b1.Hi) < (-1152921504606846976)) := c44
     refine seqRwI 22 (x := (decide ((mn b1.Lo b1.Hi) < (-1152921504606846976)))) (v := false) (by kernel_rfl) (decide_eq_false c44) ?_
     refine seqRwI 23 (x := (decide ((mn b1.Lo b1.Hi) < (-1152921504606846976)))) (v := false) (by kernel_rfl) (decide_eq_false c44) ?_
     refine seqL1 (by kernel_rfl) ?_
     refine seqG (by kernel_rfl) (does_run (run_load rfl Try.underlying53 rfl (by kernel_rfl : _ = Value.pointer (some ⟨b4, 0, none⟩)) (HS6.cell 0)) ?_)
     refine seqL1 (by kernel_rfl) ?_
     refine seqG (by kernel_rfl) (does_run (run_load rfl Try.underlying53 rfl (by kernel_rfl : _ = Value.pointer (some ⟨b4, 1, none⟩)) (HS6.cell 1)) ?_)
     refine seqL4 (by kernel_rfl) ?_
     refine wpList_nil ?_
     refine hK43 _ _ ?_
     have hq_ := ite_some h; clear h; rcases hq_ with ⟨c48, h⟩ | ⟨c48, h⟩
     · have c48 : (mx b1.Lo b1.Hi) > 1152921504606846976 := c48
       refine wpRwI 16 (x := (decide ((mx b1.Lo b1.Hi) > 1152921504606846976))) (v := true) (by kernel_rfl) (decide_eq_true c48) ?_
       refine wpRwI 29 (x := (decide ((mx b1.Lo b1.Hi) > 1152921504606846976))) (v := true) (by kernel_rfl) (decide_eq_true c48) ?_
       refine wpRwI 30 (x := (decide ((mx b1.Lo b1.Hi) > 1152921504606846976))) (v := true) (by kernel_rfl) (decide_eq_true c48) ?_
       refine condT (by kernel_rfl) ?_
       refine wp_seq_k (fun K49 hK50 => ?_)
       refine wp_region_lit ?_
       refine seqL1 (by kernel_rfl) ?_
       refine wpList_nil ?_
       refine hK50 _ _ ?_
       refine wp_ret ?_
       refine hr13 _ _ ?_
       refine hret _ _ ?_
       refine ends_still (v := Value.int .i64 4) (by kernel_rfl) (by kernel_rfl) ?_
       have HS67 := HS6.drop
       injection h with h
       subst h
       exact ⟨f, rfl, FM.le.refl _, HS67⟩
     · have c48 : ¬ ((mx b1.Lo b1.Hi) > 1152921504606846976) := c48
       refine wpRwI 16 (x := (decide ((mx b1.Lo b1.Hi) > 1152921504606846976))) (v := false) (by kernel_rfl) (decide_eq_false c48) ?_
       refine wpRwI 29 (x := (decide ((mx b1.Lo b1.Hi) > 1152921504606846976))) (v := false) (by kernel_rfl) (decide_eq_false c48) ?_
       refine wpRwI 30 (x := (decide ((mx b1.Lo b1.Hi) > 1152921504606846976))) (v := false) (by kernel_rfl) (decide_eq_false c48) ?_
       refine condF (by kernel_rfl) ?_
       refine wp_seq_k (fun K51 hK52 => ?_)
       refine wp_region_lit ?_
       refine seqL1 (by kernel_rfl) ?_
       refine seqK rfl (does_run (run_load rfl Try.underlying53 rfl (by kernel_rfl : _ = Value.pointer (some ⟨b4, 0, none⟩)) (HS6.cell 0)) ?_)
       refine seqL1 (by kernel_rfl) ?_
       refine seqK rfl (does_run (run_load rfl Try.underlying53 rfl (by kernel_rfl : _ = Value.pointer (some ⟨b4, 1, none⟩)) (HS6.cell 1)) ?_)
       refine seqL2 (by kernel_rfl) ?_
       refine wpList_nil ?_
       refine hK52 _ _ ?_
       have hq_ := ite_some h; clear h; rcases hq_ with ⟨c54, h⟩ | ⟨c54, h⟩
       · have c54 : b1.Lo > b1.Hi := c54
         refine wpRwI 31 (x := (decide (b1.Lo > b1.Hi))) (v := true) (by kernel_rfl) (decide_eq_true c54) ?_
         refine wpRwI 36 (x := (decide (b1.Lo > b1.Hi))) (v := true) (by kernel_rfl) (decide_eq_true c54) ?_
         refine condT (by kernel_rfl) ?_
         refine wp_seq_k (fun K55 hK56 => ?_)
         refine wp_region_lit ?_
         refine seqL1 (by kernel_rfl) ?_
         refine wpList_nil ?_
         refine hK56 _ _ ?_
         refine wp_ret ?_
         refine hr13 _ _ ?_
         refine hret _ _ ?_
         refine ends_still (v := Value.int .i64 11) (by kernel_rfl) (by kernel_rfl) ?_
         have HS68 := HS6.drop
         injection h with h
         subst h
         exact ⟨f, rfl, FM.le.refl _, HS68⟩
       · have c54 : ¬ (b1.Lo > b1.Hi) := c54
         refine wpRwI 31 (x := (decide (b1.Lo > b1.Hi))) (v := false) (by kernel_rfl) (decide_eq_false c54) ?_
         refine wpRwI 36 (x := (decide (b1.Lo > b1.Hi))) (v := false) (by kernel_rfl) (decide_eq_false c54) ?_
         refine condF (by kernel_rfl) ?_
         refine wp_skip ?_
         refine hn12 _ _ ?_
         refine hK9 _ _ ?_
         refine wp_seq_k (fun K59 hK60 => ?_)
         refine wp_region_lit ?_
         refine seqL1 (by kernel_rfl) ?_
         refine wpList_nil ?_
         refine hK60 _ _ ?_
         refine wp_ret ?_
         refine hret _ _ ?_
         refine ends_still (v := Value.int .i64 0) (by kernel_rfl) (by kernel_rfl) ?_
         have HS70 := HS6.drop
         injection h with h
         subst h
         exact ⟨f, rfl, FM.le.refl _, HS70⟩

set_option maxRecDepth 100000 in
set_option maxHeartbeats 4000000 in
theorem catalog_ends_Coord.calls (k : Nat)  (b1 : S_Bound) (most2 : Int) {t w : World} {f : FM} {H : List Seg} (HS : St t w f (H)) (rr1 : Int) (h : catalog_ends_Coord k b1 most2 = some rr1) :
    Calls Try.prog 54 #[.agg #[.int .i64 b1.Lo, .int .i64 b1.Hi, .bool b1.Unknown], .int .i64 most2] w (fun e w' => ∃ (g : FM), e = .returned (Value.int .i64 rr1) ∧ FM.le f g ∧ St t w' g (H)) := by
 unfold catalog_ends_Coord at h
 refine enter Try.func54 rfl (tm := #[(ag_Bound b1), iV most2, uV, uV, uV, uV, uV, uV, uV, uV, uV, uV, uV, uV, uV, uV, uV, uV, uV, uV, uV, uV]) (by kernel_rfl) ?_
 intro B hret hnor hnp
 refine wp_seq_k (fun K3 hK4 => ?_)
 refine wp_region_lit ?_
 refine seqK rfl (does_box (cs := #[.int .i64 b1.Lo, .int .i64 b1.Hi, .bool b1.Unknown]) rfl (by kernel_rfl : _ = Value.agg #[.int .i64 b1.Lo, .int .i64 b1.Hi, .bool b1.Unknown]) rfl HS ?_)
 intro b5 W6 HS7
 refine seqL1 (by kernel_rfl) ?_
 refine wpList_nil ?_
 refine hK4 _ _ ?_
 refine wp_seq_k (fun K9 hK10 => ?_)
 refine wp_seq_k (fun K11 hK12 => ?_)
 refine wp_region_lit ?_
 refine seqK rfl (does_run (run_loadN (n := 3) rfl Try.underlying55 rfl (by kernel_rfl) (by kernel_rfl : _ = Value.pointer (some ⟨b5, 0, none⟩)) (cs := [.int .i64 b1.Lo, .int .i64 b1.Hi, .bool b1.Unknown]) rfl (HS7.cells 0 3 _ rfl)) ?_)
 have hq_ := bind_some h; clear h; obtain ⟨vt13, hc14, h⟩ := hq_
 refine seqK rfl (does_call (f := 60) (args := #[.agg #[.int .i64 b1.Lo, .int .i64 b1.Hi, .bool b1.Unknown]]) (by kernel_rfl) (bound_Check_Coord.calls k b1 HS7 vt13 hc14) ?_)
 rintro _ W17 ⟨f15, rfl, L16, HS18⟩
 refine ⟨_, rfl, ?_⟩
 refine seqL1 (by kernel_rfl) ?_
 refine wpList_nil ?_
 refine hK12 _ _ ?_
 refine wp_seq_k (fun K19 hK20 => ?_)
 refine wp_region_lit ?_
 refine seqL2 (by kernel_rfl) ?_
 refine wpList_nil ?_
 refine hK20 _ _ ?_
 have hq_ := ite_some h; clear h; rcases hq_ with ⟨c22, h⟩ | ⟨c22, h⟩
 · have c22 : vt13 ≠ 0 := c22
   refine wpRwI 9 (x := (vt13 != 0)) (v := true) (by kernel_rfl) (bne_iff_ne.mpr c22) ?_
   refine condT (by kernel_rfl) ?_
   refine wp_seq_k (fun K23 hK24 => ?_)
   refine wp_region_lit ?_
   refine seqL2 (by kernel_rfl) ?_
   refine wpList_nil ?_
   refine hK24 _ _ ?_
   refine wp_ret ?_
   refine hret _ _ ?_
   refine ends_still (v := Value.int .i64 vt13) (by kernel_rfl) (by kernel_rfl) ?_
   have HS38 := HS18.drop
   injection h with h
   subst h
   exact ⟨f15, rfl, L16, HS38⟩
 · have c22 : ¬ (vt13 ≠ 0) := c22
   refine wpRwI 9 (x := (vt13 != 0)) (v := false) (by kernel_rfl) (bne_eq_false_iff_eq.mpr (Decidable.of_not_not c22)) ?_
   refine condF (by kernel_rfl) ?_
   refine wp_skip ?_
   refine hK10 _ _ ?_
   refine wp_seq_k (fun K25 hK26 => ?_)
   refine wp_seq_k (fun K27 hK28 => ?_)
   refine wp_region_lit ?_
   refine seqL1 (by kernel_rfl) ?_
   refine seqK rfl (does_run (run_load rfl Try.underlying53 rfl (by kernel_rfl : _ = Value.pointer (some ⟨b5, 0, none⟩)) (HS18.cell 0)) ?_)
   refine seqL4 (by kernel_rfl) ?_
   have hq_ := ite_some h; clear h; rcases hq_ with ⟨c29, h⟩ | ⟨c29, h⟩
   · have c29 : b1.Lo < (w64 (0 - most2)) := c29
     refine seqRwI 15 (x := (decide (b1.Lo < (w64 (0 - most2))))) (v := true) (by kernel_rfl) (decide_eq_true c29) ?_
     refine seqRwI 16 (x := (decide (b1.Lo < (w64 (0 - most2))))) (v := true) (by kernel_rfl) (decide_eq_true c29) ?_
     refine seqL5 (by kernel_rfl) ?_
     refine wpList_nil ?_
     refine hK28 _ _ ?_
     refine condT (by kernel_rfl) ?_
     refine wp_seq_k (fun K30 hK31 => ?_)
     refine wp_region_lit ?_
     refine seqS1 (a' := ⟨#[(ag_Bound b1), iV most2, pV b5 0, uV, iV 4, iV vt13, (ag_Bound b1), iV vt13, iV vt13, fV, uV, pV b5 0, iV b1.Lo, iV most2, iV (w64 (0 - most2)), tV, tV, uV, uV, uV, uV, tV], []⟩) (by kernel_rfl) ?_
     refine wpList_nil ?_
     refine hK31 _ _ ?_
     refine wp_ret ?_
     refine hret _ _ ?_
     refine ends_still (v := Value.int .i64 4) (by kernel_rfl) (by kernel_rfl) ?_
     have HS39 := HS18.drop
     injection h with h
     subst h
     exact ⟨f15, rfl, L16, HS39⟩
   · have c29 : ¬ (b1.Lo < (w64 (0 - most2))) := c29
     refine seqRwI 15 (x := (decide (b1.Lo < (w64 (0 - most2))))) (v := false) (by kernel_rfl) (decide_eq_false c29) ?_
     refine seqRwI 16 (x := (decide (b1.Lo < (w64 (0 - most2))))) (v := false) (by kernel_rfl) (decide_eq_false c29) ?_
     refine seqL1 (by kernel_rfl) ?_
     refine seqG (by kernel_rfl) (does_run (run_load rfl Try.underlying53 rfl (by kernel_rfl : _ = Value.pointer (some ⟨b5, 1, none⟩)) (HS18.cell 1)) ?_)
     refine seqL3 (by kernel_rfl) ?_
     refine wpList_nil ?_
     refine hK28 _ _ ?_
     have hq_ := ite_some h; clear h; rcases hq_ with ⟨c33, h⟩ | ⟨c33, h⟩
     · have c33 : b1.Hi > most2 := c33
       refine wpRwI 20 (x := (decide (b1.Hi > most2))) (v := true) (by kernel_rfl) (decide_eq_true c33) ?_
       refine wpRwI 21 (x := (decide (b1.Hi > most2))) (v := true) (by kernel_rfl) (decide_eq_true c33) ?_
       refine condT (by kernel_rfl) ?_
       refine wp_seq_k (fun K34 hK35 => ?_)
       refine wp_region_lit ?_
       refine seqL1 (by kernel_rfl) ?_
       refine wpList_nil ?_
       refine hK35 _ _ ?_
       refine wp_ret ?_
       refine hret _ _ ?_
       refine ends_still (v := Value.int .i64 4) (by kernel_rfl) (by kernel_rfl) ?_
       have HS40 := HS18.drop
       injection h with h
       subst h
       exact ⟨f15, rfl, L16, HS40⟩
     · have c33 : ¬ (b1.Hi > most2) := c33
       refine wpRwI 20 (x := (decide (b1.Hi > most2))) (v := false) (by kernel_rfl) (decide_eq_false c33) ?_
       refine wpRwI 21 (x := (decide (b1.Hi > most2))) (v := false) (by kernel_rfl) (decide_eq_false c33) ?_
       refine condF (by kernel_rfl) ?_
       refine wp_skip ?_
       refine hK26 _ _ ?_
       refine wp_seq_k (fun K36 hK37 => ?_)
       refine wp_region_lit ?_
       refine seqL1 (by kernel_rfl) ?_
       refine wpList_nil ?_
       refine hK37 _ _ ?_
       refine wp_ret ?_
       refine hret _ _ ?_
       refine ends_still (v := Value.int .i64 0) (by kernel_rfl) (by kernel_rfl) ?_
       have HS41 := HS18.drop
       injection h with h
       subst h
       exact ⟨f15, rfl, L16, HS41⟩

set_option maxRecDepth 100000 in
set_option maxHeartbeats 4000000 in
theorem bound_Check_Quanta.calls (k : Nat)  (b1 : S_Bound) {t w : World} {f : FM} {H : List Seg} (HS : St t w f (H)) (rr1 : Int) (h : bound_Check_Quanta k b1 = some rr1) :
    Calls Try.prog 61 #[.agg #[.int .i64 b1.Lo, .int .i64 b1.Hi, .bool b1.Unknown]] w (fun e w' => ∃ (g : FM), e = .returned (Value.int .i64 rr1) ∧ FM.le f g ∧ St t w' g (H)) := by
 unfold bound_Check_Quanta at h
 refine enter Try.func61 rfl (tm := #[(ag_Bound b1), uV, uV, uV, uV, uV, uV, uV, uV, uV, uV, uV, uV, uV, uV, uV, uV, uV, uV, uV, uV, uV, uV, uV, uV, uV, uV, uV, uV, uV, uV, uV, uV, uV, uV, uV, uV]) (by kernel_rfl) ?_
 intro B hret hnor hnp
 refine wp_seq_k (fun K2 hK3 => ?_)
 refine wp_region_lit ?_
 refine seqK rfl (does_box (cs := #[.int .i64 b1.Lo, .int .i64 b1.Hi, .bool b1.Unknown]) rfl (by kernel_rfl : _ = Value.agg #[.int .i64 b1.Lo, .int .i64 b1.Hi, .bool b1.Unknown]) rfl HS ?_)
 intro b4 W5 HS6
 refine seqL1 (by kernel_rfl) ?_
 refine wpList_nil ?_
 refine hK3 _ _ ?_
 refine wp_seq_k (fun K8 hK9 => ?_)
 refine blockK (fun B10 hx11 hn12 hr13 ho14 hp15 => ?_)
 refine wp_seq_k (fun K17 hK18 => ?_)
 refine wp_region_lit ?_
 refine seqL1 (by kernel_rfl) ?_
 refine seqK rfl (does_run (run_load rfl Try.underlying4 rfl (by kernel_rfl : _ = Value.pointer (some ⟨b4, 2, none⟩)) (HS6.cell 2)) ?_)
 refine seqL1 (by kernel_rfl) ?_
 have hq_ := ite_some h; clear h; rcases hq_ with ⟨c19, h⟩ | ⟨c19, h⟩
 · have c19 : b1.Unknown = true := c19
   refine seqRwI 5 (x := b1.Unknown) (v := true) (by kernel_rfl) c19 ?_
   refine seqRwI 6 (x := b1.Unknown) (v := true) (by kernel_rfl) c19 ?_
   refine seqL1 (by kernel_rfl) ?_
   refine seqG (by kernel_rfl) (does_run (run_load rfl Try.underlying58 rfl (by kernel_rfl : _ = Value.pointer (some ⟨b4, 0, none⟩)) (HS6.cell 0)) ?_)
   refine seqL2 (by kernel_rfl) ?_
   have hq_ := ite_some h; clear h; rcases hq_ with ⟨c20, h⟩ | ⟨c20, h⟩
   · have c20 : b1.Lo ≠ 0 := c20
     refine seqRwI 9 (x := (b1.Lo != 0)) (v := true) (by kernel_rfl) (bne_iff_ne.mpr c20) ?_
     refine seqRwI 10 (x := (b1.Lo != 0)) (v := true) (by kernel_rfl) (bne_iff_ne.mpr c20) ?_
     refine seqL6 (by kernel_rfl) ?_
     refine wpList_nil ?_
     refine hK18 _ _ ?_
     refine condT (by kernel_rfl) ?_
     refine wp_seq_k (fun K21 hK22 => ?_)
     refine wp_region_lit ?_
     refine seqL1 (by kernel_rfl) ?_
     refine wpList_nil ?_
     refine hK22 _ _ ?_
     refine wp_ret ?_
     refine hr13 _ _ ?_
     refine hret _ _ ?_
     refine ends_still (v := Value.int .i64 3) (by kernel_rfl) (by kernel_rfl) ?_
     have HS61 := HS6.drop
     injection h with h
     subst h
     exact ⟨f, rfl, FM.le.refl _, HS61⟩
   · have c20 : ¬ (b1.Lo ≠ 0) := c20
     refine seqRwI 9 (x := (b1.Lo != 0)) (v := false) (by kernel_rfl) (bne_eq_false_iff_eq.mpr (Decidable.of_not_not c20)) ?_
     refine seqRwI 10 (x := (b1.Lo != 0)) (v := false) (by kernel_rfl) (bne_eq_false_iff_eq.mpr (Decidable.of_not_not c20)) ?_
     refine seqL1 (by kernel_rfl) ?_
     refine seqG (by kernel_rfl) (does_run (run_load rfl Try.underlying58 rfl (by kernel_rfl : _ = Value.pointer (some ⟨b4, 1, none⟩)) (HS6.cell 1)) ?_)
     refine seqL4 (by kernel_rfl) ?_
     refine wpList_nil ?_
     refine hK18 _ _ ?_
     have hq_ := ite_some h; clear h; rcases hq_ with ⟨c24, h⟩ | ⟨c24, h⟩
     · have c24 : b1.Hi ≠ 0 := c24
       refine wpRwI 3 (x := (b1.Hi != 0)) (v := true) (by kernel_rfl) (bne_iff_ne.mpr c24) ?_
       refine wpRwI 13 (x := (b1.Hi != 0)) (v := true) (by kernel_rfl) (bne_iff_ne.mpr c24) ?_
       refine wpRwI 14 (x := (b1.Hi != 0)) (v := true) (by kernel_rfl) (bne_iff_ne.mpr c24) ?_
       refine wpRwI 15 (x := (b1.Hi != 0)) (v := true) (by kernel_rfl) (bne_iff_ne.mpr c24) ?_
       refine condT (by kernel_rfl) ?_
       refine wp_seq_k (fun K25 hK26 => ?_)
       refine wp_region_lit ?_
       refine seqL1 (by kernel_rfl) ?_
       refine wpList_nil ?_
       refine hK26 _ _ ?_
       refine wp_ret ?_
       refine hr13 _ _ ?_
       refine hret _ _ ?_
       refine ends_still (v := Value.int .i64 3) (by kernel_rfl) (by kernel_rfl) ?_
       have HS62 := HS6.drop
       injection h with h
       subst h
       exact ⟨f, rfl, FM.le.refl _, HS62⟩
     · have c24 : ¬ (b1.Hi ≠ 0) := c24
       refine wpRwI 3 (x := (b1.Hi != 0)) (v := false) (by kernel_rfl) (bne_eq_false_iff_eq.mpr (Decidable.of_not_not c24)) ?_
       refine wpRwI 13 (x := (b1.Hi != 0)) (v := false) (by kernel_rfl) (bne_eq_false_iff_eq.mpr (Decidable.of_not_not c24)) ?_
       refine wpRwI 14 (x := (b1.Hi != 0)) (v := false) (by kernel_rfl) (bne_eq_false_iff_eq.mpr (Decidable.of_not_not c24)) ?_
       refine wpRwI 15 (x := (b1.Hi != 0)) (v := false) (by kernel_rfl) (bne_eq_false_iff_eq.mpr (Decidable.of_not_not c24)) ?_
       refine condF (by kernel_rfl) ?_
       refine wp_seq_k (fun K27 hK28 => ?_)
       refine wp_region_lit ?_
       refine seqL1 (by kernel_rfl) ?_
       refine seqK rfl (does_run (run_load rfl Try.underlying58 rfl (by kernel_rfl : _ = Value.pointer (some ⟨b4, 0, none⟩)) (HS6.cell 0)) ?_)
       refine seqL1 (by kernel_rfl) ?_
       refine seqK rfl (does_run (run_load rfl Try.underlying58 rfl (by kernel_rfl : _ = Value.pointer (some ⟨b4, 1, none⟩)) (HS6.cell 1)) ?_)
       refine seqS3 (a' := ⟨#[(ag_Bound b1), pV b4 0, iV 0, fV, pV b4 2, tV, tV, pV b4 0, iV b1.Lo, fV, fV, pV b4 1, iV b1.Hi, fV, fV, fV, uV, pV b4 0, iV b1.Lo, pV b4 1, iV b1.Hi, iV (mn b1.Lo b1.Hi), .bool (decide ((mn b1.Lo b1.Hi) < (-1152921504606846976))), .bool (decide ((mn b1.Lo b1.Hi) < (-1152921504606846976))), uV, uV, uV, uV, uV, uV, uV, uV, uV, uV, uV, uV, uV], []⟩) (by kernel_rfl) ?_
       have hq_ := ite_some h; clear h; rcases hq_ with ⟨c29, h⟩ | ⟨c29, h⟩
       · have c29 : (mn b1.Lo b1.Hi) < (-1152921504606846976) := c29
         refine seqRwI 22 (x := (decide ((mn b1.Lo b1.Hi) < (-1152921504606846976)))) (v := true) (by kernel_rfl) (decide_eq_true c29) ?_
         refine seqRwI 23 (x := (decide ((mn b1.Lo b1.Hi) < (-1152921504606846976)))) (v := true) (by kernel_rfl) (decide_eq_true c29) ?_
         refine seqL8 (by kernel_rfl) ?_
         refine wpList_nil ?_
         refine hK28 _ _ ?_
         refine condT (by kernel_rfl) ?_
         refine wp_seq_k (fun K30 hK31 => ?_)
         refine wp_region_lit ?_
         refine seqL1 (by kernel_rfl) ?_
         refine wpList_nil ?_
         refine hK31 _ _ ?_
         refine wp_ret ?_
         refine hr13 _ _ ?_
         refine hret _ _ ?_
         refine ends_still (v := Value.int .i64 4) (by kernel_rfl) (by kernel_rfl) ?_
         have HS63 := HS6.drop
         injection h with h
         subst h
         exact ⟨f, rfl, FM.le.refl _, HS63⟩
       · have c29 : ¬ ((mn b1.Lo b1.Hi) < (-1152921504606846976)) := c29
         refine seqRwI 22 (x := (decide ((mn b1.Lo b1.Hi) < (-1152921504606846976)))) (v := false) (by kernel_rfl) (decide_eq_false c29) ?_
         refine seqRwI 23 (x := (decide ((mn b1.Lo b1.Hi) < (-1152921504606846976)))) (v := false) (by kernel_rfl) (decide_eq_false c29) ?_
         refine seqL1 (by kernel_rfl) ?_
         refine seqG (by kernel_rfl) (does_run (run_load rfl Try.underlying58 rfl (by kernel_rfl : _ = Value.pointer (some ⟨b4, 0, none⟩)) (HS6.cell 0)) ?_)
         refine seqL1 (by kernel_rfl) ?_
         refine seqG (by kernel_rfl) (does_run (run_load rfl Try.underlying58 rfl (by kernel_rfl : _ = Value.pointer (some ⟨b4, 1, none⟩)) (HS6.cell 1)) ?_)
         refine seqL4 (by kernel_rfl) ?_
         refine wpList_nil ?_
         refine hK28 _ _ ?_
         have hq_ := ite_some h; clear h; rcases hq_ with ⟨c33, h⟩ | ⟨c33, h⟩
         · have c33 : (mx b1.Lo b1.Hi) > 1152921504606846976 := c33
           refine wpRwI 16 (x := (decide ((mx b1.Lo b1.Hi) > 1152921504606846976))) (v := true) (by kernel_rfl) (decide_eq_true c33) ?_
           refine wpRwI 29 (x := (decide ((mx b1.Lo b1.Hi) > 1152921504606846976))) (v := true) (by kernel_rfl) (decide_eq_true c33) ?_
           refine wpRwI 30 (x := (decide ((mx b1.Lo b1.Hi) > 1152921504606846976))) (v := true) (by kernel_rfl) (decide_eq_true c33) ?_
           refine condT (by kernel_rfl) ?_
           refine wp_seq_k (fun K34 hK35 => ?_)
           refine wp_region_lit ?_
           refine seqL1 (by kernel_rfl) ?_
           refine wpList_nil ?_
           refine hK35 _ _ ?_
           refine wp_ret ?_
           refine hr13 _ _ ?_
           refine hret _ _ ?_
           refine ends_still (v := Value.int .i64 4) (by kernel_rfl) (by kernel_rfl) ?_
           have HS64 := HS6.drop
           injection h with h
           subst h
           exact ⟨f, rfl, FM.le.refl _, HS64⟩
         · have c33 : ¬ ((mx b1.Lo b1.Hi) > 1152921504606846976) := c33
           refine wpRwI 16 (x := (decide ((mx b1.Lo b1.Hi) > 1152921504606846976))) (v := false) (by kernel_rfl) (decide_eq_false c33) ?_
           refine wpRwI 29 (x := (decide ((mx b1.Lo b1.Hi) > 1152921504606846976))) (v := false) (by kernel_rfl) (decide_eq_false c33) ?_
           refine wpRwI 30 (x := (decide ((mx b1.Lo b1.Hi) > 1152921504606846976))) (v := false) (by kernel_rfl) (decide_eq_false c33) ?_
           refine condF (by kernel_rfl) ?_
           refine wp_seq_k (fun K36 hK37 => ?_)
           refine wp_region_lit ?_
           refine seqL1 (by kernel_rfl) ?_
           refine seqK rfl (does_run (run_load rfl Try.underlying58 rfl (by kernel_rfl : _ = Value.pointer (some ⟨b4, 0, none⟩)) (HS6.cell 0)) ?_)
           refine seqL1 (by kernel_rfl) ?_
           refine seqK rfl (does_run (run_load rfl Try.underlying58 rfl (by kernel_rfl : _ = Value.pointer (some ⟨b4, 1, none⟩)) (HS6.cell 1)) ?_)
           refine seqL2 (by kernel_rfl) ?_
           refine wpList_nil ?_
           refine hK37 _ _ ?_
           have hq_ := ite_some h; clear h; rcases hq_ with ⟨c39, h⟩ | ⟨c39, h⟩
           · have c39 : b1.Lo > b1.Hi := c39
             refine wpRwI 31 (x := (decide (b1.Lo > b1.Hi))) (v := true) (by kernel_rfl) (decide_eq_true c39) ?_
             refine wpRwI 36 (x := (decide (b1.Lo > b1.Hi))) (v := true) (by kernel_rfl) (decide_eq_true c39) ?_
             refine condT (by kernel_rfl) ?_
             refine wp_seq_k (fun K40 hK41 => ?_)
             refine wp_region_lit ?_
             refine seqL1 (by kernel_rfl) ?_
             refine wpList_nil ?_
             refine hK41 _ _ ?_
             refine wp_ret ?_
             refine hr13 _ _ ?_
             refine hret _ _ ?_
             refine ends_still (v := Value.int .i64 11) (by kernel_rfl) (by kernel_rfl) ?_
             have HS65 := HS6.drop
             injection h with h
             subst h
             exact ⟨f, rfl, FM.le.refl _, HS65⟩
           · have c39 : ¬ (b1.Lo > b1.Hi) := c39
             refine wpRwI 31 (x := (decide (b1.Lo > b1.Hi))) (v := false) (by kernel_rfl) (decide_eq_false c39) ?_
             refine wpRwI 36 (x := (decide (b1.Lo > b1.Hi))) (v := false) (by kernel_rfl) (decide_eq_false c39) ?_
             refine condF (by kernel_rfl) ?_
             refine wp_skip ?_
             refine hn12 _ _ ?_
             refine hK9 _ _ ?_
             refine wp_seq_k (fun K57 hK58 => ?_)
             refine wp_region_lit ?_
             refine seqL1 (by kernel_rfl) ?_
             refine wpList_nil ?_
             refine hK58 _ _ ?_
             refine wp_ret ?_
             refine hret _ _ ?_
             refine ends_still (v := Value.int .i64 0) (by kernel_rfl) (by kernel_rfl) ?_
             have HS69 := HS6.drop
             injection h with h
             subst h
             exact ⟨f, rfl, FM.le.refl _, HS69⟩
 · have c19 : ¬ (b1.Unknown = true) := c19
   refine seqRwI 5 (x := b1.Unknown) (v := false) (by kernel_rfl) (Bool.eq_false_iff.mpr c19) ?_
   refine seqRwI 6 (x := b1.Unknown) (v := false) (by kernel_rfl) (Bool.eq_false_iff.mpr c19) ?_
   refine seqL10 (by kernel_rfl) ?_
   refine wpList_nil ?_
   refine hK18 _ _ ?_
   refine condF (by kernel_rfl) ?_
   refine wp_seq_k (fun K42 hK43 => ?_)
   refine wp_region_lit ?_
   refine seqL1 (by kernel_rfl) ?_
   refine seqK rfl (does_run (run_load rfl Try.underlying58 rfl (by kernel_rfl : _ = Value.pointer (some ⟨b4, 0, none⟩)) (HS6.cell 0)) ?_)
   refine seqL1 (by kernel_rfl) ?_
   refine seqK rfl (does_run (run_load rfl Try.underlying58 rfl (by kernel_rfl : _ = Value.pointer (some ⟨b4, 1, none⟩)) (HS6.cell 1)) ?_)
   refine seqS3 (a' := ⟨#[(ag_Bound b1), pV b4 0, iV 0, fV, pV b4 2, fV, fV, uV, uV, uV, uV, uV, uV, uV, uV, fV, uV, pV b4 0, iV b1.Lo, pV b4 1, iV b1.Hi, iV (mn b1.Lo b1.Hi), .bool (decide ((mn b1.Lo b1.Hi) < (-1152921504606846976))), .bool (decide ((mn b1.Lo b1.Hi) < (-1152921504606846976))), uV, uV, uV, uV, uV, uV, uV, uV, uV, uV, uV, uV, uV], []⟩) (by kernel_rfl) ?_
   have hq_ := ite_some h; clear h; rcases hq_ with ⟨c44, h⟩ | ⟨c44, h⟩
   · have c44 : (mn b1.Lo b1.Hi) < (-1152921504606846976) := c44
     refine seqRwI 22 (x := (decide ((mn b1.Lo b1.Hi) < (-1152921504606846976)))) (v := true) (by kernel_rfl) (decide_eq_true c44) ?_
     refine seqRwI 23 (x := (decide ((mn b1.Lo b1.Hi) < (-1152921504606846976)))) (v := true) (by kernel_rfl) (decide_eq_true c44) ?_
     refine seqL8 (by kernel_rfl) ?_
     refine wpList_nil ?_
     refine hK43 _ _ ?_
     refine condT (by kernel_rfl) ?_
     refine wp_seq_k (fun K45 hK46 => ?_)
     refine wp_region_lit ?_
     refine seqL1 (by kernel_rfl) ?_
     refine wpList_nil ?_
     refine hK46 _ _ ?_
     refine wp_ret ?_
     refine hr13 _ _ ?_
     refine hret _ _ ?_
     refine ends_still (v := Value.int .i64 4) (by kernel_rfl) (by kernel_rfl) ?_
     have HS66 := HS6.drop
     injection h with h
     subst h
     exact ⟨f, rfl, FM.le.refl _, HS66⟩
   · have c44 : ¬ ((mn b1.Lo b1.Hi) < (-1152921504606846976)) := c44
     refine seqRwI 22 (x := (decide ((mn b1.Lo b1.Hi) < (-1152921504606846976)))) (v := false) (by kernel_rfl) (decide_eq_false c44) ?_
     refine seqRwI 23 (x := (decide ((mn b1.Lo b1.Hi) < (-1152921504606846976)))) (v := false) (by kernel_rfl) (decide_eq_false c44) ?_
     refine seqL1 (by kernel_rfl) ?_
     refine seqG (by kernel_rfl) (does_run (run_load rfl Try.underlying58 rfl (by kernel_rfl : _ = Value.pointer (some ⟨b4, 0, none⟩)) (HS6.cell 0)) ?_)
     refine seqL1 (by kernel_rfl) ?_
     refine seqG (by kernel_rfl) (does_run (run_load rfl Try.underlying58 rfl (by kernel_rfl : _ = Value.pointer (some ⟨b4, 1, none⟩)) (HS6.cell 1)) ?_)
     refine seqL4 (by kernel_rfl) ?_
     refine wpList_nil ?_
     refine hK43 _ _ ?_
     have hq_ := ite_some h; clear h; rcases hq_ with ⟨c48, h⟩ | ⟨c48, h⟩
     · have c48 : (mx b1.Lo b1.Hi) > 1152921504606846976 := c48
       refine wpRwI 16 (x := (decide ((mx b1.Lo b1.Hi) > 1152921504606846976))) (v := true) (by kernel_rfl) (decide_eq_true c48) ?_
       refine wpRwI 29 (x := (decide ((mx b1.Lo b1.Hi) > 1152921504606846976))) (v := true) (by kernel_rfl) (decide_eq_true c48) ?_
       refine wpRwI 30 (x := (decide ((mx b1.Lo b1.Hi) > 1152921504606846976))) (v := true) (by kernel_rfl) (decide_eq_true c48) ?_
       refine condT (by kernel_rfl) ?_
       refine wp_seq_k (fun K49 hK50 => ?_)
       refine wp_region_lit ?_
       refine seqL1 (by kernel_rfl) ?_
       refine wpList_nil ?_
       refine hK50 _ _ ?_
       refine wp_ret ?_
       refine hr13 _ _ ?_
       refine hret _ _ ?_
       refine ends_still (v := Value.int .i64 4) (by kernel_rfl) (by kernel_rfl) ?_
       have HS67 := HS6.drop
       injection h with h
       subst h
       exact ⟨f, rfl, FM.le.refl _, HS67⟩
     · have c48 : ¬ ((mx b1.Lo b1.Hi) > 1152921504606846976) := c48
       refine wpRwI 16 (x := (decide ((mx b1.Lo b1.Hi) > 1152921504606846976))) (v := false) (by kernel_rfl) (decide_eq_false c48) ?_
       refine wpRwI 29 (x := (decide ((mx b1.Lo b1.Hi) > 1152921504606846976))) (v := false) (by kernel_rfl) (decide_eq_false c48) ?_
       refine wpRwI 30 (x := (decide ((mx b1.Lo b1.Hi) > 1152921504606846976))) (v := false) (by kernel_rfl) (decide_eq_false c48) ?_
       refine condF (by kernel_rfl) ?_
       refine wp_seq_k (fun K51 hK52 => ?_)
       refine wp_region_lit ?_
       refine seqL1 (by kernel_rfl) ?_
       refine seqK rfl (does_run (run_load rfl Try.underlying58 rfl (by kernel_rfl : _ = Value.pointer (some ⟨b4, 0, none⟩)) (HS6.cell 0)) ?_)
       refine seqL1 (by kernel_rfl) ?_
       refine seqK rfl (does_run (run_load rfl Try.underlying58 rfl (by kernel_rfl : _ = Value.pointer (some ⟨b4, 1, none⟩)) (HS6.cell 1)) ?_)
       refine seqL2 (by kernel_rfl) ?_
       refine wpList_nil ?_
       refine hK52 _ _ ?_
       have hq_ := ite_some h; clear h; rcases hq_ with ⟨c54, h⟩ | ⟨c54, h⟩
       · have c54 : b1.Lo > b1.Hi := c54
         refine wpRwI 31 (x := (decide (b1.Lo > b1.Hi))) (v := true) (by kernel_rfl) (decide_eq_true c54) ?_
         refine wpRwI 36 (x := (decide (b1.Lo > b1.Hi))) (v := true) (by kernel_rfl) (decide_eq_true c54) ?_
         refine condT (by kernel_rfl) ?_
         refine wp_seq_k (fun K55 hK56 => ?_)
         refine wp_region_lit ?_
         refine seqL1 (by kernel_rfl) ?_
         refine wpList_nil ?_
         refine hK56 _ _ ?_
         refine wp_ret ?_
         refine hr13 _ _ ?_
         refine hret _ _ ?_
         refine ends_still (v := Value.int .i64 11) (by kernel_rfl) (by kernel_rfl) ?_
         have HS68 := HS6.drop
         injection h with h
         subst h
         exact ⟨f, rfl, FM.le.refl _, HS68⟩
       · have c54 : ¬ (b1.Lo > b1.Hi) := c54
         refine wpRwI 31 (x := (decide (b1.Lo > b1.Hi))) (v := false) (by kernel_rfl) (decide_eq_false c54) ?_
         refine wpRwI 36 (x := (decide (b1.Lo > b1.Hi))) (v := false) (by kernel_rfl) (decide_eq_false c54) ?_
         refine condF (by kernel_rfl) ?_
         refine wp_skip ?_
         refine hn12 _ _ ?_
         refine hK9 _ _ ?_
         refine wp_seq_k (fun K59 hK60 => ?_)
         refine wp_region_lit ?_
         refine seqL1 (by kernel_rfl) ?_
         refine wpList_nil ?_
         refine hK60 _ _ ?_
         refine wp_ret ?_
         refine hret _ _ ?_
         refine ends_still (v := Value.int .i64 0) (by kernel_rfl) (by kernel_rfl) ?_
         have HS70 := HS6.drop
         injection h with h
         subst h
         exact ⟨f, rfl, FM.le.refl _, HS70⟩

set_option maxRecDepth 100000 in
set_option maxHeartbeats 4000000 in
theorem catalog_ends_Quanta.calls (k : Nat)  (b1 : S_Bound) (most2 : Int) {t w : World} {f : FM} {H : List Seg} (HS : St t w f (H)) (rr1 : Int) (h : catalog_ends_Quanta k b1 most2 = some rr1) :
    Calls Try.prog 55 #[.agg #[.int .i64 b1.Lo, .int .i64 b1.Hi, .bool b1.Unknown], .int .i64 most2] w (fun e w' => ∃ (g : FM), e = .returned (Value.int .i64 rr1) ∧ FM.le f g ∧ St t w' g (H)) := by
 unfold catalog_ends_Quanta at h
 refine enter Try.func55 rfl (tm := #[(ag_Bound b1), iV most2, uV, uV, uV, uV, uV, uV, uV, uV, uV, uV, uV, uV, uV, uV, uV, uV, uV, uV, uV, uV]) (by kernel_rfl) ?_
 intro B hret hnor hnp
 refine wp_seq_k (fun K3 hK4 => ?_)
 refine wp_region_lit ?_
 refine seqK rfl (does_box (cs := #[.int .i64 b1.Lo, .int .i64 b1.Hi, .bool b1.Unknown]) rfl (by kernel_rfl : _ = Value.agg #[.int .i64 b1.Lo, .int .i64 b1.Hi, .bool b1.Unknown]) rfl HS ?_)
 intro b5 W6 HS7
 refine seqL1 (by kernel_rfl) ?_
 refine wpList_nil ?_
 refine hK4 _ _ ?_
 refine wp_seq_k (fun K9 hK10 => ?_)
 refine wp_seq_k (fun K11 hK12 => ?_)
 refine wp_region_lit ?_
 refine seqK rfl (does_run (run_loadN (n := 3) rfl Try.underlying60 rfl (by kernel_rfl) (by kernel_rfl : _ = Value.pointer (some ⟨b5, 0, none⟩)) (cs := [.int .i64 b1.Lo, .int .i64 b1.Hi, .bool b1.Unknown]) rfl (HS7.cells 0 3 _ rfl)) ?_)
 have hq_ := bind_some h; clear h; obtain ⟨vt13, hc14, h⟩ := hq_
 refine seqK rfl (does_call (f := 61) (args := #[.agg #[.int .i64 b1.Lo, .int .i64 b1.Hi, .bool b1.Unknown]]) (by kernel_rfl) (bound_Check_Quanta.calls k b1 HS7 vt13 hc14) ?_)
 rintro _ W17 ⟨f15, rfl, L16, HS18⟩
 refine ⟨_, rfl, ?_⟩
 refine seqL1 (by kernel_rfl) ?_
 refine wpList_nil ?_
 refine hK12 _ _ ?_
 refine wp_seq_k (fun K19 hK20 => ?_)
 refine wp_region_lit ?_
 refine seqL2 (by kernel_rfl) ?_
 refine wpList_nil ?_
 refine hK20 _ _ ?_
 have hq_ := ite_some h; clear h; rcases hq_ with ⟨c22, h⟩ | ⟨c22, h⟩
 · have c22 : vt13 ≠ 0 := c22
   refine wpRwI 9 (x := (vt13 != 0)) (v := true) (by kernel_rfl) (bne_iff_ne.mpr c22) ?_
   refine condT (by kernel_rfl) ?_
   refine wp_seq_k (fun K23 hK24 => ?_)
   refine wp_region_lit ?_
   refine seqL2 (by kernel_rfl) ?_
   refine wpList_nil ?_
   refine hK24 _ _ ?_
   refine wp_ret ?_
   refine hret _ _ ?_
   refine ends_still (v := Value.int .i64 vt13) (by kernel_rfl) (by kernel_rfl) ?_
   have HS38 := HS18.drop
   injection h with h
   subst h
   exact ⟨f15, rfl, L16, HS38⟩
 · have c22 : ¬ (vt13 ≠ 0) := c22
   refine wpRwI 9 (x := (vt13 != 0)) (v := false) (by kernel_rfl) (bne_eq_false_iff_eq.mpr (Decidable.of_not_not c22)) ?_
   refine condF (by kernel_rfl) ?_
   refine wp_skip ?_
   refine hK10 _ _ ?_
   refine wp_seq_k (fun K25 hK26 => ?_)
   refine wp_seq_k (fun K27 hK28 => ?_)
   refine wp_region_lit ?_
   refine seqL1 (by kernel_rfl) ?_
   refine seqK rfl (does_run (run_load rfl Try.underlying58 rfl (by kernel_rfl : _ = Value.pointer (some ⟨b5, 0, none⟩)) (HS18.cell 0)) ?_)
   refine seqL4 (by kernel_rfl) ?_
   have hq_ := ite_some h; clear h; rcases hq_ with ⟨c29, h⟩ | ⟨c29, h⟩
   · have c29 : b1.Lo < (w64 (0 - most2)) := c29
     refine seqRwI 15 (x := (decide (b1.Lo < (w64 (0 - most2))))) (v := true) (by kernel_rfl) (decide_eq_true c29) ?_
     refine seqRwI 16 (x := (decide (b1.Lo < (w64 (0 - most2))))) (v := true) (by kernel_rfl) (decide_eq_true c29) ?_
     refine seqL5 (by kernel_rfl) ?_
     refine wpList_nil ?_
     refine hK28 _ _ ?_
     refine condT (by kernel_rfl) ?_
     refine wp_seq_k (fun K30 hK31 => ?_)
     refine wp_region_lit ?_
     refine seqS1 (a' := ⟨#[(ag_Bound b1), iV most2, pV b5 0, uV, iV 4, iV vt13, (ag_Bound b1), iV vt13, iV vt13, fV, uV, pV b5 0, iV b1.Lo, iV most2, iV (w64 (0 - most2)), tV, tV, uV, uV, uV, uV, tV], []⟩) (by kernel_rfl) ?_
     refine wpList_nil ?_
     refine hK31 _ _ ?_
     refine wp_ret ?_
     refine hret _ _ ?_
     refine ends_still (v := Value.int .i64 4) (by kernel_rfl) (by kernel_rfl) ?_
     have HS39 := HS18.drop
     injection h with h
     subst h
     exact ⟨f15, rfl, L16, HS39⟩
   · have c29 : ¬ (b1.Lo < (w64 (0 - most2))) := c29
     refine seqRwI 15 (x := (decide (b1.Lo < (w64 (0 - most2))))) (v := false) (by kernel_rfl) (decide_eq_false c29) ?_
     refine seqRwI 16 (x := (decide (b1.Lo < (w64 (0 - most2))))) (v := false) (by kernel_rfl) (decide_eq_false c29) ?_
     refine seqL1 (by kernel_rfl) ?_
     refine seqG (by kernel_rfl) (does_run (run_load rfl Try.underlying58 rfl (by kernel_rfl : _ = Value.pointer (some ⟨b5, 1, none⟩)) (HS18.cell 1)) ?_)
     refine seqL3 (by kernel_rfl) ?_
     refine wpList_nil ?_
     refine hK28 _ _ ?_
     have hq_ := ite_some h; clear h; rcases hq_ with ⟨c33, h⟩ | ⟨c33, h⟩
     · have c33 : b1.Hi > most2 := c33
       refine wpRwI 20 (x := (decide (b1.Hi > most2))) (v := true) (by kernel_rfl) (decide_eq_true c33) ?_
       refine wpRwI 21 (x := (decide (b1.Hi > most2))) (v := true) (by kernel_rfl) (decide_eq_true c33) ?_
       refine condT (by kernel_rfl) ?_
       refine wp_seq_k (fun K34 hK35 => ?_)
       refine wp_region_lit ?_
       refine seqL1 (by kernel_rfl) ?_
       refine wpList_nil ?_
       refine hK35 _ _ ?_
       refine wp_ret ?_
       refine hret _ _ ?_
       refine ends_still (v := Value.int .i64 4) (by kernel_rfl) (by kernel_rfl) ?_
       have HS40 := HS18.drop
       injection h with h
       subst h
       exact ⟨f15, rfl, L16, HS40⟩
     · have c33 : ¬ (b1.Hi > most2) := c33
       refine wpRwI 20 (x := (decide (b1.Hi > most2))) (v := false) (by kernel_rfl) (decide_eq_false c33) ?_
       refine wpRwI 21 (x := (decide (b1.Hi > most2))) (v := false) (by kernel_rfl) (decide_eq_false c33) ?_
       refine condF (by kernel_rfl) ?_
       refine wp_skip ?_
       refine hK26 _ _ ?_
       refine wp_seq_k (fun K36 hK37 => ?_)
       refine wp_region_lit ?_
       refine seqL1 (by kernel_rfl) ?_
       refine wpList_nil ?_
       refine hK37 _ _ ?_
       refine wp_ret ?_
       refine hret _ _ ?_
       refine ends_still (v := Value.int .i64 0) (by kernel_rfl) (by kernel_rfl) ?_
       have HS41 := HS18.drop
       injection h with h
       subst h
       exact ⟨f15, rfl, L16, HS41⟩

set_option maxRecDepth 100000 in
set_option maxHeartbeats 4000000 in
theorem bound_Check_Tick.calls (k : Nat)  (b1 : S_Bound) {t w : World} {f : FM} {H : List Seg} (HS : St t w f (H)) (rr1 : Int) (h : bound_Check_Tick k b1 = some rr1) :
    Calls Try.prog 62 #[.agg #[.int .i64 b1.Lo, .int .i64 b1.Hi, .bool b1.Unknown]] w (fun e w' => ∃ (g : FM), e = .returned (Value.int .i64 rr1) ∧ FM.le f g ∧ St t w' g (H)) := by
 unfold bound_Check_Tick at h
 refine enter Try.func62 rfl (tm := #[(ag_Bound b1), uV, uV, uV, uV, uV, uV, uV, uV, uV, uV, uV, uV, uV, uV, uV, uV, uV, uV, uV, uV, uV, uV, uV, uV, uV, uV, uV, uV, uV, uV, uV, uV, uV, uV, uV, uV]) (by kernel_rfl) ?_
 intro B hret hnor hnp
 refine wp_seq_k (fun K2 hK3 => ?_)
 refine wp_region_lit ?_
 refine seqK rfl (does_box (cs := #[.int .i64 b1.Lo, .int .i64 b1.Hi, .bool b1.Unknown]) rfl (by kernel_rfl : _ = Value.agg #[.int .i64 b1.Lo, .int .i64 b1.Hi, .bool b1.Unknown]) rfl HS ?_)
 intro b4 W5 HS6
 refine seqL1 (by kernel_rfl) ?_
 refine wpList_nil ?_
 refine hK3 _ _ ?_
 refine wp_seq_k (fun K8 hK9 => ?_)
 refine blockK (fun B10 hx11 hn12 hr13 ho14 hp15 => ?_)
 refine wp_seq_k (fun K17 hK18 => ?_)
 refine wp_region_lit ?_
 refine seqL1 (by kernel_rfl) ?_
 refine seqK rfl (does_run (run_load rfl Try.underlying4 rfl (by kernel_rfl : _ = Value.pointer (some ⟨b4, 2, none⟩)) (HS6.cell 2)) ?_)
 refine seqL1 (by kernel_rfl) ?_
 have hq_ := ite_some h; clear h; rcases hq_ with ⟨c19, h⟩ | ⟨c19, h⟩
 · have c19 : b1.Unknown = true := c19
   refine seqRwI 5 (x := b1.Unknown) (v := true) (by kernel_rfl) c19 ?_
   refine seqRwI 6 (x := b1.Unknown) (v := true) (by kernel_rfl) c19 ?_
   refine seqL1 (by kernel_rfl) ?_
   refine seqG (by kernel_rfl) (does_run (run_load rfl Try.underlying61 rfl (by kernel_rfl : _ = Value.pointer (some ⟨b4, 0, none⟩)) (HS6.cell 0)) ?_)
   refine seqL2 (by kernel_rfl) ?_
   have hq_ := ite_some h; clear h; rcases hq_ with ⟨c20, h⟩ | ⟨c20, h⟩
   · have c20 : b1.Lo ≠ 0 := c20
     refine seqRwI 9 (x := (b1.Lo != 0)) (v := true) (by kernel_rfl) (bne_iff_ne.mpr c20) ?_
     refine seqRwI 10 (x := (b1.Lo != 0)) (v := true) (by kernel_rfl) (bne_iff_ne.mpr c20) ?_
     refine seqL6 (by kernel_rfl) ?_
     refine wpList_nil ?_
     refine hK18 _ _ ?_
     refine condT (by kernel_rfl) ?_
     refine wp_seq_k (fun K21 hK22 => ?_)
     refine wp_region_lit ?_
     refine seqL1 (by kernel_rfl) ?_
     refine wpList_nil ?_
     refine hK22 _ _ ?_
     refine wp_ret ?_
     refine hr13 _ _ ?_
     refine hret _ _ ?_
     refine ends_still (v := Value.int .i64 3) (by kernel_rfl) (by kernel_rfl) ?_
     have HS61 := HS6.drop
     injection h with h
     subst h
     exact ⟨f, rfl, FM.le.refl _, HS61⟩
   · have c20 : ¬ (b1.Lo ≠ 0) := c20
     refine seqRwI 9 (x := (b1.Lo != 0)) (v := false) (by kernel_rfl) (bne_eq_false_iff_eq.mpr (Decidable.of_not_not c20)) ?_
     refine seqRwI 10 (x := (b1.Lo != 0)) (v := false) (by kernel_rfl) (bne_eq_false_iff_eq.mpr (Decidable.of_not_not c20)) ?_
     refine seqL1 (by kernel_rfl) ?_
     refine seqG (by kernel_rfl) (does_run (run_load rfl Try.underlying61 rfl (by kernel_rfl : _ = Value.pointer (some ⟨b4, 1, none⟩)) (HS6.cell 1)) ?_)
     refine seqL4 (by kernel_rfl) ?_
     refine wpList_nil ?_
     refine hK18 _ _ ?_
     have hq_ := ite_some h; clear h; rcases hq_ with ⟨c24, h⟩ | ⟨c24, h⟩
     · have c24 : b1.Hi ≠ 0 := c24
       refine wpRwI 3 (x := (b1.Hi != 0)) (v := true) (by kernel_rfl) (bne_iff_ne.mpr c24) ?_
       refine wpRwI 13 (x := (b1.Hi != 0)) (v := true) (by kernel_rfl) (bne_iff_ne.mpr c24) ?_
       refine wpRwI 14 (x := (b1.Hi != 0)) (v := true) (by kernel_rfl) (bne_iff_ne.mpr c24) ?_
       refine wpRwI 15 (x := (b1.Hi != 0)) (v := true) (by kernel_rfl) (bne_iff_ne.mpr c24) ?_
       refine condT (by kernel_rfl) ?_
       refine wp_seq_k (fun K25 hK26 => ?_)
       refine wp_region_lit ?_
       refine seqL1 (by kernel_rfl) ?_
       refine wpList_nil ?_
       refine hK26 _ _ ?_
       refine wp_ret ?_
       refine hr13 _ _ ?_
       refine hret _ _ ?_
       refine ends_still (v := Value.int .i64 3) (by kernel_rfl) (by kernel_rfl) ?_
       have HS62 := HS6.drop
       injection h with h
       subst h
       exact ⟨f, rfl, FM.le.refl _, HS62⟩
     · have c24 : ¬ (b1.Hi ≠ 0) := c24
       refine wpRwI 3 (x := (b1.Hi != 0)) (v := false) (by kernel_rfl) (bne_eq_false_iff_eq.mpr (Decidable.of_not_not c24)) ?_
       refine wpRwI 13 (x := (b1.Hi != 0)) (v := false) (by kernel_rfl) (bne_eq_false_iff_eq.mpr (Decidable.of_not_not c24)) ?_
       refine wpRwI 14 (x := (b1.Hi != 0)) (v := false) (by kernel_rfl) (bne_eq_false_iff_eq.mpr (Decidable.of_not_not c24)) ?_
       refine wpRwI 15 (x := (b1.Hi != 0)) (v := false) (by kernel_rfl) (bne_eq_false_iff_eq.mpr (Decidable.of_not_not c24)) ?_
       refine condF (by kernel_rfl) ?_
       refine wp_seq_k (fun K27 hK28 => ?_)
       refine wp_region_lit ?_
       refine seqL1 (by kernel_rfl) ?_
       refine seqK rfl (does_run (run_load rfl Try.underlying61 rfl (by kernel_rfl : _ = Value.pointer (some ⟨b4, 0, none⟩)) (HS6.cell 0)) ?_)
       refine seqL1 (by kernel_rfl) ?_
       refine seqK rfl (does_run (run_load rfl Try.underlying61 rfl (by kernel_rfl : _ = Value.pointer (some ⟨b4, 1, none⟩)) (HS6.cell 1)) ?_)
       refine seqS3 (a' := ⟨#[(ag_Bound b1), pV b4 0, iV 0, fV, pV b4 2, tV, tV, pV b4 0, iV b1.Lo, fV, fV, pV b4 1, iV b1.Hi, fV, fV, fV, uV, pV b4 0, iV b1.Lo, pV b4 1, iV b1.Hi, iV (mn b1.Lo b1.Hi), .bool (decide ((mn b1.Lo b1.Hi) < (-1152921504606846976))), .bool (decide ((mn b1.Lo b1.Hi) < (-1152921504606846976))), uV, uV, uV, uV, uV, uV, uV, uV, uV, uV, uV, uV, uV], []⟩) (by kernel_rfl) ?_
       have hq_ := ite_some h; clear h; rcases hq_ with ⟨c29, h⟩ | ⟨c29, h⟩
       · have c29 : (mn b1.Lo b1.Hi) < (-1152921504606846976) := c29
         refine seqRwI 22 (x := (decide ((mn b1.Lo b1.Hi) < (-1152921504606846976)))) (v := true) (by kernel_rfl) (decide_eq_true c29) ?_
         refine seqRwI 23 (x := (decide ((mn b1.Lo b1.Hi) < (-1152921504606846976)))) (v := true) (by kernel_rfl) (decide_eq_true c29) ?_
         refine seqL8 (by kernel_rfl) ?_
         refine wpList_nil ?_
         refine hK28 _ _ ?_
         refine condT (by kernel_rfl) ?_
         refine wp_seq_k (fun K30 hK31 => ?_)
         refine wp_region_lit ?_
         refine seqL1 (by kernel_rfl) ?_
         refine wpList_nil ?_
         refine hK31 _ _ ?_
         refine wp_ret ?_
         refine hr13 _ _ ?_
         refine hret _ _ ?_
         refine ends_still (v := Value.int .i64 4) (by kernel_rfl) (by kernel_rfl) ?_
         have HS63 := HS6.drop
         injection h with h
         subst h
         exact ⟨f, rfl, FM.le.refl _, HS63⟩
       · have c29 : ¬ ((mn b1.Lo b1.Hi) < (-1152921504606846976)) := c29
         refine seqRwI 22 (x := (decide ((mn b1.Lo b1.Hi) < (-1152921504606846976)))) (v := false) (by kernel_rfl) (decide_eq_false c29) ?_
         refine seqRwI 23 (x := (decide ((mn b1.Lo b1.Hi) < (-1152921504606846976)))) (v := false) (by kernel_rfl) (decide_eq_false c29) ?_
         refine seqL1 (by kernel_rfl) ?_
         refine seqG (by kernel_rfl) (does_run (run_load rfl Try.underlying61 rfl (by kernel_rfl : _ = Value.pointer (some ⟨b4, 0, none⟩)) (HS6.cell 0)) ?_)
         refine seqL1 (by kernel_rfl) ?_
         refine seqG (by kernel_rfl) (does_run (run_load rfl Try.underlying61 rfl (by kernel_rfl : _ = Value.pointer (some ⟨b4, 1, none⟩)) (HS6.cell 1)) ?_)
         refine seqL4 (by kernel_rfl) ?_
         refine wpList_nil ?_
         refine hK28 _ _ ?_
         have hq_ := ite_some h; clear h; rcases hq_ with ⟨c33, h⟩ | ⟨c33, h⟩
         · have c33 : (mx b1.Lo b1.Hi) > 1152921504606846976 := c33
           refine wpRwI 16 (x := (decide ((mx b1.Lo b1.Hi) > 1152921504606846976))) (v := true) (by kernel_rfl) (decide_eq_true c33) ?_
           refine wpRwI 29 (x := (decide ((mx b1.Lo b1.Hi) > 1152921504606846976))) (v := true) (by kernel_rfl) (decide_eq_true c33) ?_
           refine wpRwI 30 (x := (decide ((mx b1.Lo b1.Hi) > 1152921504606846976))) (v := true) (by kernel_rfl) (decide_eq_true c33) ?_
           refine condT (by kernel_rfl) ?_
           refine wp_seq_k (fun K34 hK35 => ?_)
           refine wp_region_lit ?_
           refine seqL1 (by kernel_rfl) ?_
           refine wpList_nil ?_
           refine hK35 _ _ ?_
           refine wp_ret ?_
           refine hr13 _ _ ?_
           refine hret _ _ ?_
           refine ends_still (v := Value.int .i64 4) (by kernel_rfl) (by kernel_rfl) ?_
           have HS64 := HS6.drop
           injection h with h
           subst h
           exact ⟨f, rfl, FM.le.refl _, HS64⟩
         · have c33 : ¬ ((mx b1.Lo b1.Hi) > 1152921504606846976) := c33
           refine wpRwI 16 (x := (decide ((mx b1.Lo b1.Hi) > 1152921504606846976))) (v := false) (by kernel_rfl) (decide_eq_false c33) ?_
           refine wpRwI 29 (x := (decide ((mx b1.Lo b1.Hi) > 1152921504606846976))) (v := false) (by kernel_rfl) (decide_eq_false c33) ?_
           refine wpRwI 30 (x := (decide ((mx b1.Lo b1.Hi) > 1152921504606846976))) (v := false) (by kernel_rfl) (decide_eq_false c33) ?_
           refine condF (by kernel_rfl) ?_
           refine wp_seq_k (fun K36 hK37 => ?_)
           refine wp_region_lit ?_
           refine seqL1 (by kernel_rfl) ?_
           refine seqK rfl (does_run (run_load rfl Try.underlying61 rfl (by kernel_rfl : _ = Value.pointer (some ⟨b4, 0, none⟩)) (HS6.cell 0)) ?_)
           refine seqL1 (by kernel_rfl) ?_
           refine seqK rfl (does_run (run_load rfl Try.underlying61 rfl (by kernel_rfl : _ = Value.pointer (some ⟨b4, 1, none⟩)) (HS6.cell 1)) ?_)
           refine seqL2 (by kernel_rfl) ?_
           refine wpList_nil ?_
           refine hK37 _ _ ?_
           have hq_ := ite_some h; clear h; rcases hq_ with ⟨c39, h⟩ | ⟨c39, h⟩
           · have c39 : b1.Lo > b1.Hi := c39
             refine wpRwI 31 (x := (decide (b1.Lo > b1.Hi))) (v := true) (by kernel_rfl) (decide_eq_true c39) ?_
             refine wpRwI 36 (x := (decide (b1.Lo > b1.Hi))) (v := true) (by kernel_rfl) (decide_eq_true c39) ?_
             refine condT (by kernel_rfl) ?_
             refine wp_seq_k (fun K40 hK41 => ?_)
             refine wp_region_lit ?_
             refine seqL1 (by kernel_rfl) ?_
             refine wpList_nil ?_
             refine hK41 _ _ ?_
             refine wp_ret ?_
             refine hr13 _ _ ?_
             refine hret _ _ ?_
             refine ends_still (v := Value.int .i64 11) (by kernel_rfl) (by kernel_rfl) ?_
             have HS65 := HS6.drop
             injection h with h
             subst h
             exact ⟨f, rfl, FM.le.refl _, HS65⟩
           · have c39 : ¬ (b1.Lo > b1.Hi) := c39
             refine wpRwI 31 (x := (decide (b1.Lo > b1.Hi))) (v := false) (by kernel_rfl) (decide_eq_false c39) ?_
             refine wpRwI 36 (x := (decide (b1.Lo > b1.Hi))) (v := false) (by kernel_rfl) (decide_eq_false c39) ?_
             refine condF (by kernel_rfl) ?_
             refine wp_skip ?_
             refine hn12 _ _ ?_
             refine hK9 _ _ ?_
             refine wp_seq_k (fun K57 hK58 => ?_)
             refine wp_region_lit ?_
             refine seqL1 (by kernel_rfl) ?_
             refine wpList_nil ?_
             refine hK58 _ _ ?_
             refine wp_ret ?_
             refine hret _ _ ?_
             refine ends_still (v := Value.int .i64 0) (by kernel_rfl) (by kernel_rfl) ?_
             have HS69 := HS6.drop
             injection h with h
             subst h
             exact ⟨f, rfl, FM.le.refl _, HS69⟩
 · have c19 : ¬ (b1.Unknown = true) := c19
   refine seqRwI 5 (x := b1.Unknown) (v := false) (by kernel_rfl) (Bool.eq_false_iff.mpr c19) ?_
   refine seqRwI 6 (x := b1.Unknown) (v := false) (by kernel_rfl) (Bool.eq_false_iff.mpr c19) ?_
   refine seqL10 (by kernel_rfl) ?_
   refine wpList_nil ?_
   refine hK18 _ _ ?_
   refine condF (by kernel_rfl) ?_
   refine wp_seq_k (fun K42 hK43 => ?_)
   refine wp_region_lit ?_
   refine seqL1 (by kernel_rfl) ?_
   refine seqK rfl (does_run (run_load rfl Try.underlying61 rfl (by kernel_rfl : _ = Value.pointer (some ⟨b4, 0, none⟩)) (HS6.cell 0)) ?_)
   refine seqL1 (by kernel_rfl) ?_
   refine seqK rfl (does_run (run_load rfl Try.underlying61 rfl (by kernel_rfl : _ = Value.pointer (some ⟨b4, 1, none⟩)) (HS6.cell 1)) ?_)
   refine seqS3 (a' := ⟨#[(ag_Bound b1), pV b4 0, iV 0, fV, pV b4 2, fV, fV, uV, uV, uV, uV, uV, uV, uV, uV, fV, uV, pV b4 0, iV b1.Lo, pV b4 1, iV b1.Hi, iV (mn b1.Lo b1.Hi), .bool (decide ((mn b1.Lo b1.Hi) < (-1152921504606846976))), .bool (decide ((mn b1.Lo b1.Hi) < (-1152921504606846976))), uV, uV, uV, uV, uV, uV, uV, uV, uV, uV, uV, uV, uV], []⟩) (by kernel_rfl) ?_
   have hq_ := ite_some h; clear h; rcases hq_ with ⟨c44, h⟩ | ⟨c44, h⟩
   · have c44 : (mn b1.Lo b1.Hi) < (-1152921504606846976) := c44
     refine seqRwI 22 (x := (decide ((mn b1.Lo b1.Hi) < (-1152921504606846976)))) (v := true) (by kernel_rfl) (decide_eq_true c44) ?_
     refine seqRwI 23 (x := (decide ((mn b1.Lo b1.Hi) < (-1152921504606846976)))) (v := true) (by kernel_rfl) (decide_eq_true c44) ?_
     refine seqL8 (by kernel_rfl) ?_
     refine wpList_nil ?_
     refine hK43 _ _ ?_
     refine condT (by kernel_rfl) ?_
     refine wp_seq_k (fun K45 hK46 => ?_)
     refine wp_region_lit ?_
     refine seqL1 (by kernel_rfl) ?_
     refine wpList_nil ?_
     refine hK46 _ _ ?_
     refine wp_ret ?_
     refine hr13 _ _ ?_
     refine hret _ _ ?_
     refine ends_still (v := Value.int .i64 4) (by kernel_rfl) (by kernel_rfl) ?_
     have HS66 := HS6.drop
     injection h with h
     subst h
     exact ⟨f, rfl, FM.le.refl _, HS66⟩
   · have c44 : ¬ ((mn b1.Lo b1.Hi) < (-1152921504606846976)) := c44
     refine seqRwI 22 (x := (decide ((mn b1.Lo b1.Hi) < (-1152921504606846976)))) (v := false) (by kernel_rfl) (decide_eq_false c44) ?_
     refine seqRwI 23 (x := (decide ((mn b1.Lo b1.Hi) < (-1152921504606846976)))) (v := false) (by kernel_rfl) (decide_eq_false c44) ?_
     refine seqL1 (by kernel_rfl) ?_
     refine seqG (by kernel_rfl) (does_run (run_load rfl Try.underlying61 rfl (by kernel_rfl : _ = Value.pointer (some ⟨b4, 0, none⟩)) (HS6.cell 0)) ?_)
     refine seqL1 (by kernel_rfl) ?_
     refine seqG (by kernel_rfl) (does_run (run_load rfl Try.underlying61 rfl (by kernel_rfl : _ = Value.pointer (some ⟨b4, 1, none⟩)) (HS6.cell 1)) ?_)
     refine seqL4 (by kernel_rfl) ?_
     refine wpList_nil ?_
     refine hK43 _ _ ?_
     have hq_ := ite_some h; clear h; rcases hq_ with ⟨c48, h⟩ | ⟨c48, h⟩
     · have c48 : (mx b1.Lo b1.Hi) > 1152921504606846976 := c48
       refine wpRwI 16 (x := (decide ((mx b1.Lo b1.Hi) > 1152921504606846976))) (v := true) (by kernel_rfl) (decide_eq_true c48) ?_
       refine wpRwI 29 (x := (decide ((mx b1.Lo b1.Hi) > 1152921504606846976))) (v := true) (by kernel_rfl) (decide_eq_true c48) ?_
       refine wpRwI 30 (x := (decide ((mx b1.Lo b1.Hi) > 1152921504606846976))) (v := true) (by kernel_rfl) (decide_eq_true c48) ?_
       refine condT (by kernel_rfl) ?_
       refine wp_seq_k (fun K49 hK50 => ?_)
       refine wp_region_lit ?_
       refine seqL1 (by kernel_rfl) ?_
       refine wpList_nil ?_
       refine hK50 _ _ ?_
       refine wp_ret ?_
       refine hr13 _ _ ?_
       refine hret _ _ ?_
       refine ends_still (v := Value.int .i64 4) (by kernel_rfl) (by kernel_rfl) ?_
       have HS67 := HS6.drop
       injection h with h
       subst h
       exact ⟨f, rfl, FM.le.refl _, HS67⟩
     · have c48 : ¬ ((mx b1.Lo b1.Hi) > 1152921504606846976) := c48
       refine wpRwI 16 (x := (decide ((mx b1.Lo b1.Hi) > 1152921504606846976))) (v := false) (by kernel_rfl) (decide_eq_false c48) ?_
       refine wpRwI 29 (x := (decide ((mx b1.Lo b1.Hi) > 1152921504606846976))) (v := false) (by kernel_rfl) (decide_eq_false c48) ?_
       refine wpRwI 30 (x := (decide ((mx b1.Lo b1.Hi) > 1152921504606846976))) (v := false) (by kernel_rfl) (decide_eq_false c48) ?_
       refine condF (by kernel_rfl) ?_
       refine wp_seq_k (fun K51 hK52 => ?_)
       refine wp_region_lit ?_
       refine seqL1 (by kernel_rfl) ?_
       refine seqK rfl (does_run (run_load rfl Try.underlying61 rfl (by kernel_rfl : _ = Value.pointer (some ⟨b4, 0, none⟩)) (HS6.cell 0)) ?_)
       refine seqL1 (by kernel_rfl) ?_
       refine seqK rfl (does_run (run_load rfl Try.underlying61 rfl (by kernel_rfl : _ = Value.pointer (some ⟨b4, 1, none⟩)) (HS6.cell 1)) ?_)
       refine seqL2 (by kernel_rfl) ?_
       refine wpList_nil ?_
       refine hK52 _ _ ?_
       have hq_ := ite_some h; clear h; rcases hq_ with ⟨c54, h⟩ | ⟨c54, h⟩
       · have c54 : b1.Lo > b1.Hi := c54
         refine wpRwI 31 (x := (decide (b1.Lo > b1.Hi))) (v := true) (by kernel_rfl) (decide_eq_true c54) ?_
         refine wpRwI 36 (x := (decide (b1.Lo > b1.Hi))) (v := true) (by kernel_rfl) (decide_eq_true c54) ?_
         refine condT (by kernel_rfl) ?_
         refine wp_seq_k (fun K55 hK56 => ?_)
         refine wp_region_lit ?_
         refine seqL1 (by kernel_rfl) ?_
         refine wpList_nil ?_
         refine hK56 _ _ ?_
         refine wp_ret ?_
         refine hr13 _ _ ?_
         refine hret _ _ ?_
         refine ends_still (v := Value.int .i64 11) (by kernel_rfl) (by kernel_rfl) ?_
         have HS68 := HS6.drop
         injection h with h
         subst h
         exact ⟨f, rfl, FM.le.refl _, HS68⟩
       · have c54 : ¬ (b1.Lo > b1.Hi) := c54
         refine wpRwI 31 (x := (decide (b1.Lo > b1.Hi))) (v := false) (by kernel_rfl) (decide_eq_false c54) ?_
         refine wpRwI 36 (x := (decide (b1.Lo > b1.Hi))) (v := false) (by kernel_rfl) (decide_eq_false c54) ?_
         refine condF (by kernel_rfl) ?_
         refine wp_skip ?_
         refine hn12 _ _ ?_
         refine hK9 _ _ ?_
         refine wp_seq_k (fun K59 hK60 => ?_)
         refine wp_region_lit ?_
         refine seqL1 (by kernel_rfl) ?_
         refine wpList_nil ?_
         refine hK60 _ _ ?_
         refine wp_ret ?_
         refine hret _ _ ?_
         refine ends_still (v := Value.int .i64 0) (by kernel_rfl) (by kernel_rfl) ?_
         have HS70 := HS6.drop
         injection h with h
         subst h
         exact ⟨f, rfl, FM.le.refl _, HS70⟩

set_option maxRecDepth 100000 in
set_option maxHeartbeats 4000000 in
theorem catalog_ends_Tick.calls (k : Nat)  (b1 : S_Bound) (most2 : Int) {t w : World} {f : FM} {H : List Seg} (HS : St t w f (H)) (rr1 : Int) (h : catalog_ends_Tick k b1 most2 = some rr1) :
    Calls Try.prog 56 #[.agg #[.int .i64 b1.Lo, .int .i64 b1.Hi, .bool b1.Unknown], .int .i64 most2] w (fun e w' => ∃ (g : FM), e = .returned (Value.int .i64 rr1) ∧ FM.le f g ∧ St t w' g (H)) := by
 unfold catalog_ends_Tick at h
 refine enter Try.func56 rfl (tm := #[(ag_Bound b1), iV most2, uV, uV, uV, uV, uV, uV, uV, uV, uV, uV, uV, uV, uV, uV, uV, uV, uV, uV, uV, uV]) (by kernel_rfl) ?_
 intro B hret hnor hnp
 refine wp_seq_k (fun K3 hK4 => ?_)
 refine wp_region_lit ?_
 refine seqK rfl (does_box (cs := #[.int .i64 b1.Lo, .int .i64 b1.Hi, .bool b1.Unknown]) rfl (by kernel_rfl : _ = Value.agg #[.int .i64 b1.Lo, .int .i64 b1.Hi, .bool b1.Unknown]) rfl HS ?_)
 intro b5 W6 HS7
 refine seqL1 (by kernel_rfl) ?_
 refine wpList_nil ?_
 refine hK4 _ _ ?_
 refine wp_seq_k (fun K9 hK10 => ?_)
 refine wp_seq_k (fun K11 hK12 => ?_)
 refine wp_region_lit ?_
 refine seqK rfl (does_run (run_loadN (n := 3) rfl Try.underlying63 rfl (by kernel_rfl) (by kernel_rfl : _ = Value.pointer (some ⟨b5, 0, none⟩)) (cs := [.int .i64 b1.Lo, .int .i64 b1.Hi, .bool b1.Unknown]) rfl (HS7.cells 0 3 _ rfl)) ?_)
 have hq_ := bind_some h; clear h; obtain ⟨vt13, hc14, h⟩ := hq_
 refine seqK rfl (does_call (f := 62) (args := #[.agg #[.int .i64 b1.Lo, .int .i64 b1.Hi, .bool b1.Unknown]]) (by kernel_rfl) (bound_Check_Tick.calls k b1 HS7 vt13 hc14) ?_)
 rintro _ W17 ⟨f15, rfl, L16, HS18⟩
 refine ⟨_, rfl, ?_⟩
 refine seqL1 (by kernel_rfl) ?_
 refine wpList_nil ?_
 refine hK12 _ _ ?_
 refine wp_seq_k (fun K19 hK20 => ?_)
 refine wp_region_lit ?_
 refine seqL2 (by kernel_rfl) ?_
 refine wpList_nil ?_
 refine hK20 _ _ ?_
 have hq_ := ite_some h; clear h; rcases hq_ with ⟨c22, h⟩ | ⟨c22, h⟩
 · have c22 : vt13 ≠ 0 := c22
   refine wpRwI 9 (x := (vt13 != 0)) (v := true) (by kernel_rfl) (bne_iff_ne.mpr c22) ?_
   refine condT (by kernel_rfl) ?_
   refine wp_seq_k (fun K23 hK24 => ?_)
   refine wp_region_lit ?_
   refine seqL2 (by kernel_rfl) ?_
   refine wpList_nil ?_
   refine hK24 _ _ ?_
   refine wp_ret ?_
   refine hret _ _ ?_
   refine ends_still (v := Value.int .i64 vt13) (by kernel_rfl) (by kernel_rfl) ?_
   have HS38 := HS18.drop
   injection h with h
   subst h
   exact ⟨f15, rfl, L16, HS38⟩
 · have c22 : ¬ (vt13 ≠ 0) := c22
   refine wpRwI 9 (x := (vt13 != 0)) (v := false) (by kernel_rfl) (bne_eq_false_iff_eq.mpr (Decidable.of_not_not c22)) ?_
   refine condF (by kernel_rfl) ?_
   refine wp_skip ?_
   refine hK10 _ _ ?_
   refine wp_seq_k (fun K25 hK26 => ?_)
   refine wp_seq_k (fun K27 hK28 => ?_)
   refine wp_region_lit ?_
   refine seqL1 (by kernel_rfl) ?_
   refine seqK rfl (does_run (run_load rfl Try.underlying61 rfl (by kernel_rfl : _ = Value.pointer (some ⟨b5, 0, none⟩)) (HS18.cell 0)) ?_)
   refine seqL4 (by kernel_rfl) ?_
   have hq_ := ite_some h; clear h; rcases hq_ with ⟨c29, h⟩ | ⟨c29, h⟩
   · have c29 : b1.Lo < (w64 (0 - most2)) := c29
     refine seqRwI 15 (x := (decide (b1.Lo < (w64 (0 - most2))))) (v := true) (by kernel_rfl) (decide_eq_true c29) ?_
     refine seqRwI 16 (x := (decide (b1.Lo < (w64 (0 - most2))))) (v := true) (by kernel_rfl) (decide_eq_true c29) ?_
     refine seqL5 (by kernel_rfl) ?_
     refine wpList_nil ?_
     refine hK28 _ _ ?_
     refine condT (by kernel_rfl) ?_
     refine wp_seq_k (fun K30 hK31 => ?_)
     refine wp_region_lit ?_
     refine seqS1 (a' := ⟨#[(ag_Bound b1), iV most2, pV b5 0, uV, iV 4, iV vt13, (ag_Bound b1), iV vt13, iV vt13, fV, uV, pV b5 0, iV b1.Lo, iV most2, iV (w64 (0 - most2)), tV, tV, uV, uV, uV, uV, tV], []⟩) (by kernel_rfl) ?_
     refine wpList_nil ?_
     refine hK31 _ _ ?_
     refine wp_ret ?_
     refine hret _ _ ?_
     refine ends_still (v := Value.int .i64 4) (by kernel_rfl) (by kernel_rfl) ?_
     have HS39 := HS18.drop
     injection h with h
     subst h
     exact ⟨f15, rfl, L16, HS39⟩
   · have c29 : ¬ (b1.Lo < (w64 (0 - most2))) := c29
     refine seqRwI 15 (x := (decide (b1.Lo < (w64 (0 - most2))))) (v := false) (by kernel_rfl) (decide_eq_false c29) ?_
     refine seqRwI 16 (x := (decide (b1.Lo < (w64 (0 - most2))))) (v := false) (by kernel_rfl) (decide_eq_false c29) ?_
     refine seqL1 (by kernel_rfl) ?_
     refine seqG (by kernel_rfl) (does_run (run_load rfl Try.underlying61 rfl (by kernel_rfl : _ = Value.pointer (some ⟨b5, 1, none⟩)) (HS18.cell 1)) ?_)
     refine seqL3 (by kernel_rfl) ?_
     refine wpList_nil ?_
     refine hK28 _ _ ?_
     have hq_ := ite_some h; clear h; rcases hq_ with ⟨c33, h⟩ | ⟨c33, h⟩
     · have c33 : b1.Hi > most2 := c33
       refine wpRwI 20 (x := (decide (b1.Hi > most2))) (v := true) (by kernel_rfl) (decide_eq_true c33) ?_
       refine wpRwI 21 (x := (decide (b1.Hi > most2))) (v := true) (by kernel_rfl) (decide_eq_true c33) ?_
       refine condT (by kernel_rfl) ?_
       refine wp_seq_k (fun K34 hK35 => ?_)
       refine wp_region_lit ?_
       refine seqL1 (by kernel_rfl) ?_
       refine wpList_nil ?_
       refine hK35 _ _ ?_
       refine wp_ret ?_
       refine hret _ _ ?_
       refine ends_still (v := Value.int .i64 4) (by kernel_rfl) (by kernel_rfl) ?_
       have HS40 := HS18.drop
       injection h with h
       subst h
       exact ⟨f15, rfl, L16, HS40⟩
     · have c33 : ¬ (b1.Hi > most2) := c33
       refine wpRwI 20 (x := (decide (b1.Hi > most2))) (v := false) (by kernel_rfl) (decide_eq_false c33) ?_
       refine wpRwI 21 (x := (decide (b1.Hi > most2))) (v := false) (by kernel_rfl) (decide_eq_false c33) ?_
       refine condF (by kernel_rfl) ?_
       refine wp_skip ?_
       refine hK26 _ _ ?_
       refine wp_seq_k (fun K36 hK37 => ?_)
       refine wp_region_lit ?_
       refine seqL1 (by kernel_rfl) ?_
       refine wpList_nil ?_
       refine hK37 _ _ ?_
       refine wp_ret ?_
       refine hret _ _ ?_
       refine ends_still (v := Value.int .i64 0) (by kernel_rfl) (by kernel_rfl) ?_
       have HS41 := HS18.drop
       injection h with h
       subst h
       exact ⟨f15, rfl, L16, HS41⟩

set_option maxRecDepth 100000 in
set_option maxHeartbeats 4000000 in
theorem cmp_Or_Errno.calls (k : Nat) (A2 : Option Addr) (c3 : Nat) (vals1 : List Int) {t w : World} {f : FM} {H : List Seg} (HS : St t w f (H)) (HR4 : SlR (tInt .i64) f A2 c3 vals1) (rr1 : Int) (h : cmp_Or_Errno k vals1 = some rr1) :
    Calls Try.prog 25 #[.slice A2 vals1.length c3] w (fun e w' => ∃ (g : FM), e = .returned (Value.int .i64 rr1) ∧ FM.le f g ∧ St t w' g (H)) := by
 unfold cmp_Or_Errno at h
 refine enter Try.func25 rfl (tm := #[.slice A2 vals1.length c3, uV, uV, uV, uV, uV, uV, uV, uV, uV, uV, uV, uV, uV, uV, uV, uV, uV]) (by kernel_rfl) ?_
 intro B hret hnor hnp
 refine wp_seq_k (fun K5 hK6 => ?_)
 refine wp_region_lit ?_
 refine seqL1 (by kernel_rfl) ?_
 refine wpList_nil ?_
 refine hK6 _ _ ?_
 refine wp_seq_k (fun K7 hK8 => ?_)
 refine wp_region_lit ?_
 refine seqL1 (by kernel_rfl) ?_
 refine wpList_nil ?_
 refine hK8 _ _ ?_
 refine wp_seq_k (fun K9 hK10 => ?_)
 refine wp_seq_k (fun K11 hK12 => ?_)
 refine wp_region_lit ?_
 refine seqL3 (by kernel_rfl) ?_
 refine wpList_nil ?_
 refine hK12 _ _ ?_
 refine blockK (fun B13 hx14 hn15 hr16 ho17 hp18 => ?_)
 have hq_ := bind_some h; clear h; obtain ⟨o19, hv64, h⟩ := hq_
 have JR66 : ∀ z_, some (Sum.inl z_) = some o19 → some z_ = some rr1 := by
  intro z_ e_; injection e_ with e_; subst e_; exact h
 have J65 : ∀ (f59 : FM) (j63 : Nat → Value) (W61 : World) (a_ : Act), FM.le f f59 → some (Sum.inr ()) = some o19 → St t W61 f59 (H) → a_ = ⟨#[.slice A2 vals1.length c3, uV, (j63 0), iV 0, uV, (j63 1), .slice A2 vals1.length c3, iV (vals1.length : Int), (j63 2), (j63 3), (j63 4), (j63 5), (j63 6), (j63 7), (j63 8), (j63 9), (j63 10), uV], []⟩ → K9 a_ W61 := by
  intro f59 j63 W61 a_ L60 hj67 HS62  hfr_; subst hfr_
  injection hj67 with hj67; subst hj67; try dsimp only at h
  simp only [Sum.elim_inr] at h
  refine hK10 _ _ ?_
  refine wp_seq_k (fun K68 hK69 => ?_)
  refine wp_region_lit ?_
  refine seqL2 (by kernel_rfl) ?_
  refine wpList_nil ?_
  refine hK69 _ _ ?_
  refine wp_ret ?_
  refine hret _ _ ?_
  refine ends_still (v := Value.int .i64 0) (by kernel_rfl) (by kernel_rfl) ?_
  injection h with h
  subst h
  exact ⟨f59, rfl, L60, HS62⟩
 clear h; have h := hv64; clear hv64
 refine loopK (fun n_ a_ w_ => ∃ (f23 : FM) (x28 : Int) (j27 : Nat → Value), FM.le f f23 ∧ St t w_ f23 (H) ∧ cmp_Or_Errno.l0 k vals1 n_ x28 = some o19 ∧ a_ = ⟨#[.slice A2 vals1.length c3, uV, (j27 0), iV 0, uV, (j27 1), .slice A2 vals1.length c3, iV (vals1.length : Int), iV x28, (j27 2), (j27 3), (j27 4), (j27 5), (j27 6), (j27 7), (j27 8), (j27 9), uV], []⟩) k ⟨f, 0, (fun i_ => [Value.int .i64 0, undef, undef, undef, undef, undef, undef, undef, undef, undef].getD i_ undef), (FM.le.refl _), HS, h, (by kernel_rfl)⟩ ?_
 clear h
 rintro n22 _ W25 ⟨f23, x28, j27, L24, HS26, h, rfl⟩ K20 hK21
 obtain _ | n22 := n22
 · exact nomatch h
 simp only [cmp_Or_Errno.l0] at h
 refine wp_seq_k (fun K29 hK30 => ?_)
 refine wp_region_lit ?_
 refine seqL1 (by kernel_rfl) ?_
 refine wpList_nil ?_
 refine hK30 _ _ ?_
 refine wp_seq_k (fun K31 hK32 => ?_)
 have hq_ := ite_some h; clear h; rcases hq_ with ⟨c34, h⟩ | ⟨c34, h⟩
 · have c34 : x28 < (vals1.length : Int) := c34
   refine wpRwI 9 (x := (decide (x28 < (vals1.length : Int)))) (v := true) (by kernel_rfl) (decide_eq_true c34) ?_
   refine condT (by kernel_rfl) ?_
   refine wp_skip ?_
   refine hK32 _ _ ?_
   refine wp_seq_k (fun K35 hK36 => ?_)
   refine blockK (fun B37 hx38 hn39 hr40 ho41 hp42 => ?_)
   refine wp_seq_k (fun K44 hK45 => ?_)
   refine wp_region_lit ?_
   have hq_ := guard_some h; clear h; obtain ⟨c46, h⟩ := hq_
   have c46 : 0 ≤ x28 := c46
   obtain ⟨b50, of51, cs47, hA52, hr48, hc49⟩ := (HR4.mono L24).at (i := x28) c46 c34
   obtain rfl := hr48
   refine seqK rfl (does_run (run_indexE hA52 (sz := 1) rfl Try.underlying102 (by kernel_rfl) (by kernel_rfl : _ = Value.slice A2 vals1.length c3) (by kernel_rfl : _ = Value.int .i64 x28) c46 c34 W25) ?_)
   refine seqK rfl (does_run (run_load rfl Try.underlying29 rfl (by kernel_rfl : _ = Value.pointer (some ⟨b50, of51 + (x28 : Int).toNat * 1, none⟩)) ((hc49 (FM.le.refl _) HS26) 0 (by decide))) ?_)
   refine seqL1 (by kernel_rfl) ?_
   refine wpList_nil ?_
   refine hK45 _ _ ?_
   refine wp_seq_k (fun K53 hK54 => ?_)
   refine wp_region_lit ?_
   refine seqL3 (by kernel_rfl) ?_
   refine wpList_nil ?_
   refine hK54 _ _ ?_
   have hq_ := ite_some h; clear h; rcases hq_ with ⟨c56, h⟩ | ⟨c56, h⟩
   · have c56 : (rd vals1 x28) ≠ 0 := c56
     refine wpRwI 14 (x := ((rd vals1 x28) != 0)) (v := true) (by kernel_rfl) (bne_iff_ne.mpr c56) ?_
     refine condT (by kernel_rfl) ?_
     refine wp_seq_k (fun K57 hK58 => ?_)
     refine wp_region_lit ?_
     refine seqL2 (by kernel_rfl) ?_
     refine wpList_nil ?_
     refine hK58 _ _ ?_
     refine wp_ret ?_
     refine hr40 _ _ ?_
     refine hr16 _ _ ?_
     refine hret _ _ ?_
     refine ends_still (v := Value.int .i64 (rd vals1 x28)) (by kernel_rfl) (by kernel_rfl) ?_
     replace h := JR66 _ h
     injection h with h
     subst h
     exact ⟨f23, rfl, L24, HS26⟩
   · have c56 : ¬ ((rd vals1 x28) ≠ 0) := c56
     refine wpRwI 14 (x := ((rd vals1 x28) != 0)) (v := false) (by kernel_rfl) (bne_eq_false_iff_eq.mpr (Decidable.of_not_not c56)) ?_
     refine condF (by kernel_rfl) ?_
     refine wp_skip ?_
     refine hn39 _ _ ?_
     refine hK36 _ _ ?_
     refine wp_region_lit ?_
     refine seqL2 (by kernel_rfl) ?_
     refine wpList_nil ?_
     refine hK21 n22 _ _ (Nat.lt_succ_self _) ?_
     exact ⟨f23, (w64 (x28 + 1)), (fun i_ => [(j27 0), Value.int .i64 (rd vals1 x28), Value.bool true, Value.pointer (some ⟨b50, of51 + (x28 : Int).toNat * 1, none⟩), Value.int .i64 (rd vals1 x28), Value.int .i64 (rd vals1 x28), Value.int .i64 0, Value.bool false, (j27 8), Value.int .i64 (w64 (x28 + 1))].getD i_ undef), L24, HS26, h, (by kernel_rfl)⟩
 · have c34 : ¬ (x28 < (vals1.length : Int)) := c34
   refine wpRwI 9 (x := (decide (x28 < (vals1.length : Int)))) (v := false) (by kernel_rfl) (decide_eq_false c34) ?_
   refine condF (by kernel_rfl) ?_
   refine wp_exit ?_
   refine hx14 _ _ ?_
   exact J65 f23 (fun i_ => [(j27 0), (j27 1), Value.int .i64 x28, Value.bool false, (j27 3), (j27 4), (j27 5), (j27 6), (j27 7), (j27 8), (j27 9)].getD i_ undef) W25 _ L24 h HS26 (by kernel_rfl)

set_option maxRecDepth 100000 in
set_option maxHeartbeats 4000000 in
theorem catalog_CheckRow.calls (k : Nat) (A2 : Option Addr) (c3 : Nat) (r1 : S_Row) {t w : World} {f : FM} {H : List Seg} (HS : St t w f (H)) (HR4 : SlR (tInt .i64) f A2 c3 r1.Frames) (rr1 : Int) (h : catalog_CheckRow k r1 = some rr1) :
    Calls Try.prog 44 #[.agg #[.int .i64 r1.ID, .int .i64 r1.Box.X.Lo, .int .i64 r1.Box.X.Hi, .bool r1.Box.X.Unknown, .int .i64 r1.Box.Y.Lo, .int .i64 r1.Box.Y.Hi, .bool r1.Box.Y.Unknown, .int .i64 r1.Box.Z.Lo, .int .i64 r1.Box.Z.Hi, .bool r1.Box.Z.Unknown, .int .i64 r1.Flux.Lo, .int .i64 r1.Flux.Hi, .bool r1.Flux.Unknown, .int .i64 r1.When.Lo, .int .i64 r1.When.Hi, .bool r1.When.Unknown, .slice A2 r1.Frames.length c3, .int .i64 r1.Marks]] w (fun e w' => ∃ (g : FM), e = .returned (Value.int .i64 rr1) ∧ FM.le f g ∧ St t w' g (H)) := by
 unfold catalog_CheckRow at h
 refine enter Try.func44 rfl (tm := #[(ag_Row r1 A2 c3), uV, uV, uV, uV, uV, uV, uV, uV, uV, uV, uV, uV, uV, uV, uV, uV, uV, uV, uV, uV, uV, uV, uV, uV, uV, uV, uV, uV, uV, uV, uV, uV, uV, uV, uV, uV, uV, uV, uV, uV, uV, uV, uV, uV, uV, uV, uV, uV, uV, uV, uV, uV, uV, uV, uV, uV, uV, uV, uV, uV, uV, uV, uV, uV, uV, uV, uV, uV, uV, uV, uV, uV, uV, uV, uV, uV, uV, uV, uV, uV, uV, uV, uV, uV, uV, uV, uV, uV, uV, uV, uV, uV, uV]) (by kernel_rfl) ?_
 intro B hret hnor hnp
 refine wp_seq_k (fun K5 hK6 => ?_)
 refine wp_region_lit ?_
 refine seqK rfl (does_box (cs := #[.int .i64 r1.ID, .int .i64 r1.Box.X.Lo, .int .i64 r1.Box.X.Hi, .bool r1.Box.X.Unknown, .int .i64 r1.Box.Y.Lo, .int .i64 r1.Box.Y.Hi, .bool r1.Box.Y.Unknown, .int .i64 r1.Box.Z.Lo, .int .i64 r1.Box.Z.Hi, .bool r1.Box.Z.Unknown, .int .i64 r1.Flux.Lo, .int .i64 r1.Flux.Hi, .bool r1.Flux.Unknown, .int .i64 r1.When.Lo, .int .i64 r1.When.Hi, .bool r1.When.Unknown, .slice A2 r1.Frames.length c3, .int .i64 r1.Marks]) rfl (by kernel_rfl : _ = Value.agg #[.int .i64 r1.ID, .int .i64 r1.Box.X.Lo, .int .i64 r1.Box.X.Hi, .bool r1.Box.X.Unknown, .int .i64 r1.Box.Y.Lo, .int .i64 r1.Box.Y.Hi, .bool r1.Box.Y.Unknown, .int .i64 r1.Box.Z.Lo, .int .i64 r1.Box.Z.Hi, .bool r1.Box.Z.Unknown, .int .i64 r1.Flux.Lo, .int .i64 r1.Flux.Hi, .bool r1.Flux.Unknown, .int .i64 r1.When.Lo, .int .i64 r1.When.Hi, .bool r1.When.Unknown, .slice A2 r1.Frames.length c3, .int .i64 r1.Marks]) rfl HS ?_)
 intro b7 W8 HS9
 refine seqL1 (by kernel_rfl) ?_
 refine wpList_nil ?_
 refine hK6 _ _ ?_
 refine wp_seq_k (fun K11 hK12 => ?_)
 refine wp_seq_k (fun K13 hK14 => ?_)
 refine wp_region_lit ?_
 refine seqL1 (by kernel_rfl) ?_
 refine seqK rfl (does_run (run_load rfl Try.underlying3 rfl (by kernel_rfl : _ = Value.pointer (some ⟨b7, 0, none⟩)) (HS9.cell 0)) ?_)
 refine seqL2 (by kernel_rfl) ?_
 have hq_ := ite_some h; clear h; rcases hq_ with ⟨c15, h⟩ | ⟨c15, h⟩
 · have c15 : r1.ID < 1 := c15
   refine seqRwI 11 (x := (decide (r1.ID < 1))) (v := true) (by kernel_rfl) (decide_eq_true c15) ?_
   refine seqRwI 12 (x := (decide (r1.ID < 1))) (v := true) (by kernel_rfl) (decide_eq_true c15) ?_
   refine seqL4 (by kernel_rfl) ?_
   refine wpList_nil ?_
   refine hK14 _ _ ?_
   refine condT (by kernel_rfl) ?_
   refine wp_seq_k (fun K16 hK17 => ?_)
   refine wp_region_lit ?_
   refine seqL1 (by kernel_rfl) ?_
   refine wpList_nil ?_
   refine hK17 _ _ ?_
   refine wp_ret ?_
   refine hret _ _ ?_
   refine ends_still (v := Value.int .i64 4) (by kernel_rfl) (by kernel_rfl) ?_
   have HS254 := HS9.drop
   injection h with h
   subst h
   exact ⟨f, rfl, FM.le.refl _, HS254⟩
 · have c15 : ¬ (r1.ID < 1) := c15
   refine seqRwI 11 (x := (decide (r1.ID < 1))) (v := false) (by kernel_rfl) (decide_eq_false c15) ?_
   refine seqRwI 12 (x := (decide (r1.ID < 1))) (v := false) (by kernel_rfl) (decide_eq_false c15) ?_
   refine seqL1 (by kernel_rfl) ?_
   refine seqG (by kernel_rfl) (does_run (run_load rfl Try.underlying3 rfl (by kernel_rfl : _ = Value.pointer (some ⟨b7, 0, none⟩)) (HS9.cell 0)) ?_)
   refine seqL2 (by kernel_rfl) ?_
   refine wpList_nil ?_
   refine hK14 _ _ ?_
   have hq_ := ite_some h; clear h; rcases hq_ with ⟨c19, h⟩ | ⟨c19, h⟩
   · have c19 : r1.ID > 2147483647 := c19
     refine wpRwI 15 (x := (decide (r1.ID > 2147483647))) (v := true) (by kernel_rfl) (decide_eq_true c19) ?_
     refine wpRwI 16 (x := (decide (r1.ID > 2147483647))) (v := true) (by kernel_rfl) (decide_eq_true c19) ?_
     refine condT (by kernel_rfl) ?_
     refine wp_seq_k (fun K20 hK21 => ?_)
     refine wp_region_lit ?_
     refine seqL1 (by kernel_rfl) ?_
     refine wpList_nil ?_
     refine hK21 _ _ ?_
     refine wp_ret ?_
     refine hret _ _ ?_
     refine ends_still (v := Value.int .i64 4) (by kernel_rfl) (by kernel_rfl) ?_
     have HS255 := HS9.drop
     injection h with h
     subst h
     exact ⟨f, rfl, FM.le.refl _, HS255⟩
   · have c19 : ¬ (r1.ID > 2147483647) := c19
     refine wpRwI 15 (x := (decide (r1.ID > 2147483647))) (v := false) (by kernel_rfl) (decide_eq_false c19) ?_
     refine wpRwI 16 (x := (decide (r1.ID > 2147483647))) (v := false) (by kernel_rfl) (decide_eq_false c19) ?_
     refine condF (by kernel_rfl) ?_
     refine wp_skip ?_
     refine hK12 _ _ ?_
     refine wp_seq_k (fun K22 hK23 => ?_)
     refine wp_seq_k (fun K24 hK25 => ?_)
     refine wp_region_lit ?_
     refine seqL2 (by kernel_rfl) ?_
     refine seqK rfl (does_run (run_loadN (n := 3) rfl Try.underlying55 rfl (by kernel_rfl) (by kernel_rfl : _ = Value.pointer (some ⟨b7, 1, none⟩)) (cs := [.int .i64 r1.Box.X.Lo, .int .i64 r1.Box.X.Hi, .bool r1.Box.X.Unknown]) rfl (HS9.cells 1 3 _ rfl)) ?_)
     refine seqL2 (by kernel_rfl) ?_
     refine seqK rfl (does_run (run_loadN (n := 3) rfl Try.underlying55 rfl (by kernel_rfl) (by kernel_rfl : _ = Value.pointer (some ⟨b7, 4, none⟩)) (cs := [.int .i64 r1.Box.Y.Lo, .int .i64 r1.Box.Y.Hi, .bool r1.Box.Y.Unknown]) rfl (HS9.cells 4 3 _ rfl)) ?_)
     refine seqL2 (by kernel_rfl) ?_
     refine seqK rfl (does_run (run_loadN (n := 3) rfl Try.underlying55 rfl (by kernel_rfl) (by kernel_rfl : _ = Value.pointer (some ⟨b7, 7, none⟩)) (cs := [.int .i64 r1.Box.Z.Lo, .int .i64 r1.Box.Z.Hi, .bool r1.Box.Z.Unknown]) rfl (HS9.cells 7 3 _ rfl)) ?_)
     refine seqS2 (a' := ⟨#[(ag_Row r1 A2 c3), pV b7 0, iV 0, uV, uV, uV, uV, uV, uV, pV b7 0, iV r1.ID, fV, fV, pV b7 0, iV r1.ID, fV, fV, pV b7 1, pV b7 1, (ag_Bound r1.Box.X), pV b7 1, pV b7 4, (ag_Bound r1.Box.Y), pV b7 1, pV b7 7, (ag_Bound r1.Box.Z), .agg #[iV r1.Box.X.Lo, iV r1.Box.X.Hi, .bool r1.Box.X.Unknown, iV r1.Box.Y.Lo, iV r1.Box.Y.Hi, .bool r1.Box.Y.Unknown, iV r1.Box.Z.Lo, iV r1.Box.Z.Hi, .bool r1.Box.Z.Unknown], iV 0, uV, uV, uV, uV, uV, uV, uV, uV, uV, uV, uV, uV, uV, uV, uV, uV, uV, uV, uV, uV, uV, uV, uV, uV, uV, uV, uV, uV, uV, uV, uV, uV, uV, uV, uV, uV, uV, uV, uV, uV, uV, uV, uV, uV, uV, uV, uV, uV, uV, uV, uV, uV, uV, uV, uV, uV, uV, uV, uV, uV, uV, uV, uV, uV, uV, uV], []⟩) (by kernel_rfl) ?_
     refine wpList_nil ?_
     refine hK25 _ _ ?_
     refine blockK (fun B26 hx27 hn28 hr29 ho30 hp31 => ?_)
     have hq_ := bind_some h; clear h; obtain ⟨o32, hv85, h⟩ := hq_
     have JR87 : ∀ z_, some (Sum.inl z_) = some o32 → some z_ = some rr1 := by
      intro z_ e_; injection e_ with e_; subst e_; exact h
     have J86 : ∀ (f80 : FM) (j84 : Nat → Value) (W82 : World) (a_ : Act), FM.le f f80 → some (Sum.inr ()) = some o32 → St t W82 f80 ([(b7, .cells #[.int .i64 r1.ID, .int .i64 r1.Box.X.Lo, .int .i64 r1.Box.X.Hi, .bool r1.Box.X.Unknown, .int .i64 r1.Box.Y.Lo, .int .i64 r1.Box.Y.Hi, .bool r1.Box.Y.Unknown, .int .i64 r1.Box.Z.Lo, .int .i64 r1.Box.Z.Hi, .bool r1.Box.Z.Unknown, .int .i64 r1.Flux.Lo, .int .i64 r1.Flux.Hi, .bool r1.Flux.Unknown, .int .i64 r1.When.Lo, .int .i64 r1.When.Hi, .bool r1.When.Unknown, .slice A2 r1.Frames.length c3, .int .i64 r1.Marks] 65 (0, 0))] :: H) → a_ = ⟨#[(ag_Row r1 A2 c3), pV b7 0, (j84 0), uV, (j84 1), (j84 2), uV, uV, uV, pV b7 0, iV r1.ID, fV, fV, pV b7 0, iV r1.ID, fV, fV, pV b7 1, pV b7 1, (ag_Bound r1.Box.X), pV b7 1, pV b7 4, (ag_Bound r1.Box.Y), pV b7 1, pV b7 7, (ag_Bound r1.Box.Z), .agg #[iV r1.Box.X.Lo, iV r1.Box.X.Hi, .bool r1.Box.X.Unknown, iV r1.Box.Y.Lo, iV r1.Box.Y.Hi, .bool r1.Box.Y.Unknown, iV r1.Box.Z.Lo, iV r1.Box.Z.Hi, .bool r1.Box.Z.Unknown], (j84 3), (j84 4), (j84 5), (j84 6), (j84 7), (j84 8), (j84 9), (j84 10), (j84 11), uV, uV, uV, uV, uV, uV, uV, uV, uV, uV, uV, uV, uV, uV, uV, uV, uV, uV, uV, uV, uV, uV, uV, uV, uV, uV, uV, uV, uV, uV, uV, uV, uV, uV, uV, uV, uV, uV, uV, uV, uV, uV, uV, uV, uV, uV, uV, uV, uV, uV, uV, uV, uV, uV, uV, uV, uV, uV], []⟩ → K22 a_ W82 := by
      intro f80 j84 W82 a_ L81 hj88 HS83  hfr_; subst hfr_
      injection hj88 with hj88; subst hj88; try dsimp only at h
      simp only [Sum.elim_inr] at h
      refine hK23 _ _ ?_
      refine wp_seq_k (fun K92 hK93 => ?_)
      refine wp_seq_k (fun K94 hK95 => ?_)
      refine heldG (S := Sg t f80 ([(b7, .cells #[.int .i64 r1.ID, .int .i64 r1.Box.X.Lo, .int .i64 r1.Box.X.Hi, .bool r1.Box.X.Unknown, .int .i64 r1.Box.Y.Lo, .int .i64 r1.Box.Y.Hi, .bool r1.Box.Y.Unknown, .int .i64 r1.Box.Z.Lo, .int .i64 r1.Box.Z.Hi, .bool r1.Box.Z.Unknown, .int .i64 r1.Flux.Lo, .int .i64 r1.Flux.Hi, .bool r1.Flux.Unknown, .int .i64 r1.When.Lo, .int .i64 r1.When.Hi, .bool r1.When.Unknown, .slice A2 r1.Frames.length c3, .int .i64 r1.Marks] 65 (0, 0))] :: H) []) (n := 9) (by kernel_rfl) rfl HS83 ?_
      intro W96 HS97
      refine takeG [0] (n := 9) (fuel := 8) (l' := #[true, false, false, false, false, false, false, false, false]) (a' := ⟨#[(ag_Row r1 A2 c3), pV b7 0, (j84 0), uV, (j84 1), (j84 2), uV, uV, uV, pV b7 0, iV r1.ID, fV, fV, pV b7 0, iV r1.ID, fV, fV, pV b7 1, pV b7 1, (ag_Bound r1.Box.X), pV b7 1, pV b7 4, (ag_Bound r1.Box.Y), pV b7 1, pV b7 7, (ag_Bound r1.Box.Z), .agg #[iV r1.Box.X.Lo, iV r1.Box.X.Hi, .bool r1.Box.X.Unknown, iV r1.Box.Y.Lo, iV r1.Box.Y.Hi, .bool r1.Box.Y.Unknown, iV r1.Box.Z.Lo, iV r1.Box.Z.Hi, .bool r1.Box.Z.Unknown], (j84 3), (j84 4), (j84 5), (j84 6), (j84 7), (j84 8), (j84 9), (j84 10), (j84 11), pV b7 10, uV, uV, uV, uV, uV, uV, uV, uV, uV, uV, uV, uV, uV, uV, uV, uV, uV, uV, uV, uV, uV, uV, uV, uV, uV, uV, uV, uV, uV, uV, uV, uV, uV, uV, uV, uV, uV, uV, uV, uV, uV, uV, uV, uV, uV, uV, uV, uV, uV, uV, uV, uV, uV, uV, uV, uV, uV], []⟩) rfl (by kernel_rfl) (by kernel_rfl) (by kernel_rfl) hnp (Sg.g0 (Sx.of [] (FM.le.refl _) HS97)) ?_
      refine takeGQ 1 [] rfl (by kernel_rfl) (by kernel_rfl) (by kernel_rfl) (by kernel_rfl) (by kernel_rfl) (by kernel_rfl) hnp (Sg.g0 (Sx.of [] (FM.le.refl _) HS97)) (fun w_ hw_ => by obtain ⟨g_, hl_, hS_⟩ := hw_.st; exact run_loadN (n := 3) rfl Try.underlying60 rfl (by kernel_rfl) (by kernel_rfl : _ = Value.pointer (some ⟨b7, 10, none⟩)) (cs := [.int .i64 r1.Flux.Lo, .int .i64 r1.Flux.Hi, .bool r1.Flux.Unknown]) rfl (hS_.cells 10 3 _ rfl)) ?_
      refine takeG [3] (n := 7) (fuel := 6) (l' := #[true, true, false, true, false, false, false, false, false]) (a' := ⟨#[(ag_Row r1 A2 c3), pV b7 0, (j84 0), uV, (j84 1), (j84 2), uV, uV, uV, pV b7 0, iV r1.ID, fV, fV, pV b7 0, iV r1.ID, fV, fV, pV b7 1, pV b7 1, (ag_Bound r1.Box.X), pV b7 1, pV b7 4, (ag_Bound r1.Box.Y), pV b7 1, pV b7 7, (ag_Bound r1.Box.Z), .agg #[iV r1.Box.X.Lo, iV r1.Box.X.Hi, .bool r1.Box.X.Unknown, iV r1.Box.Y.Lo, iV r1.Box.Y.Hi, .bool r1.Box.Y.Unknown, iV r1.Box.Z.Lo, iV r1.Box.Z.Hi, .bool r1.Box.Z.Unknown], (j84 3), (j84 4), (j84 5), (j84 6), (j84 7), (j84 8), (j84 9), (j84 10), (j84 11), pV b7 10, (ag_Bound r1.Flux), uV, pV b7 13, uV, uV, uV, uV, uV, uV, uV, uV, uV, uV, uV, uV, uV, uV, uV, uV, uV, uV, uV, uV, uV, uV, uV, uV, uV, uV, uV, uV, uV, uV, uV, uV, uV, uV, uV, uV, uV, uV, uV, uV, uV, uV, uV, uV, uV, uV, uV, uV, uV, uV, uV, uV, uV, uV], []⟩) rfl (by kernel_rfl) (by kernel_rfl) (by kernel_rfl) hnp (Sg.g0 (Sx.of [] (FM.le.refl _) HS97)) ?_
      refine takeGQ 4 [] rfl (by kernel_rfl) (by kernel_rfl) (by kernel_rfl) (by kernel_rfl) (by kernel_rfl) (by kernel_rfl) hnp (Sg.g0 (Sx.of [] (FM.le.refl _) HS97)) (fun w_ hw_ => by obtain ⟨g_, hl_, hS_⟩ := hw_.st; exact run_loadN (n := 3) rfl Try.underlying63 rfl (by kernel_rfl) (by kernel_rfl : _ = Value.pointer (some ⟨b7, 13, none⟩)) (cs := [.int .i64 r1.When.Lo, .int .i64 r1.When.Hi, .bool r1.When.Unknown]) rfl (hS_.cells 13 3 _ rfl)) ?_
      have hq_ := bind_some h; clear h; obtain ⟨vt98, hc99, h⟩ := hq_
      refine takeGE 2 (by kernel_rfl) rfl (by kernel_rfl) (does_call (f := 55) (args := #[.agg #[.int .i64 r1.Flux.Lo, .int .i64 r1.Flux.Hi, .bool r1.Flux.Unknown], .int .i64 1125899906842624]) (by kernel_rfl) (catalog_ends_Quanta.calls k r1.Flux 1125899906842624 HS97 vt98 hc99) ?_)
      rintro _ W102 ⟨f100, rfl, L101, HS103⟩
      refine ⟨_, rfl, ?_⟩
      refine ⟨(Sg.g0 (Sx.of [] L101 HS103)), ?_⟩
      have hq_ := bind_some h; clear h; obtain ⟨vt104, hc105, h⟩ := hq_
      refine takeGE 5 (by kernel_rfl) rfl (by kernel_rfl) (does_call (f := 56) (args := #[.agg #[.int .i64 r1.When.Lo, .int .i64 r1.When.Hi, .bool r1.When.Unknown], .int .i64 17592186044416]) (by kernel_rfl) (catalog_ends_Tick.calls k r1.When 17592186044416 HS103 vt104 hc105) ?_)
      rintro _ W108 ⟨f106, rfl, L107, HS109⟩
      refine ⟨_, rfl, ?_⟩
      refine ⟨(Sg.g0 (Sx.of [] (L101.trans L107) HS109)), ?_⟩
      refine takeGE 6 (by kernel_rfl) rfl (by kernel_rfl) (does_lit (e := (tInt .i64)) (E := 29) (vs := #[(0, Value.int .i64 vt98), (1, Value.int .i64 vt104)]) (cs := #[.int .i64 vt98, .int .i64 vt104]) (xs := ([vt98, vt104] : List Int)) rfl Try.underlying102 (by kernel_rfl) (by kernel_rfl) ⟨[.int .i64 vt98], _, rfl, rfl, ⟨[.int .i64 vt104], _, rfl, rfl, rfl⟩⟩ rfl HS109 ?_ (by decide))
      intro b110 W111 s112 HS113 _ HO114
      refine ⟨(Sg.g0 (Sx.of [s112] (L101.trans L107) HS113)), ?_⟩
      obtain ⟨f116, L117, HS118, HR119, th120⟩ := HO114.lend HS113
      have hq_ := bind_some h; clear h; obtain ⟨vt121, hc122, h⟩ := hq_
      refine takeGE 7 (by kernel_rfl) rfl (by kernel_rfl) (does_call (f := 25) (args := #[.slice (some ⟨b110, 0, none⟩) ([vt98, vt104] : List Int).length 2]) (by kernel_rfl) (cmp_Or_Errno.calls k (some ⟨b110, 0, none⟩) 2 ([vt98, vt104] : List Int) HS118 HR119 vt121 hc122) ?_)
      rintro _ W125 ⟨f123, rfl, L124, HS126⟩
      refine ⟨_, rfl, ?_⟩
      obtain ⟨f127, L128, HS129⟩ := th120 L124 HS126
      refine ⟨(Sg.g0 (Sx.of [s112] (L101.trans (L107.trans L128)) HS129)), ?_⟩
      refine takeG [8] (n := 1) (fuel := 0) (l' := #[true, true, true, true, true, true, true, true, true]) (a' := ⟨#[(ag_Row r1 A2 c3), pV b7 0, (j84 0), uV, (j84 1), (j84 2), iV vt121, uV, uV, pV b7 0, iV r1.ID, fV, fV, pV b7 0, iV r1.ID, fV, fV, pV b7 1, pV b7 1, (ag_Bound r1.Box.X), pV b7 1, pV b7 4, (ag_Bound r1.Box.Y), pV b7 1, pV b7 7, (ag_Bound r1.Box.Z), .agg #[iV r1.Box.X.Lo, iV r1.Box.X.Hi, .bool r1.Box.X.Unknown, iV r1.Box.Y.Lo, iV r1.Box.Y.Hi, .bool r1.Box.Y.Unknown, iV r1.Box.Z.Lo, iV r1.Box.Z.Hi, .bool r1.Box.Z.Unknown], (j84 3), (j84 4), (j84 5), (j84 6), (j84 7), (j84 8), (j84 9), (j84 10), (j84 11), pV b7 10, (ag_Bound r1.Flux), iV vt98, pV b7 13, (ag_Bound r1.When), iV vt104, .slice (some ⟨b110, 0, none⟩) ([vt98, vt104] : List Int).length 2, iV vt121, uV, uV, uV, uV, uV, uV, uV, uV, uV, uV, uV, uV, uV, uV, uV, uV, uV, uV, uV, uV, uV, uV, uV, uV, uV, uV, uV, uV, uV, uV, uV, uV, uV, uV, uV, uV, uV, uV, uV, uV, uV, uV, uV, uV, uV, uV, uV, uV, uV, uV], []⟩) rfl (by kernel_rfl) (by kernel_rfl) (by kernel_rfl) hnp (Sg.g0 (Sx.of [s112] (L101.trans (L107.trans L128)) HS129)) ?_
      refine doneG (by kernel_rfl) ?_ _
      refine hK95 _ _ ?_
      refine wp_seq_k (fun K130 hK131 => ?_)
      refine wp_region_lit ?_
      refine seqL2 (by kernel_rfl) ?_
      refine wpList_nil ?_
      refine hK131 _ _ ?_
      have hq_ := ite_some h; clear h; rcases hq_ with ⟨c133, h⟩ | ⟨c133, h⟩
      · have c133 : vt121 ≠ 0 := c133
        refine wpRwI 45 (x := (vt121 != 0)) (v := true) (by kernel_rfl) (bne_iff_ne.mpr c133) ?_
        refine condT (by kernel_rfl) ?_
        refine wp_seq_k (fun K134 hK135 => ?_)
        refine wp_region_lit ?_
        refine seqL2 (by kernel_rfl) ?_
        refine wpList_nil ?_
        refine hK135 _ _ ?_
        refine wp_ret ?_
        refine hret _ _ ?_
        refine ends_still (v := Value.int .i64 vt121) (by kernel_rfl) (by kernel_rfl) ?_
        have HS258 := HS129.drop
        have HS259 := HS258.drop
        injection h with h
        subst h
        exact ⟨f127, rfl, (L81.trans (L101.trans (L107.trans L128))), HS259⟩
      · have c133 : ¬ (vt121 ≠ 0) := c133
        refine wpRwI 45 (x := (vt121 != 0)) (v := false) (by kernel_rfl) (bne_eq_false_iff_eq.mpr (Decidable.of_not_not c133)) ?_
        refine condF (by kernel_rfl) ?_
        refine wp_skip ?_
        refine hK93 _ _ ?_
        refine wp_seq_k (fun K136 hK137 => ?_)
        refine blockK (fun B138 hx139 hn140 hr141 ho142 hp143 => ?_)
        refine wp_seq_k (fun K145 hK146 => ?_)
        refine wp_region_lit ?_
        refine seqL1 (by kernel_rfl) ?_
        refine seqK rfl (does_run (run_load rfl Try.underlying22 rfl (by kernel_rfl : _ = Value.pointer (some ⟨b7, 16, none⟩)) (HS129.u1.cell 16)) ?_)
        refine seqL3 (by kernel_rfl) ?_
        refine wpList_nil ?_
        refine hK146 _ _ ?_
        have hq_ := ite_some h; clear h; rcases hq_ with ⟨c148, h⟩ | ⟨c148, h⟩
        · have c148 : (r1.Frames.length : Int) = 0 := c148
          refine wpRwI 47 (x := ((r1.Frames.length : Int) == 0)) (v := true) (by kernel_rfl) (beq_iff_eq.mpr c148) ?_
          refine wpRwI 51 (x := ((r1.Frames.length : Int) == 0)) (v := true) (by kernel_rfl) (beq_iff_eq.mpr c148) ?_
          refine condT (by kernel_rfl) ?_
          refine wp_seq_k (fun K149 hK150 => ?_)
          refine wp_region_lit ?_
          refine seqL1 (by kernel_rfl) ?_
          refine wpList_nil ?_
          refine hK150 _ _ ?_
          refine wp_ret ?_
          refine hr141 _ _ ?_
          refine hret _ _ ?_
          refine ends_still (v := Value.int .i64 3) (by kernel_rfl) (by kernel_rfl) ?_
          have HS260 := HS129.drop
          have HS261 := HS260.drop
          injection h with h
          subst h
          exact ⟨f127, rfl, (L81.trans (L101.trans (L107.trans L128))), HS261⟩
        · have c148 : ¬ ((r1.Frames.length : Int) = 0) := c148
          refine wpRwI 47 (x := ((r1.Frames.length : Int) == 0)) (v := false) (by kernel_rfl) (beq_eq_false_iff_ne.mpr c148) ?_
          refine wpRwI 51 (x := ((r1.Frames.length : Int) == 0)) (v := false) (by kernel_rfl) (beq_eq_false_iff_ne.mpr c148) ?_
          refine condF (by kernel_rfl) ?_
          refine wp_seq_k (fun K151 hK152 => ?_)
          refine wp_region_lit ?_
          refine seqL1 (by kernel_rfl) ?_
          refine seqK rfl (does_run (run_load rfl Try.underlying22 rfl (by kernel_rfl : _ = Value.pointer (some ⟨b7, 16, none⟩)) (HS129.u1.cell 16)) ?_)
          refine seqL3 (by kernel_rfl) ?_
          refine wpList_nil ?_
          refine hK152 _ _ ?_
          have hq_ := ite_some h; clear h; rcases hq_ with ⟨c154, h⟩ | ⟨c154, h⟩
          · have c154 : (r1.Frames.length : Int) > 8 := c154
            refine wpRwI 52 (x := (decide ((r1.Frames.length : Int) > 8))) (v := true) (by kernel_rfl) (decide_eq_true c154) ?_
            refine wpRwI 56 (x := (decide ((r1.Frames.length : Int) > 8))) (v := true) (by kernel_rfl) (decide_eq_true c154) ?_
            refine condT (by kernel_rfl) ?_
            refine wp_seq_k (fun K155 hK156 => ?_)
            refine wp_region_lit ?_
            refine seqL1 (by kernel_rfl) ?_
            refine wpList_nil ?_
            refine hK156 _ _ ?_
            refine wp_ret ?_
            refine hr141 _ _ ?_
            refine hret _ _ ?_
            refine ends_still (v := Value.int .i64 2) (by kernel_rfl) (by kernel_rfl) ?_
            have HS262 := HS129.drop
            have HS263 := HS262.drop
            injection h with h
            subst h
            exact ⟨f127, rfl, (L81.trans (L101.trans (L107.trans L128))), HS263⟩
          · have c154 : ¬ ((r1.Frames.length : Int) > 8) := c154
            refine wpRwI 52 (x := (decide ((r1.Frames.length : Int) > 8))) (v := false) (by kernel_rfl) (decide_eq_false c154) ?_
            refine wpRwI 56 (x := (decide ((r1.Frames.length : Int) > 8))) (v := false) (by kernel_rfl) (decide_eq_false c154) ?_
            refine condF (by kernel_rfl) ?_
            refine wp_skip ?_
            refine hn140 _ _ ?_
            refine hK137 _ _ ?_
            refine wp_seq_k (fun K157 hK158 => ?_)
            refine wp_seq_k (fun K159 hK160 => ?_)
            refine wp_region_lit ?_
            refine seqL1 (by kernel_rfl) ?_
            refine seqK rfl (does_run (run_load rfl Try.underlying22 rfl (by kernel_rfl : _ = Value.pointer (some ⟨b7, 16, none⟩)) (HS129.u1.cell 16)) ?_)
            refine seqL2 (by kernel_rfl) ?_
            refine wpList_nil ?_
            refine hK160 _ _ ?_
            refine blockK (fun B161 hx162 hn163 hr164 ho165 hp166 => ?_)
            have hq_ := bind_some h; clear h; obtain ⟨o167, hv237, h⟩ := hq_
            have JR239 : ∀ z_, some (Sum.inl z_) = some o167 → some z_ = some rr1 := by
             intro z_ e_; injection e_ with e_; subst e_; exact h
            have J238 : ∀ (f232 : FM) (j236 : Nat → Value) (W234 : World) (a_ : Act), FM.le f127 f232 → some (Sum.inr ()) = some o167 → St t W234 f232 (s112 :: [(b7, .cells #[.int .i64 r1.ID, .int .i64 r1.Box.X.Lo, .int .i64 r1.Box.X.Hi, .bool r1.Box.X.Unknown, .int .i64 r1.Box.Y.Lo, .int .i64 r1.Box.Y.Hi, .bool r1.Box.Y.Unknown, .int .i64 r1.Box.Z.Lo, .int .i64 r1.Box.Z.Hi, .bool r1.Box.Z.Unknown, .int .i64 r1.Flux.Lo, .int .i64 r1.Flux.Hi, .bool r1.Flux.Unknown, .int .i64 r1.When.Lo, .int .i64 r1.When.Hi, .bool r1.When.Unknown, .slice A2 r1.Frames.length c3, .int .i64 r1.Marks] 65 (0, 0))] :: H) → a_ = ⟨#[(ag_Row r1 A2 c3), pV b7 0, (j236 0), uV, (j84 1), (j84 2), iV vt121, (j236 1), (j236 2), pV b7 0, iV r1.ID, fV, fV, pV b7 0, iV r1.ID, fV, fV, pV b7 1, pV b7 1, (ag_Bound r1.Box.X), pV b7 1, pV b7 4, (ag_Bound r1.Box.Y), pV b7 1, pV b7 7, (ag_Bound r1.Box.Z), .agg #[iV r1.Box.X.Lo, iV r1.Box.X.Hi, .bool r1.Box.X.Unknown, iV r1.Box.Y.Lo, iV r1.Box.Y.Hi, .bool r1.Box.Y.Unknown, iV r1.Box.Z.Lo, iV r1.Box.Z.Hi, .bool r1.Box.Z.Unknown], (j84 3), (j84 4), (j84 5), (j84 6), (j84 7), (j84 8), (j84 9), (j84 10), (j84 11), pV b7 10, (ag_Bound r1.Flux), iV vt98, pV b7 13, (ag_Bound r1.When), iV vt104, .slice (some ⟨b110, 0, none⟩) ([vt98, vt104] : List Int).length 2, iV vt121, iV vt121, fV, uV, fV, pV b7 16, .slice A2 r1.Frames.length c3, iV (r1.Frames.length : Int), fV, fV, pV b7 16, .slice A2 r1.Frames.length c3, iV (r1.Frames.length : Int), fV, pV b7 16, .slice A2 r1.Frames.length c3, iV (r1.Frames.length : Int), (j236 3), (j236 4), (j236 5), (j236 6), (j236 7), (j236 8), (j236 9), (j236 10), (j236 11), (j236 12), (j236 13), (j236 14), (j236 15), (j236 16), (j236 17), (j236 18), (j236 19), (j236 20), (j236 21), (j236 22), (j236 23), (j236 24), (j236 25), (j236 26), (j236 27), (j236 28), uV, uV, uV, uV, uV, uV, uV, uV], []⟩ → K157 a_ W234 := by
             intro f232 j236 W234 a_ L233 hj240 HS235  hfr_; subst hfr_
             injection hj240 with hj240; subst hj240; try dsimp only at h
             simp only [Sum.elim_inr] at h
             refine hK158 _ _ ?_
             refine wp_seq_k (fun K241 hK242 => ?_)
             refine wp_seq_k (fun K243 hK244 => ?_)
             refine wp_region_lit ?_
             refine seqL1 (by kernel_rfl) ?_
             refine seqK rfl (does_run (run_load rfl Try.underlying3 rfl (by kernel_rfl : _ = Value.pointer (some ⟨b7, 17, none⟩)) (HS235.u1.cell 17)) ?_)
             refine seqL2 (by kernel_rfl) ?_
             have hq_ := ite_some h; clear h; rcases hq_ with ⟨c245, h⟩ | ⟨c245, h⟩
             · have c245 : r1.Marks < 0 := c245
               refine seqRwI 88 (x := (decide (r1.Marks < 0))) (v := true) (by kernel_rfl) (decide_eq_true c245) ?_
               refine seqRwI 89 (x := (decide (r1.Marks < 0))) (v := true) (by kernel_rfl) (decide_eq_true c245) ?_
               refine seqL4 (by kernel_rfl) ?_
               refine wpList_nil ?_
               refine hK244 _ _ ?_
               refine condT (by kernel_rfl) ?_
               refine wp_seq_k (fun K246 hK247 => ?_)
               refine wp_region_lit ?_
               refine seqL1 (by kernel_rfl) ?_
               refine wpList_nil ?_
               refine hK247 _ _ ?_
               refine wp_ret ?_
               refine hret _ _ ?_
               refine ends_still (v := Value.int .i64 4) (by kernel_rfl) (by kernel_rfl) ?_
               have HS270 := HS235.drop
               have HS271 := HS270.drop
               injection h with h
               subst h
               exact ⟨f232, rfl, (L81.trans (L101.trans (L107.trans (L128.trans L233)))), HS271⟩
             · have c245 : ¬ (r1.Marks < 0) := c245
               refine seqRwI 88 (x := (decide (r1.Marks < 0))) (v := false) (by kernel_rfl) (decide_eq_false c245) ?_
               refine seqRwI 89 (x := (decide (r1.Marks < 0))) (v := false) (by kernel_rfl) (decide_eq_false c245) ?_
               refine seqL1 (by kernel_rfl) ?_
               refine seqG (by kernel_rfl) (does_run (run_load rfl Try.underlying3 rfl (by kernel_rfl : _ = Value.pointer (some ⟨b7, 17, none⟩)) (HS235.u1.cell 17)) ?_)
               refine seqL2 (by kernel_rfl) ?_
               refine wpList_nil ?_
               refine hK244 _ _ ?_
               have hq_ := ite_some h; clear h; rcases hq_ with ⟨c249, h⟩ | ⟨c249, h⟩
               · have c249 : r1.Marks > 3 := c249
                 refine wpRwI 92 (x := (decide (r1.Marks > 3))) (v := true) (by kernel_rfl) (decide_eq_true c249) ?_
                 refine wpRwI 93 (x := (decide (r1.Marks > 3))) (v := true) (by kernel_rfl) (decide_eq_true c249) ?_
                 refine condT (by kernel_rfl) ?_
                 refine wp_seq_k (fun K250 hK251 => ?_)
                 refine wp_region_lit ?_
                 refine seqL1 (by kernel_rfl) ?_
                 refine wpList_nil ?_
                 refine hK251 _ _ ?_
                 refine wp_ret ?_
                 refine hret _ _ ?_
                 refine ends_still (v := Value.int .i64 4) (by kernel_rfl) (by kernel_rfl) ?_
                 have HS272 := HS235.drop
                 have HS273 := HS272.drop
                 injection h with h
                 subst h
                 exact ⟨f232, rfl, (L81.trans (L101.trans (L107.trans (L128.trans L233)))), HS273⟩
               · have c249 : ¬ (r1.Marks > 3) := c249
                 refine wpRwI 92 (x := (decide (r1.Marks > 3))) (v := false) (by kernel_rfl) (decide_eq_false c249) ?_
                 refine wpRwI 93 (x := (decide (r1.Marks > 3))) (v := false) (by kernel_rfl) (decide_eq_false c249) ?_
                 refine condF (by kernel_rfl) ?_
                 refine wp_skip ?_
                 refine hK242 _ _ ?_
                 refine wp_seq_k (fun K252 hK253 => ?_)
                 refine wp_region_lit ?_
                 refine seqL1 (by kernel_rfl) ?_
                 refine wpList_nil ?_
                 refine hK253 _ _ ?_
                 refine wp_ret ?_
                 refine hret _ _ ?_
                 refine ends_still (v := Value.int .i64 0) (by kernel_rfl) (by kernel_rfl) ?_
                 have HS274 := HS235.drop
                 have HS275 := HS274.drop
                 injection h with h
                 subst h
                 exact ⟨f232, rfl, (L81.trans (L101.trans (L107.trans (L128.trans L233)))), HS275⟩
            clear h; have h := hv237; clear hv237
            refine loopK (fun n_ a_ w_ => ∃ (f171 : FM) (x176 : Int) (j175 : Nat → Value), FM.le f127 f171 ∧ St t w_ f171 (s112 :: [(b7, .cells #[.int .i64 r1.ID, .int .i64 r1.Box.X.Lo, .int .i64 r1.Box.X.Hi, .bool r1.Box.X.Unknown, .int .i64 r1.Box.Y.Lo, .int .i64 r1.Box.Y.Hi, .bool r1.Box.Y.Unknown, .int .i64 r1.Box.Z.Lo, .int .i64 r1.Box.Z.Hi, .bool r1.Box.Z.Unknown, .int .i64 r1.Flux.Lo, .int .i64 r1.Flux.Hi, .bool r1.Flux.Unknown, .int .i64 r1.When.Lo, .int .i64 r1.When.Hi, .bool r1.When.Unknown, .slice A2 r1.Frames.length c3, .int .i64 r1.Marks] 65 (0, 0))] :: H) ∧ catalog_CheckRow.l1 k r1 n_ x176 = some o167 ∧ a_ = ⟨#[(ag_Row r1 A2 c3), pV b7 0, (j175 0), uV, (j84 1), (j84 2), iV vt121, (j175 1), (j175 2), pV b7 0, iV r1.ID, fV, fV, pV b7 0, iV r1.ID, fV, fV, pV b7 1, pV b7 1, (ag_Bound r1.Box.X), pV b7 1, pV b7 4, (ag_Bound r1.Box.Y), pV b7 1, pV b7 7, (ag_Bound r1.Box.Z), .agg #[iV r1.Box.X.Lo, iV r1.Box.X.Hi, .bool r1.Box.X.Unknown, iV r1.Box.Y.Lo, iV r1.Box.Y.Hi, .bool r1.Box.Y.Unknown, iV r1.Box.Z.Lo, iV r1.Box.Z.Hi, .bool r1.Box.Z.Unknown], (j84 3), (j84 4), (j84 5), (j84 6), (j84 7), (j84 8), (j84 9), (j84 10), (j84 11), pV b7 10, (ag_Bound r1.Flux), iV vt98, pV b7 13, (ag_Bound r1.When), iV vt104, .slice (some ⟨b110, 0, none⟩) ([vt98, vt104] : List Int).length 2, iV vt121, iV vt121, fV, uV, fV, pV b7 16, .slice A2 r1.Frames.length c3, iV (r1.Frames.length : Int), fV, fV, pV b7 16, .slice A2 r1.Frames.length c3, iV (r1.Frames.length : Int), fV, pV b7 16, .slice A2 r1.Frames.length c3, iV (r1.Frames.length : Int), iV x176, (j175 3), (j175 4), (j175 5), (j175 6), (j175 7), (j175 8), (j175 9), (j175 10), (j175 11), (j175 12), (j175 13), (j175 14), (j175 15), (j175 16), (j175 17), (j175 18), (j175 19), (j175 20), (j175 21), (j175 22), (j175 23), (j175 24), (j175 25), (j175 26), (j175 27), uV, uV, uV, uV, uV, uV, uV, uV], []⟩) k ⟨f127, 0, (fun i_ => [(j84 0), undef, undef, undef, undef, undef, undef, undef, undef, undef, undef, undef, undef, undef, undef, undef, undef, undef, undef, undef, undef, undef, undef, undef, undef, undef, undef, undef].getD i_ undef), (FM.le.refl _), HS129, h, (by kernel_rfl)⟩ ?_
            clear h
            rintro n170 _ W173 ⟨f171, x176, j175, L172, HS174, h, rfl⟩ K168 hK169
            obtain _ | n170 := n170
            · exact nomatch h
            simp only [catalog_CheckRow.l1] at h
            refine wp_seq_k (fun K177 hK178 => ?_)
            refine wp_region_lit ?_
            refine seqL1 (by kernel_rfl) ?_
            refine wpList_nil ?_
            refine hK178 _ _ ?_
            refine wp_seq_k (fun K179 hK180 => ?_)
            have hq_ := ite_some h; clear h; rcases hq_ with ⟨c182, h⟩ | ⟨c182, h⟩
            · have c182 : x176 < (r1.Frames.length : Int) := c182
              refine wpRwI 61 (x := (decide (x176 < (r1.Frames.length : Int)))) (v := true) (by kernel_rfl) (decide_eq_true c182) ?_
              refine condT (by kernel_rfl) ?_
              refine wp_skip ?_
              refine hK180 _ _ ?_
              refine wp_seq_k (fun K183 hK184 => ?_)
              refine blockK (fun B185 hx186 hn187 hr188 ho189 hp190 => ?_)
              refine wp_seq_k (fun K192 hK193 => ?_)
              refine wp_region_lit ?_
              have hq_ := guard_some h; clear h; obtain ⟨c194, h⟩ := hq_
              have c194 : 0 ≤ x176 := c194
              obtain ⟨b198, of199, cs195, hA200, hr196, hc197⟩ := (HR4.mono (L81.trans (L101.trans (L107.trans (L128.trans L172))))).at (i := x176) c194 c182
              obtain rfl := hr196
              refine seqL1 (by kernel_rfl) ?_
              refine seqK rfl (does_run (run_indexE hA200 (sz := 1) rfl Try.underlying22 (by kernel_rfl) (by kernel_rfl : _ = Value.slice A2 r1.Frames.length c3) (by kernel_rfl : _ = Value.int .i64 x176) c194 c182 W173) ?_)
              refine seqK rfl (does_run (run_load rfl Try.underlying3 rfl (by kernel_rfl : _ = Value.pointer (some ⟨b198, of199 + (x176 : Int).toNat * 1, none⟩)) ((hc197 (FM.le.refl _) HS174) 0 (by decide))) ?_)
              refine seqL2 (by kernel_rfl) ?_
              refine wpList_nil ?_
              refine hK193 _ _ ?_
              refine blockK (fun B201 hx202 hn203 hr204 ho205 hp206 => ?_)
              refine wp_seq_k (fun K208 hK209 => ?_)
              refine wp_region_lit ?_
              refine seqL3 (by kernel_rfl) ?_
              have hq_ := ite_some h; clear h; rcases hq_ with ⟨c210, h⟩ | ⟨c210, h⟩
              · have c210 : (rd r1.Frames x176) < 1 := c210
                refine seqRwI 67 (x := (decide ((rd r1.Frames x176) < 1))) (v := true) (by kernel_rfl) (decide_eq_true c210) ?_
                refine seqRwI 68 (x := (decide ((rd r1.Frames x176) < 1))) (v := true) (by kernel_rfl) (decide_eq_true c210) ?_
                refine seqL4 (by kernel_rfl) ?_
                refine wpList_nil ?_
                refine hK209 _ _ ?_
                refine condT (by kernel_rfl) ?_
                refine wp_seq_k (fun K211 hK212 => ?_)
                refine wp_region_lit ?_
                refine seqL1 (by kernel_rfl) ?_
                refine wpList_nil ?_
                refine hK212 _ _ ?_
                refine wp_ret ?_
                refine hr204 _ _ ?_
                refine hr188 _ _ ?_
                refine hr164 _ _ ?_
                refine hret _ _ ?_
                refine ends_still (v := Value.int .i64 4) (by kernel_rfl) (by kernel_rfl) ?_
                have HS264 := HS174.drop
                have HS265 := HS264.drop
                replace h := JR239 _ h
                injection h with h
                subst h
                exact ⟨f171, rfl, (L81.trans (L101.trans (L107.trans (L128.trans L172)))), HS265⟩
              · have c210 : ¬ ((rd r1.Frames x176) < 1) := c210
                refine seqRwI 67 (x := (decide ((rd r1.Frames x176) < 1))) (v := false) (by kernel_rfl) (decide_eq_false c210) ?_
                refine seqRwI 68 (x := (decide ((rd r1.Frames x176) < 1))) (v := false) (by kernel_rfl) (decide_eq_false c210) ?_
                refine seqL4 (by kernel_rfl) ?_
                refine wpList_nil ?_
                refine hK209 _ _ ?_
                have hq_ := ite_some h; clear h; rcases hq_ with ⟨c214, h⟩ | ⟨c214, h⟩
                · have c214 : (rd r1.Frames x176) > 1048576 := c214
                  refine wpRwI 65 (x := (decide ((rd r1.Frames x176) > 1048576))) (v := true) (by kernel_rfl) (decide_eq_true c214) ?_
                  refine wpRwI 70 (x := (decide ((rd r1.Frames x176) > 1048576))) (v := true) (by kernel_rfl) (decide_eq_true c214) ?_
                  refine wpRwI 71 (x := (decide ((rd r1.Frames x176) > 1048576))) (v := true) (by kernel_rfl) (decide_eq_true c214) ?_
                  refine condT (by kernel_rfl) ?_
                  refine wp_seq_k (fun K215 hK216 => ?_)
                  refine wp_region_lit ?_
                  refine seqL1 (by kernel_rfl) ?_
                  refine wpList_nil ?_
                  refine hK216 _ _ ?_
                  refine wp_ret ?_
                  refine hr204 _ _ ?_
                  refine hr188 _ _ ?_
                  refine hr164 _ _ ?_
                  refine hret _ _ ?_
                  refine ends_still (v := Value.int .i64 4) (by kernel_rfl) (by kernel_rfl) ?_
                  have HS266 := HS174.drop
                  have HS267 := HS266.drop
                  replace h := JR239 _ h
                  injection h with h
                  subst h
                  exact ⟨f171, rfl, (L81.trans (L101.trans (L107.trans (L128.trans L172)))), HS267⟩
                · have c214 : ¬ ((rd r1.Frames x176) > 1048576) := c214
                  refine wpRwI 65 (x := (decide ((rd r1.Frames x176) > 1048576))) (v := false) (by kernel_rfl) (decide_eq_false c214) ?_
                  refine wpRwI 70 (x := (decide ((rd r1.Frames x176) > 1048576))) (v := false) (by kernel_rfl) (decide_eq_false c214) ?_
                  refine wpRwI 71 (x := (decide ((rd r1.Frames x176) > 1048576))) (v := false) (by kernel_rfl) (decide_eq_false c214) ?_
                  refine condF (by kernel_rfl) ?_
                  refine wp_seq_k (fun K217 hK218 => ?_)
                  refine wp_region_lit ?_
                  refine seqL3 (by kernel_rfl) ?_
                  have hq_ := ite_some h; clear h; rcases hq_ with ⟨c219, h⟩ | ⟨c219, h⟩
                  · have c219 : x176 > 0 := c219
                    refine seqRwI 74 (x := (decide (x176 > 0))) (v := true) (by kernel_rfl) (decide_eq_true c219) ?_
                    refine seqRwI 75 (x := (decide (x176 > 0))) (v := true) (by kernel_rfl) (decide_eq_true c219) ?_
                    refine seqL2 (by kernel_rfl) ?_
                    refine seqG (by kernel_rfl) (does_run (run_load rfl Try.underlying22 rfl (by kernel_rfl : _ = Value.pointer (some ⟨b7, 16, none⟩)) (HS174.u1.cell 16)) ?_)
                    have hq_ := guard_some h; clear h; obtain ⟨c220, h⟩ := hq_
                    have c220 : 0 ≤ (w64 (x176 - 1)) := c220
                    have hq_ := guard_some h; clear h; obtain ⟨c221, h⟩ := hq_
                    have c221 : (w64 (x176 - 1)) < (r1.Frames.length : Int) := c221
                    obtain ⟨b225, of226, cs222, hA227, hr223, hc224⟩ := (HR4.mono (L81.trans (L101.trans (L107.trans (L128.trans L172))))).at (i := w64 (x176 - 1)) c220 c221
                    obtain rfl := hr223
                    refine seqL2 (by kernel_rfl) ?_
                    refine seqG (by kernel_rfl) (does_run (run_indexE hA227 (sz := 1) rfl Try.underlying22 (by kernel_rfl) (by kernel_rfl : _ = Value.slice A2 r1.Frames.length c3) (by kernel_rfl : _ = Value.int .i64 (w64 (x176 - 1))) c220 c221 W173) ?_)
                    refine seqG (by kernel_rfl) (does_run (run_load rfl Try.underlying3 rfl (by kernel_rfl : _ = Value.pointer (some ⟨b225, of226 + (w64 (x176 - 1) : Int).toNat * 1, none⟩)) ((hc224 (FM.le.refl _) HS174) 0 (by decide))) ?_)
                    refine seqS3 (a' := ⟨#[(ag_Row r1 A2 c3), pV b7 0, (j175 0), uV, (j84 1), (j84 2), iV vt121, iV x176, iV (rd r1.Frames x176), pV b7 0, iV r1.ID, fV, fV, pV b7 0, iV r1.ID, fV, fV, pV b7 1, pV b7 1, (ag_Bound r1.Box.X), pV b7 1, pV b7 4, (ag_Bound r1.Box.Y), pV b7 1, pV b7 7, (ag_Bound r1.Box.Z), .agg #[iV r1.Box.X.Lo, iV r1.Box.X.Hi, .bool r1.Box.X.Unknown, iV r1.Box.Y.Lo, iV r1.Box.Y.Hi, .bool r1.Box.Y.Unknown, iV r1.Box.Z.Lo, iV r1.Box.Z.Hi, .bool r1.Box.Z.Unknown], (j84 3), (j84 4), (j84 5), (j84 6), (j84 7), (j84 8), (j84 9), (j84 10), (j84 11), pV b7 10, (ag_Bound r1.Flux), iV vt98, pV b7 13, (ag_Bound r1.When), iV vt104, .slice (some ⟨b110, 0, none⟩) ([vt98, vt104] : List Int).length 2, iV vt121, iV vt121, fV, uV, fV, pV b7 16, .slice A2 r1.Frames.length c3, iV (r1.Frames.length : Int), fV, fV, pV b7 16, .slice A2 r1.Frames.length c3, iV (r1.Frames.length : Int), fV, pV b7 16, .slice A2 r1.Frames.length c3, iV (r1.Frames.length : Int), iV x176, tV, iV x176, pV b198 (of199 + (x176 : Int).toNat * 1), iV (rd r1.Frames x176), fV, iV (rd r1.Frames x176), fV, fV, iV (rd r1.Frames x176), fV, fV, .bool (decide ((rd r1.Frames x176) ≤ (rd r1.Frames (w64 (x176 - 1))))), iV x176, tV, tV, iV (rd r1.Frames x176), pV b7 16, .slice A2 r1.Frames.length c3, iV x176, iV (w64 (x176 - 1)), pV b225 (of226 + (w64 (x176 - 1) : Int).toNat * 1), iV (rd r1.Frames (w64 (x176 - 1))), .bool (decide ((rd r1.Frames x176) ≤ (rd r1.Frames (w64 (x176 - 1))))), .bool (decide ((rd r1.Frames x176) ≤ (rd r1.Frames (w64 (x176 - 1))))), (j175 27), uV, uV, uV, uV, uV, uV, uV, uV], []⟩) (by kernel_rfl) ?_
                    refine wpList_nil ?_
                    refine hK218 _ _ ?_
                    have hq_ := ite_some h; clear h; rcases hq_ with ⟨c229, h⟩ | ⟨c229, h⟩
                    · have c229 : (rd r1.Frames x176) ≤ (rd r1.Frames (w64 (x176 - 1))) := c229
                      refine wpRwI 72 (x := (decide ((rd r1.Frames x176) ≤ (rd r1.Frames (w64 (x176 - 1)))))) (v := true) (by kernel_rfl) (decide_eq_true c229) ?_
                      refine wpRwI 83 (x := (decide ((rd r1.Frames x176) ≤ (rd r1.Frames (w64 (x176 - 1)))))) (v := true) (by kernel_rfl) (decide_eq_true c229) ?_
                      refine wpRwI 84 (x := (decide ((rd r1.Frames x176) ≤ (rd r1.Frames (w64 (x176 - 1)))))) (v := true) (by kernel_rfl) (decide_eq_true c229) ?_
                      refine condT (by kernel_rfl) ?_
                      refine wp_seq_k (fun K230 hK231 => ?_)
                      refine wp_region_lit ?_
                      refine seqL1 (by kernel_rfl) ?_
                      refine wpList_nil ?_
                      refine hK231 _ _ ?_
                      refine wp_ret ?_
                      refine hr204 _ _ ?_
                      refine hr188 _ _ ?_
                      refine hr164 _ _ ?_
                      refine hret _ _ ?_
                      refine ends_still (v := Value.int .i64 11) (by kernel_rfl) (by kernel_rfl) ?_
                      have HS268 := HS174.drop
                      have HS269 := HS268.drop
                      replace h := JR239 _ h
                      injection h with h
                      subst h
                      exact ⟨f171, rfl, (L81.trans (L101.trans (L107.trans (L128.trans L172)))), HS269⟩
                    · have c229 : ¬ ((rd r1.Frames x176) ≤ (rd r1.Frames (w64 (x176 - 1)))) := c229
                      refine wpRwI 72 (x := (decide ((rd r1.Frames x176) ≤ (rd r1.Frames (w64 (x176 - 1)))))) (v := false) (by kernel_rfl) (decide_eq_false c229) ?_
                      refine wpRwI 83 (x := (decide ((rd r1.Frames x176) ≤ (rd r1.Frames (w64 (x176 - 1)))))) (v := false) (by kernel_rfl) (decide_eq_false c229) ?_
                      refine wpRwI 84 (x := (decide ((rd r1.Frames x176) ≤ (rd r1.Frames (w64 (x176 - 1)))))) (v := false) (by kernel_rfl) (decide_eq_false c229) ?_
                      refine condF (by kernel_rfl) ?_
                      refine wp_skip ?_
                      refine hn203 _ _ ?_
                      refine hn187 _ _ ?_
                      refine hK184 _ _ ?_
                      refine wp_region_lit ?_
                      refine seqL2 (by kernel_rfl) ?_
                      refine wpList_nil ?_
                      refine hK169 n170 _ _ (Nat.lt_succ_self _) ?_
                      exact ⟨f171, (w64 (x176 + 1)), (fun i_ => [(j175 0), Value.int .i64 x176, Value.int .i64 (rd r1.Frames x176), Value.bool true, Value.int .i64 x176, Value.pointer (some ⟨b198, of199 + (x176 : Int).toNat * 1, none⟩), Value.int .i64 (rd r1.Frames x176), Value.bool false, Value.int .i64 (rd r1.Frames x176), Value.bool false, Value.bool false, Value.int .i64 (rd r1.Frames x176), Value.bool false, Value.bool false, Value.bool false, Value.int .i64 x176, Value.bool true, Value.bool true, Value.int .i64 (rd r1.Frames x176), Value.pointer (some ⟨b7, 16, none⟩), Value.slice A2 r1.Frames.length c3, Value.int .i64 x176, Value.int .i64 (w64 (x176 - 1)), Value.pointer (some ⟨b225, of226 + (w64 (x176 - 1) : Int).toNat * 1, none⟩), Value.int .i64 (rd r1.Frames (w64 (x176 - 1))), Value.bool false, Value.bool false, Value.int .i64 (w64 (x176 + 1))].getD i_ undef), L172, HS174, h, (by kernel_rfl)⟩
                  · have c219 : ¬ (x176 > 0) := c219
                    refine seqRwI 74 (x := (decide (x176 > 0))) (v := false) (by kernel_rfl) (decide_eq_false c219) ?_
                    refine seqRwI 75 (x := (decide (x176 > 0))) (v := false) (by kernel_rfl) (decide_eq_false c219) ?_
                    refine seqS10 (a' := ⟨#[(ag_Row r1 A2 c3), pV b7 0, (j175 0), uV, (j84 1), (j84 2), iV vt121, iV x176, iV (rd r1.Frames x176), pV b7 0, iV r1.ID, fV, fV, pV b7 0, iV r1.ID, fV, fV, pV b7 1, pV b7 1, (ag_Bound r1.Box.X), pV b7 1, pV b7 4, (ag_Bound r1.Box.Y), pV b7 1, pV b7 7, (ag_Bound r1.Box.Z), .agg #[iV r1.Box.X.Lo, iV r1.Box.X.Hi, .bool r1.Box.X.Unknown, iV r1.Box.Y.Lo, iV r1.Box.Y.Hi, .bool r1.Box.Y.Unknown, iV r1.Box.Z.Lo, iV r1.Box.Z.Hi, .bool r1.Box.Z.Unknown], (j84 3), (j84 4), (j84 5), (j84 6), (j84 7), (j84 8), (j84 9), (j84 10), (j84 11), pV b7 10, (ag_Bound r1.Flux), iV vt98, pV b7 13, (ag_Bound r1.When), iV vt104, .slice (some ⟨b110, 0, none⟩) ([vt98, vt104] : List Int).length 2, iV vt121, iV vt121, fV, uV, fV, pV b7 16, .slice A2 r1.Frames.length c3, iV (r1.Frames.length : Int), fV, fV, pV b7 16, .slice A2 r1.Frames.length c3, iV (r1.Frames.length : Int), fV, pV b7 16, .slice A2 r1.Frames.length c3, iV (r1.Frames.length : Int), iV x176, tV, iV x176, pV b198 (of199 + (x176 : Int).toNat * 1), iV (rd r1.Frames x176), fV, iV (rd r1.Frames x176), fV, fV, iV (rd r1.Frames x176), fV, fV, fV, iV x176, fV, fV, uV, uV, uV, uV, uV, uV, uV, uV, fV, (j175 27), uV, uV, uV, uV, uV, uV, uV, uV], []⟩) (by kernel_rfl) ?_
                    refine wpList_nil ?_
                    refine hK218 _ _ ?_
                    refine condF (by kernel_rfl) ?_
                    refine wp_skip ?_
                    refine hn203 _ _ ?_
                    refine hn187 _ _ ?_
                    refine hK184 _ _ ?_
                    refine wp_region_lit ?_
                    refine seqL2 (by kernel_rfl) ?_
                    refine wpList_nil ?_
                    refine hK169 n170 _ _ (Nat.lt_succ_self _) ?_
                    exact ⟨f171, (w64 (x176 + 1)), (fun i_ => [(j175 0), Value.int .i64 x176, Value.int .i64 (rd r1.Frames x176), Value.bool true, Value.int .i64 x176, Value.pointer (some ⟨b198, of199 + (x176 : Int).toNat * 1, none⟩), Value.int .i64 (rd r1.Frames x176), Value.bool false, Value.int .i64 (rd r1.Frames x176), Value.bool false, Value.bool false, Value.int .i64 (rd r1.Frames x176), Value.bool false, Value.bool false, Value.bool false, Value.int .i64 x176, Value.bool false, Value.bool false, undef, undef, undef, undef, undef, undef, undef, undef, Value.bool false, Value.int .i64 (w64 (x176 + 1))].getD i_ undef), L172, HS174, h, (by kernel_rfl)⟩
            · have c182 : ¬ (x176 < (r1.Frames.length : Int)) := c182
              refine wpRwI 61 (x := (decide (x176 < (r1.Frames.length : Int)))) (v := false) (by kernel_rfl) (decide_eq_false c182) ?_
              refine condF (by kernel_rfl) ?_
              refine wp_exit ?_
              refine hx162 _ _ ?_
              exact J238 f171 (fun i_ => [(j175 0), (j175 1), (j175 2), Value.int .i64 x176, Value.bool false, (j175 4), (j175 5), (j175 6), (j175 7), (j175 8), (j175 9), (j175 10), (j175 11), (j175 12), (j175 13), (j175 14), (j175 15), (j175 16), (j175 17), (j175 18), (j175 19), (j175 20), (j175 21), (j175 22), (j175 23), (j175 24), (j175 25), (j175 26), (j175 27)].getD i_ undef) W173 _ L172 h HS174 (by kernel_rfl)
     clear h; have h := hv85; clear hv85
     refine loopK (fun n_ a_ w_ => ∃ (f36 : FM) (x41 : Int) (j40 : Nat → Value), FM.le f f36 ∧ St t w_ f36 ([(b7, .cells #[.int .i64 r1.ID, .int .i64 r1.Box.X.Lo, .int .i64 r1.Box.X.Hi, .bool r1.Box.X.Unknown, .int .i64 r1.Box.Y.Lo, .int .i64 r1.Box.Y.Hi, .bool r1.Box.Y.Unknown, .int .i64 r1.Box.Z.Lo, .int .i64 r1.Box.Z.Hi, .bool r1.Box.Z.Unknown, .int .i64 r1.Flux.Lo, .int .i64 r1.Flux.Hi, .bool r1.Flux.Unknown, .int .i64 r1.When.Lo, .int .i64 r1.When.Hi, .bool r1.When.Unknown, .slice A2 r1.Frames.length c3, .int .i64 r1.Marks] 65 (0, 0))] :: H) ∧ catalog_CheckRow.l0 k r1 n_ x41 = some o32 ∧ a_ = ⟨#[(ag_Row r1 A2 c3), pV b7 0, (j40 0), uV, (j40 1), (j40 2), uV, uV, uV, pV b7 0, iV r1.ID, fV, fV, pV b7 0, iV r1.ID, fV, fV, pV b7 1, pV b7 1, (ag_Bound r1.Box.X), pV b7 1, pV b7 4, (ag_Bound r1.Box.Y), pV b7 1, pV b7 7, (ag_Bound r1.Box.Z), .agg #[iV r1.Box.X.Lo, iV r1.Box.X.Hi, .bool r1.Box.X.Unknown, iV r1.Box.Y.Lo, iV r1.Box.Y.Hi, .bool r1.Box.Y.Unknown, iV r1.Box.Z.Lo, iV r1.Box.Z.Hi, .bool r1.Box.Z.Unknown], iV x41, (j40 3), (j40 4), (j40 5), (j40 6), (j40 7), (j40 8), (j40 9), (j40 10), uV, uV, uV, uV, uV, uV, uV, uV, uV, uV, uV, uV, uV, uV, uV, uV, uV, uV, uV, uV, uV, uV, uV, uV, uV, uV, uV, uV, uV, uV, uV, uV, uV, uV, uV, uV, uV, uV, uV, uV, uV, uV, uV, uV, uV, uV, uV, uV, uV, uV, uV, uV, uV, uV, uV, uV, uV, uV], []⟩) k ⟨f, 0, (fun i_ => [Value.int .i64 0, undef, undef, undef, undef, undef, undef, undef, undef, undef, undef].getD i_ undef), (FM.le.refl _), HS9, h, (by kernel_rfl)⟩ ?_
     clear h
     rintro n35 _ W38 ⟨f36, x41, j40, L37, HS39, h, rfl⟩ K33 hK34
     obtain _ | n35 := n35
     · exact nomatch h
     simp only [catalog_CheckRow.l0] at h
     refine wp_seq_k (fun K42 hK43 => ?_)
     refine wp_region_lit ?_
     refine seqL1 (by kernel_rfl) ?_
     refine wpList_nil ?_
     refine hK43 _ _ ?_
     refine wp_seq_k (fun K44 hK45 => ?_)
     have hq_ := ite_some h; clear h; rcases hq_ with ⟨c47, h⟩ | ⟨c47, h⟩
     · have c47 : x41 < 3 := c47
       refine wpRwI 28 (x := (decide (x41 < 3))) (v := true) (by kernel_rfl) (decide_eq_true c47) ?_
       refine condT (by kernel_rfl) ?_
       refine wp_skip ?_
       refine hK45 _ _ ?_
       refine wp_seq_k (fun K48 hK49 => ?_)
       refine blockK (fun B50 hx51 hn52 hr53 ho54 hp55 => ?_)
       refine wp_seq_k (fun K57 hK58 => ?_)
       refine wp_region_lit ?_
       have hq_ := guard_some h; clear h; obtain ⟨c59, h⟩ := hq_
       have c59 : 0 ≤ x41 := c59
       refine seqK rfl (does_run (run_arr_agg (e := ty_Bound) (f := fun _ => none) (xs := [r1.Box.X, r1.Box.Y, r1.Box.Z]) (fun x_ => [Value.int .i64 x_.Lo, Value.int .i64 x_.Hi, Value.bool x_.Unknown]) (fun _ _ h_ => h_) rfl Try.underlying113 (by kernel_rfl) Try.underlying55 rfl (by kernel_rfl : _ = Value.agg #[.int .i64 r1.Box.X.Lo, .int .i64 r1.Box.X.Hi, .bool r1.Box.X.Unknown, .int .i64 r1.Box.Y.Lo, .int .i64 r1.Box.Y.Hi, .bool r1.Box.Y.Unknown, .int .i64 r1.Box.Z.Lo, .int .i64 r1.Box.Z.Hi, .bool r1.Box.Z.Unknown]) (by kernel_rfl : _ = Value.int .i64 x41) ⟨[Value.int .i64 r1.Box.X.Lo, Value.int .i64 r1.Box.X.Hi, Value.bool r1.Box.X.Unknown], _, rfl, rfl, ⟨[Value.int .i64 r1.Box.Y.Lo, Value.int .i64 r1.Box.Y.Hi, Value.bool r1.Box.Y.Unknown], _, rfl, rfl, ⟨[Value.int .i64 r1.Box.Z.Lo, Value.int .i64 r1.Box.Z.Hi, Value.bool r1.Box.Z.Unknown], _, rfl, rfl, rfl⟩⟩⟩ c59 c47 rfl W38) ?_)
       refine seqK rfl (does_alloc (z := Value.agg #[.int .i64 0, .int .i64 0, .bool false]) (cs := #[.int .i64 0, .int .i64 0, .bool false]) rfl (by kernel_rfl) rfl HS39 ?_)
       intro b60 W61 HS62
       refine seqK rfl (does_store (n := 3) (vs := [.int .i64 ((rd [r1.Box.X, r1.Box.Y, r1.Box.Z] x41).Lo), .int .i64 ((rd [r1.Box.X, r1.Box.Y, r1.Box.Z] x41).Hi), .bool ((rd [r1.Box.X, r1.Box.Y, r1.Box.Z] x41).Unknown)]) (cs' := #[.int .i64 ((rd [r1.Box.X, r1.Box.Y, r1.Box.Z] x41).Lo), .int .i64 ((rd [r1.Box.X, r1.Box.Y, r1.Box.Z] x41).Hi), .bool ((rd [r1.Box.X, r1.Box.Y, r1.Box.Z] x41).Unknown)]) rfl (by kernel_rfl) (by kernel_rfl : _ = Value.pointer (some ⟨b60, 0, none⟩)) (by kernel_rfl : _ = Value.agg #[.int .i64 ((rd [r1.Box.X, r1.Box.Y, r1.Box.Z] x41).Lo), .int .i64 ((rd [r1.Box.X, r1.Box.Y, r1.Box.Z] x41).Hi), .bool ((rd [r1.Box.X, r1.Box.Y, r1.Box.Z] x41).Unknown)]) rfl rfl (by intro u_ hu_; simp only [List.mem_cons, List.not_mem_nil, or_false] at hu_; rcases hu_ with rfl | rfl | rfl <;> rfl) HS62 (Nat.le_of_ble_eq_true rfl) (by kernel_rfl) ?_)
       intro W64 HS65
       refine wpList_nil ?_
       refine hK58 _ _ ?_
       refine wp_seq_k (fun K66 hK67 => ?_)
       refine wp_region_lit ?_
       refine seqK rfl (does_run (run_loadN (n := 3) rfl Try.underlying55 rfl (by kernel_rfl) (by kernel_rfl : _ = Value.pointer (some ⟨b60, 0, none⟩)) (cs := [.int .i64 ((rd [r1.Box.X, r1.Box.Y, r1.Box.Z] x41).Lo), .int .i64 ((rd [r1.Box.X, r1.Box.Y, r1.Box.Z] x41).Hi), .bool ((rd [r1.Box.X, r1.Box.Y, r1.Box.Z] x41).Unknown)]) rfl (HS65.cells 0 3 _ rfl)) ?_)
       have hq_ := bind_some h; clear h; obtain ⟨vt68, hc69, h⟩ := hq_
       refine seqK rfl (does_call (f := 54) (args := #[.agg #[.int .i64 ((rd [r1.Box.X, r1.Box.Y, r1.Box.Z] x41).Lo), .int .i64 ((rd [r1.Box.X, r1.Box.Y, r1.Box.Z] x41).Hi), .bool ((rd [r1.Box.X, r1.Box.Y, r1.Box.Z] x41).Unknown)], .int .i64 1073741824]) (by kernel_rfl) (catalog_ends_Coord.calls k (rd [r1.Box.X, r1.Box.Y, r1.Box.Z] x41) 1073741824 HS65 vt68 hc69) ?_)
       rintro _ W72 ⟨f70, rfl, L71, HS73⟩
       refine ⟨_, rfl, ?_⟩
       refine seqL1 (by kernel_rfl) ?_
       refine wpList_nil ?_
       refine hK67 _ _ ?_
       refine wp_seq_k (fun K74 hK75 => ?_)
       refine wp_region_lit ?_
       refine seqL2 (by kernel_rfl) ?_
       refine wpList_nil ?_
       refine hK75 _ _ ?_
       have hq_ := ite_some h; clear h; rcases hq_ with ⟨c77, h⟩ | ⟨c77, h⟩
       · have c77 : vt68 ≠ 0 := c77
         refine wpRwI 33 (x := (vt68 != 0)) (v := true) (by kernel_rfl) (bne_iff_ne.mpr c77) ?_
         refine condT (by kernel_rfl) ?_
         refine wp_seq_k (fun K78 hK79 => ?_)
         refine wp_region_lit ?_
         refine seqL2 (by kernel_rfl) ?_
         refine wpList_nil ?_
         refine hK79 _ _ ?_
         refine wp_ret ?_
         refine hr53 _ _ ?_
         refine hr29 _ _ ?_
         refine hret _ _ ?_
         refine ends_still (v := Value.int .i64 vt68) (by kernel_rfl) (by kernel_rfl) ?_
         have HS256 := HS73.drop
         have HS257 := HS256.drop
         replace h := JR87 _ h
         injection h with h
         subst h
         exact ⟨f70, rfl, (L37.trans L71), HS257⟩
       · have c77 : ¬ (vt68 ≠ 0) := c77
         refine wpRwI 33 (x := (vt68 != 0)) (v := false) (by kernel_rfl) (bne_eq_false_iff_eq.mpr (Decidable.of_not_not c77)) ?_
         refine condF (by kernel_rfl) ?_
         refine wp_skip ?_
         refine hn52 _ _ ?_
         refine hK49 _ _ ?_
         refine wp_region_lit ?_
         refine seqL2 (by kernel_rfl) ?_
         refine wpList_nil ?_
         refine hK34 n35 _ _ (Nat.lt_succ_self _) ?_
         have HS89 := HS73.u1
         have HS90 := HS89.u1
         have HS91 := HS90.drop
         exact ⟨f70, (w64 (x41 + 1)), (fun i_ => [(j40 0), Value.pointer (some ⟨b60, 0, none⟩), Value.int .i64 vt68, Value.bool true, (ag_Bound (rd [r1.Box.X, r1.Box.Y, r1.Box.Z] x41)), (ag_Bound (rd [r1.Box.X, r1.Box.Y, r1.Box.Z] x41)), Value.int .i64 vt68, Value.int .i64 vt68, Value.bool false, (j40 9), Value.int .i64 (w64 (x41 + 1))].getD i_ undef), (L37.trans L71), HS91, h, (by kernel_rfl)⟩
     · have c47 : ¬ (x41 < 3) := c47
       refine wpRwI 28 (x := (decide (x41 < 3))) (v := false) (by kernel_rfl) (decide_eq_false c47) ?_
       refine condF (by kernel_rfl) ?_
       refine wp_exit ?_
       refine hx27 _ _ ?_
       exact J86 f36 (fun i_ => [(j40 0), (j40 1), (j40 2), Value.int .i64 x41, Value.bool false, (j40 4), (j40 5), (j40 6), (j40 7), (j40 8), (j40 9), (j40 10)].getD i_ undef) W38 _ L37 h HS39 (by kernel_rfl)

end Go.Sp.M4
