import Derived.Test.YtiibkbligihgoaaGreatProg
import Derived.Test.YtiibkbligihgoaaGreatSpCopy
import Derived.Test.YtiibkbligihgoaaGreatFJ7
import Derived.Test.YtiibkbligihgoaaGreatSpSort3P
import Derived.Test.YtiibkbligihgoaaGreatShelf
import Derived.Test.YtiibkbligihgoaaGreatSpMapR
import Derived.Test.YtiibkbligihgoaaGreatSpKeys
import Derived.Test.YtiibkbligihgoaaGreatSpNode
import Derived.Test.YtiibkbligihgoaaGreatSpKeyP
import Derived.Test.YtiibkbligihgoaaGreatSpArr
import Derived.Test.YtiibkbligihgoaaGreatSpRound
import Derived.Test.YtiibkbligihgoaaGreatKJ7n0
namespace Go.Sp.J7
open Go Go.Sp Go.Proofs
set_option linter.unusedVariables false
attribute [local irreducible] wpList AnyL Code.wp Calls Does Code.wpIn wpListIn CallsIn bodyPostM LeavesInM
set_option maxRecDepth 100000 in
set_option maxHeartbeats 4000000 in
theorem catalog_ends_Quanta.calls (k : Nat)  (b1 : S_Bound) (most2 : Int) {t w : World} {f : FM} {H : List Seg} (HS : St t w f (H)) (rr1 : Int) (h : catalog_ends_Quanta k b1 most2 = some rr1) :
    Calls Tryz.prog 98 #[.agg #[.int .i64 b1.Lo, .int .i64 b1.Hi, .bool b1.Unknown], .int .i64 most2] w (fun e w' => ∃ (g : FM), e = .returned (Value.int .i64 rr1) ∧ FM.le f g ∧ St t w' g (H)) := by
 unfold catalog_ends_Quanta at h
 refine enter Tryz.func98 rfl (tm := #[(ag_Bound b1), iV most2, uV, uV, uV, uV, uV, uV, uV, uV, uV, uV, uV, uV, uV, uV, uV, uV, uV, uV, uV, uV]) kr ?_
 intro B hret hnor hnp
 refine wp_seq_k fun K3 hK4 => rl ?_
 refine seqK rfl (does_box (cs := #[.int .i64 b1.Lo, .int .i64 b1.Hi, .bool b1.Unknown]) rfl (kv (.agg #[.int .i64 b1.Lo, .int .i64 b1.Hi, .bool b1.Unknown])) rfl HS ?_)
 intro b5 W6 HS7
 refine seqL1 kr ?_
 refine nl (hK4 _ _ ?_)
 refine wp_seq_k (fun K9 hK10 => ?_)
 refine wp_seq_k fun K11 hK12 => rl ?_
 refine seqK rfl (does_run (run_loadN (n := 3) rfl Tryz.underlying95 rfl kr (kv (.pointer (some ⟨b5, 0, none⟩))) (cs := [.int .i64 b1.Lo, .int .i64 b1.Hi, .bool b1.Unknown]) rfl (HS7.cells 0 3 _ rfl)) ?_)
 have hq_ := bind_some h; clear h; obtain ⟨vt13, hc14, h⟩ := hq_
 refine seqK rfl (does_call (f := 120) (args := #[.agg #[.int .i64 b1.Lo, .int .i64 b1.Hi, .bool b1.Unknown]]) kr (bound_Check_Quanta.calls k b1 HS7 vt13 hc14) ?_)
 rintro _ W17 ⟨f15, rfl, L16, HS18⟩
 refine ⟨_, rfl, ?_⟩
 refine seqL1 kr ?_
 refine nl (hK12 _ _ ?_)
 refine wp_seq_k fun K19 hK20 => rl ?_
 refine seqL2 kr ?_
 refine nl (hK20 _ _ ?_)
 have hq_ := ite_some h; clear h; rcases hq_ with ⟨c22, h⟩ | ⟨c22, h⟩
 · have c22 : vt13 ≠ 0 := c22
   refine wpRwI 9 kr (bne_iff_ne.mpr c22) ?_
   refine condT kr ?_
   refine wp_seq_k fun K23 hK24 => rl ?_
   refine seqL2 kr ?_
   refine nl (hK24 _ _ ?_)
   refine wp_ret ?_
   refine hret _ _ ?_
   refine ends_still (v := Value.int .i64 vt13) kr kr ?_
   have HS38 := HS18.drop
   injection h with h
   subst h
   exact ⟨f15, rfl, L16, HS38⟩
 · have c22 : ¬ (vt13 ≠ 0) := c22
   refine wpRwI 9 (x := (vt13 != 0)) (v := false) kr (bne_eq_false_iff_eq.mpr (Decidable.of_not_not c22)) ?_
   refine condF kr ?_
   refine wp_skip ?_
   refine hK10 _ _ ?_
   refine wp_seq_k (fun K25 hK26 => ?_)
   refine wp_seq_k fun K27 hK28 => rl ?_
   refine seqL1 kr ?_
   refine seqK rfl (does_run (run_load rfl Tryz.underlying49 rfl (kv (.pointer (some ⟨b5, 0, none⟩))) (HS18.cell 0)) ?_)
   refine seqL4 kr ?_
   have hq_ := ite_some h; clear h; rcases hq_ with ⟨c29, h⟩ | ⟨c29, h⟩
   · have c29 : b1.Lo < (w64 (0 - most2)) := c29
     refine seqRwI 15 kr (decide_eq_true c29) ?_
     refine seqRwI 16 kr (decide_eq_true c29) ?_
     refine seqL5 kr ?_
     refine nl (hK28 _ _ ?_)
     refine condT kr ?_
     refine wp_seq_k fun K30 hK31 => rl ?_
     refine seqL1 kr ?_
     refine nl (hK31 _ _ ?_)
     refine wp_ret ?_
     refine hret _ _ ?_
     refine ends_still (v := Value.int .i64 4) kr kr ?_
     have HS39 := HS18.drop
     injection h with h
     subst h
     exact ⟨f15, rfl, L16, HS39⟩
   · have c29 : ¬ (b1.Lo < (w64 (0 - most2))) := c29
     refine seqRwI 15 kr (decide_eq_false c29) ?_
     refine seqRwI 16 kr (decide_eq_false c29) ?_
     refine seqL1 kr ?_
     refine seqG kr (does_run (run_load rfl Tryz.underlying49 rfl (kv (.pointer (some ⟨b5, 1, none⟩))) (HS18.cell 1)) ?_)
     refine seqL3 kr ?_
     refine nl (hK28 _ _ ?_)
     have hq_ := ite_some h; clear h; rcases hq_ with ⟨c33, h⟩ | ⟨c33, h⟩
     · have c33 : b1.Hi > most2 := c33
       refine wpRwI 20 kr (decide_eq_true c33) ?_
       refine wpRwI 21 kr (decide_eq_true c33) ?_
       refine condT kr ?_
       refine wp_seq_k fun K34 hK35 => rl ?_
       refine seqL1 kr ?_
       refine nl (hK35 _ _ ?_)
       refine wp_ret ?_
       refine hret _ _ ?_
       refine ends_still (v := Value.int .i64 4) kr kr ?_
       have HS40 := HS18.drop
       injection h with h
       subst h
       exact ⟨f15, rfl, L16, HS40⟩
     · have c33 : ¬ (b1.Hi > most2) := c33
       refine wpRwI 20 kr (decide_eq_false c33) ?_
       refine wpRwI 21 kr (decide_eq_false c33) ?_
       refine condF kr ?_
       refine wp_skip ?_
       refine hK26 _ _ ?_
       refine wp_seq_k fun K36 hK37 => rl ?_
       refine seqL1 kr ?_
       refine nl (hK37 _ _ ?_)
       refine wp_ret ?_
       refine hret _ _ ?_
       refine ends_still (v := Value.int .i64 0) kr kr ?_
       have HS41 := HS18.drop
       injection h with h
       subst h
       exact ⟨f15, rfl, L16, HS41⟩

set_option maxRecDepth 100000 in
set_option maxHeartbeats 4000000 in
theorem bound_Check_Tick.calls (k : Nat)  (b1 : S_Bound) {t w : World} {f : FM} {H : List Seg} (HS : St t w f (H)) (rr1 : Int) (h : bound_Check_Tick k b1 = some rr1) :
    Calls Tryz.prog 121 #[.agg #[.int .i64 b1.Lo, .int .i64 b1.Hi, .bool b1.Unknown]] w (fun e w' => ∃ (g : FM), e = .returned (Value.int .i64 rr1) ∧ FM.le f g ∧ St t w' g (H)) := by
 unfold bound_Check_Tick at h
 refine enter Tryz.func121 rfl (tm := #[(ag_Bound b1), uV, uV, uV, uV, uV, uV, uV, uV, uV, uV, uV, uV, uV, uV, uV, uV, uV, uV, uV, uV, uV, uV, uV, uV, uV, uV, uV, uV, uV, uV, uV, uV, uV, uV, uV, uV]) kr ?_
 intro B hret hnor hnp
 refine wp_seq_k fun K2 hK3 => rl ?_
 refine seqK rfl (does_box (cs := #[.int .i64 b1.Lo, .int .i64 b1.Hi, .bool b1.Unknown]) rfl (kv (.agg #[.int .i64 b1.Lo, .int .i64 b1.Hi, .bool b1.Unknown])) rfl HS ?_)
 intro b4 W5 HS6
 refine seqL1 kr ?_
 refine nl (hK3 _ _ ?_)
 refine wp_seq_k (fun K8 hK9 => ?_)
 refine blockK (fun B10 hx11 hn12 hr13 ho14 hp15 => ?_)
 refine wp_seq_k fun K17 hK18 => rl ?_
 refine seqL1 kr ?_
 refine seqK rfl (does_run (run_load rfl Tryz.underlying4 rfl (kv (.pointer (some ⟨b4, 2, none⟩))) (HS6.cell 2)) ?_)
 refine seqL1 kr ?_
 have hq_ := ite_some h; clear h; rcases hq_ with ⟨c19, h⟩ | ⟨c19, h⟩
 · have c19 : b1.Unknown = true := c19
   refine seqRwI 5 kr c19 ?_
   refine seqRwI 6 kr c19 ?_
   refine seqL1 kr ?_
   refine seqG kr (does_run (run_load rfl Tryz.underlying48 rfl (kv (.pointer (some ⟨b4, 0, none⟩))) (HS6.cell 0)) ?_)
   refine seqL2 kr ?_
   have hq_ := ite_some h; clear h; rcases hq_ with ⟨c20, h⟩ | ⟨c20, h⟩
   · have c20 : b1.Lo ≠ 0 := c20
     refine seqRwI 9 kr (bne_iff_ne.mpr c20) ?_
     refine seqRwI 10 kr (bne_iff_ne.mpr c20) ?_
     refine seqL6 kr ?_
     refine nl (hK18 _ _ ?_)
     refine condT kr ?_
     refine wp_seq_k fun K21 hK22 => rl ?_
     refine seqL1 kr ?_
     refine nl (hK22 _ _ ?_)
     refine wp_ret ?_
     refine hr13 _ _ ?_
     refine hret _ _ ?_
     refine ends_still (v := Value.int .i64 3) kr kr ?_
     have HS61 := HS6.drop
     injection h with h
     subst h
     exact ⟨f, rfl, FM.le.refl _, HS61⟩
   · have c20 : ¬ (b1.Lo ≠ 0) := c20
     refine seqRwI 9 (x := (b1.Lo != 0)) (v := false) kr (bne_eq_false_iff_eq.mpr (Decidable.of_not_not c20)) ?_
     refine seqRwI 10 (x := (b1.Lo != 0)) (v := false) kr (bne_eq_false_iff_eq.mpr (Decidable.of_not_not c20)) ?_
     refine seqL1 kr ?_
     refine seqG kr (does_run (run_load rfl Tryz.underlying48 rfl (kv (.pointer (some ⟨b4, 1, none⟩))) (HS6.cell 1)) ?_)
     refine seqL4 kr ?_
     refine nl (hK18 _ _ ?_)
     have hq_ := ite_some h; clear h; rcases hq_ with ⟨c24, h⟩ | ⟨c24, h⟩
     · have c24 : b1.Hi ≠ 0 := c24
       refine wpRwI 3 kr (bne_iff_ne.mpr c24) ?_
       refine wpRwI 13 kr (bne_iff_ne.mpr c24) ?_
       refine wpRwI 14 kr (bne_iff_ne.mpr c24) ?_
       refine wpRwI 15 kr (bne_iff_ne.mpr c24) ?_
       refine condT kr ?_
       refine wp_seq_k fun K25 hK26 => rl ?_
       refine seqL1 kr ?_
       refine nl (hK26 _ _ ?_)
       refine wp_ret ?_
       refine hr13 _ _ ?_
       refine hret _ _ ?_
       refine ends_still (v := Value.int .i64 3) kr kr ?_
       have HS62 := HS6.drop
       injection h with h
       subst h
       exact ⟨f, rfl, FM.le.refl _, HS62⟩
     · have c24 : ¬ (b1.Hi ≠ 0) := c24
       refine wpRwI 3 (x := (b1.Hi != 0)) (v := false) kr (bne_eq_false_iff_eq.mpr (Decidable.of_not_not c24)) ?_
       refine wpRwI 13 (x := (b1.Hi != 0)) (v := false) kr (bne_eq_false_iff_eq.mpr (Decidable.of_not_not c24)) ?_
       refine wpRwI 14 (x := (b1.Hi != 0)) (v := false) kr (bne_eq_false_iff_eq.mpr (Decidable.of_not_not c24)) ?_
       refine wpRwI 15 (x := (b1.Hi != 0)) (v := false) kr (bne_eq_false_iff_eq.mpr (Decidable.of_not_not c24)) ?_
       refine condF kr ?_
       refine wp_seq_k fun K27 hK28 => rl ?_
       refine seqL1 kr ?_
       refine seqK rfl (does_run (run_load rfl Tryz.underlying48 rfl (kv (.pointer (some ⟨b4, 0, none⟩))) (HS6.cell 0)) ?_)
       refine seqL1 kr ?_
       refine seqK rfl (does_run (run_load rfl Tryz.underlying48 rfl (kv (.pointer (some ⟨b4, 1, none⟩))) (HS6.cell 1)) ?_)
       refine seqL3 kr ?_
       have hq_ := ite_some h; clear h; rcases hq_ with ⟨c29, h⟩ | ⟨c29, h⟩
       · have c29 : (mn b1.Lo b1.Hi) < (-1152921504606846976) := c29
         refine seqRwI 22 kr (decide_eq_true c29) ?_
         refine seqRwI 23 kr (decide_eq_true c29) ?_
         refine seqL8 kr ?_
         refine nl (hK28 _ _ ?_)
         refine condT kr ?_
         refine wp_seq_k fun K30 hK31 => rl ?_
         refine seqL1 kr ?_
         refine nl (hK31 _ _ ?_)
         refine wp_ret ?_
         refine hr13 _ _ ?_
         refine hret _ _ ?_
         refine ends_still (v := Value.int .i64 4) kr kr ?_
         have HS63 := HS6.drop
         injection h with h
         subst h
         exact ⟨f, rfl, FM.le.refl _, HS63⟩
       · have c29 : ¬ ((mn b1.Lo b1.Hi) < (-1152921504606846976)) := c29
         refine seqRwI 22 kr (decide_eq_false c29) ?_
         refine seqRwI 23 kr (decide_eq_false c29) ?_
         refine seqL1 kr ?_
         refine seqG kr (does_run (run_load rfl Tryz.underlying48 rfl (kv (.pointer (some ⟨b4, 0, none⟩))) (HS6.cell 0)) ?_)
         refine seqL1 kr ?_
         refine seqG kr (does_run (run_load rfl Tryz.underlying48 rfl (kv (.pointer (some ⟨b4, 1, none⟩))) (HS6.cell 1)) ?_)
         refine seqL4 kr ?_
         refine nl (hK28 _ _ ?_)
         have hq_ := ite_some h; clear h; rcases hq_ with ⟨c33, h⟩ | ⟨c33, h⟩
         · have c33 : (mx b1.Lo b1.Hi) > 1152921504606846976 := c33
           refine wpRwI 16 kr (decide_eq_true c33) ?_
           refine wpRwI 29 kr (decide_eq_true c33) ?_
           refine wpRwI 30 kr (decide_eq_true c33) ?_
           refine condT kr ?_
           refine wp_seq_k fun K34 hK35 => rl ?_
           refine seqL1 kr ?_
           refine nl (hK35 _ _ ?_)
           refine wp_ret ?_
           refine hr13 _ _ ?_
           refine hret _ _ ?_
           refine ends_still (v := Value.int .i64 4) kr kr ?_
           have HS64 := HS6.drop
           injection h with h
           subst h
           exact ⟨f, rfl, FM.le.refl _, HS64⟩
         · have c33 : ¬ ((mx b1.Lo b1.Hi) > 1152921504606846976) := c33
           refine wpRwI 16 kr (decide_eq_false c33) ?_
           refine wpRwI 29 kr (decide_eq_false c33) ?_
           refine wpRwI 30 kr (decide_eq_false c33) ?_
           refine condF kr ?_
           refine wp_seq_k fun K36 hK37 => rl ?_
           refine seqL1 kr ?_
           refine seqK rfl (does_run (run_load rfl Tryz.underlying48 rfl (kv (.pointer (some ⟨b4, 0, none⟩))) (HS6.cell 0)) ?_)
           refine seqL1 kr ?_
           refine seqK rfl (does_run (run_load rfl Tryz.underlying48 rfl (kv (.pointer (some ⟨b4, 1, none⟩))) (HS6.cell 1)) ?_)
           refine seqL2 kr ?_
           refine nl (hK37 _ _ ?_)
           have hq_ := ite_some h; clear h; rcases hq_ with ⟨c39, h⟩ | ⟨c39, h⟩
           · have c39 : b1.Lo > b1.Hi := c39
             refine wpRwI 31 kr (decide_eq_true c39) ?_
             refine wpRwI 36 kr (decide_eq_true c39) ?_
             refine condT kr ?_
             refine wp_seq_k fun K40 hK41 => rl ?_
             refine seqL1 kr ?_
             refine nl (hK41 _ _ ?_)
             refine wp_ret ?_
             refine hr13 _ _ ?_
             refine hret _ _ ?_
             refine ends_still (v := Value.int .i64 11) kr kr ?_
             have HS65 := HS6.drop
             injection h with h
             subst h
             exact ⟨f, rfl, FM.le.refl _, HS65⟩
           · have c39 : ¬ (b1.Lo > b1.Hi) := c39
             refine wpRwI 31 kr (decide_eq_false c39) ?_
             refine wpRwI 36 kr (decide_eq_false c39) ?_
             refine condF kr ?_
             refine wp_skip ?_
             refine hn12 _ _ ?_
             refine hK9 _ _ ?_
             refine wp_seq_k fun K57 hK58 => rl ?_
             refine seqL1 kr ?_
             refine nl (hK58 _ _ ?_)
             refine wp_ret ?_
             refine hret _ _ ?_
             refine ends_still (v := Value.int .i64 0) kr kr ?_
             have HS69 := HS6.drop
             injection h with h
             subst h
             exact ⟨f, rfl, FM.le.refl _, HS69⟩
 · have c19 : ¬ (b1.Unknown = true) := c19
   refine seqRwI 5 kr (Bool.eq_false_iff.mpr c19) ?_
   refine seqRwI 6 kr (Bool.eq_false_iff.mpr c19) ?_
   refine seqL10 kr ?_
   refine nl (hK18 _ _ ?_)
   refine condF kr ?_
   refine wp_seq_k fun K42 hK43 => rl ?_
   refine seqL1 kr ?_
   refine seqK rfl (does_run (run_load rfl Tryz.underlying48 rfl (kv (.pointer (some ⟨b4, 0, none⟩))) (HS6.cell 0)) ?_)
   refine seqL1 kr ?_
   refine seqK rfl (does_run (run_load rfl Tryz.underlying48 rfl (kv (.pointer (some ⟨b4, 1, none⟩))) (HS6.cell 1)) ?_)
   refine seqL3 kr ?_
   have hq_ := ite_some h; clear h; rcases hq_ with ⟨c44, h⟩ | ⟨c44, h⟩
   · have c44 : (mn b1.Lo b1.Hi) < (-1152921504606846976) := c44
     refine seqRwI 22 kr (decide_eq_true c44) ?_
     refine seqRwI 23 kr (decide_eq_true c44) ?_
     refine seqL8 kr ?_
     refine nl (hK43 _ _ ?_)
     refine condT kr ?_
     refine wp_seq_k fun K45 hK46 => rl ?_
     refine seqL1 kr ?_
     refine nl (hK46 _ _ ?_)
     refine wp_ret ?_
     refine hr13 _ _ ?_
     refine hret _ _ ?_
     refine ends_still (v := Value.int .i64 4) kr kr ?_
     have HS66 := HS6.drop
     injection h with h
     subst h
     exact ⟨f, rfl, FM.le.refl _, HS66⟩
   · have c44 : ¬ ((mn b1.Lo b1.Hi) < (-1152921504606846976)) := c44
     refine seqRwI 22 kr (decide_eq_false c44) ?_
     refine seqRwI 23 kr (decide_eq_false c44) ?_
     refine seqL1 kr ?_
     refine seqG kr (does_run (run_load rfl Tryz.underlying48 rfl (kv (.pointer (some ⟨b4, 0, none⟩))) (HS6.cell 0)) ?_)
     refine seqL1 kr ?_
     refine seqG kr (does_run (run_load rfl Tryz.underlying48 rfl (kv (.pointer (some ⟨b4, 1, none⟩))) (HS6.cell 1)) ?_)
     refine seqL4 kr ?_
     refine nl (hK43 _ _ ?_)
     have hq_ := ite_some h; clear h; rcases hq_ with ⟨c48, h⟩ | ⟨c48, h⟩
     · have c48 : (mx b1.Lo b1.Hi) > 1152921504606846976 := c48
       refine wpRwI 16 kr (decide_eq_true c48) ?_
       refine wpRwI 29 kr (decide_eq_true c48) ?_
       refine wpRwI 30 kr (decide_eq_true c48) ?_
       refine condT kr ?_
       refine wp_seq_k fun K49 hK50 => rl ?_
       refine seqL1 kr ?_
       refine nl (hK50 _ _ ?_)
       refine wp_ret ?_
       refine hr13 _ _ ?_
       refine hret _ _ ?_
       refine ends_still (v := Value.int .i64 4) kr kr ?_
       have HS67 := HS6.drop
       injection h with h
       subst h
       exact ⟨f, rfl, FM.le.refl _, HS67⟩
     · have c48 : ¬ ((mx b1.Lo b1.Hi) > 1152921504606846976) := c48
       refine wpRwI 16 kr (decide_eq_false c48) ?_
       refine wpRwI 29 kr (decide_eq_false c48) ?_
       refine wpRwI 30 kr (decide_eq_false c48) ?_
       refine condF kr ?_
       refine wp_seq_k fun K51 hK52 => rl ?_
       refine seqL1 kr ?_
       refine seqK rfl (does_run (run_load rfl Tryz.underlying48 rfl (kv (.pointer (some ⟨b4, 0, none⟩))) (HS6.cell 0)) ?_)
       refine seqL1 kr ?_
       refine seqK rfl (does_run (run_load rfl Tryz.underlying48 rfl (kv (.pointer (some ⟨b4, 1, none⟩))) (HS6.cell 1)) ?_)
       refine seqL2 kr ?_
       refine nl (hK52 _ _ ?_)
       have hq_ := ite_some h; clear h; rcases hq_ with ⟨c54, h⟩ | ⟨c54, h⟩
       · have c54 : b1.Lo > b1.Hi := c54
         refine wpRwI 31 kr (decide_eq_true c54) ?_
         refine wpRwI 36 kr (decide_eq_true c54) ?_
         refine condT kr ?_
         refine wp_seq_k fun K55 hK56 => rl ?_
         refine seqL1 kr ?_
         refine nl (hK56 _ _ ?_)
         refine wp_ret ?_
         refine hr13 _ _ ?_
         refine hret _ _ ?_
         refine ends_still (v := Value.int .i64 11) kr kr ?_
         have HS68 := HS6.drop
         injection h with h
         subst h
         exact ⟨f, rfl, FM.le.refl _, HS68⟩
       · have c54 : ¬ (b1.Lo > b1.Hi) := c54
         refine wpRwI 31 kr (decide_eq_false c54) ?_
         refine wpRwI 36 kr (decide_eq_false c54) ?_
         refine condF kr ?_
         refine wp_skip ?_
         refine hn12 _ _ ?_
         refine hK9 _ _ ?_
         refine wp_seq_k fun K59 hK60 => rl ?_
         refine seqL1 kr ?_
         refine nl (hK60 _ _ ?_)
         refine wp_ret ?_
         refine hret _ _ ?_
         refine ends_still (v := Value.int .i64 0) kr kr ?_
         have HS70 := HS6.drop
         injection h with h
         subst h
         exact ⟨f, rfl, FM.le.refl _, HS70⟩

set_option maxRecDepth 100000 in
set_option maxHeartbeats 4000000 in
theorem catalog_ends_Tick.calls (k : Nat)  (b1 : S_Bound) (most2 : Int) {t w : World} {f : FM} {H : List Seg} (HS : St t w f (H)) (rr1 : Int) (h : catalog_ends_Tick k b1 most2 = some rr1) :
    Calls Tryz.prog 99 #[.agg #[.int .i64 b1.Lo, .int .i64 b1.Hi, .bool b1.Unknown], .int .i64 most2] w (fun e w' => ∃ (g : FM), e = .returned (Value.int .i64 rr1) ∧ FM.le f g ∧ St t w' g (H)) := by
 unfold catalog_ends_Tick at h
 refine enter Tryz.func99 rfl (tm := #[(ag_Bound b1), iV most2, uV, uV, uV, uV, uV, uV, uV, uV, uV, uV, uV, uV, uV, uV, uV, uV, uV, uV, uV, uV]) kr ?_
 intro B hret hnor hnp
 refine wp_seq_k fun K3 hK4 => rl ?_
 refine seqK rfl (does_box (cs := #[.int .i64 b1.Lo, .int .i64 b1.Hi, .bool b1.Unknown]) rfl (kv (.agg #[.int .i64 b1.Lo, .int .i64 b1.Hi, .bool b1.Unknown])) rfl HS ?_)
 intro b5 W6 HS7
 refine seqL1 kr ?_
 refine nl (hK4 _ _ ?_)
 refine wp_seq_k (fun K9 hK10 => ?_)
 refine wp_seq_k fun K11 hK12 => rl ?_
 refine seqK rfl (does_run (run_loadN (n := 3) rfl Tryz.underlying97 rfl kr (kv (.pointer (some ⟨b5, 0, none⟩))) (cs := [.int .i64 b1.Lo, .int .i64 b1.Hi, .bool b1.Unknown]) rfl (HS7.cells 0 3 _ rfl)) ?_)
 have hq_ := bind_some h; clear h; obtain ⟨vt13, hc14, h⟩ := hq_
 refine seqK rfl (does_call (f := 121) (args := #[.agg #[.int .i64 b1.Lo, .int .i64 b1.Hi, .bool b1.Unknown]]) kr (bound_Check_Tick.calls k b1 HS7 vt13 hc14) ?_)
 rintro _ W17 ⟨f15, rfl, L16, HS18⟩
 refine ⟨_, rfl, ?_⟩
 refine seqL1 kr ?_
 refine nl (hK12 _ _ ?_)
 refine wp_seq_k fun K19 hK20 => rl ?_
 refine seqL2 kr ?_
 refine nl (hK20 _ _ ?_)
 have hq_ := ite_some h; clear h; rcases hq_ with ⟨c22, h⟩ | ⟨c22, h⟩
 · have c22 : vt13 ≠ 0 := c22
   refine wpRwI 9 kr (bne_iff_ne.mpr c22) ?_
   refine condT kr ?_
   refine wp_seq_k fun K23 hK24 => rl ?_
   refine seqL2 kr ?_
   refine nl (hK24 _ _ ?_)
   refine wp_ret ?_
   refine hret _ _ ?_
   refine ends_still (v := Value.int .i64 vt13) kr kr ?_
   have HS38 := HS18.drop
   injection h with h
   subst h
   exact ⟨f15, rfl, L16, HS38⟩
 · have c22 : ¬ (vt13 ≠ 0) := c22
   refine wpRwI 9 (x := (vt13 != 0)) (v := false) kr (bne_eq_false_iff_eq.mpr (Decidable.of_not_not c22)) ?_
   refine condF kr ?_
   refine wp_skip ?_
   refine hK10 _ _ ?_
   refine wp_seq_k (fun K25 hK26 => ?_)
   refine wp_seq_k fun K27 hK28 => rl ?_
   refine seqL1 kr ?_
   refine seqK rfl (does_run (run_load rfl Tryz.underlying48 rfl (kv (.pointer (some ⟨b5, 0, none⟩))) (HS18.cell 0)) ?_)
   refine seqL4 kr ?_
   have hq_ := ite_some h; clear h; rcases hq_ with ⟨c29, h⟩ | ⟨c29, h⟩
   · have c29 : b1.Lo < (w64 (0 - most2)) := c29
     refine seqRwI 15 kr (decide_eq_true c29) ?_
     refine seqRwI 16 kr (decide_eq_true c29) ?_
     refine seqL5 kr ?_
     refine nl (hK28 _ _ ?_)
     refine condT kr ?_
     refine wp_seq_k fun K30 hK31 => rl ?_
     refine seqL1 kr ?_
     refine nl (hK31 _ _ ?_)
     refine wp_ret ?_
     refine hret _ _ ?_
     refine ends_still (v := Value.int .i64 4) kr kr ?_
     have HS39 := HS18.drop
     injection h with h
     subst h
     exact ⟨f15, rfl, L16, HS39⟩
   · have c29 : ¬ (b1.Lo < (w64 (0 - most2))) := c29
     refine seqRwI 15 kr (decide_eq_false c29) ?_
     refine seqRwI 16 kr (decide_eq_false c29) ?_
     refine seqL1 kr ?_
     refine seqG kr (does_run (run_load rfl Tryz.underlying48 rfl (kv (.pointer (some ⟨b5, 1, none⟩))) (HS18.cell 1)) ?_)
     refine seqL3 kr ?_
     refine nl (hK28 _ _ ?_)
     have hq_ := ite_some h; clear h; rcases hq_ with ⟨c33, h⟩ | ⟨c33, h⟩
     · have c33 : b1.Hi > most2 := c33
       refine wpRwI 20 kr (decide_eq_true c33) ?_
       refine wpRwI 21 kr (decide_eq_true c33) ?_
       refine condT kr ?_
       refine wp_seq_k fun K34 hK35 => rl ?_
       refine seqL1 kr ?_
       refine nl (hK35 _ _ ?_)
       refine wp_ret ?_
       refine hret _ _ ?_
       refine ends_still (v := Value.int .i64 4) kr kr ?_
       have HS40 := HS18.drop
       injection h with h
       subst h
       exact ⟨f15, rfl, L16, HS40⟩
     · have c33 : ¬ (b1.Hi > most2) := c33
       refine wpRwI 20 kr (decide_eq_false c33) ?_
       refine wpRwI 21 kr (decide_eq_false c33) ?_
       refine condF kr ?_
       refine wp_skip ?_
       refine hK26 _ _ ?_
       refine wp_seq_k fun K36 hK37 => rl ?_
       refine seqL1 kr ?_
       refine nl (hK37 _ _ ?_)
       refine wp_ret ?_
       refine hret _ _ ?_
       refine ends_still (v := Value.int .i64 0) kr kr ?_
       have HS41 := HS18.drop
       injection h with h
       subst h
       exact ⟨f15, rfl, L16, HS41⟩

set_option maxRecDepth 100000 in
set_option maxHeartbeats 4000000 in
theorem cmp_Or_Errno.calls (k : Nat) (A2 : Option Addr) (c3 : Nat) (vals1 : List Int) {t w : World} {f : FM} {H : List Seg} (HS : St t w f (H)) (HR4 : SlR (tInt .i64) f A2 c3 vals1) (rr1 : Int) (h : cmp_Or_Errno k vals1 = some rr1) :
    Calls Tryz.prog 97 #[.slice A2 vals1.length c3] w (fun e w' => ∃ (g : FM), e = .returned (Value.int .i64 rr1) ∧ FM.le f g ∧ St t w' g (H)) := by
 unfold cmp_Or_Errno at h
 refine enter Tryz.func97 rfl (tm := #[.slice A2 vals1.length c3, uV, uV, uV, uV, uV, uV, uV, uV, uV, uV, uV, uV, uV, uV, uV, uV, uV]) kr ?_
 intro B hret hnor hnp
 refine wp_seq_k fun K5 hK6 => rl ?_
 refine seqL1 kr ?_
 refine nl (hK6 _ _ ?_)
 refine wp_seq_k fun K7 hK8 => rl ?_
 refine seqL1 kr ?_
 refine nl (hK8 _ _ ?_)
 refine wp_seq_k (fun K9 hK10 => ?_)
 refine wp_seq_k fun K11 hK12 => rl ?_
 refine seqL3 kr ?_
 refine nl (hK12 _ _ ?_)
 refine blockK (fun B13 hx14 hn15 hr16 ho17 hp18 => ?_)
 have hq_ := bind_some h; clear h; obtain ⟨o19, hv64, h⟩ := hq_
 have JR66 : ∀ z_, some (Sum.inl z_) = some o19 → some z_ = some rr1 := by
  intro z_ e_; injection e_ with e_; subst e_; exact h
 have J65 : ∀ (f59 : FM) (j63 : Nat → Value) (W61 : World) (a_ : Act), FM.le f f59 → some (Sum.inr ()) = some o19 → St t W61 f59 (H) → a_ = ⟨#[.slice A2 vals1.length c3, uV, (j63 0), iV 0, uV, (j63 1), .slice A2 vals1.length c3, iV (vals1.length : Int), (j63 2), (j63 3), (j63 4), (j63 5), (j63 6), (j63 7), (j63 8), (j63 9), (j63 10), uV], []⟩ → K9 a_ W61 := by
  intro f59 j63 W61 a_ L60 hj67 HS62  hfr_; subst hfr_
  injection hj67 with hj67; subst hj67; try dsimp only at h
  simp only [Sum.elim_inr] at h
  refine hK10 _ _ ?_
  refine wp_seq_k fun K68 hK69 => rl ?_
  refine seqL2 kr ?_
  refine nl (hK69 _ _ ?_)
  refine wp_ret ?_
  refine hret _ _ ?_
  refine ends_still (v := Value.int .i64 0) kr kr ?_
  injection h with h
  subst h
  exact ⟨f59, rfl, L60, HS62⟩
 clear h; have h := hv64; clear hv64
 refine loopK (fun n_ a_ w_ => ∃ (f23 : FM) (x28 : Int) (j27 : Nat → Value), FM.le f f23 ∧ St t w_ f23 (H) ∧ cmp_Or_Errno.l0 k vals1 n_ x28 = some o19 ∧ a_ = ⟨#[.slice A2 vals1.length c3, uV, (j27 0), iV 0, uV, (j27 1), .slice A2 vals1.length c3, iV (vals1.length : Int), iV x28, (j27 2), (j27 3), (j27 4), (j27 5), (j27 6), (j27 7), (j27 8), (j27 9), uV], []⟩) k ⟨f, 0, (jL [iV 0]), fL, HS, h, kr⟩ ?_
 clear h
 rintro n22 _ W25 ⟨f23, x28, j27, L24, HS26, h, rfl⟩ K20 hK21
 obtain _ | n22 := n22
 · exact nomatch h
 simp only [cmp_Or_Errno.l0] at h
 refine wp_seq_k fun K29 hK30 => rl ?_
 refine seqL1 kr ?_
 refine nl (hK30 _ _ ?_)
 refine wp_seq_k (fun K31 hK32 => ?_)
 have hq_ := ite_some h; clear h; rcases hq_ with ⟨c34, h⟩ | ⟨c34, h⟩
 · have c34 : x28 < (vals1.length : Int) := c34
   refine wpRwI 9 kr (decide_eq_true c34) ?_
   refine condT kr ?_
   refine wp_skip ?_
   refine hK32 _ _ ?_
   refine wp_seq_k (fun K35 hK36 => ?_)
   refine blockK (fun B37 hx38 hn39 hr40 ho41 hp42 => ?_)
   refine wp_seq_k fun K44 hK45 => rl ?_
   have hq_ := guard_some h; clear h; obtain ⟨c46, h⟩ := hq_
   have c46 : 0 ≤ x28 := c46
   obtain ⟨b50, of51, cs47, hA52, hr48, hc49⟩ := (HR4.mono L24).at (i := x28) c46 c34
   obtain rfl := hr48
   refine seqK rfl (does_run (run_indexE hA52 (sz := 1) rfl Tryz.underlying190 kr (kv (.slice A2 vals1.length c3)) (kv (.int .i64 x28)) c46 c34 W25) ?_)
   refine seqK rfl (does_run (run_load rfl Tryz.underlying58 rfl (kv (.pointer (some ⟨b50, of51 + (x28 : Int).toNat * 1, none⟩))) ((hc49 fL HS26) 0 (by decide))) ?_)
   refine seqL1 kr ?_
   refine nl (hK45 _ _ ?_)
   refine wp_seq_k fun K53 hK54 => rl ?_
   refine seqL3 kr ?_
   refine nl (hK54 _ _ ?_)
   have hq_ := ite_some h; clear h; rcases hq_ with ⟨c56, h⟩ | ⟨c56, h⟩
   · have c56 : (rd vals1 x28) ≠ 0 := c56
     refine wpRwI 14 kr (bne_iff_ne.mpr c56) ?_
     refine condT kr ?_
     refine wp_seq_k fun K57 hK58 => rl ?_
     refine seqL2 kr ?_
     refine nl (hK58 _ _ ?_)
     refine wp_ret ?_
     refine hr40 _ _ ?_
     refine hr16 _ _ ?_
     refine hret _ _ ?_
     refine ends_still (v := Value.int .i64 (rd vals1 x28)) kr kr ?_
     replace h := JR66 _ h
     injection h with h
     subst h
     exact ⟨f23, rfl, L24, HS26⟩
   · have c56 : ¬ ((rd vals1 x28) ≠ 0) := c56
     refine wpRwI 14 (x := ((rd vals1 x28) != 0)) (v := false) kr (bne_eq_false_iff_eq.mpr (Decidable.of_not_not c56)) ?_
     refine condF kr ?_
     refine wp_skip ?_
     refine hn39 _ _ ?_
     refine hK36 _ _ ?_
     refine rl ?_
     refine seqL2 kr ?_
     refine nl ?_
     refine hK21 n22 _ _ (Nat.lt_succ_self _) ?_
     exact ⟨f23, (w64 (x28 + 1)), (jL [(j27 0), iV (rd vals1 x28), tV, .pointer (some ⟨b50, of51 + (x28 : Int).toNat * 1, none⟩), iV (rd vals1 x28), iV (rd vals1 x28), iV 0, fV, (j27 8), iV (w64 (x28 + 1))]), L24, HS26, h, kr⟩
 · have c34 : ¬ (x28 < (vals1.length : Int)) := c34
   refine wpRwI 9 kr (decide_eq_false c34) ?_
   refine condF kr ?_
   refine wp_exit ?_
   refine hx14 _ _ ?_
   exact J65 f23 (jL [(j27 0), (j27 1), iV x28, fV, (j27 3), (j27 4), (j27 5), (j27 6), (j27 7), (j27 8), (j27 9)]) W25 _ L24 h HS26 kr

set_option maxRecDepth 100000 in
set_option maxHeartbeats 4000000 in
theorem catalog_CheckRow.calls (k : Nat) (A2 : Option Addr) (c3 : Nat) (r1 : S_Row) {t w : World} {f : FM} {H : List Seg} (HS : St t w f (H)) (HR4 : SlR (tInt .i64) f A2 c3 r1.Frames) (rr1 : Int) (h : catalog_CheckRow k r1 = some rr1) :
    Calls Tryz.prog 72 #[.agg #[.int .i64 r1.ID, .int .i64 r1.Box.X.Lo, .int .i64 r1.Box.X.Hi, .bool r1.Box.X.Unknown, .int .i64 r1.Box.Y.Lo, .int .i64 r1.Box.Y.Hi, .bool r1.Box.Y.Unknown, .int .i64 r1.Box.Z.Lo, .int .i64 r1.Box.Z.Hi, .bool r1.Box.Z.Unknown, .int .i64 r1.Flux.Lo, .int .i64 r1.Flux.Hi, .bool r1.Flux.Unknown, .int .i64 r1.When.Lo, .int .i64 r1.When.Hi, .bool r1.When.Unknown, .slice A2 r1.Frames.length c3, .int .i64 r1.Marks]] w (fun e w' => ∃ (g : FM), e = .returned (Value.int .i64 rr1) ∧ FM.le f g ∧ St t w' g (H)) := by
 unfold catalog_CheckRow at h
 refine enter Tryz.func72 rfl (tm := #[(ag_Row r1 A2 c3), uV, uV, uV, uV, uV, uV, uV, uV, uV, uV, uV, uV, uV, uV, uV, uV, uV, uV, uV, uV, uV, uV, uV, uV, uV, uV, uV, uV, uV, uV, uV, uV, uV, uV, uV, uV, uV, uV, uV, uV, uV, uV, uV, uV, uV, uV, uV, uV, uV, uV, uV, uV, uV, uV, uV, uV, uV, uV, uV, uV, uV, uV, uV, uV, uV, uV, uV, uV, uV, uV, uV, uV, uV, uV, uV, uV, uV, uV, uV, uV, uV, uV, uV, uV, uV, uV, uV, uV, uV, uV, uV, uV, uV]) kr ?_
 intro B hret hnor hnp
 refine wp_seq_k fun K5 hK6 => rl ?_
 refine seqK rfl (does_box (cs := #[.int .i64 r1.ID, .int .i64 r1.Box.X.Lo, .int .i64 r1.Box.X.Hi, .bool r1.Box.X.Unknown, .int .i64 r1.Box.Y.Lo, .int .i64 r1.Box.Y.Hi, .bool r1.Box.Y.Unknown, .int .i64 r1.Box.Z.Lo, .int .i64 r1.Box.Z.Hi, .bool r1.Box.Z.Unknown, .int .i64 r1.Flux.Lo, .int .i64 r1.Flux.Hi, .bool r1.Flux.Unknown, .int .i64 r1.When.Lo, .int .i64 r1.When.Hi, .bool r1.When.Unknown, .slice A2 r1.Frames.length c3, .int .i64 r1.Marks]) rfl (kv (.agg #[.int .i64 r1.ID, .int .i64 r1.Box.X.Lo, .int .i64 r1.Box.X.Hi, .bool r1.Box.X.Unknown, .int .i64 r1.Box.Y.Lo, .int .i64 r1.Box.Y.Hi, .bool r1.Box.Y.Unknown, .int .i64 r1.Box.Z.Lo, .int .i64 r1.Box.Z.Hi, .bool r1.Box.Z.Unknown, .int .i64 r1.Flux.Lo, .int .i64 r1.Flux.Hi, .bool r1.Flux.Unknown, .int .i64 r1.When.Lo, .int .i64 r1.When.Hi, .bool r1.When.Unknown, .slice A2 r1.Frames.length c3, .int .i64 r1.Marks])) rfl HS ?_)
 intro b7 W8 HS9
 refine seqL1 kr ?_
 refine nl (hK6 _ _ ?_)
 refine wp_seq_k (fun K11 hK12 => ?_)
 refine wp_seq_k fun K13 hK14 => rl ?_
 refine seqL1 kr ?_
 refine seqK rfl (does_run (run_load rfl Tryz.underlying3 rfl (kv (.pointer (some ⟨b7, 0, none⟩))) (HS9.cell 0)) ?_)
 refine seqL2 kr ?_
 have hq_ := ite_some h; clear h; rcases hq_ with ⟨c15, h⟩ | ⟨c15, h⟩
 · have c15 : r1.ID < 1 := c15
   refine seqRwI 11 kr (decide_eq_true c15) ?_
   refine seqRwI 12 kr (decide_eq_true c15) ?_
   refine seqL4 kr ?_
   refine nl (hK14 _ _ ?_)
   refine condT kr ?_
   refine wp_seq_k fun K16 hK17 => rl ?_
   refine seqL1 kr ?_
   refine nl (hK17 _ _ ?_)
   refine wp_ret ?_
   refine hret _ _ ?_
   refine ends_still (v := Value.int .i64 4) kr kr ?_
   have HS254 := HS9.drop
   injection h with h
   subst h
   exact ⟨f, rfl, FM.le.refl _, HS254⟩
 · have c15 : ¬ (r1.ID < 1) := c15
   refine seqRwI 11 kr (decide_eq_false c15) ?_
   refine seqRwI 12 kr (decide_eq_false c15) ?_
   refine seqL1 kr ?_
   refine seqG kr (does_run (run_load rfl Tryz.underlying3 rfl (kv (.pointer (some ⟨b7, 0, none⟩))) (HS9.cell 0)) ?_)
   refine seqL2 kr ?_
   refine nl (hK14 _ _ ?_)
   have hq_ := ite_some h; clear h; rcases hq_ with ⟨c19, h⟩ | ⟨c19, h⟩
   · have c19 : r1.ID > 2147483647 := c19
     refine wpRwI 15 kr (decide_eq_true c19) ?_
     refine wpRwI 16 kr (decide_eq_true c19) ?_
     refine condT kr ?_
     refine wp_seq_k fun K20 hK21 => rl ?_
     refine seqL1 kr ?_
     refine nl (hK21 _ _ ?_)
     refine wp_ret ?_
     refine hret _ _ ?_
     refine ends_still (v := Value.int .i64 4) kr kr ?_
     have HS255 := HS9.drop
     injection h with h
     subst h
     exact ⟨f, rfl, FM.le.refl _, HS255⟩
   · have c19 : ¬ (r1.ID > 2147483647) := c19
     refine wpRwI 15 kr (decide_eq_false c19) ?_
     refine wpRwI 16 kr (decide_eq_false c19) ?_
     refine condF kr ?_
     refine wp_skip ?_
     refine hK12 _ _ ?_
     refine wp_seq_k (fun K22 hK23 => ?_)
     refine wp_seq_k fun K24 hK25 => rl ?_
     refine seqL2 kr ?_
     refine seqK rfl (does_run (run_loadN (n := 3) rfl Tryz.underlying29 rfl kr (kv (.pointer (some ⟨b7, 1, none⟩))) (cs := [.int .i64 r1.Box.X.Lo, .int .i64 r1.Box.X.Hi, .bool r1.Box.X.Unknown]) rfl (HS9.cells 1 3 _ rfl)) ?_)
     refine seqL2 kr ?_
     refine seqK rfl (does_run (run_loadN (n := 3) rfl Tryz.underlying29 rfl kr (kv (.pointer (some ⟨b7, 4, none⟩))) (cs := [.int .i64 r1.Box.Y.Lo, .int .i64 r1.Box.Y.Hi, .bool r1.Box.Y.Unknown]) rfl (HS9.cells 4 3 _ rfl)) ?_)
     refine seqL2 kr ?_
     refine seqK rfl (does_run (run_loadN (n := 3) rfl Tryz.underlying29 rfl kr (kv (.pointer (some ⟨b7, 7, none⟩))) (cs := [.int .i64 r1.Box.Z.Lo, .int .i64 r1.Box.Z.Hi, .bool r1.Box.Z.Unknown]) rfl (HS9.cells 7 3 _ rfl)) ?_)
     refine seqL2 kr ?_
     refine nl (hK25 _ _ ?_)
     refine blockK (fun B26 hx27 hn28 hr29 ho30 hp31 => ?_)
     have hq_ := bind_some h; clear h; obtain ⟨o32, hv85, h⟩ := hq_
     have JR87 : ∀ z_, some (Sum.inl z_) = some o32 → some z_ = some rr1 := by
      intro z_ e_; injection e_ with e_; subst e_; exact h
     have J86 : ∀ (f80 : FM) (j84 : Nat → Value) (W82 : World) (a_ : Act), FM.le f f80 → some (Sum.inr ()) = some o32 → St t W82 f80 ([(b7, .cells #[.int .i64 r1.ID, .int .i64 r1.Box.X.Lo, .int .i64 r1.Box.X.Hi, .bool r1.Box.X.Unknown, .int .i64 r1.Box.Y.Lo, .int .i64 r1.Box.Y.Hi, .bool r1.Box.Y.Unknown, .int .i64 r1.Box.Z.Lo, .int .i64 r1.Box.Z.Hi, .bool r1.Box.Z.Unknown, .int .i64 r1.Flux.Lo, .int .i64 r1.Flux.Hi, .bool r1.Flux.Unknown, .int .i64 r1.When.Lo, .int .i64 r1.When.Hi, .bool r1.When.Unknown, .slice A2 r1.Frames.length c3, .int .i64 r1.Marks] 99 (0, 0))] :: H) → a_ = ⟨#[(ag_Row r1 A2 c3), pV b7 0, (j84 0), uV, (j84 1), (j84 2), uV, uV, uV, pV b7 0, iV r1.ID, fV, fV, pV b7 0, iV r1.ID, fV, fV, pV b7 1, pV b7 1, (ag_Bound r1.Box.X), pV b7 1, pV b7 4, (ag_Bound r1.Box.Y), pV b7 1, pV b7 7, (ag_Bound r1.Box.Z), .agg #[iV r1.Box.X.Lo, iV r1.Box.X.Hi, .bool r1.Box.X.Unknown, iV r1.Box.Y.Lo, iV r1.Box.Y.Hi, .bool r1.Box.Y.Unknown, iV r1.Box.Z.Lo, iV r1.Box.Z.Hi, .bool r1.Box.Z.Unknown], (j84 3), (j84 4), (j84 5), (j84 6), (j84 7), (j84 8), (j84 9), (j84 10), (j84 11), uV, uV, uV, uV, uV, uV, uV, uV, uV, uV, uV, uV, uV, uV, uV, uV, uV, uV, uV, uV, uV, uV, uV, uV, uV, uV, uV, uV, uV, uV, uV, uV, uV, uV, uV, uV, uV, uV, uV, uV, uV, uV, uV, uV, uV, uV, uV, uV, uV, uV, uV, uV, uV, uV, uV, uV, uV, uV], []⟩ → K22 a_ W82 := by
      intro f80 j84 W82 a_ L81 hj88 HS83  hfr_; subst hfr_
      injection hj88 with hj88; subst hj88; try dsimp only at h
      simp only [Sum.elim_inr] at h
      refine hK23 _ _ ?_
      refine wp_seq_k (fun K92 hK93 => ?_)
      refine wp_seq_k (fun K94 hK95 => ?_)
      refine heldG (S := Sg t f80 ([(b7, .cells #[.int .i64 r1.ID, .int .i64 r1.Box.X.Lo, .int .i64 r1.Box.X.Hi, .bool r1.Box.X.Unknown, .int .i64 r1.Box.Y.Lo, .int .i64 r1.Box.Y.Hi, .bool r1.Box.Y.Unknown, .int .i64 r1.Box.Z.Lo, .int .i64 r1.Box.Z.Hi, .bool r1.Box.Z.Unknown, .int .i64 r1.Flux.Lo, .int .i64 r1.Flux.Hi, .bool r1.Flux.Unknown, .int .i64 r1.When.Lo, .int .i64 r1.When.Hi, .bool r1.When.Unknown, .slice A2 r1.Frames.length c3, .int .i64 r1.Marks] 99 (0, 0))] :: H) []) (n := 9) kr rfl HS83 ?_
      intro W96 HS97
      refine takeGL [0] (n := 9) (fuel := 8) #[true, false, false, false, false, false, false, false, false] rfl kr kr kr hnp (Sg.g0 (Sx.of [] fL HS97)) ?_
      refine takeGQ 1 [] rfl kr kr kr kr kr kr hnp (Sg.g0 (Sx.of [] fL HS97)) (fun w_ hw_ => by obtain ⟨g_, hl_, hS_⟩ := hw_.st; exact run_loadN (n := 3) rfl Tryz.underlying95 rfl kr (kv (.pointer (some ⟨b7, 10, none⟩))) (cs := [.int .i64 r1.Flux.Lo, .int .i64 r1.Flux.Hi, .bool r1.Flux.Unknown]) rfl (hS_.cells 10 3 _ rfl)) ?_
      refine takeGL [3] (n := 7) (fuel := 6) #[true, true, false, true, false, false, false, false, false] rfl kr kr kr hnp (Sg.g0 (Sx.of [] fL HS97)) ?_
      refine takeGQ 4 [] rfl kr kr kr kr kr kr hnp (Sg.g0 (Sx.of [] fL HS97)) (fun w_ hw_ => by obtain ⟨g_, hl_, hS_⟩ := hw_.st; exact run_loadN (n := 3) rfl Tryz.underlying97 rfl kr (kv (.pointer (some ⟨b7, 13, none⟩))) (cs := [.int .i64 r1.When.Lo, .int .i64 r1.When.Hi, .bool r1.When.Unknown]) rfl (hS_.cells 13 3 _ rfl)) ?_
      have hq_ := bind_some h; clear h; obtain ⟨vt98, hc99, h⟩ := hq_
      refine takeGE 2 kr rfl kr (does_call (f := 98) (args := #[.agg #[.int .i64 r1.Flux.Lo, .int .i64 r1.Flux.Hi, .bool r1.Flux.Unknown], .int .i64 1125899906842624]) kr (catalog_ends_Quanta.calls k r1.Flux 1125899906842624 HS97 vt98 hc99) ?_)
      rintro _ W102 ⟨f100, rfl, L101, HS103⟩
      refine ⟨_, rfl, ?_⟩
      refine ⟨(Sg.g0 (Sx.of [] L101 HS103)), ?_⟩
      have hq_ := bind_some h; clear h; obtain ⟨vt104, hc105, h⟩ := hq_
      refine takeGE 5 kr rfl kr (does_call (f := 99) (args := #[.agg #[.int .i64 r1.When.Lo, .int .i64 r1.When.Hi, .bool r1.When.Unknown], .int .i64 17592186044416]) kr (catalog_ends_Tick.calls k r1.When 17592186044416 HS103 vt104 hc105) ?_)
      rintro _ W108 ⟨f106, rfl, L107, HS109⟩
      refine ⟨_, rfl, ?_⟩
      refine ⟨(Sg.g0 (Sx.of [] (L101.trans L107) HS109)), ?_⟩
      refine takeGE 6 kr rfl kr (does_lit (e := (tInt .i64)) (E := 58) (vs := #[(0, Value.int .i64 vt98), (1, Value.int .i64 vt104)]) (cs := #[.int .i64 vt98, .int .i64 vt104]) (xs := ([vt98, vt104] : List Int)) rfl Tryz.underlying190 kr kr ⟨[.int .i64 vt98], _, rfl, rfl, ⟨[.int .i64 vt104], _, rfl, rfl, rfl⟩⟩ rfl HS109 ?_ (by decide))
      intro b110 W111 s112 HS113 _ HO114
      refine ⟨(Sg.g0 (Sx.of [s112] (L101.trans L107) HS113)), ?_⟩
      obtain ⟨f116, L117, HS118, HR119, th120⟩ := HO114.lend HS113
      have hq_ := bind_some h; clear h; obtain ⟨vt121, hc122, h⟩ := hq_
      refine takeGE 7 kr rfl kr (does_call (f := 97) (args := #[.slice (some ⟨b110, 0, none⟩) ([vt98, vt104] : List Int).length 2]) kr (cmp_Or_Errno.calls k (some ⟨b110, 0, none⟩) 2 ([vt98, vt104] : List Int) HS118 HR119 vt121 hc122) ?_)
      rintro _ W125 ⟨f123, rfl, L124, HS126⟩
      refine ⟨_, rfl, ?_⟩
      obtain ⟨f127, L128, HS129⟩ := th120 L124 HS126
      refine ⟨(Sg.g0 (Sx.of [s112] (L101.trans (L107.trans L128)) HS129)), ?_⟩
      refine takeGL [8] (n := 1) (fuel := 0) #[true, true, true, true, true, true, true, true, true] rfl kr kr kr hnp (Sg.g0 (Sx.of [s112] (L101.trans (L107.trans L128)) HS129)) ?_
      refine doneG kr ?_ _
      refine hK95 _ _ ?_
      refine wp_seq_k fun K130 hK131 => rl ?_
      refine seqL2 kr ?_
      refine nl (hK131 _ _ ?_)
      have hq_ := ite_some h; clear h; rcases hq_ with ⟨c133, h⟩ | ⟨c133, h⟩
      · have c133 : vt121 ≠ 0 := c133
        refine wpRwI 45 kr (bne_iff_ne.mpr c133) ?_
        refine condT kr ?_
        refine wp_seq_k fun K134 hK135 => rl ?_
        refine seqL2 kr ?_
        refine nl (hK135 _ _ ?_)
        refine wp_ret ?_
        refine hret _ _ ?_
        refine ends_still (v := Value.int .i64 vt121) kr kr ?_
        have HS258 := HS129.drop
        have HS259 := HS258.drop
        injection h with h
        subst h
        exact ⟨f127, rfl, (L81.trans (L101.trans (L107.trans L128))), HS259⟩
      · have c133 : ¬ (vt121 ≠ 0) := c133
        refine wpRwI 45 (x := (vt121 != 0)) (v := false) kr (bne_eq_false_iff_eq.mpr (Decidable.of_not_not c133)) ?_
        refine condF kr ?_
        refine wp_skip ?_
        refine hK93 _ _ ?_
        refine wp_seq_k (fun K136 hK137 => ?_)
        refine blockK (fun B138 hx139 hn140 hr141 ho142 hp143 => ?_)
        refine wp_seq_k fun K145 hK146 => rl ?_
        refine seqL1 kr ?_
        refine seqK rfl (does_run (run_load rfl Tryz.underlying22 rfl (kv (.pointer (some ⟨b7, 16, none⟩))) (HS129.u1.cell 16)) ?_)
        refine seqL3 kr ?_
        refine nl (hK146 _ _ ?_)
        have hq_ := ite_some h; clear h; rcases hq_ with ⟨c148, h⟩ | ⟨c148, h⟩
        · have c148 : (r1.Frames.length : Int) = 0 := c148
          refine wpRwI 47 kr (beq_iff_eq.mpr c148) ?_
          refine wpRwI 51 kr (beq_iff_eq.mpr c148) ?_
          refine condT kr ?_
          refine wp_seq_k fun K149 hK150 => rl ?_
          refine seqL1 kr ?_
          refine nl (hK150 _ _ ?_)
          refine wp_ret ?_
          refine hr141 _ _ ?_
          refine hret _ _ ?_
          refine ends_still (v := Value.int .i64 3) kr kr ?_
          have HS260 := HS129.drop
          have HS261 := HS260.drop
          injection h with h
          subst h
          exact ⟨f127, rfl, (L81.trans (L101.trans (L107.trans L128))), HS261⟩
        · have c148 : ¬ ((r1.Frames.length : Int) = 0) := c148
          refine wpRwI 47 kr (beq_eq_false_iff_ne.mpr c148) ?_
          refine wpRwI 51 kr (beq_eq_false_iff_ne.mpr c148) ?_
          refine condF kr ?_
          refine wp_seq_k fun K151 hK152 => rl ?_
          refine seqL1 kr ?_
          refine seqK rfl (does_run (run_load rfl Tryz.underlying22 rfl (kv (.pointer (some ⟨b7, 16, none⟩))) (HS129.u1.cell 16)) ?_)
          refine seqL3 kr ?_
          refine nl (hK152 _ _ ?_)
          have hq_ := ite_some h; clear h; rcases hq_ with ⟨c154, h⟩ | ⟨c154, h⟩
          · have c154 : (r1.Frames.length : Int) > 8 := c154
            refine wpRwI 52 kr (decide_eq_true c154) ?_
            refine wpRwI 56 kr (decide_eq_true c154) ?_
            refine condT kr ?_
            refine wp_seq_k fun K155 hK156 => rl ?_
            refine seqL1 kr ?_
            refine nl (hK156 _ _ ?_)
            refine wp_ret ?_
            refine hr141 _ _ ?_
            refine hret _ _ ?_
            refine ends_still (v := Value.int .i64 2) kr kr ?_
            have HS262 := HS129.drop
            have HS263 := HS262.drop
            injection h with h
            subst h
            exact ⟨f127, rfl, (L81.trans (L101.trans (L107.trans L128))), HS263⟩
          · have c154 : ¬ ((r1.Frames.length : Int) > 8) := c154
            refine wpRwI 52 kr (decide_eq_false c154) ?_
            refine wpRwI 56 kr (decide_eq_false c154) ?_
            refine condF kr ?_
            refine wp_skip ?_
            refine hn140 _ _ ?_
            refine hK137 _ _ ?_
            refine wp_seq_k (fun K157 hK158 => ?_)
            refine wp_seq_k fun K159 hK160 => rl ?_
            refine seqL1 kr ?_
            refine seqK rfl (does_run (run_load rfl Tryz.underlying22 rfl (kv (.pointer (some ⟨b7, 16, none⟩))) (HS129.u1.cell 16)) ?_)
            refine seqL2 kr ?_
            refine nl (hK160 _ _ ?_)
            refine blockK (fun B161 hx162 hn163 hr164 ho165 hp166 => ?_)
            have hq_ := bind_some h; clear h; obtain ⟨o167, hv237, h⟩ := hq_
            have JR239 : ∀ z_, some (Sum.inl z_) = some o167 → some z_ = some rr1 := by
             intro z_ e_; injection e_ with e_; subst e_; exact h
            have J238 : ∀ (f232 : FM) (j236 : Nat → Value) (W234 : World) (a_ : Act), FM.le f127 f232 → some (Sum.inr ()) = some o167 → St t W234 f232 (s112 :: [(b7, .cells #[.int .i64 r1.ID, .int .i64 r1.Box.X.Lo, .int .i64 r1.Box.X.Hi, .bool r1.Box.X.Unknown, .int .i64 r1.Box.Y.Lo, .int .i64 r1.Box.Y.Hi, .bool r1.Box.Y.Unknown, .int .i64 r1.Box.Z.Lo, .int .i64 r1.Box.Z.Hi, .bool r1.Box.Z.Unknown, .int .i64 r1.Flux.Lo, .int .i64 r1.Flux.Hi, .bool r1.Flux.Unknown, .int .i64 r1.When.Lo, .int .i64 r1.When.Hi, .bool r1.When.Unknown, .slice A2 r1.Frames.length c3, .int .i64 r1.Marks] 99 (0, 0))] :: H) → a_ = ⟨#[(ag_Row r1 A2 c3), pV b7 0, (j236 0), uV, (j84 1), (j84 2), iV vt121, (j236 1), (j236 2), pV b7 0, iV r1.ID, fV, fV, pV b7 0, iV r1.ID, fV, fV, pV b7 1, pV b7 1, (ag_Bound r1.Box.X), pV b7 1, pV b7 4, (ag_Bound r1.Box.Y), pV b7 1, pV b7 7, (ag_Bound r1.Box.Z), .agg #[iV r1.Box.X.Lo, iV r1.Box.X.Hi, .bool r1.Box.X.Unknown, iV r1.Box.Y.Lo, iV r1.Box.Y.Hi, .bool r1.Box.Y.Unknown, iV r1.Box.Z.Lo, iV r1.Box.Z.Hi, .bool r1.Box.Z.Unknown], (j84 3), (j84 4), (j84 5), (j84 6), (j84 7), (j84 8), (j84 9), (j84 10), (j84 11), pV b7 10, (ag_Bound r1.Flux), iV vt98, pV b7 13, (ag_Bound r1.When), iV vt104, .slice (some ⟨b110, 0, none⟩) ([vt98, vt104] : List Int).length 2, iV vt121, iV vt121, fV, uV, fV, pV b7 16, .slice A2 r1.Frames.length c3, iV (r1.Frames.length : Int), fV, fV, pV b7 16, .slice A2 r1.Frames.length c3, iV (r1.Frames.length : Int), fV, pV b7 16, .slice A2 r1.Frames.length c3, iV (r1.Frames.length : Int), (j236 3), (j236 4), (j236 5), (j236 6), (j236 7), (j236 8), (j236 9), (j236 10), (j236 11), (j236 12), (j236 13), (j236 14), (j236 15), (j236 16), (j236 17), (j236 18), (j236 19), (j236 20), (j236 21), (j236 22), (j236 23), (j236 24), (j236 25), (j236 26), (j236 27), (j236 28), uV, uV, uV, uV, uV, uV, uV, uV], []⟩ → K157 a_ W234 := by
             intro f232 j236 W234 a_ L233 hj240 HS235  hfr_; subst hfr_
             injection hj240 with hj240; subst hj240; try dsimp only at h
             simp only [Sum.elim_inr] at h
             refine hK158 _ _ ?_
             refine wp_seq_k (fun K241 hK242 => ?_)
             refine wp_seq_k fun K243 hK244 => rl ?_
             refine seqL1 kr ?_
             refine seqK rfl (does_run (run_load rfl Tryz.underlying3 rfl (kv (.pointer (some ⟨b7, 17, none⟩))) (HS235.u1.cell 17)) ?_)
             refine seqL2 kr ?_
             have hq_ := ite_some h; clear h; rcases hq_ with ⟨c245, h⟩ | ⟨c245, h⟩
             · have c245 : r1.Marks < 0 := c245
               refine seqRwI 88 kr (decide_eq_true c245) ?_
               refine seqRwI 89 kr (decide_eq_true c245) ?_
               refine seqL4 kr ?_
               refine nl (hK244 _ _ ?_)
               refine condT kr ?_
               refine wp_seq_k fun K246 hK247 => rl ?_
               refine seqL1 kr ?_
               refine nl (hK247 _ _ ?_)
               refine wp_ret ?_
               refine hret _ _ ?_
               refine ends_still (v := Value.int .i64 4) kr kr ?_
               have HS270 := HS235.drop
               have HS271 := HS270.drop
               injection h with h
               subst h
               exact ⟨f232, rfl, (L81.trans (L101.trans (L107.trans (L128.trans L233)))), HS271⟩
             · have c245 : ¬ (r1.Marks < 0) := c245
               refine seqRwI 88 kr (decide_eq_false c245) ?_
               refine seqRwI 89 kr (decide_eq_false c245) ?_
               refine seqL1 kr ?_
               refine seqG kr (does_run (run_load rfl Tryz.underlying3 rfl (kv (.pointer (some ⟨b7, 17, none⟩))) (HS235.u1.cell 17)) ?_)
               refine seqL2 kr ?_
               refine nl (hK244 _ _ ?_)
               have hq_ := ite_some h; clear h; rcases hq_ with ⟨c249, h⟩ | ⟨c249, h⟩
               · have c249 : r1.Marks > 3 := c249
                 refine wpRwI 92 kr (decide_eq_true c249) ?_
                 refine wpRwI 93 kr (decide_eq_true c249) ?_
                 refine condT kr ?_
                 refine wp_seq_k fun K250 hK251 => rl ?_
                 refine seqL1 kr ?_
                 refine nl (hK251 _ _ ?_)
                 refine wp_ret ?_
                 refine hret _ _ ?_
                 refine ends_still (v := Value.int .i64 4) kr kr ?_
                 have HS272 := HS235.drop
                 have HS273 := HS272.drop
                 injection h with h
                 subst h
                 exact ⟨f232, rfl, (L81.trans (L101.trans (L107.trans (L128.trans L233)))), HS273⟩
               · have c249 : ¬ (r1.Marks > 3) := c249
                 refine wpRwI 92 kr (decide_eq_false c249) ?_
                 refine wpRwI 93 kr (decide_eq_false c249) ?_
                 refine condF kr ?_
                 refine wp_skip ?_
                 refine hK242 _ _ ?_
                 refine wp_seq_k fun K252 hK253 => rl ?_
                 refine seqL1 kr ?_
                 refine nl (hK253 _ _ ?_)
                 refine wp_ret ?_
                 refine hret _ _ ?_
                 refine ends_still (v := Value.int .i64 0) kr kr ?_
                 have HS274 := HS235.drop
                 have HS275 := HS274.drop
                 injection h with h
                 subst h
                 exact ⟨f232, rfl, (L81.trans (L101.trans (L107.trans (L128.trans L233)))), HS275⟩
            clear h; have h := hv237; clear hv237
            refine loopK (fun n_ a_ w_ => ∃ (f171 : FM) (x176 : Int) (j175 : Nat → Value), FM.le f127 f171 ∧ St t w_ f171 (s112 :: [(b7, .cells #[.int .i64 r1.ID, .int .i64 r1.Box.X.Lo, .int .i64 r1.Box.X.Hi, .bool r1.Box.X.Unknown, .int .i64 r1.Box.Y.Lo, .int .i64 r1.Box.Y.Hi, .bool r1.Box.Y.Unknown, .int .i64 r1.Box.Z.Lo, .int .i64 r1.Box.Z.Hi, .bool r1.Box.Z.Unknown, .int .i64 r1.Flux.Lo, .int .i64 r1.Flux.Hi, .bool r1.Flux.Unknown, .int .i64 r1.When.Lo, .int .i64 r1.When.Hi, .bool r1.When.Unknown, .slice A2 r1.Frames.length c3, .int .i64 r1.Marks] 99 (0, 0))] :: H) ∧ catalog_CheckRow.l1 k r1 n_ x176 = some o167 ∧ a_ = ⟨#[(ag_Row r1 A2 c3), pV b7 0, (j175 0), uV, (j84 1), (j84 2), iV vt121, (j175 1), (j175 2), pV b7 0, iV r1.ID, fV, fV, pV b7 0, iV r1.ID, fV, fV, pV b7 1, pV b7 1, (ag_Bound r1.Box.X), pV b7 1, pV b7 4, (ag_Bound r1.Box.Y), pV b7 1, pV b7 7, (ag_Bound r1.Box.Z), .agg #[iV r1.Box.X.Lo, iV r1.Box.X.Hi, .bool r1.Box.X.Unknown, iV r1.Box.Y.Lo, iV r1.Box.Y.Hi, .bool r1.Box.Y.Unknown, iV r1.Box.Z.Lo, iV r1.Box.Z.Hi, .bool r1.Box.Z.Unknown], (j84 3), (j84 4), (j84 5), (j84 6), (j84 7), (j84 8), (j84 9), (j84 10), (j84 11), pV b7 10, (ag_Bound r1.Flux), iV vt98, pV b7 13, (ag_Bound r1.When), iV vt104, .slice (some ⟨b110, 0, none⟩) ([vt98, vt104] : List Int).length 2, iV vt121, iV vt121, fV, uV, fV, pV b7 16, .slice A2 r1.Frames.length c3, iV (r1.Frames.length : Int), fV, fV, pV b7 16, .slice A2 r1.Frames.length c3, iV (r1.Frames.length : Int), fV, pV b7 16, .slice A2 r1.Frames.length c3, iV (r1.Frames.length : Int), iV x176, (j175 3), (j175 4), (j175 5), (j175 6), (j175 7), (j175 8), (j175 9), (j175 10), (j175 11), (j175 12), (j175 13), (j175 14), (j175 15), (j175 16), (j175 17), (j175 18), (j175 19), (j175 20), (j175 21), (j175 22), (j175 23), (j175 24), (j175 25), (j175 26), (j175 27), uV, uV, uV, uV, uV, uV, uV, uV], []⟩) k ⟨f127, 0, (jL [(j84 0)]), fL, HS129, h, kr⟩ ?_
            clear h
            rintro n170 _ W173 ⟨f171, x176, j175, L172, HS174, h, rfl⟩ K168 hK169
            obtain _ | n170 := n170
            · exact nomatch h
            simp only [catalog_CheckRow.l1] at h
            refine wp_seq_k fun K177 hK178 => rl ?_
            refine seqL1 kr ?_
            refine nl (hK178 _ _ ?_)
            refine wp_seq_k (fun K179 hK180 => ?_)
            have hq_ := ite_some h; clear h; rcases hq_ with ⟨c182, h⟩ | ⟨c182, h⟩
            · have c182 : x176 < (r1.Frames.length : Int) := c182
              refine wpRwI 61 kr (decide_eq_true c182) ?_
              refine condT kr ?_
              refine wp_skip ?_
              refine hK180 _ _ ?_
              refine wp_seq_k (fun K183 hK184 => ?_)
              refine blockK (fun B185 hx186 hn187 hr188 ho189 hp190 => ?_)
              refine wp_seq_k fun K192 hK193 => rl ?_
              have hq_ := guard_some h; clear h; obtain ⟨c194, h⟩ := hq_
              have c194 : 0 ≤ x176 := c194
              obtain ⟨b198, of199, cs195, hA200, hr196, hc197⟩ := (HR4.mono (L81.trans (L101.trans (L107.trans (L128.trans L172))))).at (i := x176) c194 c182
              obtain rfl := hr196
              refine seqL1 kr ?_
              refine seqK rfl (does_run (run_indexE hA200 (sz := 1) rfl Tryz.underlying22 kr (kv (.slice A2 r1.Frames.length c3)) (kv (.int .i64 x176)) c194 c182 W173) ?_)
              refine seqK rfl (does_run (run_load rfl Tryz.underlying3 rfl (kv (.pointer (some ⟨b198, of199 + (x176 : Int).toNat * 1, none⟩))) ((hc197 fL HS174) 0 (by decide))) ?_)
              refine seqL2 kr ?_
              refine nl (hK193 _ _ ?_)
              refine blockK (fun B201 hx202 hn203 hr204 ho205 hp206 => ?_)
              refine wp_seq_k fun K208 hK209 => rl ?_
              refine seqL3 kr ?_
              have hq_ := ite_some h; clear h; rcases hq_ with ⟨c210, h⟩ | ⟨c210, h⟩
              · have c210 : (rd r1.Frames x176) < 1 := c210
                refine seqRwI 67 kr (decide_eq_true c210) ?_
                refine seqRwI 68 kr (decide_eq_true c210) ?_
                refine seqL4 kr ?_
                refine nl (hK209 _ _ ?_)
                refine condT kr ?_
                refine wp_seq_k fun K211 hK212 => rl ?_
                refine seqL1 kr ?_
                refine nl (hK212 _ _ ?_)
                refine wp_ret ?_
                refine hr204 _ _ ?_
                refine hr188 _ _ ?_
                refine hr164 _ _ ?_
                refine hret _ _ ?_
                refine ends_still (v := Value.int .i64 4) kr kr ?_
                have HS264 := HS174.drop
                have HS265 := HS264.drop
                replace h := JR239 _ h
                injection h with h
                subst h
                exact ⟨f171, rfl, (L81.trans (L101.trans (L107.trans (L128.trans L172)))), HS265⟩
              · have c210 : ¬ ((rd r1.Frames x176) < 1) := c210
                refine seqRwI 67 kr (decide_eq_false c210) ?_
                refine seqRwI 68 kr (decide_eq_false c210) ?_
                refine seqL4 kr ?_
                refine nl (hK209 _ _ ?_)
                have hq_ := ite_some h; clear h; rcases hq_ with ⟨c214, h⟩ | ⟨c214, h⟩
                · have c214 : (rd r1.Frames x176) > 1048576 := c214
                  refine wpRwI 65 kr (decide_eq_true c214) ?_
                  refine wpRwI 70 kr (decide_eq_true c214) ?_
                  refine wpRwI 71 kr (decide_eq_true c214) ?_
                  refine condT kr ?_
                  refine wp_seq_k fun K215 hK216 => rl ?_
                  refine seqL1 kr ?_
                  refine nl (hK216 _ _ ?_)
                  refine wp_ret ?_
                  refine hr204 _ _ ?_
                  refine hr188 _ _ ?_
                  refine hr164 _ _ ?_
                  refine hret _ _ ?_
                  refine ends_still (v := Value.int .i64 4) kr kr ?_
                  have HS266 := HS174.drop
                  have HS267 := HS266.drop
                  replace h := JR239 _ h
                  injection h with h
                  subst h
                  exact ⟨f171, rfl, (L81.trans (L101.trans (L107.trans (L128.trans L172)))), HS267⟩
                · have c214 : ¬ ((rd r1.Frames x176) > 1048576) := c214
                  refine wpRwI 65 kr (decide_eq_false c214) ?_
                  refine wpRwI 70 kr (decide_eq_false c214) ?_
                  refine wpRwI 71 kr (decide_eq_false c214) ?_
                  refine condF kr ?_
                  refine wp_seq_k fun K217 hK218 => rl ?_
                  refine seqL3 kr ?_
                  have hq_ := ite_some h; clear h; rcases hq_ with ⟨c219, h⟩ | ⟨c219, h⟩
                  · have c219 : x176 > 0 := c219
                    refine seqRwI 74 kr (decide_eq_true c219) ?_
                    refine seqRwI 75 kr (decide_eq_true c219) ?_
                    refine seqL2 kr ?_
                    refine seqG kr (does_run (run_load rfl Tryz.underlying22 rfl (kv (.pointer (some ⟨b7, 16, none⟩))) (HS174.u1.cell 16)) ?_)
                    have hq_ := guard_some h; clear h; obtain ⟨c220, h⟩ := hq_
                    have c220 : 0 ≤ (w64 (x176 - 1)) := c220
                    have hq_ := guard_some h; clear h; obtain ⟨c221, h⟩ := hq_
                    have c221 : (w64 (x176 - 1)) < (r1.Frames.length : Int) := c221
                    obtain ⟨b225, of226, cs222, hA227, hr223, hc224⟩ := (HR4.mono (L81.trans (L101.trans (L107.trans (L128.trans L172))))).at (i := w64 (x176 - 1)) c220 c221
                    obtain rfl := hr223
                    refine seqL2 kr ?_
                    refine seqG kr (does_run (run_indexE hA227 (sz := 1) rfl Tryz.underlying22 kr (kv (.slice A2 r1.Frames.length c3)) (kv (.int .i64 (w64 (x176 - 1)))) c220 c221 W173) ?_)
                    refine seqG kr (does_run (run_load rfl Tryz.underlying3 rfl (kv (.pointer (some ⟨b225, of226 + (w64 (x176 - 1) : Int).toNat * 1, none⟩))) ((hc224 fL HS174) 0 (by decide))) ?_)
                    refine seqL3 kr ?_
                    refine nl (hK218 _ _ ?_)
                    have hq_ := ite_some h; clear h; rcases hq_ with ⟨c229, h⟩ | ⟨c229, h⟩
                    · have c229 : (rd r1.Frames x176) ≤ (rd r1.Frames (w64 (x176 - 1))) := c229
                      refine wpRwI 72 kr (decide_eq_true c229) ?_
                      refine wpRwI 83 kr (decide_eq_true c229) ?_
                      refine wpRwI 84 kr (decide_eq_true c229) ?_
                      refine condT kr ?_
                      refine wp_seq_k fun K230 hK231 => rl ?_
                      refine seqL1 kr ?_
                      refine nl (hK231 _ _ ?_)
                      refine wp_ret ?_
                      refine hr204 _ _ ?_
                      refine hr188 _ _ ?_
                      refine hr164 _ _ ?_
                      refine hret _ _ ?_
                      refine ends_still (v := Value.int .i64 11) kr kr ?_
                      have HS268 := HS174.drop
                      have HS269 := HS268.drop
                      replace h := JR239 _ h
                      injection h with h
                      subst h
                      exact ⟨f171, rfl, (L81.trans (L101.trans (L107.trans (L128.trans L172)))), HS269⟩
                    · have c229 : ¬ ((rd r1.Frames x176) ≤ (rd r1.Frames (w64 (x176 - 1)))) := c229
                      refine wpRwI 72 kr (decide_eq_false c229) ?_
                      refine wpRwI 83 kr (decide_eq_false c229) ?_
                      refine wpRwI 84 kr (decide_eq_false c229) ?_
                      refine condF kr ?_
                      refine wp_skip ?_
                      refine hn203 _ _ ?_
                      refine hn187 _ _ ?_
                      refine hK184 _ _ ?_
                      refine rl ?_
                      refine seqL2 kr ?_
                      refine nl ?_
                      refine hK169 n170 _ _ (Nat.lt_succ_self _) ?_
                      exact ⟨f171, (w64 (x176 + 1)), (jL [(j175 0), iV x176, iV (rd r1.Frames x176), tV, iV x176, .pointer (some ⟨b198, of199 + (x176 : Int).toNat * 1, none⟩), iV (rd r1.Frames x176), fV, iV (rd r1.Frames x176), fV, fV, iV (rd r1.Frames x176), fV, fV, fV, iV x176, tV, tV, iV (rd r1.Frames x176), .pointer (some ⟨b7, 16, none⟩), .slice A2 r1.Frames.length c3, iV x176, iV (w64 (x176 - 1)), .pointer (some ⟨b225, of226 + (w64 (x176 - 1) : Int).toNat * 1, none⟩), iV (rd r1.Frames (w64 (x176 - 1))), fV, fV, iV (w64 (x176 + 1))]), L172, HS174, h, kr⟩
                  · have c219 : ¬ (x176 > 0) := c219
                    refine seqRwI 74 kr (decide_eq_false c219) ?_
                    refine seqRwI 75 kr (decide_eq_false c219) ?_
                    refine seqL10 kr ?_
                    refine nl (hK218 _ _ ?_)
                    refine condF kr ?_
                    refine wp_skip ?_
                    refine hn203 _ _ ?_
                    refine hn187 _ _ ?_
                    refine hK184 _ _ ?_
                    refine rl ?_
                    refine seqL2 kr ?_
                    refine nl ?_
                    refine hK169 n170 _ _ (Nat.lt_succ_self _) ?_
                    exact ⟨f171, (w64 (x176 + 1)), (jL [(j175 0), iV x176, iV (rd r1.Frames x176), tV, iV x176, .pointer (some ⟨b198, of199 + (x176 : Int).toNat * 1, none⟩), iV (rd r1.Frames x176), fV, iV (rd r1.Frames x176), fV, fV, iV (rd r1.Frames x176), fV, fV, fV, iV x176, fV, fV, uV, uV, uV, uV, uV, uV, uV, uV, fV, iV (w64 (x176 + 1))]), L172, HS174, h, kr⟩
            · have c182 : ¬ (x176 < (r1.Frames.length : Int)) := c182
              refine wpRwI 61 kr (decide_eq_false c182) ?_
              refine condF kr ?_
              refine wp_exit ?_
              refine hx162 _ _ ?_
              exact J238 f171 (jL [(j175 0), (j175 1), (j175 2), iV x176, fV, (j175 4), (j175 5), (j175 6), (j175 7), (j175 8), (j175 9), (j175 10), (j175 11), (j175 12), (j175 13), (j175 14), (j175 15), (j175 16), (j175 17), (j175 18), (j175 19), (j175 20), (j175 21), (j175 22), (j175 23), (j175 24), (j175 25), (j175 26), (j175 27)]) W173 _ L172 h HS174 kr
     clear h; have h := hv85; clear hv85
     refine loopK (fun n_ a_ w_ => ∃ (f36 : FM) (x41 : Int) (j40 : Nat → Value), FM.le f f36 ∧ St t w_ f36 ([(b7, .cells #[.int .i64 r1.ID, .int .i64 r1.Box.X.Lo, .int .i64 r1.Box.X.Hi, .bool r1.Box.X.Unknown, .int .i64 r1.Box.Y.Lo, .int .i64 r1.Box.Y.Hi, .bool r1.Box.Y.Unknown, .int .i64 r1.Box.Z.Lo, .int .i64 r1.Box.Z.Hi, .bool r1.Box.Z.Unknown, .int .i64 r1.Flux.Lo, .int .i64 r1.Flux.Hi, .bool r1.Flux.Unknown, .int .i64 r1.When.Lo, .int .i64 r1.When.Hi, .bool r1.When.Unknown, .slice A2 r1.Frames.length c3, .int .i64 r1.Marks] 99 (0, 0))] :: H) ∧ catalog_CheckRow.l0 k r1 n_ x41 = some o32 ∧ a_ = ⟨#[(ag_Row r1 A2 c3), pV b7 0, (j40 0), uV, (j40 1), (j40 2), uV, uV, uV, pV b7 0, iV r1.ID, fV, fV, pV b7 0, iV r1.ID, fV, fV, pV b7 1, pV b7 1, (ag_Bound r1.Box.X), pV b7 1, pV b7 4, (ag_Bound r1.Box.Y), pV b7 1, pV b7 7, (ag_Bound r1.Box.Z), .agg #[iV r1.Box.X.Lo, iV r1.Box.X.Hi, .bool r1.Box.X.Unknown, iV r1.Box.Y.Lo, iV r1.Box.Y.Hi, .bool r1.Box.Y.Unknown, iV r1.Box.Z.Lo, iV r1.Box.Z.Hi, .bool r1.Box.Z.Unknown], iV x41, (j40 3), (j40 4), (j40 5), (j40 6), (j40 7), (j40 8), (j40 9), (j40 10), uV, uV, uV, uV, uV, uV, uV, uV, uV, uV, uV, uV, uV, uV, uV, uV, uV, uV, uV, uV, uV, uV, uV, uV, uV, uV, uV, uV, uV, uV, uV, uV, uV, uV, uV, uV, uV, uV, uV, uV, uV, uV, uV, uV, uV, uV, uV, uV, uV, uV, uV, uV, uV, uV, uV, uV, uV, uV], []⟩) k ⟨f, 0, (jL [iV 0]), fL, HS9, h, kr⟩ ?_
     clear h
     rintro n35 _ W38 ⟨f36, x41, j40, L37, HS39, h, rfl⟩ K33 hK34
     obtain _ | n35 := n35
     · exact nomatch h
     simp only [catalog_CheckRow.l0] at h
     refine wp_seq_k fun K42 hK43 => rl ?_
     refine seqL1 kr ?_
     refine nl (hK43 _ _ ?_)
     refine wp_seq_k (fun K44 hK45 => ?_)
     have hq_ := ite_some h; clear h; rcases hq_ with ⟨c47, h⟩ | ⟨c47, h⟩
     · have c47 : x41 < 3 := c47
       refine wpRwI 28 kr (decide_eq_true c47) ?_
       refine condT kr ?_
       refine wp_skip ?_
       refine hK45 _ _ ?_
       refine wp_seq_k (fun K48 hK49 => ?_)
       refine blockK (fun B50 hx51 hn52 hr53 ho54 hp55 => ?_)
       refine wp_seq_k fun K57 hK58 => rl ?_
       have hq_ := guard_some h; clear h; obtain ⟨c59, h⟩ := hq_
       have c59 : 0 ≤ x41 := c59
       refine seqK rfl (does_run (run_arr_agg (e := ty_Bound) (f := fun _ => none) (xs := [r1.Box.X, r1.Box.Y, r1.Box.Z]) (fun x_ => [Value.int .i64 x_.Lo, Value.int .i64 x_.Hi, Value.bool x_.Unknown]) (fun _ _ h_ => h_) rfl Tryz.underlying81 kr Tryz.underlying29 rfl (kv (.agg #[.int .i64 r1.Box.X.Lo, .int .i64 r1.Box.X.Hi, .bool r1.Box.X.Unknown, .int .i64 r1.Box.Y.Lo, .int .i64 r1.Box.Y.Hi, .bool r1.Box.Y.Unknown, .int .i64 r1.Box.Z.Lo, .int .i64 r1.Box.Z.Hi, .bool r1.Box.Z.Unknown])) (kv (.int .i64 x41)) ⟨[Value.int .i64 r1.Box.X.Lo, Value.int .i64 r1.Box.X.Hi, Value.bool r1.Box.X.Unknown], _, rfl, rfl, ⟨[Value.int .i64 r1.Box.Y.Lo, Value.int .i64 r1.Box.Y.Hi, Value.bool r1.Box.Y.Unknown], _, rfl, rfl, ⟨[Value.int .i64 r1.Box.Z.Lo, Value.int .i64 r1.Box.Z.Hi, Value.bool r1.Box.Z.Unknown], _, rfl, rfl, rfl⟩⟩⟩ c59 c47 rfl W38) ?_)
       refine seqK rfl (does_alloc (z := Value.agg #[.int .i64 0, .int .i64 0, .bool false]) (cs := #[.int .i64 0, .int .i64 0, .bool false]) rfl kr rfl HS39 ?_)
       intro b60 W61 HS62
       refine seqK rfl (does_storeA (vs := [.int .i64 ((rd [r1.Box.X, r1.Box.Y, r1.Box.Z] x41).Lo), .int .i64 ((rd [r1.Box.X, r1.Box.Y, r1.Box.Z] x41).Hi), .bool ((rd [r1.Box.X, r1.Box.Y, r1.Box.Z] x41).Unknown)]) rfl kr kr kr rfl (ones rfl) HS62 kr ?_)
       intro W64 HS65
       refine nl (hK58 _ _ ?_)
       refine wp_seq_k fun K66 hK67 => rl ?_
       refine seqK rfl (does_run (run_loadN (n := 3) rfl Tryz.underlying29 rfl kr (kv (.pointer (some ⟨b60, 0, none⟩))) (cs := [.int .i64 ((rd [r1.Box.X, r1.Box.Y, r1.Box.Z] x41).Lo), .int .i64 ((rd [r1.Box.X, r1.Box.Y, r1.Box.Z] x41).Hi), .bool ((rd [r1.Box.X, r1.Box.Y, r1.Box.Z] x41).Unknown)]) rfl (HS65.cells 0 3 _ rfl)) ?_)
       have hq_ := bind_some h; clear h; obtain ⟨vt68, hc69, h⟩ := hq_
       refine seqK rfl (does_call (f := 96) (args := #[.agg #[.int .i64 ((rd [r1.Box.X, r1.Box.Y, r1.Box.Z] x41).Lo), .int .i64 ((rd [r1.Box.X, r1.Box.Y, r1.Box.Z] x41).Hi), .bool ((rd [r1.Box.X, r1.Box.Y, r1.Box.Z] x41).Unknown)], .int .i64 1073741824]) kr (catalog_ends_Coord.calls k (rd [r1.Box.X, r1.Box.Y, r1.Box.Z] x41) 1073741824 HS65 vt68 hc69) ?_)
       rintro _ W72 ⟨f70, rfl, L71, HS73⟩
       refine ⟨_, rfl, ?_⟩
       refine seqL1 kr ?_
       refine nl (hK67 _ _ ?_)
       refine wp_seq_k fun K74 hK75 => rl ?_
       refine seqL2 kr ?_
       refine nl (hK75 _ _ ?_)
       have hq_ := ite_some h; clear h; rcases hq_ with ⟨c77, h⟩ | ⟨c77, h⟩
       · have c77 : vt68 ≠ 0 := c77
         refine wpRwI 33 kr (bne_iff_ne.mpr c77) ?_
         refine condT kr ?_
         refine wp_seq_k fun K78 hK79 => rl ?_
         refine seqL2 kr ?_
         refine nl (hK79 _ _ ?_)
         refine wp_ret ?_
         refine hr53 _ _ ?_
         refine hr29 _ _ ?_
         refine hret _ _ ?_
         refine ends_still (v := Value.int .i64 vt68) kr kr ?_
         have HS256 := HS73.drop
         have HS257 := HS256.drop
         replace h := JR87 _ h
         injection h with h
         subst h
         exact ⟨f70, rfl, (L37.trans L71), HS257⟩
       · have c77 : ¬ (vt68 ≠ 0) := c77
         refine wpRwI 33 (x := (vt68 != 0)) (v := false) kr (bne_eq_false_iff_eq.mpr (Decidable.of_not_not c77)) ?_
         refine condF kr ?_
         refine wp_skip ?_
         refine hn52 _ _ ?_
         refine hK49 _ _ ?_
         refine rl ?_
         refine seqL2 kr ?_
         refine nl ?_
         refine hK34 n35 _ _ (Nat.lt_succ_self _) ?_
         have HS90 := HS73.u1.u1
         have HS91 := HS90.drop
         exact ⟨f70, (w64 (x41 + 1)), (jL [(j40 0), .pointer (some ⟨b60, 0, none⟩), iV vt68, tV, (ag_Bound (rd [r1.Box.X, r1.Box.Y, r1.Box.Z] x41)), (ag_Bound (rd [r1.Box.X, r1.Box.Y, r1.Box.Z] x41)), iV vt68, iV vt68, fV, (j40 9), iV (w64 (x41 + 1))]), (L37.trans L71), HS91, h, kr⟩
     · have c47 : ¬ (x41 < 3) := c47
       refine wpRwI 28 kr (decide_eq_false c47) ?_
       refine condF kr ?_
       refine wp_exit ?_
       refine hx27 _ _ ?_
       exact J86 f36 (jL [(j40 0), (j40 1), (j40 2), iV x41, fV, (j40 4), (j40 5), (j40 6), (j40 7), (j40 8), (j40 9), (j40 10)]) W38 _ L37 h HS39 kr

set_option maxRecDepth 100000 in
set_option maxHeartbeats 4000000 in
theorem catalog_Check.calls (k : Nat) (A2 : Option Addr) (c3 : Nat) (l1 : List S_Row) {t w : World} {f : FM} {H : List Seg} (HS : St t w f (H)) (HR4 : SlR ty_Row f A2 c3 l1) (rr1 : Int) (h : catalog_Check k l1 = some rr1) :
    Calls Tryz.prog 42 #[.slice A2 l1.length c3] w (fun e w' => ∃ (g : FM), e = .returned (Value.int .i64 rr1) ∧ FM.le f g ∧ St t w' g (H)) := by
 unfold catalog_Check at h
 refine enter Tryz.func42 rfl (tm := #[.slice A2 l1.length c3, uV, uV, uV, uV, uV, uV, uV, uV, uV, uV, uV, uV, uV, uV, uV, uV, uV, uV, uV, uV, uV, uV, uV, uV, uV, uV, uV, uV, uV, uV, uV, uV, uV, uV]) kr ?_
 intro B hret hnor hnp
 refine wp_seq_k fun K5 hK6 => rl ?_
 refine seqL1 kr ?_
 refine nl (hK6 _ _ ?_)
 refine wp_seq_k (fun K7 hK8 => ?_)
 refine wp_seq_k fun K9 hK10 => rl ?_
 refine seqL3 kr ?_
 refine nl (hK10 _ _ ?_)
 have hq_ := ite_some h; clear h; rcases hq_ with ⟨c12, h⟩ | ⟨c12, h⟩
 · have c12 : (l1.length : Int) > 200 := c12
   refine wpRwI 8 kr (decide_eq_true c12) ?_
   refine condT kr ?_
   refine wp_seq_k fun K13 hK14 => rl ?_
   refine seqL1 kr ?_
   refine nl (hK14 _ _ ?_)
   refine wp_ret ?_
   refine hret _ _ ?_
   refine ends_still (v := Value.int .i64 2) kr kr ?_
   injection h with h
   subst h
   exact ⟨f, rfl, FM.le.refl _, HS⟩
 · have c12 : ¬ ((l1.length : Int) > 200) := c12
   refine wpRwI 8 kr (decide_eq_false c12) ?_
   refine condF kr ?_
   refine wp_skip ?_
   refine hK8 _ _ ?_
   refine wp_seq_k (fun K15 hK16 => ?_)
   refine wp_seq_k fun K17 hK18 => rl ?_
   refine seqL3 kr ?_
   refine nl (hK18 _ _ ?_)
   refine blockK (fun B19 hx20 hn21 hr22 ho23 hp24 => ?_)
   have hq_ := bind_some h; clear h; obtain ⟨o25, hv105, h⟩ := hq_
   have JR107 : ∀ z_, some (Sum.inl z_) = some o25 → some z_ = some rr1 := by
    intro z_ e_; injection e_ with e_; subst e_; exact h
   have J106 : ∀ (f100 : FM) (j104 : Nat → Value) (W102 : World) (a_ : Act), FM.le f f100 → some (Sum.inr ()) = some o25 → St t W102 f100 (H) → a_ = ⟨#[.slice A2 l1.length c3, uV, (j104 0), (j104 1), (j104 2), (j104 3), .slice A2 l1.length c3, iV (l1.length : Int), fV, .slice A2 l1.length c3, iV (l1.length : Int), (j104 4), (j104 5), (j104 6), (j104 7), (j104 8), (j104 9), (j104 10), (j104 11), (j104 12), (j104 13), (j104 14), (j104 15), (j104 16), (j104 17), (j104 18), (j104 19), (j104 20), (j104 21), (j104 22), (j104 23), (j104 24), (j104 25), (j104 26), (j104 27)], []⟩ → K15 a_ W102 := by
    intro f100 j104 W102 a_ L101 hj108 HS103  hfr_; subst hfr_
    injection hj108 with hj108; subst hj108; try dsimp only at h
    simp only [Sum.elim_inr] at h
    refine hK16 _ _ ?_
    refine wp_seq_k fun K111 hK112 => rl ?_
    refine seqL1 kr ?_
    refine nl (hK112 _ _ ?_)
    refine wp_ret ?_
    refine hret _ _ ?_
    refine ends_still (v := Value.int .i64 0) kr kr ?_
    injection h with h
    subst h
    exact ⟨f100, rfl, L101, HS103⟩
   clear h; have h := hv105; clear hv105
   refine loopK (fun n_ a_ w_ => ∃ (f29 : FM) (x34 : Int) (j33 : Nat → Value), FM.le f f29 ∧ St t w_ f29 (H) ∧ catalog_Check.l0 k l1 n_ x34 = some o25 ∧ a_ = ⟨#[.slice A2 l1.length c3, uV, (j33 0), (j33 1), (j33 2), (j33 3), .slice A2 l1.length c3, iV (l1.length : Int), fV, .slice A2 l1.length c3, iV (l1.length : Int), iV x34, (j33 4), (j33 5), (j33 6), (j33 7), (j33 8), (j33 9), (j33 10), (j33 11), (j33 12), (j33 13), (j33 14), (j33 15), (j33 16), (j33 17), (j33 18), (j33 19), (j33 20), (j33 21), (j33 22), (j33 23), (j33 24), (j33 25), (j33 26)], []⟩) k ⟨f, 0, (jL [iV 0]), fL, HS, h, kr⟩ ?_
   clear h
   rintro n28 _ W31 ⟨f29, x34, j33, L30, HS32, h, rfl⟩ K26 hK27
   obtain _ | n28 := n28
   · exact nomatch h
   simp only [catalog_Check.l0] at h
   refine wp_seq_k fun K35 hK36 => rl ?_
   refine seqL1 kr ?_
   refine nl (hK36 _ _ ?_)
   refine wp_seq_k (fun K37 hK38 => ?_)
   have hq_ := ite_some h; clear h; rcases hq_ with ⟨c40, h⟩ | ⟨c40, h⟩
   · have c40 : x34 < (l1.length : Int) := c40
     refine wpRwI 12 kr (decide_eq_true c40) ?_
     refine condT kr ?_
     refine wp_skip ?_
     refine hK38 _ _ ?_
     refine wp_seq_k (fun K41 hK42 => ?_)
     refine blockK (fun B43 hx44 hn45 hr46 ho47 hp48 => ?_)
     refine wp_seq_k fun K50 hK51 => rl ?_
     have hq_ := guard_some h; clear h; obtain ⟨c52, h⟩ := hq_
     have c52 : 0 ≤ x34 := c52
     obtain ⟨b56, of57, cs53, hA58, hr54, hc55⟩ := (HR4.mono L30).at (i := x34) c52 c40
     obtain ⟨A59, c59, rfl, HR59⟩ := hr54
     refine seqL1 kr ?_
     refine seqK rfl (does_run (run_indexE hA58 (sz := 18) rfl Tryz.underlying45 kr (kv (.slice A2 l1.length c3)) (kv (.int .i64 x34)) c52 c40 W31) ?_)
     refine seqK rfl (does_run (run_loadN (n := 18) rfl Tryz.underlying99 rfl kr (kv (.pointer (some ⟨b56, of57 + (x34 : Int).toNat * 18, none⟩))) (cs := [.int .i64 ((rd l1 x34).ID), .int .i64 ((((rd l1 x34).Box).X).Lo), .int .i64 ((((rd l1 x34).Box).X).Hi), .bool ((((rd l1 x34).Box).X).Unknown), .int .i64 ((((rd l1 x34).Box).Y).Lo), .int .i64 ((((rd l1 x34).Box).Y).Hi), .bool ((((rd l1 x34).Box).Y).Unknown), .int .i64 ((((rd l1 x34).Box).Z).Lo), .int .i64 ((((rd l1 x34).Box).Z).Hi), .bool ((((rd l1 x34).Box).Z).Unknown), .int .i64 (((rd l1 x34).Flux).Lo), .int .i64 (((rd l1 x34).Flux).Hi), .bool (((rd l1 x34).Flux).Unknown), .int .i64 (((rd l1 x34).When).Lo), .int .i64 (((rd l1 x34).When).Hi), .bool (((rd l1 x34).When).Unknown), .slice A59 ((rd l1 x34).Frames).length c59, .int .i64 ((rd l1 x34).Marks)]) rfl (fun j_ hj_ => ((hc55 fL HS32) j_ hj_))) ?_)
     refine seqK rfl (does_alloc (z := Value.agg #[.int .i64 0, .int .i64 0, .int .i64 0, .bool false, .int .i64 0, .int .i64 0, .bool false, .int .i64 0, .int .i64 0, .bool false, .int .i64 0, .int .i64 0, .bool false, .int .i64 0, .int .i64 0, .bool false, .slice none 0 0, .int .i64 0]) (cs := #[.int .i64 0, .int .i64 0, .int .i64 0, .bool false, .int .i64 0, .int .i64 0, .bool false, .int .i64 0, .int .i64 0, .bool false, .int .i64 0, .int .i64 0, .bool false, .int .i64 0, .int .i64 0, .bool false, .slice none 0 0, .int .i64 0]) rfl kr rfl HS32 ?_)
     intro b60 W61 HS62
     refine seqL1 kr ?_
     refine seqK rfl (does_storeA (vs := [.int .i64 ((rd l1 x34).ID), .int .i64 ((((rd l1 x34).Box).X).Lo), .int .i64 ((((rd l1 x34).Box).X).Hi), .bool ((((rd l1 x34).Box).X).Unknown), .int .i64 ((((rd l1 x34).Box).Y).Lo), .int .i64 ((((rd l1 x34).Box).Y).Hi), .bool ((((rd l1 x34).Box).Y).Unknown), .int .i64 ((((rd l1 x34).Box).Z).Lo), .int .i64 ((((rd l1 x34).Box).Z).Hi), .bool ((((rd l1 x34).Box).Z).Unknown), .int .i64 (((rd l1 x34).Flux).Lo), .int .i64 (((rd l1 x34).Flux).Hi), .bool (((rd l1 x34).Flux).Unknown), .int .i64 (((rd l1 x34).When).Lo), .int .i64 (((rd l1 x34).When).Hi), .bool (((rd l1 x34).When).Unknown), .slice A59 ((rd l1 x34).Frames).length c59, .int .i64 ((rd l1 x34).Marks)]) rfl kr kr kr rfl (ones rfl) HS62 kr ?_)
     intro W64 HS65
     refine nl (hK51 _ _ ?_)
     refine wp_seq_k (fun K66 hK67 => ?_)
     refine wp_seq_k fun K68 hK69 => rl ?_
     refine seqK rfl (does_run (run_loadN (n := 18) rfl Tryz.underlying99 rfl kr (kv (.pointer (some ⟨b60, 0, none⟩))) (cs := [.int .i64 ((rd l1 x34).ID), .int .i64 ((((rd l1 x34).Box).X).Lo), .int .i64 ((((rd l1 x34).Box).X).Hi), .bool ((((rd l1 x34).Box).X).Unknown), .int .i64 ((((rd l1 x34).Box).Y).Lo), .int .i64 ((((rd l1 x34).Box).Y).Hi), .bool ((((rd l1 x34).Box).Y).Unknown), .int .i64 ((((rd l1 x34).Box).Z).Lo), .int .i64 ((((rd l1 x34).Box).Z).Hi), .bool ((((rd l1 x34).Box).Z).Unknown), .int .i64 (((rd l1 x34).Flux).Lo), .int .i64 (((rd l1 x34).Flux).Hi), .bool (((rd l1 x34).Flux).Unknown), .int .i64 (((rd l1 x34).When).Lo), .int .i64 (((rd l1 x34).When).Hi), .bool (((rd l1 x34).When).Unknown), .slice A59 ((rd l1 x34).Frames).length c59, .int .i64 ((rd l1 x34).Marks)]) rfl (HS65.cells 0 18 _ rfl)) ?_)
     have hq_ := bind_some h; clear h; obtain ⟨vt70, hc71, h⟩ := hq_
     refine seqK rfl (does_call (f := 72) (args := #[.agg #[.int .i64 ((rd l1 x34).ID), .int .i64 ((((rd l1 x34).Box).X).Lo), .int .i64 ((((rd l1 x34).Box).X).Hi), .bool ((((rd l1 x34).Box).X).Unknown), .int .i64 ((((rd l1 x34).Box).Y).Lo), .int .i64 ((((rd l1 x34).Box).Y).Hi), .bool ((((rd l1 x34).Box).Y).Unknown), .int .i64 ((((rd l1 x34).Box).Z).Lo), .int .i64 ((((rd l1 x34).Box).Z).Hi), .bool ((((rd l1 x34).Box).Z).Unknown), .int .i64 (((rd l1 x34).Flux).Lo), .int .i64 (((rd l1 x34).Flux).Hi), .bool (((rd l1 x34).Flux).Unknown), .int .i64 (((rd l1 x34).When).Lo), .int .i64 (((rd l1 x34).When).Hi), .bool (((rd l1 x34).When).Unknown), .slice A59 ((rd l1 x34).Frames).length c59, .int .i64 ((rd l1 x34).Marks)]]) kr (catalog_CheckRow.calls k A59 c59 (rd l1 x34) HS65 HR59 vt70 hc71) ?_)
     rintro _ W74 ⟨f72, rfl, L73, HS75⟩
     refine ⟨_, rfl, ?_⟩
     refine seqL1 kr ?_
     refine nl (hK69 _ _ ?_)
     refine wp_seq_k fun K76 hK77 => rl ?_
     refine seqL2 kr ?_
     refine nl (hK77 _ _ ?_)
     have hq_ := ite_some h; clear h; rcases hq_ with ⟨c79, h⟩ | ⟨c79, h⟩
     · have c79 : vt70 ≠ 0 := c79
       refine wpRwI 19 kr (bne_iff_ne.mpr c79) ?_
       refine condT kr ?_
       refine wp_seq_k fun K80 hK81 => rl ?_
       refine seqL2 kr ?_
       refine nl (hK81 _ _ ?_)
       refine wp_ret ?_
       refine hr46 _ _ ?_
       refine hr22 _ _ ?_
       refine hret _ _ ?_
       refine ends_still (v := Value.int .i64 vt70) kr kr ?_
       have HS113 := HS75.drop
       replace h := JR107 _ h
       injection h with h
       subst h
       exact ⟨f72, rfl, (L30.trans L73), HS113⟩
     · have c79 : ¬ (vt70 ≠ 0) := c79
       refine wpRwI 19 (x := (vt70 != 0)) (v := false) kr (bne_eq_false_iff_eq.mpr (Decidable.of_not_not c79)) ?_
       refine condF kr ?_
       refine wp_skip ?_
       refine hK67 _ _ ?_
       refine wp_seq_k (fun K82 hK83 => ?_)
       refine heldG (S := Sg t f72 ([(b60, .cells #[.int .i64 ((rd l1 x34).ID), .int .i64 ((((rd l1 x34).Box).X).Lo), .int .i64 ((((rd l1 x34).Box).X).Hi), .bool ((((rd l1 x34).Box).X).Unknown), .int .i64 ((((rd l1 x34).Box).Y).Lo), .int .i64 ((((rd l1 x34).Box).Y).Hi), .bool ((((rd l1 x34).Box).Y).Unknown), .int .i64 ((((rd l1 x34).Box).Z).Lo), .int .i64 ((((rd l1 x34).Box).Z).Hi), .bool ((((rd l1 x34).Box).Z).Unknown), .int .i64 (((rd l1 x34).Flux).Lo), .int .i64 (((rd l1 x34).Flux).Hi), .bool (((rd l1 x34).Flux).Unknown), .int .i64 (((rd l1 x34).When).Lo), .int .i64 (((rd l1 x34).When).Hi), .bool (((rd l1 x34).When).Unknown), .slice A59 ((rd l1 x34).Frames).length c59, .int .i64 ((rd l1 x34).Marks)] 99 (0, 0))] :: H) []) (n := 13) kr rfl HS75 ?_
       intro W84 HS85
       refine takeGL [0, 1, 2] (n := 13) (fuel := 10) #[true, true, true, false, false, false, false, false, false, false, false, false, false] rfl kr kr kr (fun ch_ a_ w_ q_ => (fun ch_ a_ w_ q_ => hnp ch_ a_ w_ (hp24 ch_ a_ w_ q_)) ch_ a_ w_ (hp48 ch_ a_ w_ q_)) (Sg.g0 (Sx.of [] fL HS85)) ?_
       have hq_ := ite_some h; clear h; rcases hq_ with ⟨c86, h⟩ | ⟨c86, h⟩
       · have c86 : x34 > 0 := c86
         refine gateRwI 22 (x := (decide (x34 > 0))) (v := true) kr (decide_eq_true c86) ?_
         refine gateRwI 23 (x := (decide (x34 > 0))) (v := true) kr (decide_eq_true c86) ?_
         refine takeGL [3] (n := 10) (fuel := 9) #[true, true, true, true, false, false, false, false, false, false, false, false, false] rfl kr kr kr (fun ch_ a_ w_ q_ => (fun ch_ a_ w_ q_ => hnp ch_ a_ w_ (hp24 ch_ a_ w_ q_)) ch_ a_ w_ (hp48 ch_ a_ w_ q_)) (Sg.g0 (Sx.of [] fL HS85)) ?_
         refine takeGQ 4 [] rfl kr kr kr kr kr kr (fun ch_ a_ w_ q_ => (fun ch_ a_ w_ q_ => hnp ch_ a_ w_ (hp24 ch_ a_ w_ q_)) ch_ a_ w_ (hp48 ch_ a_ w_ q_)) (Sg.g0 (Sx.of [] fL HS85)) (fun w_ hw_ => by obtain ⟨g_, hl_, hS_⟩ := hw_.st; exact run_load rfl Tryz.underlying3 rfl (kv (.pointer (some ⟨b60, 0, none⟩))) (hS_.cell 0)) ?_
         have hq_ := guard_some h; clear h; obtain ⟨c87, h⟩ := hq_
         have c87 : 0 ≤ (w64 (x34 - 1)) := c87
         have hq_ := guard_some h; clear h; obtain ⟨c88, h⟩ := hq_
         have c88 : (w64 (x34 - 1)) < (l1.length : Int) := c88
         obtain ⟨b92, of93, cs89, hA94, hr90, hc91⟩ := (HR4.mono (L30.trans L73)).at (i := w64 (x34 - 1)) c87 c88
         obtain ⟨A95, c95, rfl, HR95⟩ := hr90
         refine takeGL [5, 6, 7] (n := 8) (fuel := 5) #[true, true, true, true, true, true, true, true, false, false, false, false, false] rfl kr kr kr (fun ch_ a_ w_ q_ => (fun ch_ a_ w_ q_ => hnp ch_ a_ w_ (hp24 ch_ a_ w_ q_)) ch_ a_ w_ (hp48 ch_ a_ w_ q_)) (Sg.g0 (Sx.of [] fL HS85)) ?_
         refine takeGQ 8 [] rfl kr kr kr kr kr kr (fun ch_ a_ w_ q_ => (fun ch_ a_ w_ q_ => hnp ch_ a_ w_ (hp24 ch_ a_ w_ q_)) ch_ a_ w_ (hp48 ch_ a_ w_ q_)) (Sg.g0 (Sx.of [] fL HS85)) (fun w_ hw_ => by obtain ⟨g_, hl_, hS_⟩ := hw_.st; exact run_indexE hA94 (sz := 18) rfl Tryz.underlying45 kr (kv (.slice A2 l1.length c3)) (kv (.int .i64 (w64 (x34 - 1)))) c87 c88 w_) ?_
         refine takeGL [9] (n := 4) (fuel := 3) #[true, true, true, true, true, true, true, true, true, true, false, false, false] rfl kr kr kr (fun ch_ a_ w_ q_ => (fun ch_ a_ w_ q_ => hnp ch_ a_ w_ (hp24 ch_ a_ w_ q_)) ch_ a_ w_ (hp48 ch_ a_ w_ q_)) (Sg.g0 (Sx.of [] fL HS85)) ?_
         refine takeGQ 10 [] rfl kr kr kr kr kr kr (fun ch_ a_ w_ q_ => (fun ch_ a_ w_ q_ => hnp ch_ a_ w_ (hp24 ch_ a_ w_ q_)) ch_ a_ w_ (hp48 ch_ a_ w_ q_)) (Sg.g0 (Sx.of [] fL HS85)) (fun w_ hw_ => by obtain ⟨g_, hl_, hS_⟩ := hw_.st; exact run_load rfl Tryz.underlying3 rfl (kv (.pointer (some ⟨b92, of93 + (w64 (x34 - 1) : Int).toNat * 18, none⟩))) ((hc91 hl_ hS_) 0 (by decide))) ?_
         refine takeGL [11, 12] (n := 2) (fuel := 0) #[true, true, true, true, true, true, true, true, true, true, true, true, true] rfl kr kr kr (fun ch_ a_ w_ q_ => (fun ch_ a_ w_ q_ => hnp ch_ a_ w_ (hp24 ch_ a_ w_ q_)) ch_ a_ w_ (hp48 ch_ a_ w_ q_)) (Sg.g0 (Sx.of [] fL HS85)) ?_
         refine doneG kr ?_ _
         refine hK83 _ _ ?_
         have hq_ := ite_some h; clear h; rcases hq_ with ⟨c97, h⟩ | ⟨c97, h⟩
         · have c97 : ((rd l1 x34).ID) ≤ ((rd l1 (w64 (x34 - 1))).ID) := c97
           refine wpRwI 32 kr (decide_eq_true c97) ?_
           refine wpRwI 33 kr (decide_eq_true c97) ?_
           refine condT kr ?_
           refine wp_seq_k fun K98 hK99 => rl ?_
           refine seqL1 kr ?_
           refine nl (hK99 _ _ ?_)
           refine wp_ret ?_
           refine hr46 _ _ ?_
           refine hr22 _ _ ?_
           refine hret _ _ ?_
           refine ends_still (v := Value.int .i64 11) kr kr ?_
           have HS114 := HS85.drop
           replace h := JR107 _ h
           injection h with h
           subst h
           exact ⟨f72, rfl, (L30.trans L73), HS114⟩
         · have c97 : ¬ (((rd l1 x34).ID) ≤ ((rd l1 (w64 (x34 - 1))).ID)) := c97
           refine wpRwI 32 kr (decide_eq_false c97) ?_
           refine wpRwI 33 kr (decide_eq_false c97) ?_
           refine condF kr ?_
           refine wp_skip ?_
           refine hn45 _ _ ?_
           refine hK42 _ _ ?_
           refine rl ?_
           refine seqL2 kr ?_
           refine nl ?_
           refine hK27 n28 _ _ (Nat.lt_succ_self _) ?_
           have HS109 := HS85.drop
           exact ⟨f72, (w64 (x34 + 1)), (jL [(j33 0), iV x34, .pointer (some ⟨b60, 0, none⟩), iV vt70, tV, iV x34, .pointer (some ⟨b56, of57 + (x34 : Int).toNat * 18, none⟩), (ag_Row (rd l1 x34) A59 c59), (ag_Row (rd l1 x34) A59 c59), iV vt70, iV vt70, fV, (j33 12), iV x34, tV, tV, .pointer (some ⟨b60, 0, none⟩), iV ((rd l1 x34).ID), .slice A2 l1.length c3, iV x34, iV (w64 (x34 - 1)), .pointer (some ⟨b92, of93 + (w64 (x34 - 1) : Int).toNat * 18, none⟩), .pointer (some ⟨b92, of93 + (w64 (x34 - 1) : Int).toNat * 18, none⟩), iV ((rd l1 (w64 (x34 - 1))).ID), fV, fV, iV (w64 (x34 + 1))]), (L30.trans L73), HS109, h, kr⟩
       · have c86 : ¬ (x34 > 0) := c86
         refine gateRwI 22 (x := (decide (x34 > 0))) (v := false) kr (decide_eq_false c86) ?_
         refine gateRwI 23 (x := (decide (x34 > 0))) (v := false) kr (decide_eq_false c86) ?_
         refine takeGL [3, 4, 5, 6, 7, 8, 9, 10, 11, 12] (n := 10) (fuel := 0) #[true, true, true, true, true, true, true, true, true, true, true, true, true] rfl kr kr kr (fun ch_ a_ w_ q_ => (fun ch_ a_ w_ q_ => hnp ch_ a_ w_ (hp24 ch_ a_ w_ q_)) ch_ a_ w_ (hp48 ch_ a_ w_ q_)) (Sg.g0 (Sx.of [] fL HS85)) ?_
         refine doneG kr ?_ _
         refine hK83 _ _ ?_
         refine condF kr ?_
         refine wp_skip ?_
         refine hn45 _ _ ?_
         refine hK42 _ _ ?_
         refine rl ?_
         refine seqL2 kr ?_
         refine nl ?_
         refine hK27 n28 _ _ (Nat.lt_succ_self _) ?_
         have HS110 := HS85.drop
         exact ⟨f72, (w64 (x34 + 1)), (jL [(j33 0), iV x34, .pointer (some ⟨b60, 0, none⟩), iV vt70, tV, iV x34, .pointer (some ⟨b56, of57 + (x34 : Int).toNat * 18, none⟩), (ag_Row (rd l1 x34) A59 c59), (ag_Row (rd l1 x34) A59 c59), iV vt70, iV vt70, fV, (j33 12), iV x34, fV, fV, uV, uV, uV, uV, uV, uV, uV, uV, uV, fV, iV (w64 (x34 + 1))]), (L30.trans L73), HS110, h, kr⟩
   · have c40 : ¬ (x34 < (l1.length : Int)) := c40
     refine wpRwI 12 kr (decide_eq_false c40) ?_
     refine condF kr ?_
     refine wp_exit ?_
     refine hx20 _ _ ?_
     exact J106 f29 (jL [(j33 0), (j33 1), (j33 2), (j33 3), iV x34, fV, (j33 5), (j33 6), (j33 7), (j33 8), (j33 9), (j33 10), (j33 11), (j33 12), (j33 13), (j33 14), (j33 15), (j33 16), (j33 17), (j33 18), (j33 19), (j33 20), (j33 21), (j33 22), (j33 23), (j33 24), (j33 25), (j33 26)]) W31 _ L30 h HS32 kr

set_option maxRecDepth 100000 in
set_option maxHeartbeats 4000000 in
theorem slices_Clone_Row.calls (k : Nat) (A2 : Option Addr) (c3 : Nat) (s1 : List S_Row) {t w : World} {f : FM} {H : List Seg} (HS : St t w f (H)) (HR4 : SlR ty_Row f A2 c3 s1) (rr1 : List S_Row) (h : slices_Clone_Row k s1 = some rr1) :
    Calls Tryz.prog 75 #[.slice A2 s1.length c3] w (fun e w' => ∃ (g : FM) (A31 : Option Addr) (c32 : Nat) (s33 : Seg), e = .returned (Value.slice A31 rr1.length c32) ∧ FM.le f g ∧ St t w' g (s33 :: H) ∧ Own ty_Row 99 g A31 c32 s33 rr1) := by
 unfold slices_Clone_Row at h
 refine enter Tryz.func75 rfl (tm := #[.slice A2 s1.length c3, uV, uV, uV, uV, uV, uV, uV]) kr ?_
 intro B hret hnor hnp
 refine wp_seq_k fun K5 hK6 => rl ?_
 refine seqL1 kr ?_
 refine nl (hK6 _ _ ?_)
 refine wp_seq_k (fun K7 hK8 => ?_)
 refine wp_seq_k fun K9 hK10 => rl ?_
 refine seqL1 kr ?_
 obtain _ | ad11 := A2
 · obtain rfl := HR4.nil_eq
   have hq_ := guard_some h; clear h; obtain ⟨_, h⟩ := hq_
   refine seqL1 kr ?_
   refine nl (hK10 _ _ ?_)
   refine condT kr ?_
   refine wp_seq_k fun K27 hK28 => rl ?_
   refine seqL1 kr ?_
   refine nl (hK28 _ _ ?_)
   refine wp_ret ?_
   refine hret _ _ ?_
   have HS29 := HS.cons_nil
   refine ends_still (v := Value.slice none 0 0) kr kr ?_
   injection h with h
   subst h
   exact ⟨f, none, 0, [], rfl, FM.le.refl _, HS29, (Own.nil _)⟩
 · refine seqL1 kr ?_
   refine nl (hK10 _ _ ?_)
   refine condF kr ?_
   refine wp_skip ?_
   refine hK8 _ _ ?_
   refine wp_seq_k fun K12 hK13 => rl ?_
   refine seqK rfl (does_lit (e := ty_Row) (E := 99) (vs := #[]) (cs := #[]) (xs := ([] : List S_Row)) rfl Tryz.underlying45 kr kr rfl rfl HS ?_ (by decide))
   intro b14 W15 s16 HS17 _ HO18
   have hq_ := guard_some h; clear h; obtain ⟨c20, h⟩ := hq_
   have c20 : (([] : List S_Row).length + s1.length) * 160 ≤ 140737488355328 := c20
   refine seqL1 kr ?_
   refine seqK rfl (does_append (e := ty_Row) (E := 99) (xs := ([] : List S_Row)) (ys := s1) rfl (kv (.slice (some ⟨b14, 0, none⟩) ([] : List S_Row).length 0)) (kv (.slice (some ad11) s1.length c3)) Tryz.underlying45 inf99 HO18 HS17 (HR4.rc HS17) c20 (lim63 c20 (by decide)) ?_)
   intro A21 c22 s23 W24 HS25 HO26
   refine seqL1 kr ?_
   refine nl (hK13 _ _ ?_)
   refine wp_ret ?_
   refine hret _ _ ?_
   refine ends_still (v := Value.slice A21 (([] : List S_Row) ++ s1).length c22) kr kr ?_
   injection h with h
   subst h
   exact ⟨f, A21, c22, s23, rfl, FM.le.refl _, HS25, HO26⟩

set_option maxRecDepth 100000 in
set_option maxHeartbeats 4000000 in
theorem slices_Clone_int.calls (k : Nat) (A2 : Option Addr) (c3 : Nat) (s1 : List Int) {t w : World} {f : FM} {H : List Seg} (HS : St t w f (H)) (HR4 : SlR (tInt .i64) f A2 c3 s1) (rr1 : List Int) (h : slices_Clone_int k s1 = some rr1) :
    Calls Tryz.prog 76 #[.slice A2 s1.length c3] w (fun e w' => ∃ (g : FM) (A31 : Option Addr) (c32 : Nat) (s33 : Seg), e = .returned (Value.slice A31 rr1.length c32) ∧ FM.le f g ∧ St t w' g (s33 :: H) ∧ Own (tInt .i64) 3 g A31 c32 s33 rr1) := by
 unfold slices_Clone_int at h
 refine enter Tryz.func76 rfl (tm := #[.slice A2 s1.length c3, uV, uV, uV, uV, uV, uV, uV]) kr ?_
 intro B hret hnor hnp
 refine wp_seq_k fun K5 hK6 => rl ?_
 refine seqL1 kr ?_
 refine nl (hK6 _ _ ?_)
 refine wp_seq_k (fun K7 hK8 => ?_)
 refine wp_seq_k fun K9 hK10 => rl ?_
 refine seqL1 kr ?_
 obtain _ | ad11 := A2
 · obtain rfl := HR4.nil_eq
   have hq_ := guard_some h; clear h; obtain ⟨_, h⟩ := hq_
   refine seqL1 kr ?_
   refine nl (hK10 _ _ ?_)
   refine condT kr ?_
   refine wp_seq_k fun K27 hK28 => rl ?_
   refine seqL1 kr ?_
   refine nl (hK28 _ _ ?_)
   refine wp_ret ?_
   refine hret _ _ ?_
   have HS29 := HS.cons_nil
   refine ends_still (v := Value.slice none 0 0) kr kr ?_
   injection h with h
   subst h
   exact ⟨f, none, 0, [], rfl, FM.le.refl _, HS29, (Own.nil _)⟩
 · refine seqL1 kr ?_
   refine nl (hK10 _ _ ?_)
   refine condF kr ?_
   refine wp_skip ?_
   refine hK8 _ _ ?_
   refine wp_seq_k fun K12 hK13 => rl ?_
   refine seqK rfl (does_lit (e := (tInt .i64)) (E := 3) (vs := #[]) (cs := #[]) (xs := ([] : List Int)) rfl Tryz.underlying22 kr kr rfl rfl HS ?_ (by decide))
   intro b14 W15 s16 HS17 _ HO18
   have hq_ := guard_some h; clear h; obtain ⟨c20, h⟩ := hq_
   have c20 : (([] : List Int).length + s1.length) * 8 ≤ 140737488355328 := c20
   refine seqL1 kr ?_
   refine seqK rfl (does_append (e := (tInt .i64)) (E := 3) (xs := ([] : List Int)) (ys := s1) rfl (kv (.slice (some ⟨b14, 0, none⟩) ([] : List Int).length 0)) (kv (.slice (some ad11) s1.length c3)) Tryz.underlying22 inf3 HO18 HS17 (HR4.rc HS17) c20 (lim63 c20 (by decide)) ?_)
   intro A21 c22 s23 W24 HS25 HO26
   refine seqL1 kr ?_
   refine nl (hK13 _ _ ?_)
   refine wp_ret ?_
   refine hret _ _ ?_
   refine ends_still (v := Value.slice A21 (([] : List Int) ++ s1).length c22) kr kr ?_
   injection h with h
   subst h
   exact ⟨f, A21, c22, s23, rfl, FM.le.refl _, HS25, HO26⟩

set_option maxRecDepth 100000 in
set_option maxHeartbeats 4000000 in
theorem catalog_Copy.calls (k : Nat) (A2 : Option Addr) (c3 : Nat) (l1 : List S_Row) {t w : World} {f : FM} {H : List Seg} (HS : St t w f (H)) (HR4 : SlR ty_Row f A2 c3 l1) (rr1 : List S_Row) (h : catalog_Copy k l1 = some rr1) :
    Calls Tryz.prog 45 #[.slice A2 l1.length c3] w (fun e w' => ∃ (g : FM) (A157 : Option Addr) (c158 : Nat) (s159 : Seg), e = .returned (Value.slice A157 rr1.length c158) ∧ FM.le f g ∧ St t w' g (s159 :: H) ∧ Own ty_Row 99 g A157 c158 s159 rr1) := by
 unfold catalog_Copy at h
 refine enter Tryz.func45 rfl (tm := #[.slice A2 l1.length c3, uV, uV, uV, uV, uV, uV, uV, uV, uV, uV, uV, uV, uV, uV, uV, uV, uV, uV, uV, uV, uV, uV, uV]) kr ?_
 intro B hret hnor hnp
 refine wp_seq_k fun K5 hK6 => rl ?_
 refine seqL1 kr ?_
 refine nl (hK6 _ _ ?_)
 refine wp_seq_k fun K7 hK8 => rl ?_
 have hq_ := bind_some h; clear h; obtain ⟨vt9, hc10, h⟩ := hq_
 refine seqL1 kr ?_
 refine seqK rfl (does_call (f := 75) (args := #[.slice A2 l1.length c3]) kr (slices_Clone_Row.calls k A2 c3 l1 HS HR4 vt9 hc10) ?_)
 rintro _ W13 ⟨f11, A15, c16, s17, rfl, L12, HS14, HO18⟩
 refine ⟨_, rfl, ?_⟩
 refine seqL1 kr ?_
 refine nl (hK8 _ _ ?_)
 refine wp_seq_k (fun K20 hK21 => ?_)
 refine wp_seq_k fun K22 hK23 => rl ?_
 refine seqL3 kr ?_
 refine nl (hK23 _ _ ?_)
 refine blockK (fun B24 hx25 hn26 hr27 ho28 hp29 => ?_)
 have hq_ := bind_some h; clear h; obtain ⟨o84, hv152, h⟩ := hq_
 have J153 : ∀ (f143 : FM) (s149 : Seg) (out148 : List S_Row) (j147 : Nat → Value) (W145 : World) (a_ : Act), FM.le f11 f143 → some (out148) = some o84 → St t W145 f143 (s149 :: H) → Own ty_Row 99 f143 A15 c16 s149 out148 → out148.length = vt9.length → a_ = ⟨#[.slice A2 l1.length c3, uV, .slice none 0 0, .slice A15 out148.length c16, (j147 0), .slice A2 l1.length c3, (j147 1), (j147 2), iV (vt9.length : Int), (j147 3), (j147 4), (j147 5), (j147 6), (j147 7), (j147 8), (j147 9), (j147 10), (j147 11), (j147 12), (j147 13), (j147 14), (j147 15), (j147 16), uV], []⟩ → K20 a_ W145 := by
  intro f143 s149 out148 j147 W145 a_ L144 hj154 HS146 HO150 HL151 hfr_; subst hfr_
  injection hj154 with hj154; subst hj154; try dsimp only at h
  refine hK21 _ _ ?_
  refine wp_seq_k fun K155 hK156 => rl ?_
  refine seqL2 kr ?_
  refine nl (hK156 _ _ ?_)
  refine wp_ret ?_
  refine hret _ _ ?_
  refine ends_still (v := Value.slice A15 out148.length c16) kr kr ?_
  injection h with h
  subst h
  exact ⟨f143, A15, c16, s149, rfl, (L12.trans L144), HS146, HO150⟩
 clear h; have h := hv152; clear hv152
 refine loopK (fun n_ a_ w_ => ∃ (f88 : FM) (s94 : Seg) (out93 : List S_Row) (x97 : Int) (j92 : Nat → Value), FM.le f11 f88 ∧ St t w_ f88 (s94 :: H) ∧ Own ty_Row 99 f88 A15 c16 s94 out93 ∧ out93.length = vt9.length ∧ catalog_Copy.l0 k vt9 n_ out93 x97 = some o84 ∧ a_ = ⟨#[.slice A2 l1.length c3, uV, .slice none 0 0, .slice A15 out93.length c16, (j92 0), .slice A2 l1.length c3, .slice A15 vt9.length c16, .slice A15 vt9.length c16, iV (vt9.length : Int), iV x97, (j92 1), (j92 2), (j92 3), (j92 4), (j92 5), (j92 6), (j92 7), (j92 8), (j92 9), (j92 10), (j92 11), (j92 12), (j92 13), uV], []⟩) k ⟨f11, s17, vt9, 0, (jL []), fL, HS14, HO18, rfl, h, kr⟩ ?_
 clear h
 rintro n87 _ W90 ⟨f88, s94, out93, x97, j92, L89, HS91, HO95, HL96, h, rfl⟩ K85 hK86
 obtain _ | n87 := n87
 · exact nomatch h
 simp only [catalog_Copy.l0] at h
 refine wp_seq_k fun K98 hK99 => rl ?_
 refine seqL1 kr ?_
 refine nl (hK99 _ _ ?_)
 refine wp_seq_k (fun K100 hK101 => ?_)
 have hq_ := ite_some h; clear h; rcases hq_ with ⟨c103, h⟩ | ⟨c103, h⟩
 · have c103 : x97 < (vt9.length : Int) := c103
   refine wpRwI 10 kr (decide_eq_true c103) ?_
   refine condT kr ?_
   refine wp_skip ?_
   refine hK101 _ _ ?_
   refine wp_seq_k (fun K104 hK105 => ?_)
   refine blockK (fun B106 hx107 hn108 hr109 ho110 hp111 => ?_)
   refine wp_seq_k fun K113 hK114 => rl ?_
   refine seqL2 kr ?_
   refine nl (hK114 _ _ ?_)
   refine rl ?_
   have hq_ := guard_some h; clear h; obtain ⟨c115, h⟩ := hq_
   have c115 : 0 ≤ x97 := c115
   have hq_ := guard_some h; clear h; obtain ⟨c116, h⟩ := hq_
   have c116 : x97 < (out93.length : Int) := c116
   obtain ⟨b120, of121, cs117, hA122, hr118, hc119⟩ := HO95.at (i := x97) c115 c116
   obtain ⟨A123, c123, rfl, HR123⟩ := hr118
   refine seqL4 kr ?_
   refine seqK rfl (does_run (run_indexE hA122 (sz := 18) rfl Tryz.underlying45 kr (kv (.slice A15 out93.length c16)) (kv (.int .i64 x97)) c115 c116 W90) ?_)
   refine seqL1 kr ?_
   refine seqK rfl (does_run (run_load rfl Tryz.underlying22 rfl (kv (.pointer (some ⟨b120, of121 + (x97 : Int).toNat * 18 + 16, none⟩))) ((hc119 HS91) 16 (by decide))) ?_)
   have hq_ := bind_some h; clear h; obtain ⟨vt124, hc125, h⟩ := hq_
   refine seqK rfl (does_call (f := 76) (args := #[.slice A123 ((rd out93 x97).Frames).length c123]) kr (slices_Clone_int.calls k A123 c123 ((rd out93 x97).Frames) HS91 HR123 vt124 hc125) ?_)
   rintro _ W128 ⟨f126, A130, c131, s132, rfl, L127, HS129, HO133⟩
   refine ⟨_, rfl, ?_⟩
   refine seqK rfl (does_run (run_indexE hA122 (sz := 18) rfl Tryz.underlying45 kr (kv (.slice A15 out93.length c16)) (kv (.int .i64 x97)) c115 c116 W128) ?_)
   obtain ⟨f135, L136, HS137, HR138⟩ := HO133.freeze HS129
   refine seqL1 kr ?_
   refine seqK rfl (does_putP (e := ty_Row) (E := 99) (fo := 16) (vs := [.slice A130 vt124.length c131]) (u := (⟨(rd out93 x97).ID, ((rd out93 x97).Box), ((rd out93 x97).Flux), ((rd out93 x97).When), vt124, (rd out93 x97).Marks⟩ : S_Row)) (i := x97) rfl kr (HO95.mono (L127.trans L136)) HS137 hA122 (kv (.pointer (some ⟨b120, of121 + (x97 : Int).toNat * 18 + 16, none⟩))) (kv (.slice A130 vt124.length c131)) rfl rfl (ones rfl) (u0 := (rd out93 x97)) ⟨A123, c123, rfl, (HR123.mono (L127.trans L136))⟩ rfl ⟨A130, c131, rfl, HR138⟩ (Nat.le_of_ble_eq_true rfl) (hc119 HS137) c115 c116 ?_)
   intro W139 s140 HS141 HO142
   refine seqRwS 3 (A := A15) (m := out93.length) (n := (out93.set (x97).toNat (⟨(rd out93 x97).ID, ((rd out93 x97).Box), ((rd out93 x97).Flux), ((rd out93 x97).When), vt124, (rd out93 x97).Marks⟩ : S_Row)).length) (c := c16) kr (List.length_set).symm ?_
   refine seqRwS 12 (A := A15) (m := out93.length) (n := (out93.set (x97).toNat (⟨(rd out93 x97).ID, ((rd out93 x97).Box), ((rd out93 x97).Flux), ((rd out93 x97).When), vt124, (rd out93 x97).Marks⟩ : S_Row)).length) (c := c16) kr (List.length_set).symm ?_
   refine seqRwS 14 (A := A15) (m := out93.length) (n := (out93.set (x97).toNat (⟨(rd out93 x97).ID, ((rd out93 x97).Box), ((rd out93 x97).Flux), ((rd out93 x97).When), vt124, (rd out93 x97).Marks⟩ : S_Row)).length) (c := c16) kr (List.length_set).symm ?_
   refine nl ?_
   refine hn108 _ _ ?_
   refine hK105 _ _ ?_
   refine rl ?_
   refine seqL2 kr ?_
   refine nl ?_
   refine hK86 n87 _ _ (Nat.lt_succ_self _) ?_
   exact ⟨f135, s140, (out93.set (x97).toNat (⟨(rd out93 x97).ID, ((rd out93 x97).Box), ((rd out93 x97).Flux), ((rd out93 x97).When), vt124, (rd out93 x97).Marks⟩ : S_Row)), (w64 (x97 + 1)), (jL [iV x97, tV, iV x97, .slice A15 (out93.set (x97).toNat (⟨(rd out93 x97).ID, ((rd out93 x97).Box), ((rd out93 x97).Flux), ((rd out93 x97).When), vt124, (rd out93 x97).Marks⟩ : S_Row)).length c16, iV x97, .slice A15 (out93.set (x97).toNat (⟨(rd out93 x97).ID, ((rd out93 x97).Box), ((rd out93 x97).Flux), ((rd out93 x97).When), vt124, (rd out93 x97).Marks⟩ : S_Row)).length c16, iV x97, .pointer (some ⟨b120, of121 + (x97 : Int).toNat * 18, none⟩), .pointer (some ⟨b120, of121 + (x97 : Int).toNat * 18 + 16, none⟩), .slice A123 ((rd out93 x97).Frames).length c123, .slice A130 vt124.length c131, .pointer (some ⟨b120, of121 + (x97 : Int).toNat * 18, none⟩), .pointer (some ⟨b120, of121 + (x97 : Int).toNat * 18 + 16, none⟩), iV (w64 (x97 + 1))]), (L89.trans (L127.trans L136)), HS141, HO142, (List.length_set.trans HL96), h, kr⟩
 · have c103 : ¬ (x97 < (vt9.length : Int)) := c103
   refine wpRwI 10 kr (decide_eq_false c103) ?_
   refine condF kr ?_
   refine wp_exit ?_
   refine hx25 _ _ ?_
   exact J153 f88 s94 out93 (jL [(j92 0), .slice A15 vt9.length c16, .slice A15 vt9.length c16, iV x97, fV, (j92 2), (j92 3), (j92 4), (j92 5), (j92 6), (j92 7), (j92 8), (j92 9), (j92 10), (j92 11), (j92 12), (j92 13)]) W90 _ L89 h HS91 HO95 HL96 kr

set_option maxRecDepth 100000 in
set_option maxHeartbeats 4000000 in
theorem query_sides.calls (k : Nat)  (b1 : S_Box) {t w : World} {f : FM} {H : List Seg} (HS : St t w f (H)) (rr1 : List S_Bound) (rr2 : Bool) (h : query_sides k b1 = some (rr1, rr2)) :
    Calls Tryz.prog 31 #[.agg #[.int .i64 b1.X.Lo, .int .i64 b1.X.Hi, .bool b1.X.Unknown, .int .i64 b1.Y.Lo, .int .i64 b1.Y.Hi, .bool b1.Y.Unknown, .int .i64 b1.Z.Lo, .int .i64 b1.Z.Hi, .bool b1.Z.Unknown]] w (fun e w' => ∃ (g : FM), e = .returned (Value.tuple #[.agg #[.int .i64 ((rr1.getD 0 default).Lo), .int .i64 ((rr1.getD 0 default).Hi), .bool ((rr1.getD 0 default).Unknown), .int .i64 ((rr1.getD 1 default).Lo), .int .i64 ((rr1.getD 1 default).Hi), .bool ((rr1.getD 1 default).Unknown), .int .i64 ((rr1.getD 2 default).Lo), .int .i64 ((rr1.getD 2 default).Hi), .bool ((rr1.getD 2 default).Unknown)], .bool rr2]) ∧ FM.le f g ∧ St t w' g (H)) := by
 unfold query_sides at h
 refine enter Tryz.func31 rfl (tm := #[(ag_Box b1), uV, uV, uV, uV, uV, uV, uV, uV, uV, uV, uV, uV, uV, uV, uV, uV, uV, uV, uV, uV, uV, uV, uV, uV, uV, uV, uV, uV, uV, uV, uV, uV, uV, uV, uV, uV, uV, uV, uV]) kr ?_
 intro B hret hnor hnp
 refine wp_seq_k fun K2 hK3 => rl ?_
 refine seqK rfl (does_box (cs := #[.int .i64 b1.X.Lo, .int .i64 b1.X.Hi, .bool b1.X.Unknown, .int .i64 b1.Y.Lo, .int .i64 b1.Y.Hi, .bool b1.Y.Unknown, .int .i64 b1.Z.Lo, .int .i64 b1.Z.Hi, .bool b1.Z.Unknown]) rfl (kv (.agg #[.int .i64 b1.X.Lo, .int .i64 b1.X.Hi, .bool b1.X.Unknown, .int .i64 b1.Y.Lo, .int .i64 b1.Y.Hi, .bool b1.Y.Unknown, .int .i64 b1.Z.Lo, .int .i64 b1.Z.Hi, .bool b1.Z.Unknown])) rfl HS ?_)
 intro b4 W5 HS6
 refine seqK rfl (does_alloc (z := Value.agg #[.int .i64 0, .int .i64 0, .bool false, .int .i64 0, .int .i64 0, .bool false, .int .i64 0, .int .i64 0, .bool false]) (cs := #[.int .i64 0, .int .i64 0, .bool false, .int .i64 0, .int .i64 0, .bool false, .int .i64 0, .int .i64 0, .bool false]) rfl kr rfl HS6 ?_)
 intro b8 W9 HS10
 refine seqL1 kr ?_
 refine nl (hK3 _ _ ?_)
 refine wp_seq_k fun K12 hK13 => rl ?_
 refine seqL1 kr ?_
 refine seqK rfl (does_run (run_loadN (n := 3) rfl Tryz.underlying29 rfl kr (kv (.pointer (some ⟨b4, 0, none⟩))) (cs := [.int .i64 b1.X.Lo, .int .i64 b1.X.Hi, .bool b1.X.Unknown]) rfl (HS10.u1.cells 0 3 _ rfl)) ?_)
 refine seqL1 kr ?_
 refine seqK rfl (does_run (run_loadN (n := 3) rfl Tryz.underlying29 rfl kr (kv (.pointer (some ⟨b4, 3, none⟩))) (cs := [.int .i64 b1.Y.Lo, .int .i64 b1.Y.Hi, .bool b1.Y.Unknown]) rfl (HS10.u1.cells 3 3 _ rfl)) ?_)
 refine seqL1 kr ?_
 refine seqK rfl (does_run (run_loadN (n := 3) rfl Tryz.underlying29 rfl kr (kv (.pointer (some ⟨b4, 6, none⟩))) (cs := [.int .i64 b1.Z.Lo, .int .i64 b1.Z.Hi, .bool b1.Z.Unknown]) rfl (HS10.u1.cells 6 3 _ rfl)) ?_)
 refine seqL1 kr ?_
 refine seqK rfl (does_alloc (z := Value.agg #[.int .i64 0, .int .i64 0, .bool false, .int .i64 0, .int .i64 0, .bool false, .int .i64 0, .int .i64 0, .bool false]) (cs := #[.int .i64 0, .int .i64 0, .bool false, .int .i64 0, .int .i64 0, .bool false, .int .i64 0, .int .i64 0, .bool false]) rfl kr rfl HS10 ?_)
 intro b14 W15 HS16
 refine seqK rfl (does_storeA (vs := [.int .i64 b1.X.Lo, .int .i64 b1.X.Hi, .bool b1.X.Unknown, .int .i64 b1.Y.Lo, .int .i64 b1.Y.Hi, .bool b1.Y.Unknown, .int .i64 b1.Z.Lo, .int .i64 b1.Z.Hi, .bool b1.Z.Unknown]) rfl kr kr kr rfl (ones rfl) HS16 kr ?_)
 intro W18 HS19
 refine nl (hK13 _ _ ?_)
 refine wp_seq_k (fun K20 hK21 => ?_)
 refine wp_seq_k fun K22 hK23 => rl ?_
 refine seqK rfl (does_run (run_loadN (n := 9) rfl Tryz.underlying81 rfl kr (kv (.pointer (some ⟨b14, 0, none⟩))) (cs := [.int .i64 b1.X.Lo, .int .i64 b1.X.Hi, .bool b1.X.Unknown, .int .i64 b1.Y.Lo, .int .i64 b1.Y.Hi, .bool b1.Y.Unknown, .int .i64 b1.Z.Lo, .int .i64 b1.Z.Hi, .bool b1.Z.Unknown]) rfl (HS19.cells 0 9 _ rfl)) ?_)
 refine seqL1 kr ?_
 refine nl (hK23 _ _ ?_)
 refine blockK (fun B24 hx25 hn26 hr27 ho28 hp29 => ?_)
 have hq_ := bind_some h; clear h; obtain ⟨o30, hv96, h⟩ := hq_
 have JR98 : ∀ z_, some (Sum.inl z_) = some o30 → some z_ = some (rr1, rr2) := by
  intro z_ e_; injection e_ with e_; subst e_; exact h
 have J97 : ∀ (f91 : FM) (j95 : Nat → Value) (W93 : World) (a_ : Act), FM.le f f91 → some (Sum.inr ()) = some o30 → St t W93 f91 ([(b14, .cells #[.int .i64 b1.X.Lo, .int .i64 b1.X.Hi, .bool b1.X.Unknown, .int .i64 b1.Y.Lo, .int .i64 b1.Y.Hi, .bool b1.Y.Unknown, .int .i64 b1.Z.Lo, .int .i64 b1.Z.Hi, .bool b1.Z.Unknown] 81 (0, 0))] :: [(b8, .cells #[.int .i64 0, .int .i64 0, .bool false, .int .i64 0, .int .i64 0, .bool false, .int .i64 0, .int .i64 0, .bool false] 81 (0, 0))] :: [(b4, .cells #[.int .i64 b1.X.Lo, .int .i64 b1.X.Hi, .bool b1.X.Unknown, .int .i64 b1.Y.Lo, .int .i64 b1.Y.Hi, .bool b1.Y.Unknown, .int .i64 b1.Z.Lo, .int .i64 b1.Z.Hi, .bool b1.Z.Unknown] 31 (0, 0))] :: H) → a_ = ⟨#[(ag_Box b1), pV b4 0, pV b8 0, (j95 0), pV b14 0, uV, (j95 1), pV b4 0, (ag_Bound b1.X), pV b4 3, (ag_Bound b1.Y), pV b4 6, (ag_Bound b1.Z), .agg #[iV b1.X.Lo, iV b1.X.Hi, .bool b1.X.Unknown, iV b1.Y.Lo, iV b1.Y.Hi, .bool b1.Y.Unknown, iV b1.Z.Lo, iV b1.Z.Hi, .bool b1.Z.Unknown], .agg #[iV b1.X.Lo, iV b1.X.Hi, .bool b1.X.Unknown, iV b1.Y.Lo, iV b1.Y.Hi, .bool b1.Y.Unknown, iV b1.Z.Lo, iV b1.Z.Hi, .bool b1.Z.Unknown], (j95 2), (j95 3), (j95 4), (j95 5), (j95 6), (j95 7), (j95 8), (j95 9), (j95 10), (j95 11), (j95 12), (j95 13), (j95 14), (j95 15), (j95 16), (j95 17), (j95 18), (j95 19), (j95 20), (j95 21), (j95 22), (j95 23), (j95 24), (j95 25), uV], []⟩ → K20 a_ W93 := by
  intro f91 j95 W93 a_ L92 hj99 HS94  hfr_; subst hfr_
  injection hj99 with hj99; subst hj99; try dsimp only at h
  simp only [Sum.elim_inr] at h
  refine hK21 _ _ ?_
  refine wp_seq_k fun K105 hK106 => rl ?_
  refine seqK rfl (does_run (run_loadN (n := 9) rfl Tryz.underlying81 rfl kr (kv (.pointer (some ⟨b14, 0, none⟩))) (cs := [.int .i64 b1.X.Lo, .int .i64 b1.X.Hi, .bool b1.X.Unknown, .int .i64 b1.Y.Lo, .int .i64 b1.Y.Hi, .bool b1.Y.Unknown, .int .i64 b1.Z.Lo, .int .i64 b1.Z.Hi, .bool b1.Z.Unknown]) rfl (HS94.cells 0 9 _ rfl)) ?_)
  have HS107 := HS94.u1
  refine seqK rfl (does_storeA (vs := [.int .i64 b1.X.Lo, .int .i64 b1.X.Hi, .bool b1.X.Unknown, .int .i64 b1.Y.Lo, .int .i64 b1.Y.Hi, .bool b1.Y.Unknown, .int .i64 b1.Z.Lo, .int .i64 b1.Z.Hi, .bool b1.Z.Unknown]) rfl kr kr kr rfl (ones rfl) HS107 kr ?_)
  intro W108 HS109
  refine seqL1 kr ?_
  refine nl (hK106 _ _ ?_)
  refine wp_ret ?_
  refine hret _ _ ?_
  refine ends (v := Value.tuple #[.agg #[.int .i64 b1.X.Lo, .int .i64 b1.X.Hi, .bool b1.X.Unknown, .int .i64 b1.Y.Lo, .int .i64 b1.Y.Hi, .bool b1.Y.Unknown, .int .i64 b1.Z.Lo, .int .i64 b1.Z.Hi, .bool b1.Z.Unknown], .bool true]) (results2 (q1 := .cell 2 81) (q2 := .tmp 3) kr (resN (n := 9) (cs := [.int .i64 b1.X.Lo, .int .i64 b1.X.Hi, .bool b1.X.Unknown, .int .i64 b1.Y.Lo, .int .i64 b1.Y.Hi, .bool b1.Y.Unknown, .int .i64 b1.Z.Lo, .int .i64 b1.Z.Hi, .bool b1.Z.Unknown]) (kv (.pointer (some ⟨b8, 0, none⟩))) Tryz.underlying81 rfl kr rfl (HS109.cells 0 9 _ rfl)) (resT (kv (.bool true)))) kr ?_
  have HS126 := HS109.drop
  have HS127 := HS126.drop
  have HS128 := HS127.drop
  injection h with h
  injection h with h0_ h
  subst h0_ h
  exact ⟨f91, rfl, L92, HS128⟩
 clear h; have h := hv96; clear hv96
 refine loopK (fun n_ a_ w_ => ∃ (f34 : FM) (x39 : Int) (j38 : Nat → Value), FM.le f f34 ∧ St t w_ f34 ([(b14, .cells #[.int .i64 b1.X.Lo, .int .i64 b1.X.Hi, .bool b1.X.Unknown, .int .i64 b1.Y.Lo, .int .i64 b1.Y.Hi, .bool b1.Y.Unknown, .int .i64 b1.Z.Lo, .int .i64 b1.Z.Hi, .bool b1.Z.Unknown] 81 (0, 0))] :: [(b8, .cells #[.int .i64 0, .int .i64 0, .bool false, .int .i64 0, .int .i64 0, .bool false, .int .i64 0, .int .i64 0, .bool false] 81 (0, 0))] :: [(b4, .cells #[.int .i64 b1.X.Lo, .int .i64 b1.X.Hi, .bool b1.X.Unknown, .int .i64 b1.Y.Lo, .int .i64 b1.Y.Hi, .bool b1.Y.Unknown, .int .i64 b1.Z.Lo, .int .i64 b1.Z.Hi, .bool b1.Z.Unknown] 31 (0, 0))] :: H) ∧ query_sides.l0 k b1 n_ x39 = some o30 ∧ a_ = ⟨#[(ag_Box b1), pV b4 0, pV b8 0, (j38 0), pV b14 0, uV, (j38 1), pV b4 0, (ag_Bound b1.X), pV b4 3, (ag_Bound b1.Y), pV b4 6, (ag_Bound b1.Z), .agg #[iV b1.X.Lo, iV b1.X.Hi, .bool b1.X.Unknown, iV b1.Y.Lo, iV b1.Y.Hi, .bool b1.Y.Unknown, iV b1.Z.Lo, iV b1.Z.Hi, .bool b1.Z.Unknown], .agg #[iV b1.X.Lo, iV b1.X.Hi, .bool b1.X.Unknown, iV b1.Y.Lo, iV b1.Y.Hi, .bool b1.Y.Unknown, iV b1.Z.Lo, iV b1.Z.Hi, .bool b1.Z.Unknown], iV x39, (j38 2), (j38 3), (j38 4), (j38 5), (j38 6), (j38 7), (j38 8), (j38 9), (j38 10), (j38 11), (j38 12), (j38 13), (j38 14), (j38 15), (j38 16), (j38 17), (j38 18), (j38 19), (j38 20), (j38 21), (j38 22), (j38 23), (j38 24), uV], []⟩) k ⟨f, 0, (jL [fV]), fL, HS19, h, kr⟩ ?_
 clear h
 rintro n33 _ W36 ⟨f34, x39, j38, L35, HS37, h, rfl⟩ K31 hK32
 obtain _ | n33 := n33
 · exact nomatch h
 simp only [query_sides.l0] at h
 refine wp_seq_k fun K40 hK41 => rl ?_
 refine seqL1 kr ?_
 refine nl (hK41 _ _ ?_)
 refine wp_seq_k (fun K42 hK43 => ?_)
 have hq_ := ite_some h; clear h; rcases hq_ with ⟨c45, h⟩ | ⟨c45, h⟩
 · have c45 : x39 < 3 := c45
   refine wpRwI 16 kr (decide_eq_true c45) ?_
   refine condT kr ?_
   refine wp_skip ?_
   refine hK43 _ _ ?_
   refine wp_seq_k (fun K46 hK47 => ?_)
   refine blockK (fun B48 hx49 hn50 hr51 ho52 hp53 => ?_)
   refine wp_seq_k fun K55 hK56 => rl ?_
   have hq_ := guard_some h; clear h; obtain ⟨c57, h⟩ := hq_
   have c57 : 0 ≤ x39 := c57
   refine seqK rfl (does_run (run_arr_agg (e := ty_Bound) (f := fun _ => none) (xs := [b1.X, b1.Y, b1.Z]) (fun x_ => [Value.int .i64 x_.Lo, Value.int .i64 x_.Hi, Value.bool x_.Unknown]) (fun _ _ h_ => h_) rfl Tryz.underlying81 kr Tryz.underlying29 rfl (kv (.agg #[.int .i64 b1.X.Lo, .int .i64 b1.X.Hi, .bool b1.X.Unknown, .int .i64 b1.Y.Lo, .int .i64 b1.Y.Hi, .bool b1.Y.Unknown, .int .i64 b1.Z.Lo, .int .i64 b1.Z.Hi, .bool b1.Z.Unknown])) (kv (.int .i64 x39)) ⟨[Value.int .i64 b1.X.Lo, Value.int .i64 b1.X.Hi, Value.bool b1.X.Unknown], _, rfl, rfl, ⟨[Value.int .i64 b1.Y.Lo, Value.int .i64 b1.Y.Hi, Value.bool b1.Y.Unknown], _, rfl, rfl, ⟨[Value.int .i64 b1.Z.Lo, Value.int .i64 b1.Z.Hi, Value.bool b1.Z.Unknown], _, rfl, rfl, rfl⟩⟩⟩ c57 c45 rfl W36) ?_)
   refine seqK rfl (does_alloc (z := Value.agg #[.int .i64 0, .int .i64 0, .bool false]) (cs := #[.int .i64 0, .int .i64 0, .bool false]) rfl kr rfl HS37 ?_)
   intro b58 W59 HS60
   refine seqK rfl (does_storeA (vs := [.int .i64 ((rd [b1.X, b1.Y, b1.Z] x39).Lo), .int .i64 ((rd [b1.X, b1.Y, b1.Z] x39).Hi), .bool ((rd [b1.X, b1.Y, b1.Z] x39).Unknown)]) rfl kr kr kr rfl (ones rfl) HS60 kr ?_)
   intro W62 HS63
   refine nl (hK56 _ _ ?_)
   refine wp_seq_k fun K64 hK65 => rl ?_
   refine seqL1 kr ?_
   refine seqK rfl (does_run (run_load rfl Tryz.underlying4 rfl (kv (.pointer (some ⟨b58, 2, none⟩))) (HS63.cell 2)) ?_)
   refine seqL1 kr ?_
   have hq_ := ite_some h; clear h; rcases hq_ with ⟨c66, h⟩ | ⟨c66, h⟩
   · have c66 : ((rd [b1.X, b1.Y, b1.Z] x39).Unknown) = true := c66
     refine seqRwI 19 kr c66 ?_
     refine seqRwI 20 kr c66 ?_
     refine seqL16 kr ?_
     refine nl (hK65 _ _ ?_)
     refine condT kr ?_
     refine wp_seq_k fun K67 hK68 => rl ?_
     refine seqK rfl (does_run (run_loadN (n := 9) rfl Tryz.underlying81 rfl kr (kv (.pointer (some ⟨b14, 0, none⟩))) (cs := [.int .i64 b1.X.Lo, .int .i64 b1.X.Hi, .bool b1.X.Unknown, .int .i64 b1.Y.Lo, .int .i64 b1.Y.Hi, .bool b1.Y.Unknown, .int .i64 b1.Z.Lo, .int .i64 b1.Z.Hi, .bool b1.Z.Unknown]) rfl (HS63.u1.cells 0 9 _ rfl)) ?_)
     have HS69 := HS63.u2
     refine seqK rfl (does_storeA (vs := [.int .i64 b1.X.Lo, .int .i64 b1.X.Hi, .bool b1.X.Unknown, .int .i64 b1.Y.Lo, .int .i64 b1.Y.Hi, .bool b1.Y.Unknown, .int .i64 b1.Z.Lo, .int .i64 b1.Z.Hi, .bool b1.Z.Unknown]) rfl kr kr kr rfl (ones rfl) HS69 kr ?_)
     intro W70 HS71
     refine seqL1 kr ?_
     refine nl (hK68 _ _ ?_)
     refine wp_ret ?_
     refine hr51 _ _ ?_
     refine hr27 _ _ ?_
     refine hret _ _ ?_
     refine ends (v := Value.tuple #[.agg #[.int .i64 b1.X.Lo, .int .i64 b1.X.Hi, .bool b1.X.Unknown, .int .i64 b1.Y.Lo, .int .i64 b1.Y.Hi, .bool b1.Y.Unknown, .int .i64 b1.Z.Lo, .int .i64 b1.Z.Hi, .bool b1.Z.Unknown], .bool false]) (results2 (q1 := .cell 2 81) (q2 := .tmp 3) kr (resN (n := 9) (cs := [.int .i64 b1.X.Lo, .int .i64 b1.X.Hi, .bool b1.X.Unknown, .int .i64 b1.Y.Lo, .int .i64 b1.Y.Hi, .bool b1.Y.Unknown, .int .i64 b1.Z.Lo, .int .i64 b1.Z.Hi, .bool b1.Z.Unknown]) (kv (.pointer (some ⟨b8, 0, none⟩))) Tryz.underlying81 rfl kr rfl (HS71.cells 0 9 _ rfl)) (resT (kv (.bool false)))) kr ?_
     have HS110 := HS71.drop
     have HS111 := HS110.drop
     have HS112 := HS111.drop
     have HS113 := HS112.drop
     replace h := JR98 _ h
     injection h with h
     injection h with h0_ h
     subst h0_ h
     exact ⟨f34, rfl, L35, HS113⟩
   · have c66 : ¬ (((rd [b1.X, b1.Y, b1.Z] x39).Unknown) = true) := c66
     refine seqRwI 19 kr (Bool.eq_false_iff.mpr c66) ?_
     refine seqRwI 20 kr (Bool.eq_false_iff.mpr c66) ?_
     refine seqL1 kr ?_
     refine seqG kr (does_run (run_load rfl Tryz.underlying27 rfl (kv (.pointer (some ⟨b58, 0, none⟩))) (HS63.cell 0)) ?_)
     refine seqL1 kr ?_
     refine seqG kr (does_run (run_load rfl Tryz.underlying27 rfl (kv (.pointer (some ⟨b58, 1, none⟩))) (HS63.cell 1)) ?_)
     refine seqL3 kr ?_
     have hq_ := ite_some h; clear h; rcases hq_ with ⟨c72, h⟩ | ⟨c72, h⟩
     · have c72 : ((rd [b1.X, b1.Y, b1.Z] x39).Lo) > ((rd [b1.X, b1.Y, b1.Z] x39).Hi) := c72
       refine seqRwI 25 kr (decide_eq_true c72) ?_
       refine seqRwI 26 kr (decide_eq_true c72) ?_
       refine seqRwI 27 kr (decide_eq_true c72) ?_
       refine seqL9 kr ?_
       refine nl (hK65 _ _ ?_)
       refine condT kr ?_
       refine wp_seq_k fun K73 hK74 => rl ?_
       refine seqK rfl (does_run (run_loadN (n := 9) rfl Tryz.underlying81 rfl kr (kv (.pointer (some ⟨b14, 0, none⟩))) (cs := [.int .i64 b1.X.Lo, .int .i64 b1.X.Hi, .bool b1.X.Unknown, .int .i64 b1.Y.Lo, .int .i64 b1.Y.Hi, .bool b1.Y.Unknown, .int .i64 b1.Z.Lo, .int .i64 b1.Z.Hi, .bool b1.Z.Unknown]) rfl (HS63.u1.cells 0 9 _ rfl)) ?_)
       have HS75 := HS63.u2
       refine seqK rfl (does_storeA (vs := [.int .i64 b1.X.Lo, .int .i64 b1.X.Hi, .bool b1.X.Unknown, .int .i64 b1.Y.Lo, .int .i64 b1.Y.Hi, .bool b1.Y.Unknown, .int .i64 b1.Z.Lo, .int .i64 b1.Z.Hi, .bool b1.Z.Unknown]) rfl kr kr kr rfl (ones rfl) HS75 kr ?_)
       intro W76 HS77
       refine seqL1 kr ?_
       refine nl (hK74 _ _ ?_)
       refine wp_ret ?_
       refine hr51 _ _ ?_
       refine hr27 _ _ ?_
       refine hret _ _ ?_
       refine ends (v := Value.tuple #[.agg #[.int .i64 b1.X.Lo, .int .i64 b1.X.Hi, .bool b1.X.Unknown, .int .i64 b1.Y.Lo, .int .i64 b1.Y.Hi, .bool b1.Y.Unknown, .int .i64 b1.Z.Lo, .int .i64 b1.Z.Hi, .bool b1.Z.Unknown], .bool false]) (results2 (q1 := .cell 2 81) (q2 := .tmp 3) kr (resN (n := 9) (cs := [.int .i64 b1.X.Lo, .int .i64 b1.X.Hi, .bool b1.X.Unknown, .int .i64 b1.Y.Lo, .int .i64 b1.Y.Hi, .bool b1.Y.Unknown, .int .i64 b1.Z.Lo, .int .i64 b1.Z.Hi, .bool b1.Z.Unknown]) (kv (.pointer (some ⟨b8, 0, none⟩))) Tryz.underlying81 rfl kr rfl (HS77.cells 0 9 _ rfl)) (resT (kv (.bool false)))) kr ?_
       have HS114 := HS77.drop
       have HS115 := HS114.drop
       have HS116 := HS115.drop
       have HS117 := HS116.drop
       replace h := JR98 _ h
       injection h with h
       injection h with h0_ h
       subst h0_ h
       exact ⟨f34, rfl, L35, HS117⟩
     · have c72 : ¬ (((rd [b1.X, b1.Y, b1.Z] x39).Lo) > ((rd [b1.X, b1.Y, b1.Z] x39).Hi)) := c72
       refine seqRwI 25 kr (decide_eq_false c72) ?_
       refine seqRwI 26 kr (decide_eq_false c72) ?_
       refine seqRwI 27 kr (decide_eq_false c72) ?_
       refine seqL1 kr ?_
       refine seqG kr (does_run (run_load rfl Tryz.underlying27 rfl (kv (.pointer (some ⟨b58, 0, none⟩))) (HS63.cell 0)) ?_)
       refine seqL3 kr ?_
       have hq_ := ite_some h; clear h; rcases hq_ with ⟨c78, h⟩ | ⟨c78, h⟩
       · have c78 : ((rd [b1.X, b1.Y, b1.Z] x39).Lo) < (-1073741824) := c78
         refine seqRwI 30 kr (decide_eq_true c78) ?_
         refine seqRwI 31 kr (decide_eq_true c78) ?_
         refine seqRwI 32 kr (decide_eq_true c78) ?_
         refine seqL4 kr ?_
         refine nl (hK65 _ _ ?_)
         refine condT kr ?_
         refine wp_seq_k fun K79 hK80 => rl ?_
         refine seqK rfl (does_run (run_loadN (n := 9) rfl Tryz.underlying81 rfl kr (kv (.pointer (some ⟨b14, 0, none⟩))) (cs := [.int .i64 b1.X.Lo, .int .i64 b1.X.Hi, .bool b1.X.Unknown, .int .i64 b1.Y.Lo, .int .i64 b1.Y.Hi, .bool b1.Y.Unknown, .int .i64 b1.Z.Lo, .int .i64 b1.Z.Hi, .bool b1.Z.Unknown]) rfl (HS63.u1.cells 0 9 _ rfl)) ?_)
         have HS81 := HS63.u2
         refine seqK rfl (does_storeA (vs := [.int .i64 b1.X.Lo, .int .i64 b1.X.Hi, .bool b1.X.Unknown, .int .i64 b1.Y.Lo, .int .i64 b1.Y.Hi, .bool b1.Y.Unknown, .int .i64 b1.Z.Lo, .int .i64 b1.Z.Hi, .bool b1.Z.Unknown]) rfl kr kr kr rfl (ones rfl) HS81 kr ?_)
         intro W82 HS83
         refine seqL1 kr ?_
         refine nl (hK80 _ _ ?_)
         refine wp_ret ?_
         refine hr51 _ _ ?_
         refine hr27 _ _ ?_
         refine hret _ _ ?_
         refine ends (v := Value.tuple #[.agg #[.int .i64 b1.X.Lo, .int .i64 b1.X.Hi, .bool b1.X.Unknown, .int .i64 b1.Y.Lo, .int .i64 b1.Y.Hi, .bool b1.Y.Unknown, .int .i64 b1.Z.Lo, .int .i64 b1.Z.Hi, .bool b1.Z.Unknown], .bool false]) (results2 (q1 := .cell 2 81) (q2 := .tmp 3) kr (resN (n := 9) (cs := [.int .i64 b1.X.Lo, .int .i64 b1.X.Hi, .bool b1.X.Unknown, .int .i64 b1.Y.Lo, .int .i64 b1.Y.Hi, .bool b1.Y.Unknown, .int .i64 b1.Z.Lo, .int .i64 b1.Z.Hi, .bool b1.Z.Unknown]) (kv (.pointer (some ⟨b8, 0, none⟩))) Tryz.underlying81 rfl kr rfl (HS83.cells 0 9 _ rfl)) (resT (kv (.bool false)))) kr ?_
         have HS118 := HS83.drop
         have HS119 := HS118.drop
         have HS120 := HS119.drop
         have HS121 := HS120.drop
         replace h := JR98 _ h
         injection h with h
         injection h with h0_ h
         subst h0_ h
         exact ⟨f34, rfl, L35, HS121⟩
       · have c78 : ¬ (((rd [b1.X, b1.Y, b1.Z] x39).Lo) < (-1073741824)) := c78
         refine seqRwI 30 kr (decide_eq_false c78) ?_
         refine seqRwI 31 kr (decide_eq_false c78) ?_
         refine seqRwI 32 kr (decide_eq_false c78) ?_
         refine seqL1 kr ?_
         refine seqG kr (does_run (run_load rfl Tryz.underlying27 rfl (kv (.pointer (some ⟨b58, 1, none⟩))) (HS63.cell 1)) ?_)
         refine seqL2 kr ?_
         refine nl (hK65 _ _ ?_)
         have hq_ := ite_some h; clear h; rcases hq_ with ⟨c85, h⟩ | ⟨c85, h⟩
         · have c85 : ((rd [b1.X, b1.Y, b1.Z] x39).Hi) > 1073741824 := c85
           refine wpRwI 35 kr (decide_eq_true c85) ?_
           refine wpRwI 36 kr (decide_eq_true c85) ?_
           refine condT kr ?_
           refine wp_seq_k fun K86 hK87 => rl ?_
           refine seqK rfl (does_run (run_loadN (n := 9) rfl Tryz.underlying81 rfl kr (kv (.pointer (some ⟨b14, 0, none⟩))) (cs := [.int .i64 b1.X.Lo, .int .i64 b1.X.Hi, .bool b1.X.Unknown, .int .i64 b1.Y.Lo, .int .i64 b1.Y.Hi, .bool b1.Y.Unknown, .int .i64 b1.Z.Lo, .int .i64 b1.Z.Hi, .bool b1.Z.Unknown]) rfl (HS63.u1.cells 0 9 _ rfl)) ?_)
           have HS88 := HS63.u2
           refine seqK rfl (does_storeA (vs := [.int .i64 b1.X.Lo, .int .i64 b1.X.Hi, .bool b1.X.Unknown, .int .i64 b1.Y.Lo, .int .i64 b1.Y.Hi, .bool b1.Y.Unknown, .int .i64 b1.Z.Lo, .int .i64 b1.Z.Hi, .bool b1.Z.Unknown]) rfl kr kr kr rfl (ones rfl) HS88 kr ?_)
           intro W89 HS90
           refine seqL1 kr ?_
           refine nl (hK87 _ _ ?_)
           refine wp_ret ?_
           refine hr51 _ _ ?_
           refine hr27 _ _ ?_
           refine hret _ _ ?_
           refine ends (v := Value.tuple #[.agg #[.int .i64 b1.X.Lo, .int .i64 b1.X.Hi, .bool b1.X.Unknown, .int .i64 b1.Y.Lo, .int .i64 b1.Y.Hi, .bool b1.Y.Unknown, .int .i64 b1.Z.Lo, .int .i64 b1.Z.Hi, .bool b1.Z.Unknown], .bool false]) (results2 (q1 := .cell 2 81) (q2 := .tmp 3) kr (resN (n := 9) (cs := [.int .i64 b1.X.Lo, .int .i64 b1.X.Hi, .bool b1.X.Unknown, .int .i64 b1.Y.Lo, .int .i64 b1.Y.Hi, .bool b1.Y.Unknown, .int .i64 b1.Z.Lo, .int .i64 b1.Z.Hi, .bool b1.Z.Unknown]) (kv (.pointer (some ⟨b8, 0, none⟩))) Tryz.underlying81 rfl kr rfl (HS90.cells 0 9 _ rfl)) (resT (kv (.bool false)))) kr ?_
           have HS122 := HS90.drop
           have HS123 := HS122.drop
           have HS124 := HS123.drop
           have HS125 := HS124.drop
           replace h := JR98 _ h
           injection h with h
           injection h with h0_ h
           subst h0_ h
           exact ⟨f34, rfl, L35, HS125⟩
         · have c85 : ¬ (((rd [b1.X, b1.Y, b1.Z] x39).Hi) > 1073741824) := c85
           refine wpRwI 35 kr (decide_eq_false c85) ?_
           refine wpRwI 36 kr (decide_eq_false c85) ?_
           refine condF kr ?_
           refine wp_skip ?_
           refine hn50 _ _ ?_
           refine hK47 _ _ ?_
           refine rl ?_
           refine seqL2 kr ?_
           refine nl ?_
           refine hK32 n33 _ _ (Nat.lt_succ_self _) ?_
           have HS103 := HS63.u3.u3.u3.u3
           have HS104 := HS103.drop
           exact ⟨f34, (w64 (x39 + 1)), (jL [(j38 0), .pointer (some ⟨b58, 0, none⟩), tV, (ag_Bound (rd [b1.X, b1.Y, b1.Z] x39)), .pointer (some ⟨b58, 2, none⟩), fV, fV, .pointer (some ⟨b58, 0, none⟩), iV ((rd [b1.X, b1.Y, b1.Z] x39).Lo), .pointer (some ⟨b58, 1, none⟩), iV ((rd [b1.X, b1.Y, b1.Z] x39).Hi), fV, fV, fV, .pointer (some ⟨b58, 0, none⟩), iV ((rd [b1.X, b1.Y, b1.Z] x39).Lo), fV, fV, fV, .pointer (some ⟨b58, 1, none⟩), iV ((rd [b1.X, b1.Y, b1.Z] x39).Hi), fV, fV, (j38 23), iV (w64 (x39 + 1))]), L35, HS104, h, kr⟩
 · have c45 : ¬ (x39 < 3) := c45
   refine wpRwI 16 kr (decide_eq_false c45) ?_
   refine condF kr ?_
   refine wp_exit ?_
   refine hx25 _ _ ?_
   exact J97 f34 (jL [(j38 0), (j38 1), iV x39, fV, (j38 3), (j38 4), (j38 5), (j38 6), (j38 7), (j38 8), (j38 9), (j38 10), (j38 11), (j38 12), (j38 13), (j38 14), (j38 15), (j38 16), (j38 17), (j38 18), (j38 19), (j38 20), (j38 21), (j38 22), (j38 23), (j38 24)]) W36 _ L35 h HS37 kr

set_option maxRecDepth 100000 in
set_option maxHeartbeats 4000000 in
theorem query_middle_1.calls (k : Nat)  (x1 : S_Bound) {t w : World} {f : FM} {H : List Seg} (HS : St t w f (H)) (rr1 : Int) (h : query_middle_1 k x1 = some rr1) :
    Calls Tryz.prog 77 #[.agg #[.int .i64 x1.Lo, .int .i64 x1.Hi, .bool x1.Unknown]] w (fun e w' => ∃ (g : FM), e = .returned (Value.int .i64 rr1) ∧ FM.le f g ∧ St t w' g (H)) := by
 unfold query_middle_1 at h
 refine enter Tryz.func77 rfl (tm := #[(ag_Bound x1), uV, uV, uV, uV, uV, uV, uV, uV, uV, uV, uV]) kr ?_
 intro B hret hnor hnp
 refine wp_seq_k fun K2 hK3 => rl ?_
 refine seqK rfl (does_box (cs := #[.int .i64 x1.Lo, .int .i64 x1.Hi, .bool x1.Unknown]) rfl (kv (.agg #[.int .i64 x1.Lo, .int .i64 x1.Hi, .bool x1.Unknown])) rfl HS ?_)
 intro b4 W5 HS6
 refine seqL1 kr ?_
 refine nl (hK3 _ _ ?_)
 refine wp_seq_k fun K8 hK9 => rl ?_
 refine seqL1 kr ?_
 refine seqK rfl (does_run (run_load rfl Tryz.underlying27 rfl (kv (.pointer (some ⟨b4, 0, none⟩))) (HS6.cell 0)) ?_)
 refine seqL1 kr ?_
 refine seqK rfl (does_run (run_load rfl Tryz.underlying27 rfl (kv (.pointer (some ⟨b4, 1, none⟩))) (HS6.cell 1)) ?_)
 refine seqL1 kr ?_
 refine seqK rfl (does_run (run_load rfl Tryz.underlying27 rfl (kv (.pointer (some ⟨b4, 0, none⟩))) (HS6.cell 0)) ?_)
 refine seqL4 kr ?_
 refine nl (hK9 _ _ ?_)
 refine wp_ret ?_
 refine hret _ _ ?_
 refine ends_still (v := Value.int .i64 (w64 (x1.Lo + (w64 (Int.tdiv (w64 (x1.Hi - x1.Lo)) 2))))) kr kr ?_
 have HS10 := HS6.drop
 injection h with h
 subst h
 exact ⟨f, rfl, FM.le.refl _, HS10⟩

end Go.Sp.J7
