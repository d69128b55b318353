import Derived.Test.YtjnehahcpeiheaaGreatDoorProg
import Derived.Test.YtjnehahcpeiheaaGreatDoorSpCopy
import Derived.Test.YtjnehahcpeiheaaGreatDoorFU5
import Derived.Test.YtjnehahcpeiheaaGreatDoorSpStr
import Derived.Test.YtjnehahcpeiheaaGreatDoorSpLib
import Derived.Test.YtjnehahcpeiheaaGreatDoorSpBld
import Derived.Test.YtjnehahcpeiheaaGreatDoorConv
import Derived.Test.YtjnehahcpeiheaaGreatDoorLibs
import Derived.Test.YtjnehahcpeiheaaGreatDoorSpNest
import Derived.Test.YtjnehahcpeiheaaGreatDoorSpWays
import Derived.Test.YtjnehahcpeiheaaGreatDoorSpRound
import Derived.Test.YtjnehahcpeiheaaGreatDoorKU5n0
namespace Go.Sp.U5
open Go Go.Sp Go.Proofs
set_option linter.unusedVariables false
attribute [local irreducible] wpList AnyL Code.wp Calls Does Code.wpIn wpListIn CallsIn bodyPostM LeavesInM
set_option maxRecDepth 100000 in
set_option maxHeartbeats 4000000 in
theorem frame_Check.calls (k : Nat) (A2 : Option Addr) (c3 : Nat) (A5 : Option Addr) (c6 : Nat) (vf1 : S_Frame) {t w : World} {f : FM} {H : List Seg} (HS : St t w f (H)) (HR4 : SlR ty_Card f A2 c3 vf1.Cards) (HR7 : SlR (tInt .i64) f A5 c6 vf1.Counts) (HA : TabF Tryz.prog "strings.asciiSpace" .u8 Go.Lib.asciiSpaceTab f) (rr1 : Int) (h : frame_Check k vf1 = some rr1) :
    Calls Tryz.prog 21 #[.agg #[.int .i64 vf1.W, .int .i64 vf1.H, .slice A2 vf1.Cards.length c3, .slice A5 vf1.Counts.length c6]] w (fun e w' => ∃ (g : FM), e = .returned (Value.int .i64 rr1) ∧ FM.le f g ∧ St t w' g (H)) := by
 unfold frame_Check at h
 refine enter Tryz.func21 rfl (tm := #[(ag_Frame vf1 A2 c3 A5 c6), uV, uV, uV, uV, uV, uV, uV, uV, uV, uV, uV, uV, uV, uV, uV, uV, uV, uV, uV, uV, uV, uV, uV, uV, uV, uV, uV, uV, uV, uV, uV, uV, uV, uV, uV, uV, uV, uV, uV, uV, uV, uV, uV, uV, uV, uV, uV, uV, uV, uV, uV, uV, uV, uV, uV, uV, uV, uV, uV, uV, uV]) kr ?_
 intro B hret hnor hnp
 refine wp_seq_k fun K8 hK9 => rl ?_
 refine seqK rfl (does_box (cs := #[.int .i64 vf1.W, .int .i64 vf1.H, .slice A2 vf1.Cards.length c3, .slice A5 vf1.Counts.length c6]) rfl (kv (.agg #[.int .i64 vf1.W, .int .i64 vf1.H, .slice A2 vf1.Cards.length c3, .slice A5 vf1.Counts.length c6])) rfl HS ?_)
 intro b10 W11 HS12
 refine seqL1 kr ?_
 refine nl (hK9 _ _ ?_)
 refine wp_seq_k (fun K14 hK15 => ?_)
 refine blockK (fun B16 hx17 hn18 hr19 ho20 hp21 => ?_)
 refine wp_seq_k fun K23 hK24 => rl ?_
 refine seqL1 kr ?_
 refine seqK rfl (does_run (run_load rfl Tryz.underlying3 rfl (kv (.pointer (some ⟨b10, 0, none⟩))) (HS12.cell 0)) ?_)
 refine seqL1 kr ?_
 refine seqK rfl (does_run (run_load rfl Tryz.underlying3 rfl (kv (.pointer (some ⟨b10, 1, none⟩))) (HS12.cell 1)) ?_)
 refine seqL3 kr ?_
 have hq_ := ite_some h; clear h; rcases hq_ with ⟨c25, h⟩ | ⟨c25, h⟩
 · have c25 : (mn vf1.W vf1.H) < 1 := c25
   refine seqRwI 12 (x := (decide ((mn vf1.W vf1.H) < 1))) (v := true) kr (decide_eq_true c25) ?_
   refine seqRwI 13 (x := (decide ((mn vf1.W vf1.H) < 1))) (v := true) kr (decide_eq_true c25) ?_
   refine seqL8 kr ?_
   refine nl (hK24 _ _ ?_)
   refine condT kr ?_
   refine wp_seq_k fun K26 hK27 => rl ?_
   refine seqL1 kr ?_
   refine nl (hK27 _ _ ?_)
   refine wp_ret ?_
   refine hr19 _ _ ?_
   refine hret _ _ ?_
   refine ends_still (v := Value.int .i64 4) kr kr ?_
   have HS151 := HS12.drop
   injection h with h
   subst h
   exact ⟨f, rfl, FM.le.refl _, HS151⟩
 · have c25 : ¬ ((mn vf1.W vf1.H) < 1) := c25
   refine seqRwI 12 (x := (decide ((mn vf1.W vf1.H) < 1))) (v := false) kr (decide_eq_false c25) ?_
   refine seqRwI 13 (x := (decide ((mn vf1.W vf1.H) < 1))) (v := false) kr (decide_eq_false c25) ?_
   refine seqL1 kr ?_
   refine seqG kr (does_run (run_load rfl Tryz.underlying3 rfl (kv (.pointer (some ⟨b10, 0, none⟩))) (HS12.cell 0)) ?_)
   refine seqL1 kr ?_
   refine seqG kr (does_run (run_load rfl Tryz.underlying3 rfl (kv (.pointer (some ⟨b10, 1, none⟩))) (HS12.cell 1)) ?_)
   refine seqL4 kr ?_
   refine nl (hK24 _ _ ?_)
   have hq_ := ite_some h; clear h; rcases hq_ with ⟨c29, h⟩ | ⟨c29, h⟩
   · have c29 : (mx vf1.W vf1.H) > 32 := c29
     refine wpRwI 6 (x := (decide ((mx vf1.W vf1.H) > 32))) (v := true) kr (decide_eq_true c29) ?_
     refine wpRwI 19 (x := (decide ((mx vf1.W vf1.H) > 32))) (v := true) kr (decide_eq_true c29) ?_
     refine wpRwI 20 (x := (decide ((mx vf1.W vf1.H) > 32))) (v := true) kr (decide_eq_true c29) ?_
     refine condT kr ?_
     refine wp_seq_k fun K30 hK31 => rl ?_
     refine seqL1 kr ?_
     refine nl (hK31 _ _ ?_)
     refine wp_ret ?_
     refine hr19 _ _ ?_
     refine hret _ _ ?_
     refine ends_still (v := Value.int .i64 4) kr kr ?_
     have HS152 := HS12.drop
     injection h with h
     subst h
     exact ⟨f, rfl, FM.le.refl _, HS152⟩
   · have c29 : ¬ ((mx vf1.W vf1.H) > 32) := c29
     refine wpRwI 6 (x := (decide ((mx vf1.W vf1.H) > 32))) (v := false) kr (decide_eq_false c29) ?_
     refine wpRwI 19 (x := (decide ((mx vf1.W vf1.H) > 32))) (v := false) kr (decide_eq_false c29) ?_
     refine wpRwI 20 (x := (decide ((mx vf1.W vf1.H) > 32))) (v := false) kr (decide_eq_false c29) ?_
     refine condF kr ?_
     refine wp_seq_k fun K32 hK33 => rl ?_
     refine seqL1 kr ?_
     refine seqK rfl (does_run (run_load rfl Tryz.underlying22 rfl (kv (.pointer (some ⟨b10, 3, none⟩))) (HS12.cell 3)) ?_)
     refine seqL2 kr ?_
     refine seqK rfl (does_run (run_load rfl Tryz.underlying3 rfl (kv (.pointer (some ⟨b10, 0, none⟩))) (HS12.cell 0)) ?_)
     refine seqL1 kr ?_
     refine seqK rfl (does_run (run_load rfl Tryz.underlying3 rfl (kv (.pointer (some ⟨b10, 1, none⟩))) (HS12.cell 1)) ?_)
     refine seqL3 kr ?_
     refine nl (hK33 _ _ ?_)
     have hq_ := ite_some h; clear h; rcases hq_ with ⟨c35, h⟩ | ⟨c35, h⟩
     · have c35 : (vf1.Counts.length : Int) ≠ (w64 (vf1.W * vf1.H)) := c35
       refine wpRwI 21 (x := ((vf1.Counts.length : Int) != (w64 (vf1.W * vf1.H)))) (v := true) kr (bne_iff_ne.mpr c35) ?_
       refine wpRwI 30 (x := ((vf1.Counts.length : Int) != (w64 (vf1.W * vf1.H)))) (v := true) kr (bne_iff_ne.mpr c35) ?_
       refine condT kr ?_
       refine wp_seq_k fun K36 hK37 => rl ?_
       refine seqL1 kr ?_
       refine nl (hK37 _ _ ?_)
       refine wp_ret ?_
       refine hr19 _ _ ?_
       refine hret _ _ ?_
       refine ends_still (v := Value.int .i64 3) kr kr ?_
       have HS153 := HS12.drop
       injection h with h
       subst h
       exact ⟨f, rfl, FM.le.refl _, HS153⟩
     · have c35 : ¬ ((vf1.Counts.length : Int) ≠ (w64 (vf1.W * vf1.H))) := c35
       refine wpRwI 21 (x := ((vf1.Counts.length : Int) != (w64 (vf1.W * vf1.H)))) (v := false) kr (bne_eq_false_iff_eq.mpr (Decidable.of_not_not c35)) ?_
       refine wpRwI 30 (x := ((vf1.Counts.length : Int) != (w64 (vf1.W * vf1.H)))) (v := false) kr (bne_eq_false_iff_eq.mpr (Decidable.of_not_not c35)) ?_
       refine condF kr ?_
       refine wp_seq_k fun K38 hK39 => rl ?_
       refine seqL1 kr ?_
       refine seqK rfl (does_run (run_load rfl Tryz.underlying22 rfl (kv (.pointer (some ⟨b10, 3, none⟩))) (HS12.cell 3)) ?_)
       have hq_ := bind_some h; clear h; obtain ⟨vt40, hc41, h⟩ := hq_
       refine seqK rfl (does_call (f := 41) (args := #[.slice A5 vf1.Counts.length c6, .func (.func 42) #[] #[]]) kr (slices_ContainsFunc_int__frame_Check_1.calls k A5 c6 vf1.Counts HS12 HR7 vt40 hc41) ?_)
       rintro _ W44 ⟨f42, rfl, L43, HS45⟩
       refine ⟨_, rfl, ?_⟩
       refine seqL1 kr ?_
       refine nl (hK39 _ _ ?_)
       have hq_ := ite_some h; clear h; rcases hq_ with ⟨c47, h⟩ | ⟨c47, h⟩
       · have c47 : vt40 = true := c47
         refine wpRwI 31 (x := vt40) (v := true) kr c47 ?_
         refine wpRwI 34 (x := vt40) (v := true) kr c47 ?_
         refine condT kr ?_
         refine wp_seq_k fun K48 hK49 => rl ?_
         refine seqL1 kr ?_
         refine nl (hK49 _ _ ?_)
         refine wp_ret ?_
         refine hr19 _ _ ?_
         refine hret _ _ ?_
         refine ends_still (v := Value.int .i64 4) kr kr ?_
         have HS154 := HS45.drop
         injection h with h
         subst h
         exact ⟨f42, rfl, L43, HS154⟩
       · have c47 : ¬ (vt40 = true) := c47
         refine wpRwI 31 (x := vt40) (v := false) kr (Bool.eq_false_iff.mpr c47) ?_
         refine wpRwI 34 (x := vt40) (v := false) kr (Bool.eq_false_iff.mpr c47) ?_
         refine condF kr ?_
         refine wp_seq_k fun K50 hK51 => rl ?_
         refine seqL1 kr ?_
         refine seqK rfl (does_run (run_load rfl Tryz.underlying27 rfl (kv (.pointer (some ⟨b10, 2, none⟩))) (HS45.cell 2)) ?_)
         refine seqL3 kr ?_
         refine nl (hK51 _ _ ?_)
         have hq_ := ite_some h; clear h; rcases hq_ with ⟨c53, h⟩ | ⟨c53, h⟩
         · have c53 : (vf1.Cards.length : Int) > 28 := c53
           refine wpRwI 35 (x := (decide ((vf1.Cards.length : Int) > 28))) (v := true) kr (decide_eq_true c53) ?_
           refine wpRwI 39 (x := (decide ((vf1.Cards.length : Int) > 28))) (v := true) kr (decide_eq_true c53) ?_
           refine condT kr ?_
           refine wp_seq_k fun K54 hK55 => rl ?_
           refine seqL1 kr ?_
           refine nl (hK55 _ _ ?_)
           refine wp_ret ?_
           refine hr19 _ _ ?_
           refine hret _ _ ?_
           refine ends_still (v := Value.int .i64 2) kr kr ?_
           have HS155 := HS45.drop
           injection h with h
           subst h
           exact ⟨f42, rfl, L43, HS155⟩
         · have c53 : ¬ ((vf1.Cards.length : Int) > 28) := c53
           refine wpRwI 35 (x := (decide ((vf1.Cards.length : Int) > 28))) (v := false) kr (decide_eq_false c53) ?_
           refine wpRwI 39 (x := (decide ((vf1.Cards.length : Int) > 28))) (v := false) kr (decide_eq_false c53) ?_
           refine condF kr ?_
           refine wp_skip ?_
           refine hn18 _ _ ?_
           refine hK15 _ _ ?_
           refine wp_seq_k (fun K56 hK57 => ?_)
           refine wp_seq_k fun K58 hK59 => rl ?_
           refine seqL1 kr ?_
           refine seqK rfl (does_run (run_load rfl Tryz.underlying27 rfl (kv (.pointer (some ⟨b10, 2, none⟩))) (HS45.cell 2)) ?_)
           refine seqL2 kr ?_
           refine nl (hK59 _ _ ?_)
           refine blockK (fun B60 hx61 hn62 hr63 ho64 hp65 => ?_)
           have hq_ := bind_some h; clear h; obtain ⟨o66, hv142, h⟩ := hq_
           have JR144 : ∀ z_, some (Sum.inl z_) = some o66 → some z_ = some rr1 := by
            intro z_ e_; injection e_ with e_; subst e_; exact h
           have J143 : ∀ (f137 : FM) (j141 : Nat → Value) (W139 : World) (a_ : Act), FM.le f42 f137 → some (Sum.inr ()) = some o66 → St t W139 f137 ([(b10, .cells #[.int .i64 vf1.W, .int .i64 vf1.H, .slice A2 vf1.Cards.length c3, .slice A5 vf1.Counts.length c6] 29 (0, 0))] :: H) → a_ = ⟨#[(ag_Frame vf1 A2 c3 A5 c6), pV b10 0, (j141 0), (j141 1), (j141 2), (j141 3), fV, pV b10 0, iV vf1.W, pV b10 1, iV vf1.H, iV (mn vf1.W vf1.H), fV, fV, pV b10 0, iV vf1.W, pV b10 1, iV vf1.H, iV (mx vf1.W vf1.H), fV, fV, fV, pV b10 3, .slice A5 vf1.Counts.length c6, iV (vf1.Counts.length : Int), pV b10 0, iV vf1.W, pV b10 1, iV vf1.H, iV (w64 (vf1.W * vf1.H)), fV, fV, pV b10 3, .slice A5 vf1.Counts.length c6, fV, fV, pV b10 2, .slice A2 vf1.Cards.length c3, iV (vf1.Cards.length : Int), fV, pV b10 2, .slice A2 vf1.Cards.length c3, iV (vf1.Cards.length : Int), (j141 4), (j141 5), (j141 6), (j141 7), (j141 8), (j141 9), (j141 10), (j141 11), (j141 12), (j141 13), (j141 14), (j141 15), (j141 16), (j141 17), (j141 18), (j141 19), (j141 20), (j141 21), (j141 22)], []⟩ → K56 a_ W139 := by
            intro f137 j141 W139 a_ L138 hj145 HS140  hfr_; subst hfr_
            injection hj145 with hj145; subst hj145; try dsimp only at h
            simp only [Sum.elim_inr] at h
            refine hK57 _ _ ?_
            refine wp_seq_k fun K149 hK150 => rl ?_
            refine seqL1 kr ?_
            refine nl (hK150 _ _ ?_)
            refine wp_ret ?_
            refine hret _ _ ?_
            refine ends_still (v := Value.int .i64 0) kr kr ?_
            have HS160 := HS140.drop
            injection h with h
            subst h
            exact ⟨f137, rfl, (L43.trans L138), HS160⟩
           clear h; have h := hv142; clear hv142
           refine loopK (fun n_ a_ w_ => ∃ (f70 : FM) (x75 : Int) (j74 : Nat → Value), FM.le f42 f70 ∧ St t w_ f70 ([(b10, .cells #[.int .i64 vf1.W, .int .i64 vf1.H, .slice A2 vf1.Cards.length c3, .slice A5 vf1.Counts.length c6] 29 (0, 0))] :: H) ∧ frame_Check.l0 k vf1 n_ x75 = some o66 ∧ a_ = ⟨#[(ag_Frame vf1 A2 c3 A5 c6), pV b10 0, (j74 0), (j74 1), (j74 2), (j74 3), fV, pV b10 0, iV vf1.W, pV b10 1, iV vf1.H, iV (mn vf1.W vf1.H), fV, fV, pV b10 0, iV vf1.W, pV b10 1, iV vf1.H, iV (mx vf1.W vf1.H), fV, fV, fV, pV b10 3, .slice A5 vf1.Counts.length c6, iV (vf1.Counts.length : Int), pV b10 0, iV vf1.W, pV b10 1, iV vf1.H, iV (w64 (vf1.W * vf1.H)), fV, fV, pV b10 3, .slice A5 vf1.Counts.length c6, fV, fV, pV b10 2, .slice A2 vf1.Cards.length c3, iV (vf1.Cards.length : Int), fV, pV b10 2, .slice A2 vf1.Cards.length c3, iV (vf1.Cards.length : Int), iV x75, (j74 4), (j74 5), (j74 6), (j74 7), (j74 8), (j74 9), (j74 10), (j74 11), (j74 12), (j74 13), (j74 14), (j74 15), (j74 16), (j74 17), (j74 18), (j74 19), (j74 20), (j74 21)], []⟩) k ⟨f42, 0, (fun i_ => [Value.int .i64 0, undef, undef, undef, undef, undef, undef, undef, undef, undef, undef, undef, undef, undef, undef, undef, undef, undef, undef, undef, undef, undef].getD i_ undef), (FM.le.refl _), HS45, h, kr⟩ ?_
           clear h
           rintro n69 _ W72 ⟨f70, x75, j74, L71, HS73, h, rfl⟩ K67 hK68
           obtain _ | n69 := n69
           · exact nomatch h
           simp only [frame_Check.l0] at h
           refine wp_seq_k fun K76 hK77 => rl ?_
           refine seqL1 kr ?_
           refine nl (hK77 _ _ ?_)
           refine wp_seq_k (fun K78 hK79 => ?_)
           have hq_ := ite_some h; clear h; rcases hq_ with ⟨c81, h⟩ | ⟨c81, h⟩
           · have c81 : x75 < (vf1.Cards.length : Int) := c81
             refine wpRwI 44 (x := (decide (x75 < (vf1.Cards.length : Int)))) (v := true) kr (decide_eq_true c81) ?_
             refine condT kr ?_
             refine wp_skip ?_
             refine hK79 _ _ ?_
             refine wp_seq_k (fun K82 hK83 => ?_)
             refine blockK (fun B84 hx85 hn86 hr87 ho88 hp89 => ?_)
             refine wp_seq_k fun K91 hK92 => rl ?_
             have hq_ := guard_some h; clear h; obtain ⟨c93, h⟩ := hq_
             have c93 : 0 ≤ x75 := c93
             obtain ⟨b97, of98, cs94, hA99, hr95, hc96⟩ := (HR4.mono (L43.trans L71)).at (i := x75) c93 c81
             obtain rfl := hr95
             refine seqL1 kr ?_
             refine seqK rfl (does_run (run_indexE hA99 (sz := 4) rfl Tryz.underlying27 kr (kv (.slice A2 vf1.Cards.length c3)) (kv (.int .i64 x75)) c93 c81 W72) ?_)
             refine seqK rfl (does_run (run_loadN (n := 4) rfl Tryz.underlying51 rfl kr (kv (.pointer (some ⟨b97, of98 + (x75 : Int).toNat * 4, none⟩))) (cs := [.string ((rd vf1.Cards x75).Key), .string ((rd vf1.Cards x75).Value), .string ((rd vf1.Cards x75).Unit), .string ((rd vf1.Cards x75).Note)]) rfl (fun j_ hj_ => ((hc96 (FM.le.refl _) HS73) j_ hj_))) ?_)
             refine seqK rfl (does_alloc (z := Value.agg #[.string ⟨#[]⟩, .string ⟨#[]⟩, .string ⟨#[]⟩, .string ⟨#[]⟩]) (cs := #[.string ⟨#[]⟩, .string ⟨#[]⟩, .string ⟨#[]⟩, .string ⟨#[]⟩]) rfl kr rfl HS73 ?_)
             intro b100 W101 HS102
             refine seqL1 kr ?_
             refine seqK rfl (does_store (n := 4) (vs := [.string ((rd vf1.Cards x75).Key), .string ((rd vf1.Cards x75).Value), .string ((rd vf1.Cards x75).Unit), .string ((rd vf1.Cards x75).Note)]) (cs' := #[.string ((rd vf1.Cards x75).Key), .string ((rd vf1.Cards x75).Value), .string ((rd vf1.Cards x75).Unit), .string ((rd vf1.Cards x75).Note)]) rfl kr (kv (.pointer (some ⟨b100, 0, none⟩))) (kv (.agg #[.string ((rd vf1.Cards x75).Key), .string ((rd vf1.Cards x75).Value), .string ((rd vf1.Cards x75).Unit), .string ((rd vf1.Cards x75).Note)])) rfl rfl (by intro u_ hu_; simp only [List.mem_cons, List.not_mem_nil, or_false] at hu_; rcases hu_ with rfl | rfl | rfl | rfl <;> rfl) HS102 (Nat.le_of_ble_eq_true rfl) kr ?_)
             intro W104 HS105
             refine nl (hK92 _ _ ?_)
             refine wp_seq_k (fun K106 hK107 => ?_)
             refine wp_seq_k fun K108 hK109 => rl ?_
             refine seqK rfl (does_run (run_loadN (n := 4) rfl Tryz.underlying51 rfl kr (kv (.pointer (some ⟨b100, 0, none⟩))) (cs := [.string ((rd vf1.Cards x75).Key), .string ((rd vf1.Cards x75).Value), .string ((rd vf1.Cards x75).Unit), .string ((rd vf1.Cards x75).Note)]) rfl (HS105.cells 0 4 _ rfl)) ?_)
             have hq_ := bind_some h; clear h; obtain ⟨vt110, hc111, h⟩ := hq_
             refine seqK rfl (does_call (f := 43) (args := #[.agg #[.string ((rd vf1.Cards x75).Key), .string ((rd vf1.Cards x75).Value), .string ((rd vf1.Cards x75).Unit), .string ((rd vf1.Cards x75).Note)]]) kr (frame_CheckCard.calls k (rd vf1.Cards x75) HS105 (HA.mono (L43.trans L71)) vt110 hc111) ?_)
             rintro _ W114 ⟨f112, rfl, L113, HS115⟩
             refine ⟨_, rfl, ?_⟩
             refine seqL1 kr ?_
             refine nl (hK109 _ _ ?_)
             refine wp_seq_k fun K116 hK117 => rl ?_
             refine seqL2 kr ?_
             refine nl (hK117 _ _ ?_)
             have hq_ := ite_some h; clear h; rcases hq_ with ⟨c119, h⟩ | ⟨c119, h⟩
             · have c119 : vt110 ≠ 0 := c119
               refine wpRwI 51 (x := (vt110 != 0)) (v := true) kr (bne_iff_ne.mpr c119) ?_
               refine condT kr ?_
               refine wp_seq_k fun K120 hK121 => rl ?_
               refine seqL2 kr ?_
               refine nl (hK121 _ _ ?_)
               refine wp_ret ?_
               refine hr87 _ _ ?_
               refine hr63 _ _ ?_
               refine hret _ _ ?_
               refine ends_still (v := Value.int .i64 vt110) kr kr ?_
               have HS156 := HS115.drop
               have HS157 := HS156.drop
               replace h := JR144 _ h
               injection h with h
               subst h
               exact ⟨f112, rfl, (L43.trans (L71.trans L113)), HS157⟩
             · have c119 : ¬ (vt110 ≠ 0) := c119
               refine wpRwI 51 (x := (vt110 != 0)) (v := false) kr (bne_eq_false_iff_eq.mpr (Decidable.of_not_not c119)) ?_
               refine condF kr ?_
               refine wp_skip ?_
               refine hK107 _ _ ?_
               refine wp_seq_k (fun K122 hK123 => ?_)
               refine heldG (S := Sg t f112 ([(b100, .cells #[.string ((rd vf1.Cards x75).Key), .string ((rd vf1.Cards x75).Value), .string ((rd vf1.Cards x75).Unit), .string ((rd vf1.Cards x75).Note)] 51 (0, 0))] :: [(b10, .cells #[.int .i64 vf1.W, .int .i64 vf1.H, .slice A2 vf1.Cards.length c3, .slice A5 vf1.Counts.length c6] 29 (0, 0))] :: H) []) (n := 8) kr rfl HS115 ?_
               intro W124 HS125
               refine takeGL [0] (n := 8) (fuel := 7) #[true, false, false, false, false, false, false, false] rfl kr kr kr (fun ch_ a_ w_ q_ => (fun ch_ a_ w_ q_ => hnp ch_ a_ w_ (hp65 ch_ a_ w_ q_)) ch_ a_ w_ (hp89 ch_ a_ w_ q_)) (Sg.g0 (Sx.of [] (FM.le.refl _) HS125)) ?_
               refine takeGQ 1 [] rfl kr kr kr kr kr kr (fun ch_ a_ w_ q_ => (fun ch_ a_ w_ q_ => hnp ch_ a_ w_ (hp65 ch_ a_ w_ q_)) ch_ a_ w_ (hp89 ch_ a_ w_ q_)) (Sg.g0 (Sx.of [] (FM.le.refl _) HS125)) (fun w_ hw_ => by obtain ⟨g_, hl_, hS_⟩ := hw_.st; exact run_load rfl Tryz.underlying27 rfl (kv (.pointer (some ⟨b10, 2, none⟩))) (hS_.u1.cell 2)) ?_
               have hq_ := guard_some h; clear h; obtain ⟨c126, h⟩ := hq_
               have c126 : x75 ≤ (vf1.Cards.length : Int) := c126
               refine takeGL [2] (n := 6) (fuel := 5) #[true, true, true, false, false, false, false, false] rfl kr kr kr (fun ch_ a_ w_ q_ => (fun ch_ a_ w_ q_ => hnp ch_ a_ w_ (hp65 ch_ a_ w_ q_)) ch_ a_ w_ (hp89 ch_ a_ w_ q_)) (Sg.g0 (Sx.of [] (FM.le.refl _) HS125)) ?_
               refine takeGQ 3 [] rfl kr kr kr kr kr kr (fun ch_ a_ w_ q_ => (fun ch_ a_ w_ q_ => hnp ch_ a_ w_ (hp65 ch_ a_ w_ q_)) ch_ a_ w_ (hp89 ch_ a_ w_ q_)) (Sg.g0 (Sx.of [] (FM.le.refl _) HS125)) (fun w_ hw_ => by obtain ⟨g_, hl_, hS_⟩ := hw_.st; exact run_cutH (e := ty_Card) (xs := vf1.Cards) rfl Tryz.underlying27 kr (kv (.slice A2 vf1.Cards.length c3)) (kv (.int .i64 x75)) c93 c126 HR4.le w_) ?_
               refine takeGL [4] (n := 4) (fuel := 3) #[true, true, true, true, true, false, false, false] rfl kr kr kr (fun ch_ a_ w_ q_ => (fun ch_ a_ w_ q_ => hnp ch_ a_ w_ (hp65 ch_ a_ w_ q_)) ch_ a_ w_ (hp89 ch_ a_ w_ q_)) (Sg.g0 (Sx.of [] (FM.le.refl _) HS125)) ?_
               refine takeGQ 5 [] rfl kr kr kr kr kr kr (fun ch_ a_ w_ q_ => (fun ch_ a_ w_ q_ => hnp ch_ a_ w_ (hp65 ch_ a_ w_ q_)) ch_ a_ w_ (hp89 ch_ a_ w_ q_)) (Sg.g0 (Sx.of [] (FM.le.refl _) HS125)) (fun w_ hw_ => by obtain ⟨g_, hl_, hS_⟩ := hw_.st; exact run_load rfl Tryz.underlying9 rfl (kv (.pointer (some ⟨b100, 0, none⟩))) (hS_.cell 0)) ?_
               have hq_ := bind_some h; clear h; obtain ⟨vt127, hc128, h⟩ := hq_
               refine takeGE 6 kr rfl kr (does_call (f := 36) (args := #[.slice A2 (vf1.Cards.take (x75).toNat).length c3, .string ((rd vf1.Cards x75).Key)]) kr (frame_find.calls k A2 c3 (vf1.Cards.take (x75).toNat) ((rd vf1.Cards x75).Key) HS125 ((HR4.take (x75).toNat).mono (L43.trans (L71.trans L113))) vt127 hc128) ?_)
               rintro _ W131 ⟨f129, rfl, L130, HS132⟩
               refine ⟨_, rfl, ?_⟩
               refine ⟨(Sg.g0 (Sx.of [] L130 HS132)), ?_⟩
               refine takeGL [7] (n := 1) (fuel := 0) #[true, true, true, true, true, true, true, true] rfl kr kr kr (fun ch_ a_ w_ q_ => (fun ch_ a_ w_ q_ => hnp ch_ a_ w_ (hp65 ch_ a_ w_ q_)) ch_ a_ w_ (hp89 ch_ a_ w_ q_)) (Sg.g0 (Sx.of [] L130 HS132)) ?_
               refine doneG kr ?_ _
               refine hK123 _ _ ?_
               have hq_ := ite_some h; clear h; rcases hq_ with ⟨c134, h⟩ | ⟨c134, h⟩
               · have c134 : vt127 ≥ 0 := c134
                 refine wpRwI 60 (x := (decide (vt127 ≥ 0))) (v := true) kr (decide_eq_true c134) ?_
                 refine condT kr ?_
                 refine wp_seq_k fun K135 hK136 => rl ?_
                 refine seqL1 kr ?_
                 refine nl (hK136 _ _ ?_)
                 refine wp_ret ?_
                 refine hr87 _ _ ?_
                 refine hr63 _ _ ?_
                 refine hret _ _ ?_
                 refine ends_still (v := Value.int .i64 7) kr kr ?_
                 have HS158 := HS132.drop
                 have HS159 := HS158.drop
                 replace h := JR144 _ h
                 injection h with h
                 subst h
                 exact ⟨f129, rfl, (L43.trans (L71.trans (L113.trans L130))), HS159⟩
               · have c134 : ¬ (vt127 ≥ 0) := c134
                 refine wpRwI 60 (x := (decide (vt127 ≥ 0))) (v := false) kr (decide_eq_false c134) ?_
                 refine condF kr ?_
                 refine wp_skip ?_
                 refine hn86 _ _ ?_
                 refine hK83 _ _ ?_
                 refine rl ?_
                 refine seqL2 kr ?_
                 refine nl ?_
                 refine hK68 n69 _ _ (Nat.lt_succ_self _) ?_
                 have HS146 := HS132.u1
                 have HS147 := HS146.u1
                 have HS148 := HS147.drop
                 exact ⟨f129, (w64 (x75 + 1)), (fun i_ => [(j74 0), Value.int .i64 x75, Value.pointer (some ⟨b100, 0, none⟩), Value.int .i64 vt110, Value.bool true, Value.int .i64 x75, Value.pointer (some ⟨b97, of98 + (x75 : Int).toNat * 4, none⟩), (ag_Card (rd vf1.Cards x75)), (ag_Card (rd vf1.Cards x75)), Value.int .i64 vt110, Value.int .i64 vt110, Value.bool false, (j74 12), Value.pointer (some ⟨b10, 2, none⟩), Value.slice A2 vf1.Cards.length c3, Value.int .i64 x75, Value.slice A2 (vf1.Cards.take (x75).toNat).length c3, Value.pointer (some ⟨b100, 0, none⟩), Value.string ((rd vf1.Cards x75).Key), Value.int .i64 vt127, Value.bool false, Value.int .i64 (w64 (x75 + 1))].getD i_ undef), (L71.trans (L113.trans L130)), HS148, h, kr⟩
           · have c81 : ¬ (x75 < (vf1.Cards.length : Int)) := c81
             refine wpRwI 44 (x := (decide (x75 < (vf1.Cards.length : Int)))) (v := false) kr (decide_eq_false c81) ?_
             refine condF kr ?_
             refine wp_exit ?_
             refine hx61 _ _ ?_
             exact J143 f70 (fun i_ => [(j74 0), (j74 1), (j74 2), (j74 3), Value.int .i64 x75, Value.bool false, (j74 5), (j74 6), (j74 7), (j74 8), (j74 9), (j74 10), (j74 11), (j74 12), (j74 13), (j74 14), (j74 15), (j74 16), (j74 17), (j74 18), (j74 19), (j74 20), (j74 21)].getD i_ undef) W72 _ L71 h HS73 kr

set_option maxRecDepth 100000 in
set_option maxHeartbeats 4000000 in
theorem slices_Clone_Card.calls (k : Nat) (A2 : Option Addr) (c3 : Nat) (s1 : List S_Card) {t w : World} {f : FM} {H : List Seg} (HS : St t w f (H)) (HR4 : SlR ty_Card f A2 c3 s1) (rr1 : List S_Card) (h : slices_Clone_Card k s1 = some rr1) :
    Calls Tryz.prog 34 #[.slice A2 s1.length c3] w (fun e w' => ∃ (g : FM) (A31 : Option Addr) (c32 : Nat) (s33 : Seg), e = .returned (Value.slice A31 rr1.length c32) ∧ FM.le f g ∧ St t w' g (s33 :: H) ∧ Own ty_Card 51 g A31 c32 s33 rr1) := by
 unfold slices_Clone_Card at h
 refine enter Tryz.func34 rfl (tm := #[.slice A2 s1.length c3, uV, uV, uV, uV, uV, uV, uV]) kr ?_
 intro B hret hnor hnp
 refine wp_seq_k fun K5 hK6 => rl ?_
 refine seqL1 kr ?_
 refine nl (hK6 _ _ ?_)
 refine wp_seq_k (fun K7 hK8 => ?_)
 refine wp_seq_k fun K9 hK10 => rl ?_
 refine seqL1 kr ?_
 obtain _ | ad11 := A2
 · obtain rfl := HR4.nil_eq
   have hq_ := guard_some h; clear h; obtain ⟨_, h⟩ := hq_
   refine seqL1 kr ?_
   refine nl (hK10 _ _ ?_)
   refine condT kr ?_
   refine wp_seq_k fun K27 hK28 => rl ?_
   refine seqL1 kr ?_
   refine nl (hK28 _ _ ?_)
   refine wp_ret ?_
   refine hret _ _ ?_
   have HS29 := HS.cons_nil
   refine ends_still (v := Value.slice none 0 0) kr kr ?_
   injection h with h
   subst h
   exact ⟨f, none, 0, [], rfl, FM.le.refl _, HS29, (Own.nil _)⟩
 · refine seqL1 kr ?_
   refine nl (hK10 _ _ ?_)
   refine condF kr ?_
   refine wp_skip ?_
   refine hK8 _ _ ?_
   refine wp_seq_k fun K12 hK13 => rl ?_
   refine seqK rfl (does_lit (e := ty_Card) (E := 51) (vs := #[]) (cs := #[]) (xs := ([] : List S_Card)) rfl Tryz.underlying27 kr kr rfl rfl HS ?_ (by decide))
   intro b14 W15 s16 HS17 _ HO18
   have hq_ := guard_some h; clear h; obtain ⟨c20, h⟩ := hq_
   have c20 : (([] : List S_Card).length + s1.length) * 64 ≤ 140737488355328 := c20
   refine seqL1 kr ?_
   refine seqK rfl (does_append (e := ty_Card) (E := 51) (xs := ([] : List S_Card)) (ys := s1) rfl (kv (.slice (some ⟨b14, 0, none⟩) ([] : List S_Card).length 0)) (kv (.slice (some ad11) s1.length c3)) Tryz.underlying27 inf51 HO18 HS17 (HR4.rc HS17) c20 (lim63 c20 (by decide)) ?_)
   intro A21 c22 s23 W24 HS25 HO26
   refine seqL1 kr ?_
   refine nl (hK13 _ _ ?_)
   refine wp_ret ?_
   refine hret _ _ ?_
   refine ends_still (v := Value.slice A21 (([] : List S_Card) ++ s1).length c22) kr kr ?_
   injection h with h
   subst h
   exact ⟨f, A21, c22, s23, rfl, FM.le.refl _, HS25, HO26⟩

set_option maxRecDepth 100000 in
set_option maxHeartbeats 4000000 in
theorem slices_Clone_int.calls (k : Nat) (A2 : Option Addr) (c3 : Nat) (s1 : List Int) {t w : World} {f : FM} {H : List Seg} (HS : St t w f (H)) (HR4 : SlR (tInt .i64) f A2 c3 s1) (rr1 : List Int) (h : slices_Clone_int k s1 = some rr1) :
    Calls Tryz.prog 35 #[.slice A2 s1.length c3] w (fun e w' => ∃ (g : FM) (A31 : Option Addr) (c32 : Nat) (s33 : Seg), e = .returned (Value.slice A31 rr1.length c32) ∧ FM.le f g ∧ St t w' g (s33 :: H) ∧ Own (tInt .i64) 3 g A31 c32 s33 rr1) := by
 unfold slices_Clone_int at h
 refine enter Tryz.func35 rfl (tm := #[.slice A2 s1.length c3, uV, uV, uV, uV, uV, uV, uV]) kr ?_
 intro B hret hnor hnp
 refine wp_seq_k fun K5 hK6 => rl ?_
 refine seqL1 kr ?_
 refine nl (hK6 _ _ ?_)
 refine wp_seq_k (fun K7 hK8 => ?_)
 refine wp_seq_k fun K9 hK10 => rl ?_
 refine seqL1 kr ?_
 obtain _ | ad11 := A2
 · obtain rfl := HR4.nil_eq
   have hq_ := guard_some h; clear h; obtain ⟨_, h⟩ := hq_
   refine seqL1 kr ?_
   refine nl (hK10 _ _ ?_)
   refine condT kr ?_
   refine wp_seq_k fun K27 hK28 => rl ?_
   refine seqL1 kr ?_
   refine nl (hK28 _ _ ?_)
   refine wp_ret ?_
   refine hret _ _ ?_
   have HS29 := HS.cons_nil
   refine ends_still (v := Value.slice none 0 0) kr kr ?_
   injection h with h
   subst h
   exact ⟨f, none, 0, [], rfl, FM.le.refl _, HS29, (Own.nil _)⟩
 · refine seqL1 kr ?_
   refine nl (hK10 _ _ ?_)
   refine condF kr ?_
   refine wp_skip ?_
   refine hK8 _ _ ?_
   refine wp_seq_k fun K12 hK13 => rl ?_
   refine seqK rfl (does_lit (e := (tInt .i64)) (E := 3) (vs := #[]) (cs := #[]) (xs := ([] : List Int)) rfl Tryz.underlying22 kr kr rfl rfl HS ?_ (by decide))
   intro b14 W15 s16 HS17 _ HO18
   have hq_ := guard_some h; clear h; obtain ⟨c20, h⟩ := hq_
   have c20 : (([] : List Int).length + s1.length) * 8 ≤ 140737488355328 := c20
   refine seqL1 kr ?_
   refine seqK rfl (does_append (e := (tInt .i64)) (E := 3) (xs := ([] : List Int)) (ys := s1) rfl (kv (.slice (some ⟨b14, 0, none⟩) ([] : List Int).length 0)) (kv (.slice (some ad11) s1.length c3)) Tryz.underlying22 inf3 HO18 HS17 (HR4.rc HS17) c20 (lim63 c20 (by decide)) ?_)
   intro A21 c22 s23 W24 HS25 HO26
   refine seqL1 kr ?_
   refine nl (hK13 _ _ ?_)
   refine wp_ret ?_
   refine hret _ _ ?_
   refine ends_still (v := Value.slice A21 (([] : List Int) ++ s1).length c22) kr kr ?_
   injection h with h
   subst h
   exact ⟨f, A21, c22, s23, rfl, FM.le.refl _, HS25, HO26⟩

set_option maxRecDepth 100000 in
set_option maxHeartbeats 4000000 in
theorem frame_Set.calls (k : Nat) (A2 : Option Addr) (c3 : Nat) (A5 : Option Addr) (c6 : Nat) (vf1 : S_Frame) (c8 : S_Card) {t w : World} {f : FM} {H : List Seg} (HS : St t w f (H)) (HR4 : SlR ty_Card f A2 c3 vf1.Cards) (HR7 : SlR (tInt .i64) f A5 c6 vf1.Counts) (HA : TabF Tryz.prog "strings.asciiSpace" .u8 Go.Lib.asciiSpaceTab f) (rr1 : S_Frame) (rr2 : Int) (h : frame_Set k vf1 c8 = some (rr1, rr2)) :
    Calls Tryz.prog 17 #[.agg #[.int .i64 vf1.W, .int .i64 vf1.H, .slice A2 vf1.Cards.length c3, .slice A5 vf1.Counts.length c6], .agg #[.string c8.Key, .string c8.Value, .string c8.Unit, .string c8.Note]] w (fun e w' => ∃ (g : FM) (A296 : Option Addr) (c297 : Nat) (s298 : Seg) (A299 : Option Addr) (c300 : Nat) (s301 : Seg), e = .returned (Value.tuple #[.agg #[.int .i64 rr1.W, .int .i64 rr1.H, .slice A296 rr1.Cards.length c297, .slice A299 rr1.Counts.length c300], .int .i64 rr2]) ∧ FM.le f g ∧ St t w' g (s298 :: s301 :: H) ∧ Own ty_Card 51 g A296 c297 s298 rr1.Cards ∧ Own (tInt .i64) 3 g A299 c300 s301 rr1.Counts) := by
 unfold frame_Set at h
 refine enter Tryz.func17 rfl (tm := #[(ag_Frame vf1 A2 c3 A5 c6), (ag_Card c8), uV, uV, uV, uV, uV, uV, uV, uV, uV, uV, uV, uV, uV, uV, uV, uV, uV, uV, uV, uV, uV, uV, uV, uV, uV, uV, uV, uV, uV, uV, uV, uV, uV, uV, uV, uV, uV, uV, uV, uV, uV, uV, uV, uV, uV, uV, uV, uV, uV, uV]) kr ?_
 intro B hret hnor hnp
 refine wp_seq_k fun K9 hK10 => rl ?_
 refine seqK rfl (does_box (cs := #[.int .i64 vf1.W, .int .i64 vf1.H, .slice A2 vf1.Cards.length c3, .slice A5 vf1.Counts.length c6]) rfl (kv (.agg #[.int .i64 vf1.W, .int .i64 vf1.H, .slice A2 vf1.Cards.length c3, .slice A5 vf1.Counts.length c6])) rfl HS ?_)
 intro b11 W12 HS13
 refine seqK rfl (does_box (cs := #[.string c8.Key, .string c8.Value, .string c8.Unit, .string c8.Note]) rfl (kv (.agg #[.string c8.Key, .string c8.Value, .string c8.Unit, .string c8.Note])) rfl HS13 ?_)
 intro b15 W16 HS17
 refine seqK rfl (does_alloc (z := Value.agg #[.int .i64 0, .int .i64 0, .slice none 0 0, .slice none 0 0]) (cs := #[.int .i64 0, .int .i64 0, .slice none 0 0, .slice none 0 0]) rfl kr rfl HS17 ?_)
 intro b19 W20 HS21
 refine seqL1 kr ?_
 refine nl (hK10 _ _ ?_)
 refine wp_seq_k (fun K23 hK24 => ?_)
 refine wp_seq_k fun K25 hK26 => rl ?_
 refine seqK rfl (does_run (run_loadN (n := 4) rfl Tryz.underlying29 rfl kr (kv (.pointer (some ⟨b11, 0, none⟩))) (cs := [.int .i64 vf1.W, .int .i64 vf1.H, .slice A2 vf1.Cards.length c3, .slice A5 vf1.Counts.length c6]) rfl (HS21.u2.cells 0 4 _ rfl)) ?_)
 have hq_ := bind_some h; clear h; obtain ⟨vt27, hc28, h⟩ := hq_
 refine seqK rfl (does_call (f := 21) (args := #[.agg #[.int .i64 vf1.W, .int .i64 vf1.H, .slice A2 vf1.Cards.length c3, .slice A5 vf1.Counts.length c6]]) kr (frame_Check.calls k A2 c3 A5 c6 vf1 HS21 HR4 HR7 HA vt27 hc28) ?_)
 rintro _ W31 ⟨f29, rfl, L30, HS32⟩
 refine ⟨_, rfl, ?_⟩
 refine seqL1 kr ?_
 refine nl (hK26 _ _ ?_)
 refine wp_seq_k fun K33 hK34 => rl ?_
 refine seqL2 kr ?_
 refine nl (hK34 _ _ ?_)
 have hq_ := ite_some h; clear h; rcases hq_ with ⟨c36, h⟩ | ⟨c36, h⟩
 · have c36 : vt27 ≠ 0 := c36
   refine wpRwI 13 (x := (vt27 != 0)) (v := true) kr (bne_iff_ne.mpr c36) ?_
   refine condT kr ?_
   refine wp_seq_k fun K37 hK38 => rl ?_
   refine seqL2 kr ?_
   refine seqK rfl (does_store (n := 4) (vs := [.int .i64 0, .int .i64 0, .slice none 0 0, .slice none 0 0]) (cs' := #[.int .i64 0, .int .i64 0, .slice none 0 0, .slice none 0 0]) rfl kr (kv (.pointer (some ⟨b19, 0, none⟩))) (kv (.agg #[.int .i64 0, .int .i64 0, .slice none 0 0, .slice none 0 0])) rfl rfl (by intro u_ hu_; simp only [List.mem_cons, List.not_mem_nil, or_false] at hu_; rcases hu_ with rfl | rfl | rfl | rfl <;> rfl) HS32 (Nat.le_of_ble_eq_true rfl) kr ?_)
   intro W39 HS40
   refine seqL1 kr ?_
   refine nl (hK38 _ _ ?_)
   refine wp_ret ?_
   refine hret _ _ ?_
   have HS258 := HS40.cons_nil
   have HS260 := HS258.cons_nil
   refine ends (v := Value.tuple #[.agg #[.int .i64 0, .int .i64 0, .slice none 0 0, .slice none 0 0], .int .i64 vt27]) (results2 (q1 := .cell 4 29) (q2 := .tmp 5) kr (resN (n := 4) (cs := [.int .i64 0, .int .i64 0, .slice none 0 0, .slice none 0 0]) (kv (.pointer (some ⟨b19, 0, none⟩))) Tryz.underlying29 rfl kr rfl (HS260.u2.cells 0 4 _ rfl)) (resT (kv (.int .i64 vt27)))) kr ?_
   have HS262 := HS260.u1
   have HS263 := HS262.u4
   have HS264 := HS263.u4
   have HS265 := HS264.u4
   have HS266 := HS265.drop
   have HS267 := HS266.drop
   have HS268 := HS267.drop
   injection h with h
   injection h with h0_ h
   subst h0_ h
   exact ⟨f29, none, 0, [], none, 0, [], rfl, L30, HS268, (Own.nil _), (Own.nil _)⟩
 · have c36 : ¬ (vt27 ≠ 0) := c36
   refine wpRwI 13 (x := (vt27 != 0)) (v := false) kr (bne_eq_false_iff_eq.mpr (Decidable.of_not_not c36)) ?_
   refine condF kr ?_
   refine wp_skip ?_
   refine hK24 _ _ ?_
   refine wp_seq_k (fun K41 hK42 => ?_)
   refine heldG (S := Sg t f29 ([(b19, .cells #[.int .i64 0, .int .i64 0, .slice none 0 0, .slice none 0 0] 29 (0, 0))] :: [(b15, .cells #[.string c8.Key, .string c8.Value, .string c8.Unit, .string c8.Note] 51 (0, 0))] :: [(b11, .cells #[.int .i64 vf1.W, .int .i64 vf1.H, .slice A2 vf1.Cards.length c3, .slice A5 vf1.Counts.length c6] 29 (0, 0))] :: H) []) (n := 13) kr rfl HS32 ?_
   intro W43 HS44
   refine takeGL [0] (n := 13) (fuel := 12) #[true, false, false, false, false, false, false, false, false, false, false, false, false] rfl kr kr kr hnp (Sg.g0 (Sx.of [] (FM.le.refl _) HS44)) ?_
   refine takeGQ 1 [] rfl kr kr kr kr kr kr hnp (Sg.g0 (Sx.of [] (FM.le.refl _) HS44)) (fun w_ hw_ => by obtain ⟨g_, hl_, hS_⟩ := hw_.st; exact run_load rfl Tryz.underlying3 rfl (kv (.pointer (some ⟨b11, 0, none⟩))) (hS_.u2.cell 0)) ?_
   refine takeGL [2] (n := 11) (fuel := 10) #[true, true, true, false, false, false, false, false, false, false, false, false, false] rfl kr kr kr hnp (Sg.g0 (Sx.of [] (FM.le.refl _) HS44)) ?_
   refine takeGQ 3 [] rfl kr kr kr kr kr kr hnp (Sg.g0 (Sx.of [] (FM.le.refl _) HS44)) (fun w_ hw_ => by obtain ⟨g_, hl_, hS_⟩ := hw_.st; exact run_load rfl Tryz.underlying3 rfl (kv (.pointer (some ⟨b11, 1, none⟩))) (hS_.u2.cell 1)) ?_
   refine takeGL [4] (n := 9) (fuel := 8) #[true, true, true, true, true, false, false, false, false, false, false, false, false] rfl kr kr kr hnp (Sg.g0 (Sx.of [] (FM.le.refl _) HS44)) ?_
   refine takeGQ 5 [] rfl kr kr kr kr kr kr hnp (Sg.g0 (Sx.of [] (FM.le.refl _) HS44)) (fun w_ hw_ => by obtain ⟨g_, hl_, hS_⟩ := hw_.st; exact run_load rfl Tryz.underlying27 rfl (kv (.pointer (some ⟨b11, 2, none⟩))) (hS_.u2.cell 2)) ?_
   refine takeGL [7] (n := 7) (fuel := 6) #[true, true, true, true, true, true, false, true, false, false, false, false, false] rfl kr kr kr hnp (Sg.g0 (Sx.of [] (FM.le.refl _) HS44)) ?_
   refine takeGQ 8 [] rfl kr kr kr kr kr kr hnp (Sg.g0 (Sx.of [] (FM.le.refl _) HS44)) (fun w_ hw_ => by obtain ⟨g_, hl_, hS_⟩ := hw_.st; exact run_load rfl Tryz.underlying22 rfl (kv (.pointer (some ⟨b11, 3, none⟩))) (hS_.u2.cell 3)) ?_
   have hq_ := bind_some h; clear h; obtain ⟨vt45, hc46, h⟩ := hq_
   have hq_ := bind_some h; clear h; obtain ⟨vt56, hc57, h⟩ := hq_
   refine withR #[true, true, true, true, true, true, true, true, true, true, true, true, true] ?_
   intro R73 hR74 hR75
   have J76 : ∀ (f47 : FM) (A51 : Option Addr) (c52 : Nat) (s53 : Seg) (f58 : FM) (A62 : Option Addr) (c63 : Nat) (s64 : Seg) (b67 : Nat) (W77 : World) (a_ : Act), FM.le f29 f47 → Own ty_Card 51 f47 A51 c52 s53 vt45 → FM.le f47 f58 → Own (tInt .i64) 3 f58 A62 c63 s64 vt56 → St t W77 f58 ([(b67, .cells #[.int .i64 vf1.W, .int .i64 vf1.H, .slice A51 vt45.length c52, .slice A62 vt56.length c63] 29 (0, 0))] :: s64 :: s53 :: [(b19, .cells #[.int .i64 0, .int .i64 0, .slice none 0 0, .slice none 0 0] 29 (0, 0))] :: [(b15, .cells #[.string c8.Key, .string c8.Value, .string c8.Unit, .string c8.Note] 51 (0, 0))] :: [(b11, .cells #[.int .i64 vf1.W, .int .i64 vf1.H, .slice A2 vf1.Cards.length c3, .slice A5 vf1.Counts.length c6] 29 (0, 0))] :: H) → a_ = ⟨#[(ag_Frame vf1 A2 c3 A5 c6), (ag_Card c8), pV b11 0, pV b15 0, pV b19 0, iV 0, iV vt27, pV b67 0, uV, uV, (ag_Frame vf1 A2 c3 A5 c6), iV vt27, iV vt27, fV, uV, uV, pV b11 0, iV vf1.W, pV b11 1, iV vf1.H, pV b11 2, .slice A2 vf1.Cards.length c3, .slice A51 vt45.length c52, pV b11 3, .slice A5 vf1.Counts.length c6, .slice A62 vt56.length c63, .agg #[iV vf1.W, iV vf1.H, .slice A51 vt45.length c52, .slice A62 vt56.length c63], uV, uV, uV, uV, uV, uV, uV, uV, uV, uV, uV, uV, uV, uV, uV, uV, uV, uV, uV, uV, uV, uV, uV, uV, uV], []⟩ → R73 a_ W77 := by
    intro f47 A51 c52 s53 f58 A62 c63 s64 b67 W77 a_ L48 HO54 L59 HO65 HS78 hfr_; subst hfr_
    refine hR74 _ _ ?_
    refine doneG kr ?_ _
    refine hK42 _ _ ?_
    refine wp_seq_k (fun K144 hK145 => ?_)
    refine wp_seq_k fun K146 hK147 => rl ?_
    refine seqL1 kr ?_
    refine seqK rfl (does_run (run_load rfl Tryz.underlying27 rfl (kv (.pointer (some ⟨b67, 2, none⟩))) (HS78.cell 2)) ?_)
    refine seqL1 kr ?_
    refine seqK rfl (does_run (run_load rfl Tryz.underlying9 rfl (kv (.pointer (some ⟨b15, 0, none⟩))) (HS78.u4.cell 0)) ?_)
    have HS148 := HS78.u2
    obtain ⟨f149, L150, HS151, HR152, th153⟩ := (HO54.mono L59).lend HS148
    have hq_ := bind_some h; clear h; obtain ⟨vt154, hc155, h⟩ := hq_
    refine seqK rfl (does_call (f := 36) (args := #[.slice A51 vt45.length c52, .string c8.Key]) kr (frame_find.calls k A51 c52 vt45 c8.Key HS151 HR152 vt154 hc155) ?_)
    rintro _ W158 ⟨f156, rfl, L157, HS159⟩
    refine ⟨_, rfl, ?_⟩
    obtain ⟨f160, L161, HS162⟩ := th153 L157 HS159
    refine seqL1 kr ?_
    refine nl (hK147 _ _ ?_)
    refine wp_seq_k fun K163 hK164 => rl ?_
    refine seqL2 kr ?_
    refine nl (hK164 _ _ ?_)
    have hq_ := bind_some h; clear h; obtain ⟨v165, hv208, h⟩ := hq_
    have J209 : ∀ (f198 : FM) (A204 : Option Addr) (c205 : Nat) (s206 : Seg) (x203 : List S_Card) (j202 : Nat → Value) (W200 : World) (a_ : Act), FM.le f160 f198 → some (x203) = some v165 → St t W200 f198 (s206 :: [(b67, .cells #[.int .i64 vf1.W, .int .i64 vf1.H, .slice A204 x203.length c205, .slice A62 vt56.length c63] 29 (0, 0))] :: s64 :: [(b19, .cells #[.int .i64 0, .int .i64 0, .slice none 0 0, .slice none 0 0] 29 (0, 0))] :: [(b15, .cells #[.string c8.Key, .string c8.Value, .string c8.Unit, .string c8.Note] 51 (0, 0))] :: [(b11, .cells #[.int .i64 vf1.W, .int .i64 vf1.H, .slice A2 vf1.Cards.length c3, .slice A5 vf1.Counts.length c6] 29 (0, 0))] :: H) → Own ty_Card 51 f198 A204 c205 s206 x203 → a_ = ⟨#[(ag_Frame vf1 A2 c3 A5 c6), (ag_Card c8), pV b11 0, pV b15 0, pV b19 0, iV 0, iV vt27, pV b67 0, iV vt154, uV, (ag_Frame vf1 A2 c3 A5 c6), iV vt27, iV vt27, fV, uV, uV, pV b11 0, iV vf1.W, pV b11 1, iV vf1.H, pV b11 2, .slice A2 vf1.Cards.length c3, (j202 0), pV b11 3, .slice A5 vf1.Counts.length c6, .slice A62 vt56.length c63, (j202 1), pV b67 2, (j202 2), pV b15 0, .string c8.Key, iV vt154, iV vt154, .bool (decide (vt154 ≥ 0)), (j202 3), (j202 4), (j202 5), (j202 6), (j202 7), (j202 8), (j202 9), (j202 10), (j202 11), (j202 12), (j202 13), uV, uV, uV, uV, uV, uV, uV], []⟩ → K144 a_ W200 := by
     intro f198 A204 c205 s206 x203 j202 W200 a_ L199 hj210 HS201 HO207 hfr_; subst hfr_
     injection hj210 with hj210; subst hj210; try dsimp only at h
     refine hK145 _ _ ?_
     refine wp_seq_k (fun K217 hK218 => ?_)
     refine wp_seq_k fun K219 hK220 => rl ?_
     refine seqK rfl (does_run (run_loadN (n := 4) rfl Tryz.underlying29 rfl kr (kv (.pointer (some ⟨b67, 0, none⟩))) (cs := [.int .i64 vf1.W, .int .i64 vf1.H, .slice A204 x203.length c205, .slice A62 vt56.length c63]) rfl (HS201.u1.cells 0 4 _ rfl)) ?_)
     obtain ⟨f221, L222, HS223, HR224, th225⟩ := HO207.lend HS201
     have HS226 := HS223.u1
     obtain ⟨f227, L228, HS229, HR230, th231⟩ := (HO65.mono (L161.trans (L199.trans L222))).lend HS226
     have hq_ := bind_some h; clear h; obtain ⟨vt232, hc233, h⟩ := hq_
     refine seqK rfl (does_call (f := 21) (args := #[.agg #[.int .i64 vf1.W, .int .i64 vf1.H, .slice A204 x203.length c205, .slice A62 vt56.length c63]]) kr (frame_Check.calls k A204 c205 A62 c63 (⟨vf1.W, vf1.H, x203, vt56⟩ : S_Frame) HS229 (HR224.mono L228) HR230 (HA.mono (L30.trans (L48.trans (L59.trans (L161.trans (L199.trans (L222.trans L228))))))) vt232 hc233) ?_)
     rintro _ W236 ⟨f234, rfl, L235, HS237⟩
     refine ⟨_, rfl, ?_⟩
     obtain ⟨f238, L239, HS240⟩ := th231 L235 HS237
     obtain ⟨f241, L242, HS243⟩ := th225 L239 HS240
     refine seqL1 kr ?_
     refine nl (hK220 _ _ ?_)
     refine wp_seq_k fun K244 hK245 => rl ?_
     refine seqL2 kr ?_
     refine nl (hK245 _ _ ?_)
     have hq_ := ite_some h; clear h; rcases hq_ with ⟨c247, h⟩ | ⟨c247, h⟩
     · have c247 : vt232 ≠ 0 := c247
       refine wpRwI 48 (x := (vt232 != 0)) (v := true) kr (bne_iff_ne.mpr c247) ?_
       refine condT kr ?_
       refine wp_seq_k fun K248 hK249 => rl ?_
       have HS250 := HS243.u3
       refine seqL2 kr ?_
       refine seqK rfl (does_store (n := 4) (vs := [.int .i64 0, .int .i64 0, .slice none 0 0, .slice none 0 0]) (cs' := #[.int .i64 0, .int .i64 0, .slice none 0 0, .slice none 0 0]) rfl kr (kv (.pointer (some ⟨b19, 0, none⟩))) (kv (.agg #[.int .i64 0, .int .i64 0, .slice none 0 0, .slice none 0 0])) rfl rfl (by intro u_ hu_; simp only [List.mem_cons, List.not_mem_nil, or_false] at hu_; rcases hu_ with rfl | rfl | rfl | rfl <;> rfl) HS250 (Nat.le_of_ble_eq_true rfl) kr ?_)
       intro W251 HS252
       refine seqL1 kr ?_
       refine nl (hK249 _ _ ?_)
       refine wp_ret ?_
       refine hret _ _ ?_
       have HS269 := HS252.cons_nil
       have HS271 := HS269.cons_nil
       refine ends (v := Value.tuple #[.agg #[.int .i64 0, .int .i64 0, .slice none 0 0, .slice none 0 0], .int .i64 vt232]) (results2 (q1 := .cell 4 29) (q2 := .tmp 5) kr (resN (n := 4) (cs := [.int .i64 0, .int .i64 0, .slice none 0 0, .slice none 0 0]) (kv (.pointer (some ⟨b19, 0, none⟩))) Tryz.underlying29 rfl kr rfl (HS271.u2.cells 0 4 _ rfl)) (resT (kv (.int .i64 vt232)))) kr ?_
       have HS273 := HS271.u1
       have HS274 := HS273.u7
       have HS275 := HS274.u7
       have HS276 := HS275.u7
       have HS277 := HS276.u7
       have HS278 := HS277.u7
       have HS279 := HS278.u7
       have HS280 := HS279.drop
       have HS281 := HS280.drop
       have HS282 := HS281.drop
       have HS283 := HS282.drop
       have HS284 := HS283.drop
       have HS285 := HS284.drop
       injection h with h
       injection h with h0_ h
       subst h0_ h
       exact ⟨f241, none, 0, [], none, 0, [], rfl, (L30.trans (L48.trans (L59.trans (L161.trans (L199.trans L242))))), HS285, (Own.nil _), (Own.nil _)⟩
     · have c247 : ¬ (vt232 ≠ 0) := c247
       refine wpRwI 48 (x := (vt232 != 0)) (v := false) kr (bne_eq_false_iff_eq.mpr (Decidable.of_not_not c247)) ?_
       refine condF kr ?_
       refine wp_skip ?_
       refine hK218 _ _ ?_
       refine wp_seq_k fun K253 hK254 => rl ?_
       refine seqK rfl (does_run (run_loadN (n := 4) rfl Tryz.underlying29 rfl kr (kv (.pointer (some ⟨b67, 0, none⟩))) (cs := [.int .i64 vf1.W, .int .i64 vf1.H, .slice A204 x203.length c205, .slice A62 vt56.length c63]) rfl (HS243.u2.cells 0 4 _ rfl)) ?_)
       have HS255 := HS243.u3
       refine seqK rfl (does_store (n := 4) (vs := [.int .i64 vf1.W, .int .i64 vf1.H, .slice A204 x203.length c205, .slice A62 vt56.length c63]) (cs' := #[.int .i64 vf1.W, .int .i64 vf1.H, .slice A204 x203.length c205, .slice A62 vt56.length c63]) rfl kr (kv (.pointer (some ⟨b19, 0, none⟩))) (kv (.agg #[.int .i64 vf1.W, .int .i64 vf1.H, .slice A204 x203.length c205, .slice A62 vt56.length c63])) rfl rfl (by intro u_ hu_; simp only [List.mem_cons, List.not_mem_nil, or_false] at hu_; rcases hu_ with rfl | rfl | rfl | rfl <;> rfl) HS255 (Nat.le_of_ble_eq_true rfl) kr ?_)
       intro W256 HS257
       refine seqL1 kr ?_
       refine nl (hK254 _ _ ?_)
       refine wp_ret ?_
       refine hret _ _ ?_
       refine ends (v := Value.tuple #[.agg #[.int .i64 vf1.W, .int .i64 vf1.H, .slice A204 x203.length c205, .slice A62 vt56.length c63], .int .i64 0]) (results2 (q1 := .cell 4 29) (q2 := .tmp 5) kr (resN (n := 4) (cs := [.int .i64 vf1.W, .int .i64 vf1.H, .slice A204 x203.length c205, .slice A62 vt56.length c63]) (kv (.pointer (some ⟨b19, 0, none⟩))) Tryz.underlying29 rfl kr rfl (HS257.cells 0 4 _ rfl)) (resT (kv (.int .i64 0)))) kr ?_
       have HS286 := HS257.u2
       have HS287 := HS286.u2
       have HS288 := HS287.u5
       have HS289 := HS288.u5
       have HS290 := HS289.u5
       have HS291 := HS290.u5
       have HS292 := HS291.drop
       have HS293 := HS292.drop
       have HS294 := HS293.drop
       have HS295 := HS294.drop
       injection h with h
       injection h with h0_ h
       subst h0_ h
       exact ⟨f241, A204, c205, s206, A62, c63, s64, rfl, (L30.trans (L48.trans (L59.trans (L161.trans (L199.trans L242))))), HS295, (HO207.mono L242), (HO65.mono (L161.trans (L199.trans L242)))⟩
    clear h; have h := hv208; clear hv208
    have hq_ := ite_some h; clear h; rcases hq_ with ⟨c166, h⟩ | ⟨c166, h⟩
    · have c166 : vt154 ≥ 0 := c166
      refine wpRwI 33 (x := (decide (vt154 ≥ 0))) (v := true) kr (decide_eq_true c166) ?_
      refine condT kr ?_
      refine rl ?_
      refine seqL1 kr ?_
      refine seqK rfl (does_run (run_load rfl Tryz.underlying27 rfl (kv (.pointer (some ⟨b67, 2, none⟩))) (HS162.u1.cell 2)) ?_)
      refine seqL1 kr ?_
      refine seqK rfl (does_run (run_loadN (n := 4) rfl Tryz.underlying51 rfl kr (kv (.pointer (some ⟨b15, 0, none⟩))) (cs := [.string c8.Key, .string c8.Value, .string c8.Unit, .string c8.Note]) rfl (HS162.u4.cells 0 4 _ rfl)) ?_)
      have hq_ := guard_some h; clear h; obtain ⟨c167, h⟩ := hq_
      have c167 : 0 ≤ vt154 := c167
      have hq_ := guard_some h; clear h; obtain ⟨c168, h⟩ := hq_
      have c168 : vt154 < (vt45.length : Int) := c168
      obtain ⟨b172, of173, cs169, hA174, hr170, hc171⟩ := (HO54.mono (L59.trans L161)).at (i := vt154) c167 c168
      obtain rfl := hr170
      refine seqK rfl (does_run (run_indexE hA174 (sz := 4) rfl Tryz.underlying27 kr (kv (.slice A51 vt45.length c52)) (kv (.int .i64 vt154)) c167 c168 W158) ?_)
      refine seqK rfl (does_put (e := ty_Card) (E := 51) (vs := [.string c8.Key, .string c8.Value, .string c8.Unit, .string c8.Note]) (u := c8) (i := vt154) rfl kr (HO54.mono (L59.trans L161)) HS162 hA174 (kv (.pointer (some ⟨b172, of173 + (vt154 : Int).toNat * 4, none⟩))) (kv (.agg #[.string c8.Key, .string c8.Value, .string c8.Unit, .string c8.Note])) rfl rfl c167 c168 ?_)
      intro W175 s176 HS177 HO178
      have HS179 : St t W175 f160 (s176 :: [(b67, .cells #[.int .i64 vf1.W, .int .i64 vf1.H, .slice A51 (vt45.set (vt154).toNat c8).length c52, .slice A62 vt56.length c63] 29 (0, 0))] :: s64 :: [(b19, .cells #[.int .i64 0, .int .i64 0, .slice none 0 0, .slice none 0 0] 29 (0, 0))] :: [(b15, .cells #[.string c8.Key, .string c8.Value, .string c8.Unit, .string c8.Note] 51 (0, 0))] :: [(b11, .cells #[.int .i64 vf1.W, .int .i64 vf1.H, .slice A2 vf1.Cards.length c3, .slice A5 vf1.Counts.length c6] 29 (0, 0))] :: H) := by rw [show (vt45.set (vt154).toNat c8).length = vt45.length from List.length_set]; exact HS177
      refine seqRwS 22 (A := A51) (m := vt45.length) (n := (vt45.set (vt154).toNat c8).length) (c := c52) kr (List.length_set).symm ?_
      refine seqRwS 28 (A := A51) (m := vt45.length) (n := (vt45.set (vt154).toNat c8).length) (c := c52) kr (List.length_set).symm ?_
      refine seqRwS 35 (A := A51) (m := vt45.length) (n := (vt45.set (vt154).toNat c8).length) (c := c52) kr (List.length_set).symm ?_
      refine nl ?_
      refine fnRwI (F := K144) 33 (x := true) (v := (decide (vt154 ≥ 0))) kr (Eq.symm (decide_eq_true c166)) ?_
      exact J209 f160 A51 c52 s176 (vt45.set (vt154).toNat c8) (fun i_ => [Value.slice A51 (vt45.set (vt154).toNat c8).length c52, Value.agg #[.int .i64 vf1.W, .int .i64 vf1.H, .slice A51 vt45.length c52, .slice A62 vt56.length c63], Value.slice A51 (vt45.set (vt154).toNat c8).length c52, Value.pointer (some ⟨b67, 2, none⟩), Value.slice A51 (vt45.set (vt154).toNat c8).length c52, Value.int .i64 vt154, (ag_Card c8), Value.pointer (some ⟨b172, of173 + (vt154 : Int).toNat * 4, none⟩), undef, undef, undef, undef, undef, undef].getD i_ undef) W175 _ (FM.le.refl _) h HS179 HO178 kr
    · have c166 : ¬ (vt154 ≥ 0) := c166
      refine wpRwI 33 (x := (decide (vt154 ≥ 0))) (v := false) kr (decide_eq_false c166) ?_
      refine condF kr ?_
      refine rl ?_
      refine seqL1 kr ?_
      refine seqK rfl (does_run (run_load rfl Tryz.underlying27 rfl (kv (.pointer (some ⟨b67, 2, none⟩))) (HS162.u1.cell 2)) ?_)
      refine seqK rfl (does_run (run_loadN (n := 4) rfl Tryz.underlying51 rfl kr (kv (.pointer (some ⟨b15, 0, none⟩))) (cs := [.string c8.Key, .string c8.Value, .string c8.Unit, .string c8.Note]) rfl (HS162.u4.cells 0 4 _ rfl)) ?_)
      refine seqK rfl (does_lit (e := ty_Card) (E := 51) (vs := #[(0, Value.agg #[.string c8.Key, .string c8.Value, .string c8.Unit, .string c8.Note])]) (cs := #[.string c8.Key, .string c8.Value, .string c8.Unit, .string c8.Note]) (xs := ([c8] : List S_Card)) rfl Tryz.underlying27 kr kr ⟨[.string c8.Key, .string c8.Value, .string c8.Unit, .string c8.Note], _, rfl, rfl, rfl⟩ rfl HS162 ?_ (by decide))
      intro b180 W181 s182 HS183 _ HO184
      have hq_ := guard_some h; clear h; obtain ⟨c186, h⟩ := hq_
      have c186 : (vt45.length + 1) * 64 ≤ 140737488355328 := c186
      have HS187 := HS183.u1
      have HS188 := HS187.u1
      refine seqK rfl (does_append1 (e := ty_Card) (E := 51) (xs := vt45) (ys := ([c8] : List S_Card)) rfl (kv (.slice A51 vt45.length c52)) (kv (.slice (some ⟨b180, 0, none⟩) ([c8] : List S_Card).length 1)) Tryz.underlying27 inf51 (HO54.mono (L59.trans L161)) HO184 HS188 c186 (lim63 c186 (by decide)) ?_)
      intro A189 c190 s191 W192 HS193 HO194
      have HS195 := HS193.u1
      refine seqL1 kr ?_
      refine seqK rfl (does_store (n := 1) (vs := [.slice A189 (vt45 ++ ([c8] : List S_Card)).length c190]) (cs' := #[.int .i64 vf1.W, .int .i64 vf1.H, .slice A189 (vt45 ++ ([c8] : List S_Card)).length c190, .slice A62 vt56.length c63]) rfl kr (kv (.pointer (some ⟨b67, 2, none⟩))) (kv (.slice A189 (vt45 ++ ([c8] : List S_Card)).length c190)) rfl rfl (by intro u_ hu_; simp only [List.mem_cons, List.not_mem_nil, or_false] at hu_; subst hu_; rfl) HS195 (Nat.le_of_ble_eq_true rfl) kr ?_)
      intro W196 HS197
      refine nl ?_
      refine fnRwI (F := K144) 33 (x := false) (v := (decide (vt154 ≥ 0))) kr (Eq.symm (decide_eq_false c166)) ?_
      have HS211 := HS197.u5
      have HS212 := HS211.u5
      have HS213 := HS212.u5
      have HS214 := HS213.u5
      have HS215 := HS214.u4
      have HS216 := HS215.u5
      exact J209 f160 A189 c190 s191 (vt45 ++ ([c8] : List S_Card)) (fun i_ => [Value.slice A51 vt45.length c52, Value.agg #[.int .i64 vf1.W, .int .i64 vf1.H, .slice A51 vt45.length c52, .slice A62 vt56.length c63], Value.slice A51 vt45.length c52, undef, undef, undef, undef, undef, Value.pointer (some ⟨b67, 2, none⟩), Value.slice A51 vt45.length c52, (ag_Card c8), Value.slice (some ⟨b180, 0, none⟩) ([c8] : List S_Card).length 1, Value.slice A189 (vt45 ++ ([c8] : List S_Card)).length c190, Value.pointer (some ⟨b67, 2, none⟩)].getD i_ undef) W196 _ (FM.le.refl _) h HS216 HO194 kr
   refine takeEither 6 11 kr rfl rfl rfl rfl ?_ ?_
   · refine does_call (f := 34) (args := #[.slice A2 vf1.Cards.length c3]) kr (slices_Clone_Card.calls k A2 c3 vf1.Cards HS44 (HR4.mono L30) vt45 hc46) ?_
     rintro _ W81 ⟨f79, A83, c84, s85, rfl, L80, HS82, HO86⟩
     refine ⟨_, rfl, ?_⟩
     refine ⟨(Sg.g0 (Sx.of [s85] L80 HS82)), ?_⟩
     refine takeEither 9 11 kr rfl rfl rfl rfl ?_ ?_
     · refine does_call (f := 35) (args := #[.slice A5 vf1.Counts.length c6]) kr (slices_Clone_int.calls k A5 c6 vf1.Counts HS82 (HR7.mono (L30.trans L80)) vt56 hc57) ?_
       rintro _ W90 ⟨f88, A92, c93, s94, rfl, L89, HS91, HO95⟩
       refine ⟨_, rfl, ?_⟩
       refine ⟨(Sg.g0 (Sx.of [s94, s85] (L80.trans L89) HS91)), ?_⟩
       refine takeGL [10] (n := 3) (fuel := 2) #[true, true, true, true, true, true, true, true, true, true, true, false, false] rfl kr kr kr hnp (Sg.g0 (Sx.of [s94, s85] (L80.trans L89) HS91)) ?_
       refine takeGE 11 kr rfl kr (does_alloc (z := Value.agg #[.int .i64 0, .int .i64 0, .slice none 0 0, .slice none 0 0]) (cs := #[.int .i64 0, .int .i64 0, .slice none 0 0, .slice none 0 0]) rfl kr rfl HS91 ?_)
       intro b97 W98 HS99
       refine ⟨(Sg.g0 (Sx.of [[(b97, .cells #[.int .i64 0, .int .i64 0, .slice none 0 0, .slice none 0 0] 29 (0, 0))], s94, s85] (L80.trans L89) HS99)), ?_⟩
       refine takeGE 12 kr rfl kr (does_store (n := 4) (vs := [.int .i64 vf1.W, .int .i64 vf1.H, .slice A83 vt45.length c84, .slice A92 vt56.length c93]) (cs' := #[.int .i64 vf1.W, .int .i64 vf1.H, .slice A83 vt45.length c84, .slice A92 vt56.length c93]) rfl kr (kv (.pointer (some ⟨b97, 0, none⟩))) (kv (.agg #[.int .i64 vf1.W, .int .i64 vf1.H, .slice A83 vt45.length c84, .slice A92 vt56.length c93])) rfl rfl (by intro u_ hu_; simp only [List.mem_cons, List.not_mem_nil, or_false] at hu_; rcases hu_ with rfl | rfl | rfl | rfl <;> rfl) HS99 (Nat.le_of_ble_eq_true rfl) kr ?_)
       intro W101 HS102
       refine ⟨(Sg.g0 (Sx.of [[(b97, .cells #[.int .i64 vf1.W, .int .i64 vf1.H, .slice A83 vt45.length c84, .slice A92 vt56.length c93] 29 (0, 0))], s94, s85] (L80.trans L89) HS102)), ?_⟩
       refine hR75 _ _ ?_
       exact J76 f79 A83 c84 s85 f88 A92 c93 s94 b97 W101 _ L80 HO86 L89 HO95 HS102 kr
     · refine does_alloc (z := Value.agg #[.int .i64 0, .int .i64 0, .slice none 0 0, .slice none 0 0]) (cs := #[.int .i64 0, .int .i64 0, .slice none 0 0, .slice none 0 0]) rfl kr rfl HS82 ?_
       intro b103 W104 HS105
       refine ⟨(Sg.g0 (Sx.of [[(b103, .cells #[.int .i64 0, .int .i64 0, .slice none 0 0, .slice none 0 0] 29 (0, 0))], s85] L80 HS105)), ?_⟩
       refine takeGE 9 kr rfl kr (does_call (f := 35) (args := #[.slice A5 vf1.Counts.length c6]) kr (slices_Clone_int.calls k A5 c6 vf1.Counts HS105 (HR7.mono (L30.trans L80)) vt56 hc57) ?_)
       rintro _ W109 ⟨f107, A111, c112, s113, rfl, L108, HS110, HO114⟩
       refine ⟨_, rfl, ?_⟩
       refine ⟨(Sg.g0 (Sx.of [s113, [(b103, .cells #[.int .i64 0, .int .i64 0, .slice none 0 0, .slice none 0 0] 29 (0, 0))], s85] (L80.trans L108) HS110)), ?_⟩
       refine takeGL [10] (n := 2) (fuel := 1) #[true, true, true, true, true, true, true, true, true, true, true, true, false] rfl kr kr kr hnp (Sg.g0 (Sx.of [s113, [(b103, .cells #[.int .i64 0, .int .i64 0, .slice none 0 0, .slice none 0 0] 29 (0, 0))], s85] (L80.trans L108) HS110)) ?_
       have HS116 := HS110.u1
       refine takeGE 12 kr rfl kr (does_store (n := 4) (vs := [.int .i64 vf1.W, .int .i64 vf1.H, .slice A83 vt45.length c84, .slice A111 vt56.length c112]) (cs' := #[.int .i64 vf1.W, .int .i64 vf1.H, .slice A83 vt45.length c84, .slice A111 vt56.length c112]) rfl kr (kv (.pointer (some ⟨b103, 0, none⟩))) (kv (.agg #[.int .i64 vf1.W, .int .i64 vf1.H, .slice A83 vt45.length c84, .slice A111 vt56.length c112])) rfl rfl (by intro u_ hu_; simp only [List.mem_cons, List.not_mem_nil, or_false] at hu_; rcases hu_ with rfl | rfl | rfl | rfl <;> rfl) HS116 (Nat.le_of_ble_eq_true rfl) kr ?_)
       intro W117 HS118
       refine ⟨(Sg.g0 (Sx.of [[(b103, .cells #[.int .i64 vf1.W, .int .i64 vf1.H, .slice A83 vt45.length c84, .slice A111 vt56.length c112] 29 (0, 0))], s113, s85] (L80.trans L108) HS118)), ?_⟩
       refine hR75 _ _ ?_
       exact J76 f79 A83 c84 s85 f107 A111 c112 s113 b103 W117 _ L80 HO86 L108 HO114 HS118 kr
   · refine does_alloc (z := Value.agg #[.int .i64 0, .int .i64 0, .slice none 0 0, .slice none 0 0]) (cs := #[.int .i64 0, .int .i64 0, .slice none 0 0, .slice none 0 0]) rfl kr rfl HS44 ?_
     intro b119 W120 HS121
     refine ⟨(Sg.g0 (Sx.of [[(b119, .cells #[.int .i64 0, .int .i64 0, .slice none 0 0, .slice none 0 0] 29 (0, 0))]] (FM.le.refl _) HS121)), ?_⟩
     refine takeGE 6 kr rfl kr (does_call (f := 34) (args := #[.slice A2 vf1.Cards.length c3]) kr (slices_Clone_Card.calls k A2 c3 vf1.Cards HS121 (HR4.mono L30) vt45 hc46) ?_)
     rintro _ W125 ⟨f123, A127, c128, s129, rfl, L124, HS126, HO130⟩
     refine ⟨_, rfl, ?_⟩
     refine ⟨(Sg.g0 (Sx.of [s129, [(b119, .cells #[.int .i64 0, .int .i64 0, .slice none 0 0, .slice none 0 0] 29 (0, 0))]] L124 HS126)), ?_⟩
     refine takeGE 9 kr rfl kr (does_call (f := 35) (args := #[.slice A5 vf1.Counts.length c6]) kr (slices_Clone_int.calls k A5 c6 vf1.Counts HS126 (HR7.mono (L30.trans L124)) vt56 hc57) ?_)
     rintro _ W134 ⟨f132, A136, c137, s138, rfl, L133, HS135, HO139⟩
     refine ⟨_, rfl, ?_⟩
     refine ⟨(Sg.g0 (Sx.of [s138, s129, [(b119, .cells #[.int .i64 0, .int .i64 0, .slice none 0 0, .slice none 0 0] 29 (0, 0))]] (L124.trans L133) HS135)), ?_⟩
     refine takeGL [10] (n := 2) (fuel := 1) #[true, true, true, true, true, true, true, true, true, true, true, true, false] rfl kr kr kr hnp (Sg.g0 (Sx.of [s138, s129, [(b119, .cells #[.int .i64 0, .int .i64 0, .slice none 0 0, .slice none 0 0] 29 (0, 0))]] (L124.trans L133) HS135)) ?_
     have HS141 := HS135.u2
     refine takeGE 12 kr rfl kr (does_store (n := 4) (vs := [.int .i64 vf1.W, .int .i64 vf1.H, .slice A127 vt45.length c128, .slice A136 vt56.length c137]) (cs' := #[.int .i64 vf1.W, .int .i64 vf1.H, .slice A127 vt45.length c128, .slice A136 vt56.length c137]) rfl kr (kv (.pointer (some ⟨b119, 0, none⟩))) (kv (.agg #[.int .i64 vf1.W, .int .i64 vf1.H, .slice A127 vt45.length c128, .slice A136 vt56.length c137])) rfl rfl (by intro u_ hu_; simp only [List.mem_cons, List.not_mem_nil, or_false] at hu_; rcases hu_ with rfl | rfl | rfl | rfl <;> rfl) HS141 (Nat.le_of_ble_eq_true rfl) kr ?_)
     intro W142 HS143
     refine ⟨(Sg.g0 (Sx.of [[(b119, .cells #[.int .i64 vf1.W, .int .i64 vf1.H, .slice A127 vt45.length c128, .slice A136 vt56.length c137] 29 (0, 0))], s138, s129] (L124.trans L133) HS143)), ?_⟩
     refine hR75 _ _ ?_
     exact J76 f123 A127 c128 s129 f132 A136 c137 s138 b119 W142 _ L124 HO130 L133 HO139 HS143 kr

set_option maxRecDepth 100000 in
set_option maxHeartbeats 4000000 in
theorem frame_Get.calls (k : Nat) (A2 : Option Addr) (c3 : Nat) (A5 : Option Addr) (c6 : Nat) (vf1 : S_Frame) (key8 : ByteArray) {t w : World} {f : FM} {H : List Seg} (HS : St t w f (H)) (HR4 : SlR ty_Card f A2 c3 vf1.Cards) (HR7 : SlR (tInt .i64) f A5 c6 vf1.Counts) (rr1 : S_Card) (rr2 : Bool) (h : frame_Get k vf1 key8 = some (rr1, rr2)) :
    Calls Tryz.prog 20 #[.agg #[.int .i64 vf1.W, .int .i64 vf1.H, .slice A2 vf1.Cards.length c3, .slice A5 vf1.Counts.length c6], .string key8] w (fun e w' => ∃ (g : FM), e = .returned (Value.tuple #[.agg #[.string rr1.Key, .string rr1.Value, .string rr1.Unit, .string rr1.Note], .bool rr2]) ∧ FM.le f g ∧ St t w' g (H)) := by
 unfold frame_Get at h
 refine enter Tryz.func20 rfl (tm := #[(ag_Frame vf1 A2 c3 A5 c6), .string key8, uV, uV, uV, uV, uV, uV, uV, uV, uV, uV, uV, uV, uV, uV, uV, uV, uV]) kr ?_
 intro B hret hnor hnp
 refine wp_seq_k fun K9 hK10 => rl ?_
 refine seqK rfl (does_box (cs := #[.int .i64 vf1.W, .int .i64 vf1.H, .slice A2 vf1.Cards.length c3, .slice A5 vf1.Counts.length c6]) rfl (kv (.agg #[.int .i64 vf1.W, .int .i64 vf1.H, .slice A2 vf1.Cards.length c3, .slice A5 vf1.Counts.length c6])) rfl HS ?_)
 intro b11 W12 HS13
 refine seqK rfl (does_alloc (z := Value.agg #[.string ⟨#[]⟩, .string ⟨#[]⟩, .string ⟨#[]⟩, .string ⟨#[]⟩]) (cs := #[.string ⟨#[]⟩, .string ⟨#[]⟩, .string ⟨#[]⟩, .string ⟨#[]⟩]) rfl kr rfl HS13 ?_)
 intro b15 W16 HS17
 refine seqL1 kr ?_
 refine nl (hK10 _ _ ?_)
 refine wp_seq_k (fun K19 hK20 => ?_)
 refine wp_seq_k fun K21 hK22 => rl ?_
 refine seqL1 kr ?_
 refine seqK rfl (does_run (run_load rfl Tryz.underlying27 rfl (kv (.pointer (some ⟨b11, 2, none⟩))) (HS17.u1.cell 2)) ?_)
 have hq_ := bind_some h; clear h; obtain ⟨vt23, hc24, h⟩ := hq_
 refine seqL1 kr ?_
 refine seqK rfl (does_call (f := 36) (args := #[.slice A2 vf1.Cards.length c3, .string key8]) kr (frame_find.calls k A2 c3 vf1.Cards key8 HS17 HR4 vt23 hc24) ?_)
 rintro _ W27 ⟨f25, rfl, L26, HS28⟩
 refine ⟨_, rfl, ?_⟩
 refine seqL1 kr ?_
 refine nl (hK22 _ _ ?_)
 refine wp_seq_k fun K29 hK30 => rl ?_
 refine seqL2 kr ?_
 refine nl (hK30 _ _ ?_)
 have hq_ := ite_some h; clear h; rcases hq_ with ⟨c32, h⟩ | ⟨c32, h⟩
 · have c32 : vt23 ≥ 0 := c32
   refine wpRwI 12 (x := (decide (vt23 ≥ 0))) (v := true) kr (decide_eq_true c32) ?_
   refine condT kr ?_
   refine wp_seq_k fun K33 hK34 => rl ?_
   refine seqL1 kr ?_
   refine seqK rfl (does_run (run_load rfl Tryz.underlying27 rfl (kv (.pointer (some ⟨b11, 2, none⟩))) (HS28.u1.cell 2)) ?_)
   have hq_ := guard_some h; clear h; obtain ⟨c35, h⟩ := hq_
   have c35 : 0 ≤ vt23 := c35
   have hq_ := guard_some h; clear h; obtain ⟨c36, h⟩ := hq_
   have c36 : vt23 < (vf1.Cards.length : Int) := c36
   obtain ⟨b40, of41, cs37, hA42, hr38, hc39⟩ := (HR4.mono L26).at (i := vt23) c35 c36
   obtain rfl := hr38
   refine seqL1 kr ?_
   refine seqK rfl (does_run (run_indexE hA42 (sz := 4) rfl Tryz.underlying27 kr (kv (.slice A2 vf1.Cards.length c3)) (kv (.int .i64 vt23)) c35 c36 W27) ?_)
   refine seqK rfl (does_run (run_loadN (n := 4) rfl Tryz.underlying51 rfl kr (kv (.pointer (some ⟨b40, of41 + (vt23 : Int).toNat * 4, none⟩))) (cs := [.string ((rd vf1.Cards vt23).Key), .string ((rd vf1.Cards vt23).Value), .string ((rd vf1.Cards vt23).Unit), .string ((rd vf1.Cards vt23).Note)]) rfl (fun j_ hj_ => ((hc39 (FM.le.refl _) HS28) j_ hj_))) ?_)
   refine seqK rfl (does_store (n := 4) (vs := [.string ((rd vf1.Cards vt23).Key), .string ((rd vf1.Cards vt23).Value), .string ((rd vf1.Cards vt23).Unit), .string ((rd vf1.Cards vt23).Note)]) (cs' := #[.string ((rd vf1.Cards vt23).Key), .string ((rd vf1.Cards vt23).Value), .string ((rd vf1.Cards vt23).Unit), .string ((rd vf1.Cards vt23).Note)]) rfl kr (kv (.pointer (some ⟨b15, 0, none⟩))) (kv (.agg #[.string ((rd vf1.Cards vt23).Key), .string ((rd vf1.Cards vt23).Value), .string ((rd vf1.Cards vt23).Unit), .string ((rd vf1.Cards vt23).Note)])) rfl rfl (by intro u_ hu_; simp only [List.mem_cons, List.not_mem_nil, or_false] at hu_; rcases hu_ with rfl | rfl | rfl | rfl <;> rfl) HS28 (Nat.le_of_ble_eq_true rfl) kr ?_)
   intro W43 HS44
   refine seqL1 kr ?_
   refine nl (hK34 _ _ ?_)
   refine wp_ret ?_
   refine hret _ _ ?_
   refine ends (v := Value.tuple #[.agg #[.string ((rd vf1.Cards vt23).Key), .string ((rd vf1.Cards vt23).Value), .string ((rd vf1.Cards vt23).Unit), .string ((rd vf1.Cards vt23).Note)], .bool true]) (results2 (q1 := .cell 4 51) (q2 := .tmp 5) kr (resN (n := 4) (cs := [.string ((rd vf1.Cards vt23).Key), .string ((rd vf1.Cards vt23).Value), .string ((rd vf1.Cards vt23).Unit), .string ((rd vf1.Cards vt23).Note)]) (kv (.pointer (some ⟨b15, 0, none⟩))) Tryz.underlying51 rfl kr rfl (HS44.cells 0 4 _ rfl)) (resT (kv (.bool true)))) kr ?_
   have HS49 := HS44.drop
   have HS50 := HS49.drop
   injection h with h
   injection h with h0_ h
   subst h0_ h
   exact ⟨f25, rfl, L26, HS50⟩
 · have c32 : ¬ (vt23 ≥ 0) := c32
   refine wpRwI 12 (x := (decide (vt23 ≥ 0))) (v := false) kr (decide_eq_false c32) ?_
   refine condF kr ?_
   refine wp_skip ?_
   refine hK20 _ _ ?_
   refine wp_seq_k fun K45 hK46 => rl ?_
   refine seqL1 kr ?_
   refine seqK rfl (does_store (n := 4) (vs := [.string ⟨#[]⟩, .string ⟨#[]⟩, .string ⟨#[]⟩, .string ⟨#[]⟩]) (cs' := #[.string ⟨#[]⟩, .string ⟨#[]⟩, .string ⟨#[]⟩, .string ⟨#[]⟩]) rfl kr (kv (.pointer (some ⟨b15, 0, none⟩))) (kv (.agg #[.string ⟨#[]⟩, .string ⟨#[]⟩, .string ⟨#[]⟩, .string ⟨#[]⟩])) rfl rfl (by intro u_ hu_; simp only [List.mem_cons, List.not_mem_nil, or_false] at hu_; rcases hu_ with rfl | rfl | rfl | rfl <;> rfl) HS28 (Nat.le_of_ble_eq_true rfl) kr ?_)
   intro W47 HS48
   refine seqL1 kr ?_
   refine nl (hK46 _ _ ?_)
   refine wp_ret ?_
   refine hret _ _ ?_
   refine ends (v := Value.tuple #[.agg #[.string ⟨#[]⟩, .string ⟨#[]⟩, .string ⟨#[]⟩, .string ⟨#[]⟩], .bool false]) (results2 (q1 := .cell 4 51) (q2 := .tmp 5) kr (resN (n := 4) (cs := [.string ⟨#[]⟩, .string ⟨#[]⟩, .string ⟨#[]⟩, .string ⟨#[]⟩]) (kv (.pointer (some ⟨b15, 0, none⟩))) Tryz.underlying51 rfl kr rfl (HS48.cells 0 4 _ rfl)) (resT (kv (.bool false)))) kr ?_
   have HS51 := HS48.drop
   have HS52 := HS51.drop
   injection h with h
   injection h with h0_ h
   subst h0_ h
   exact ⟨f25, rfl, L26, HS52⟩

theorem strconv_ParseInt.calls (k : Nat) (s : ByteArray) (b : Int) (n : Int) {t w : World} {f : FM} {H : List Seg} (HS : St t w f H) (r1 : Int) (h : strconv_ParseInt k s b n = some r1) :
    Calls Tryz.prog 37 #[.string s, .int .i64 b, .int .i64 n] w (fun e w' => ∃ (g : FM), e = .returned (Value.tuple #[Value.int .i64 r1, Value.nilIface]) ∧ FM.le f g ∧ St t w' g H) := by
  unfold strconv_ParseInt at h
  have hq_ := guard_some h; clear h; obtain ⟨h1, h⟩ := hq_
  have hq_ := guard_some h; clear h; obtain ⟨h2, h⟩ := hq_
  have hq_ := guard_some h; clear h; obtain ⟨h3, h⟩ := hq_
  have hv : Go.Lib.parseIntB 64 s.data.toList = .ok r1 := by
    cases hc_ : Go.Lib.parseIntB 64 s.data.toList with
    | ok v_ => rw [hc_] at h; injection h with h; rw [h]
    | _ => rw [hc_] at h; cases h
  subst h1 h2
  exact lib_calls (Tryz.strconv_ParseInt_10_at64_ok s h3 r1 hv w) q_bytes2 HS

theorem strconv_FormatInt.calls (k : Nat) (n b : Int) {t w : World} {f : FM} {H : List Seg} (HS : St t w f H) (HT : TabF Tryz.prog "internal/strconv.uint64pow10" .u64 Go.Lib.pow10Tab f) (r1 : ByteArray) (h : strconv_FormatInt k n b = some r1) :
    Calls Tryz.prog 38 #[.int .i64 n, .int .i64 b] w (fun e w' => ∃ (g : FM), e = .returned (Value.string r1) ∧ FM.le f g ∧ St t w' g H) := by
  unfold strconv_FormatInt at h
  have hq_ := guard_some h; clear h; obtain ⟨h0, h⟩ := hq_
  have hq_ := guard_some h; clear h; obtain ⟨h1, h⟩ := hq_
  have hq_ := guard_some h; clear h; obtain ⟨h2, h⟩ := hq_
  injection h with h; subst h
  subst h0
  exact (itoa_calls (n := n) (fun w_ ht_ => Tryz.strconv_FormatInt_10 n h1 h2 w_ ht_) HS (HT.tab HS)).mono fun e w' ⟨he, hs⟩ => ⟨f, he, FM.le.refl _, hs⟩

set_option maxRecDepth 100000 in
set_option maxHeartbeats 4000000 in
theorem frame_unit.calls (k : Nat)  (s1 : ByteArray) {t w : World} {f : FM} {H : List Seg} (HS : St t w f (H)) (rr1 : ByteArray) (rr2 : Int) (h : frame_unit k s1 = some (rr1, rr2)) :
    Calls Tryz.prog 39 #[.string s1] w (fun e w' => ∃ (g : FM), e = .returned (Value.tuple #[.string rr1, .int .i64 rr2]) ∧ FM.le f g ∧ St t w' g (H)) := by
 unfold frame_unit at h
 refine enter Tryz.func39 rfl (tm := #[.string s1, uV, uV, uV, uV, uV, uV, uV, uV, uV, uV, uV, uV, uV, uV, uV, uV, uV, uV, uV, uV, uV, uV, uV]) kr ?_
 intro B hret hnor hnp
 refine wp_seq_k fun K2 hK3 => rl ?_
 refine seqL2 kr ?_
 refine nl (hK3 _ _ ?_)
 refine wp_seq_k (fun K4 hK5 => ?_)
 refine wp_seq_k fun K6 hK7 => rl ?_
 refine seqL1 kr ?_
 refine nl (hK7 _ _ ?_)
 refine blockK (fun B8 hx9 hn10 hr11 ho12 hp13 => ?_)
 refine wp_seq_k fun K15 hK16 => rl ?_
 refine seqL2 kr ?_
 refine nl (hK16 _ _ ?_)
 have hq_ := ite_some h; clear h; rcases hq_ with ⟨c18, h⟩ | ⟨c18, h⟩
 · have c18 : (s1.toList == (⟨#[116, 105, 99, 107]⟩ : ByteArray).toList) = true := c18
   refine wpRwI 5 (x := (s1.toList == (⟨#[116, 105, 99, 107]⟩ : ByteArray).toList)) (v := true) kr c18 ?_
   refine wpRwI 6 (x := (s1.toList == (⟨#[116, 105, 99, 107]⟩ : ByteArray).toList)) (v := true) kr c18 ?_
   refine condT kr ?_
   refine wp_seq_k fun K19 hK20 => rl ?_
   refine seqL2 kr ?_
   refine nl (hK20 _ _ ?_)
   refine wp_ret ?_
   refine hr11 _ _ ?_
   refine hret _ _ ?_
   refine ends_still (v := Value.tuple #[.string ⟨#[116, 105, 109, 101]⟩, .int .i64 1]) kr kr ?_
   injection h with h
   injection h with h0_ h
   subst h0_ h
   exact ⟨f, rfl, FM.le.refl _, HS⟩
 · have c18 : ¬ ((s1.toList == (⟨#[116, 105, 99, 107]⟩ : ByteArray).toList) = true) := c18
   refine wpRwI 5 (x := (s1.toList == (⟨#[116, 105, 99, 107]⟩ : ByteArray).toList)) (v := false) kr (Bool.eq_false_iff.mpr c18) ?_
   refine wpRwI 6 (x := (s1.toList == (⟨#[116, 105, 99, 107]⟩ : ByteArray).toList)) (v := false) kr (Bool.eq_false_iff.mpr c18) ?_
   refine condF kr ?_
   refine wp_seq_k (fun K21 hK22 => ?_)
   refine wp_seq_k fun K23 hK24 => rl ?_
   refine seqL2 kr ?_
   refine nl (hK24 _ _ ?_)
   have hq_ := bind_some h; clear h; obtain ⟨v25, hv33, h⟩ := hq_
   have J34 : ∀ (f27 : FM) (x32 : Bool) (j31 : Nat → Value) (W29 : World) (a_ : Act), FM.le f f27 → some (x32) = some v25 → St t W29 f27 (H) → a_ = ⟨#[.string s1, uV, .string ⟨#[]⟩, iV 0, .string s1, fV, fV, .bool x32, .bool (s1.toList == (⟨#[98, 101, 97, 116]⟩ : ByteArray).toList), (j31 0), uV, uV, uV, uV, uV, uV, uV, uV, uV, uV, uV, uV, uV, uV], []⟩ → K21 a_ W29 := by
    intro f27 x32 j31 W29 a_ L28 hj35 HS30  hfr_; subst hfr_
    injection hj35 with hj35; subst hj35; try dsimp only at h
    refine hK22 _ _ ?_
    have hq_ := ite_some h; clear h; rcases hq_ with ⟨c37, h⟩ | ⟨c37, h⟩
    · have c37 : x32 = true := c37
      refine wpRwI 7 (x := x32) (v := true) kr c37 ?_
      refine condT kr ?_
      refine wp_seq_k fun K38 hK39 => rl ?_
      refine seqL2 kr ?_
      refine nl (hK39 _ _ ?_)
      refine wp_ret ?_
      refine hr11 _ _ ?_
      refine hret _ _ ?_
      refine ends_still (v := Value.tuple #[.string ⟨#[116, 105, 109, 101]⟩, .int .i64 1000]) kr kr ?_
      injection h with h
      injection h with h0_ h
      subst h0_ h
      exact ⟨f27, rfl, L28, HS30⟩
    · have c37 : ¬ (x32 = true) := c37
      refine wpRwI 7 (x := x32) (v := false) kr (Bool.eq_false_iff.mpr c37) ?_
      refine condF kr ?_
      refine wp_seq_k fun K40 hK41 => rl ?_
      refine seqL2 kr ?_
      refine nl (hK41 _ _ ?_)
      have hq_ := ite_some h; clear h; rcases hq_ with ⟨c43, h⟩ | ⟨c43, h⟩
      · have c43 : (s1.toList == (⟨#[109, 105, 110, 117, 116, 101]⟩ : ByteArray).toList) = true := c43
        refine wpRwI 10 (x := (s1.toList == (⟨#[109, 105, 110, 117, 116, 101]⟩ : ByteArray).toList)) (v := true) kr c43 ?_
        refine wpRwI 11 (x := (s1.toList == (⟨#[109, 105, 110, 117, 116, 101]⟩ : ByteArray).toList)) (v := true) kr c43 ?_
        refine condT kr ?_
        refine wp_seq_k fun K44 hK45 => rl ?_
        refine seqL2 kr ?_
        refine nl (hK45 _ _ ?_)
        refine wp_ret ?_
        refine hr11 _ _ ?_
        refine hret _ _ ?_
        refine ends_still (v := Value.tuple #[.string ⟨#[116, 105, 109, 101]⟩, .int .i64 60000]) kr kr ?_
        injection h with h
        injection h with h0_ h
        subst h0_ h
        exact ⟨f27, rfl, L28, HS30⟩
      · have c43 : ¬ ((s1.toList == (⟨#[109, 105, 110, 117, 116, 101]⟩ : ByteArray).toList) = true) := c43
        refine wpRwI 10 (x := (s1.toList == (⟨#[109, 105, 110, 117, 116, 101]⟩ : ByteArray).toList)) (v := false) kr (Bool.eq_false_iff.mpr c43) ?_
        refine wpRwI 11 (x := (s1.toList == (⟨#[109, 105, 110, 117, 116, 101]⟩ : ByteArray).toList)) (v := false) kr (Bool.eq_false_iff.mpr c43) ?_
        refine condF kr ?_
        refine wp_seq_k fun K46 hK47 => rl ?_
        refine seqL2 kr ?_
        refine nl (hK47 _ _ ?_)
        have hq_ := ite_some h; clear h; rcases hq_ with ⟨c49, h⟩ | ⟨c49, h⟩
        · have c49 : (s1.toList == (⟨#[104, 111, 117, 114]⟩ : ByteArray).toList) = true := c49
          refine wpRwI 12 (x := (s1.toList == (⟨#[104, 111, 117, 114]⟩ : ByteArray).toList)) (v := true) kr c49 ?_
          refine wpRwI 13 (x := (s1.toList == (⟨#[104, 111, 117, 114]⟩ : ByteArray).toList)) (v := true) kr c49 ?_
          refine condT kr ?_
          refine wp_seq_k fun K50 hK51 => rl ?_
          refine seqL2 kr ?_
          refine nl (hK51 _ _ ?_)
          refine wp_ret ?_
          refine hr11 _ _ ?_
          refine hret _ _ ?_
          refine ends_still (v := Value.tuple #[.string ⟨#[116, 105, 109, 101]⟩, .int .i64 3600000]) kr kr ?_
          injection h with h
          injection h with h0_ h
          subst h0_ h
          exact ⟨f27, rfl, L28, HS30⟩
        · have c49 : ¬ ((s1.toList == (⟨#[104, 111, 117, 114]⟩ : ByteArray).toList) = true) := c49
          refine wpRwI 12 (x := (s1.toList == (⟨#[104, 111, 117, 114]⟩ : ByteArray).toList)) (v := false) kr (Bool.eq_false_iff.mpr c49) ?_
          refine wpRwI 13 (x := (s1.toList == (⟨#[104, 111, 117, 114]⟩ : ByteArray).toList)) (v := false) kr (Bool.eq_false_iff.mpr c49) ?_
          refine condF kr ?_
          refine wp_seq_k fun K52 hK53 => rl ?_
          refine seqL2 kr ?_
          refine nl (hK53 _ _ ?_)
          have hq_ := ite_some h; clear h; rcases hq_ with ⟨c55, h⟩ | ⟨c55, h⟩
          · have c55 : (s1.toList == (⟨#[100, 97, 121]⟩ : ByteArray).toList) = true := c55
            refine wpRwI 14 (x := (s1.toList == (⟨#[100, 97, 121]⟩ : ByteArray).toList)) (v := true) kr c55 ?_
            refine wpRwI 15 (x := (s1.toList == (⟨#[100, 97, 121]⟩ : ByteArray).toList)) (v := true) kr c55 ?_
            refine condT kr ?_
            refine wp_seq_k fun K56 hK57 => rl ?_
            refine seqL2 kr ?_
            refine nl (hK57 _ _ ?_)
            refine wp_ret ?_
            refine hr11 _ _ ?_
            refine hret _ _ ?_
            refine ends_still (v := Value.tuple #[.string ⟨#[116, 105, 109, 101]⟩, .int .i64 86400000]) kr kr ?_
            injection h with h
            injection h with h0_ h
            subst h0_ h
            exact ⟨f27, rfl, L28, HS30⟩
          · have c55 : ¬ ((s1.toList == (⟨#[100, 97, 121]⟩ : ByteArray).toList) = true) := c55
            refine wpRwI 14 (x := (s1.toList == (⟨#[100, 97, 121]⟩ : ByteArray).toList)) (v := false) kr (Bool.eq_false_iff.mpr c55) ?_
            refine wpRwI 15 (x := (s1.toList == (⟨#[100, 97, 121]⟩ : ByteArray).toList)) (v := false) kr (Bool.eq_false_iff.mpr c55) ?_
            refine condF kr ?_
            refine wp_seq_k fun K58 hK59 => rl ?_
            refine seqL2 kr ?_
            refine nl (hK59 _ _ ?_)
            have hq_ := ite_some h; clear h; rcases hq_ with ⟨c61, h⟩ | ⟨c61, h⟩
            · have c61 : (s1.toList == (⟨#[115, 117, 98]⟩ : ByteArray).toList) = true := c61
              refine wpRwI 16 (x := (s1.toList == (⟨#[115, 117, 98]⟩ : ByteArray).toList)) (v := true) kr c61 ?_
              refine wpRwI 17 (x := (s1.toList == (⟨#[115, 117, 98]⟩ : ByteArray).toList)) (v := true) kr c61 ?_
              refine condT kr ?_
              refine wp_seq_k fun K62 hK63 => rl ?_
              refine seqL2 kr ?_
              refine nl (hK63 _ _ ?_)
              refine wp_ret ?_
              refine hr11 _ _ ?_
              refine hret _ _ ?_
              refine ends_still (v := Value.tuple #[.string ⟨#[108, 101, 110, 103, 116, 104]⟩, .int .i64 1]) kr kr ?_
              injection h with h
              injection h with h0_ h
              subst h0_ h
              exact ⟨f27, rfl, L28, HS30⟩
            · have c61 : ¬ ((s1.toList == (⟨#[115, 117, 98]⟩ : ByteArray).toList) = true) := c61
              refine wpRwI 16 (x := (s1.toList == (⟨#[115, 117, 98]⟩ : ByteArray).toList)) (v := false) kr (Bool.eq_false_iff.mpr c61) ?_
              refine wpRwI 17 (x := (s1.toList == (⟨#[115, 117, 98]⟩ : ByteArray).toList)) (v := false) kr (Bool.eq_false_iff.mpr c61) ?_
              refine condF kr ?_
              refine wp_seq_k fun K64 hK65 => rl ?_
              refine seqL2 kr ?_
              refine nl (hK65 _ _ ?_)
              have hq_ := ite_some h; clear h; rcases hq_ with ⟨c67, h⟩ | ⟨c67, h⟩
              · have c67 : (s1.toList == (⟨#[99, 101, 108, 108]⟩ : ByteArray).toList) = true := c67
                refine wpRwI 18 (x := (s1.toList == (⟨#[99, 101, 108, 108]⟩ : ByteArray).toList)) (v := true) kr c67 ?_
                refine wpRwI 19 (x := (s1.toList == (⟨#[99, 101, 108, 108]⟩ : ByteArray).toList)) (v := true) kr c67 ?_
                refine condT kr ?_
                refine wp_seq_k fun K68 hK69 => rl ?_
                refine seqL2 kr ?_
                refine nl (hK69 _ _ ?_)
                refine wp_ret ?_
                refine hr11 _ _ ?_
                refine hret _ _ ?_
                refine ends_still (v := Value.tuple #[.string ⟨#[108, 101, 110, 103, 116, 104]⟩, .int .i64 256]) kr kr ?_
                injection h with h
                injection h with h0_ h
                subst h0_ h
                exact ⟨f27, rfl, L28, HS30⟩
              · have c67 : ¬ ((s1.toList == (⟨#[99, 101, 108, 108]⟩ : ByteArray).toList) = true) := c67
                refine wpRwI 18 (x := (s1.toList == (⟨#[99, 101, 108, 108]⟩ : ByteArray).toList)) (v := false) kr (Bool.eq_false_iff.mpr c67) ?_
                refine wpRwI 19 (x := (s1.toList == (⟨#[99, 101, 108, 108]⟩ : ByteArray).toList)) (v := false) kr (Bool.eq_false_iff.mpr c67) ?_
                refine condF kr ?_
                refine wp_seq_k fun K70 hK71 => rl ?_
                refine seqL2 kr ?_
                refine nl (hK71 _ _ ?_)
                have hq_ := ite_some h; clear h; rcases hq_ with ⟨c73, h⟩ | ⟨c73, h⟩
                · have c73 : (s1.toList == (⟨#[97, 114, 99]⟩ : ByteArray).toList) = true := c73
                  refine wpRwI 20 (x := (s1.toList == (⟨#[97, 114, 99]⟩ : ByteArray).toList)) (v := true) kr c73 ?_
                  refine wpRwI 21 (x := (s1.toList == (⟨#[97, 114, 99]⟩ : ByteArray).toList)) (v := true) kr c73 ?_
                  refine condT kr ?_
                  refine wp_seq_k fun K74 hK75 => rl ?_
                  refine seqL2 kr ?_
                  refine nl (hK75 _ _ ?_)
                  refine wp_ret ?_
                  refine hr11 _ _ ?_
                  refine hret _ _ ?_
                  refine ends_still (v := Value.tuple #[.string ⟨#[97, 110, 103, 108, 101]⟩, .int .i64 1]) kr kr ?_
                  injection h with h
                  injection h with h0_ h
                  subst h0_ h
                  exact ⟨f27, rfl, L28, HS30⟩
                · have c73 : ¬ ((s1.toList == (⟨#[97, 114, 99]⟩ : ByteArray).toList) = true) := c73
                  refine wpRwI 20 (x := (s1.toList == (⟨#[97, 114, 99]⟩ : ByteArray).toList)) (v := false) kr (Bool.eq_false_iff.mpr c73) ?_
                  refine wpRwI 21 (x := (s1.toList == (⟨#[97, 114, 99]⟩ : ByteArray).toList)) (v := false) kr (Bool.eq_false_iff.mpr c73) ?_
                  refine condF kr ?_
                  refine wp_seq_k fun K76 hK77 => rl ?_
                  refine seqL2 kr ?_
                  refine nl (hK77 _ _ ?_)
                  have hq_ := ite_some h; clear h; rcases hq_ with ⟨c79, h⟩ | ⟨c79, h⟩
                  · have c79 : (s1.toList == (⟨#[116, 117, 114, 110]⟩ : ByteArray).toList) = true := c79
                    refine wpRwI 22 (x := (s1.toList == (⟨#[116, 117, 114, 110]⟩ : ByteArray).toList)) (v := true) kr c79 ?_
                    refine wpRwI 23 (x := (s1.toList == (⟨#[116, 117, 114, 110]⟩ : ByteArray).toList)) (v := true) kr c79 ?_
                    refine condT kr ?_
                    refine wp_seq_k fun K80 hK81 => rl ?_
                    refine seqL2 kr ?_
                    refine nl (hK81 _ _ ?_)
                    refine wp_ret ?_
                    refine hr11 _ _ ?_
                    refine hret _ _ ?_
                    refine ends_still (v := Value.tuple #[.string ⟨#[97, 110, 103, 108, 101]⟩, .int .i64 4294967296]) kr kr ?_
                    injection h with h
                    injection h with h0_ h
                    subst h0_ h
                    exact ⟨f27, rfl, L28, HS30⟩
                  · have c79 : ¬ ((s1.toList == (⟨#[116, 117, 114, 110]⟩ : ByteArray).toList) = true) := c79
                    refine wpRwI 22 (x := (s1.toList == (⟨#[116, 117, 114, 110]⟩ : ByteArray).toList)) (v := false) kr (Bool.eq_false_iff.mpr c79) ?_
                    refine wpRwI 23 (x := (s1.toList == (⟨#[116, 117, 114, 110]⟩ : ByteArray).toList)) (v := false) kr (Bool.eq_false_iff.mpr c79) ?_
                    refine condF kr ?_
                    refine wp_skip ?_
                    refine hn10 _ _ ?_
                    refine hK5 _ _ ?_
                    refine wp_seq_k fun K82 hK83 => rl ?_
                    refine seqL2 kr ?_
                    refine nl (hK83 _ _ ?_)
                    refine wp_ret ?_
                    refine hret _ _ ?_
                    refine ends_still (v := Value.tuple #[.string ⟨#[]⟩, .int .i64 0]) kr kr ?_
                    injection h with h
                    injection h with h0_ h
                    subst h0_ h
                    exact ⟨f27, rfl, L28, HS30⟩
   clear h; have h := hv33; clear hv33
   have hq_ := ite_some h; clear h; rcases hq_ with ⟨c26, h⟩ | ⟨c26, h⟩
   · have c26 : (s1.toList == (⟨#[98, 101, 97, 116]⟩ : ByteArray).toList) = true := c26
     refine wpRwI 7 (x := (s1.toList == (⟨#[98, 101, 97, 116]⟩ : ByteArray).toList)) (v := true) kr c26 ?_
     refine wpRwI 8 (x := (s1.toList == (⟨#[98, 101, 97, 116]⟩ : ByteArray).toList)) (v := true) kr c26 ?_
     refine condT kr ?_
     refine wp_skip ?_
     refine fnRwI (F := K21) 8 (x := true) (v := (s1.toList == (⟨#[98, 101, 97, 116]⟩ : ByteArray).toList)) kr (Eq.symm c26) ?_
     refine fnRwI (F := K21) 7 (x := true) (v := (s1.toList == (⟨#[98, 101, 97, 116]⟩ : ByteArray).toList)) kr (Eq.symm c26) ?_
     exact J34 f (s1.toList == (⟨#[98, 101, 97, 116]⟩ : ByteArray).toList) (fun i_ => [undef].getD i_ undef) w _ (FM.le.refl _) h HS kr
   · have c26 : ¬ ((s1.toList == (⟨#[98, 101, 97, 116]⟩ : ByteArray).toList) = true) := c26
     refine wpRwI 7 (x := (s1.toList == (⟨#[98, 101, 97, 116]⟩ : ByteArray).toList)) (v := false) kr (Bool.eq_false_iff.mpr c26) ?_
     refine wpRwI 8 (x := (s1.toList == (⟨#[98, 101, 97, 116]⟩ : ByteArray).toList)) (v := false) kr (Bool.eq_false_iff.mpr c26) ?_
     refine condF kr ?_
     refine rl ?_
     refine seqL2 kr ?_
     refine nl ?_
     refine fnRwI (F := K21) 8 (x := false) (v := (s1.toList == (⟨#[98, 101, 97, 116]⟩ : ByteArray).toList)) kr (Eq.symm (Bool.eq_false_iff.mpr c26)) ?_
     exact J34 f (s1.toList == (⟨#[115, 101, 99, 111, 110, 100]⟩ : ByteArray).toList) (fun i_ => [Value.bool (s1.toList == (⟨#[115, 101, 99, 111, 110, 100]⟩ : ByteArray).toList)].getD i_ undef) w _ (FM.le.refl _) h HS kr

set_option maxRecDepth 100000 in
set_option maxHeartbeats 4000000 in
theorem num_size.calls (k : Nat)  (a1 : Int) {t w : World} {f : FM} {H : List Seg} (HS : St t w f (H)) (rr1 : Int) (h : num_size k a1 = some rr1) :
    Calls Tryz.prog 101 #[.int .i64 a1] w (fun e w' => ∃ (g : FM), e = .returned (Value.int .u64 rr1) ∧ FM.le f g ∧ St t w' g (H)) := by
 unfold num_size at h
 refine enter Tryz.func101 rfl (tm := #[iV a1, uV, uV, uV, uV, uV, uV, uV, uV, uV]) kr ?_
 intro B hret hnor hnp
 refine wp_seq_k fun K2 hK3 => rl ?_
 refine seqL1 kr ?_
 refine nl (hK3 _ _ ?_)
 refine wp_seq_k (fun K4 hK5 => ?_)
 refine wp_seq_k fun K6 hK7 => rl ?_
 refine seqL2 kr ?_
 refine nl (hK7 _ _ ?_)
 have hq_ := ite_some h; clear h; rcases hq_ with ⟨c9, h⟩ | ⟨c9, h⟩
 · have c9 : a1 < 0 := c9
   refine wpRwI 4 (x := (decide (a1 < 0))) (v := true) kr (decide_eq_true c9) ?_
   refine condT kr ?_
   refine wp_seq_k fun K10 hK11 => rl ?_
   refine seqL4 kr ?_
   refine nl (hK11 _ _ ?_)
   refine wp_ret ?_
   refine hret _ _ ?_
   refine ends_still (v := Value.int .u64 (u64 (0 - (u64 (a1))))) kr kr ?_
   injection h with h
   subst h
   exact ⟨f, rfl, FM.le.refl _, HS⟩
 · have c9 : ¬ (a1 < 0) := c9
   refine wpRwI 4 (x := (decide (a1 < 0))) (v := false) kr (decide_eq_false c9) ?_
   refine condF kr ?_
   refine wp_skip ?_
   refine hK5 _ _ ?_
   refine wp_seq_k fun K12 hK13 => rl ?_
   refine seqL3 kr ?_
   refine nl (hK13 _ _ ?_)
   refine wp_ret ?_
   refine hret _ _ ?_
   refine ends_still (v := Value.int .u64 (u64 (a1))) kr kr ?_
   injection h with h
   subst h
   exact ⟨f, rfl, FM.le.refl _, HS⟩

set_option maxRecDepth 100000 in
set_option maxHeartbeats 4000000 in
theorem bits_Mul64.calls (k : Nat)  (x1 : Int) (y2 : Int) {t w : World} {f : FM} {H : List Seg} (HS : St t w f (H)) (rr1 : Int) (rr2 : Int) (h : bits_Mul64 k x1 y2 = some (rr1, rr2)) :
    Calls Tryz.prog 100 #[.int .u64 x1, .int .u64 y2] w (fun e w' => ∃ (g : FM), e = .returned (Value.tuple #[.int .u64 rr1, .int .u64 rr2]) ∧ FM.le f g ∧ St t w' g (H)) := by
 unfold bits_Mul64 at h
 refine enter Tryz.func100 rfl (tm := #[.int .u64 x1, .int .u64 y2, uV, uV, uV, uV, uV, uV, uV, uV, uV, uV, uV, uV, uV, uV, uV, uV, uV, uV, uV, uV, uV, uV, uV, uV, uV, uV, uV, uV, uV, uV, uV, uV, uV, uV, uV, uV, uV, uV, uV, uV, uV, uV, uV, uV, uV, uV, uV, uV, uV]) kr ?_
 intro B hret hnor hnp
 refine wp_seq_k fun K3 hK4 => rl ?_
 refine seqL2 kr ?_
 refine nl (hK4 _ _ ?_)
 refine wp_seq_k fun K5 hK6 => rl ?_
 refine seqL3 kr ?_
 refine nl (hK6 _ _ ?_)
 refine wp_seq_k fun K7 hK8 => rl ?_
 refine seqL3 kr ?_
 refine nl (hK8 _ _ ?_)
 refine wp_seq_k fun K9 hK10 => rl ?_
 refine seqL3 kr ?_
 refine nl (hK10 _ _ ?_)
 refine wp_seq_k fun K11 hK12 => rl ?_
 refine seqL3 kr ?_
 refine nl (hK12 _ _ ?_)
 refine wp_seq_k fun K13 hK14 => rl ?_
 refine seqL4 kr ?_
 refine nl (hK14 _ _ ?_)
 refine wp_seq_k fun K15 hK16 => rl ?_
 refine seqL7 kr ?_
 refine nl (hK16 _ _ ?_)
 refine wp_seq_k fun K17 hK18 => rl ?_
 refine seqL3 kr ?_
 refine nl (hK18 _ _ ?_)
 refine wp_seq_k fun K19 hK20 => rl ?_
 refine seqL3 kr ?_
 refine nl (hK20 _ _ ?_)
 refine wp_seq_k fun K21 hK22 => rl ?_
 refine seqL6 kr ?_
 refine nl (hK22 _ _ ?_)
 refine wp_seq_k fun K23 hK24 => rl ?_
 refine seqL9 kr ?_
 refine nl (hK24 _ _ ?_)
 refine wp_seq_k fun K25 hK26 => rl ?_
 refine seqL4 kr ?_
 refine nl (hK26 _ _ ?_)
 refine wp_ret ?_
 refine hret _ _ ?_
 refine ends_still (v := Value.tuple #[.int .u64 (u64 ((u64 ((u64 ((shr x1 32) * (shr y2 32))) + (shr (u64 ((u64 ((shr x1 32) * (Go.bits .and .u64 y2 4294967295))) + (shr (u64 ((Go.bits .and .u64 x1 4294967295) * (Go.bits .and .u64 y2 4294967295))) 32))) 32))) + (shr (u64 ((Go.bits .and .u64 (u64 ((u64 ((shr x1 32) * (Go.bits .and .u64 y2 4294967295))) + (shr (u64 ((Go.bits .and .u64 x1 4294967295) * (Go.bits .and .u64 y2 4294967295))) 32))) 4294967295) + (u64 ((Go.bits .and .u64 x1 4294967295) * (shr y2 32))))) 32))), .int .u64 (u64 (x1 * y2))]) kr kr ?_
 injection h with h
 injection h with h0_ h
 subst h0_ h
 exact ⟨f, rfl, FM.le.refl _, HS⟩

set_option maxRecDepth 100000 in
set_option maxHeartbeats 4000000 in
theorem num_Wide_Neg.calls (k : Nat)  (vw1 : S_Wide) {t w : World} {f : FM} {H : List Seg} (HS : St t w f (H)) (rr1 : S_Wide) (h : num_Wide_Neg k vw1 = some rr1) :
    Calls Tryz.prog 102 #[.agg #[.int .i64 vw1.Hi, .int .u64 vw1.Lo]] w (fun e w' => ∃ (g : FM), e = .returned (Value.agg #[.int .i64 rr1.Hi, .int .u64 rr1.Lo]) ∧ FM.le f g ∧ St t w' g (H)) := by
 unfold num_Wide_Neg at h
 refine enter Tryz.func102 rfl (tm := #[.agg #[iV vw1.Hi, .int .u64 vw1.Lo], uV, uV, uV, uV, uV, uV, uV, uV, uV, uV, uV, uV, uV, uV, uV, uV, uV, uV, uV, uV, uV, uV, uV, uV, uV, uV]) kr ?_
 intro B hret hnor hnp
 refine wp_seq_k fun K2 hK3 => rl ?_
 refine seqK rfl (does_box (cs := #[.int .i64 vw1.Hi, .int .u64 vw1.Lo]) rfl (kv (.agg #[.int .i64 vw1.Hi, .int .u64 vw1.Lo])) rfl HS ?_)
 intro b4 W5 HS6
 refine seqK rfl (does_alloc (z := Value.agg #[.int .i64 0, .int .u64 0]) (cs := #[.int .i64 0, .int .u64 0]) rfl kr rfl HS6 ?_)
 intro b8 W9 HS10
 refine nl (hK3 _ _ ?_)
 refine wp_seq_k fun K12 hK13 => rl ?_
 refine seqL1 kr ?_
 refine seqK rfl (does_run (run_load rfl Tryz.underlying69 rfl (kv (.pointer (some ⟨b4, 1, none⟩))) (HS10.u1.cell 1)) ?_)
 have hq_ := guard_some h; clear h; obtain ⟨c14, h⟩ := hq_
 have c14 : 0 ≤ (Go.bits .xor .u64 IntKind.u64.max vw1.Lo) := c14
 refine seqL1 kr ?_
 refine seqK rfl (does_run (run_add64op (x := Go.bits .xor .u64 IntKind.u64.max vw1.Lo) (y := 1) (c := 0) kr Tryz.func124 kr kr kr kr c14 (by decide) (by decide) (by decide) W9) ?_)
 refine seqL5 kr ?_
 refine nl (hK13 _ _ ?_)
 refine wp_seq_k fun K15 hK16 => rl ?_
 refine seqL1 kr ?_
 refine seqK rfl (does_run (run_load rfl Tryz.underlying2 rfl (kv (.pointer (some ⟨b4, 0, none⟩))) (HS10.u1.cell 0)) ?_)
 have hq_ := guard_some h; clear h; obtain ⟨c17, h⟩ := hq_
 have c17 : 0 ≤ (Go.bits .xor .u64 IntKind.u64.max (u64 (vw1.Hi))) := c17
 have hq_ := guard_some h; clear h; obtain ⟨c18, h⟩ := hq_
 have c18 : 0 ≤ (((Go.bits .xor .u64 IntKind.u64.max vw1.Lo) + 1 + 0) / 18446744073709551616) := c18
 have hq_ := guard_some h; clear h; obtain ⟨c19, h⟩ := hq_
 have c19 : (((Go.bits .xor .u64 IntKind.u64.max vw1.Lo) + 1 + 0) / 18446744073709551616) ≤ 1 := c19
 refine seqL3 kr ?_
 refine seqK rfl (does_run (run_add64op (x := Go.bits .xor .u64 IntKind.u64.max (u64 (vw1.Hi))) (y := 0) (c := ((Go.bits .xor .u64 IntKind.u64.max vw1.Lo) + 1 + 0) / 18446744073709551616) kr Tryz.func124 kr kr kr kr c17 (by decide) c18 c19 W9) ?_)
 refine seqL5 kr ?_
 refine nl (hK16 _ _ ?_)
 refine wp_seq_k fun K20 hK21 => rl ?_
 refine seqL4 kr ?_
 refine seqK rfl (does_store (n := 2) (vs := [.int .i64 (w64 (((Go.bits .xor .u64 IntKind.u64.max (u64 (vw1.Hi))) + 0 + (((Go.bits .xor .u64 IntKind.u64.max vw1.Lo) + 1 + 0) / 18446744073709551616)) % 18446744073709551616)), .int .u64 (((Go.bits .xor .u64 IntKind.u64.max vw1.Lo) + 1 + 0) % 18446744073709551616)]) (cs' := #[.int .i64 (w64 (((Go.bits .xor .u64 IntKind.u64.max (u64 (vw1.Hi))) + 0 + (((Go.bits .xor .u64 IntKind.u64.max vw1.Lo) + 1 + 0) / 18446744073709551616)) % 18446744073709551616)), .int .u64 (((Go.bits .xor .u64 IntKind.u64.max vw1.Lo) + 1 + 0) % 18446744073709551616)]) rfl kr (kv (.pointer (some ⟨b8, 0, none⟩))) (kv (.agg #[.int .i64 (w64 (((Go.bits .xor .u64 IntKind.u64.max (u64 (vw1.Hi))) + 0 + (((Go.bits .xor .u64 IntKind.u64.max vw1.Lo) + 1 + 0) / 18446744073709551616)) % 18446744073709551616)), .int .u64 (((Go.bits .xor .u64 IntKind.u64.max vw1.Lo) + 1 + 0) % 18446744073709551616)])) rfl rfl (by intro u_ hu_; simp only [List.mem_cons, List.not_mem_nil, or_false] at hu_; rcases hu_ with rfl | rfl <;> rfl) HS10 (Nat.le_of_ble_eq_true rfl) kr ?_)
 intro W22 HS23
 refine nl (hK21 _ _ ?_)
 refine wp_ret ?_
 refine hret _ _ ?_
 refine ends (v := Value.agg #[.int .i64 (w64 (((Go.bits .xor .u64 IntKind.u64.max (u64 (vw1.Hi))) + 0 + (((Go.bits .xor .u64 IntKind.u64.max vw1.Lo) + 1 + 0) / 18446744073709551616)) % 18446744073709551616)), .int .u64 (((Go.bits .xor .u64 IntKind.u64.max vw1.Lo) + 1 + 0) % 18446744073709551616)]) (results1 (q1 := .cell 2 132) kr (resN (n := 2) (cs := [.int .i64 (w64 (((Go.bits .xor .u64 IntKind.u64.max (u64 (vw1.Hi))) + 0 + (((Go.bits .xor .u64 IntKind.u64.max vw1.Lo) + 1 + 0) / 18446744073709551616)) % 18446744073709551616)), .int .u64 (((Go.bits .xor .u64 IntKind.u64.max vw1.Lo) + 1 + 0) % 18446744073709551616)]) (kv (.pointer (some ⟨b8, 0, none⟩))) Tryz.underlying132 rfl kr rfl (HS23.cells 0 2 _ rfl))) kr ?_
 have HS24 := HS23.drop
 have HS25 := HS24.drop
 injection h with h
 subst h
 exact ⟨f, rfl, FM.le.refl _, HS25⟩

set_option maxRecDepth 100000 in
set_option maxHeartbeats 4000000 in
theorem num_Product.calls (k : Nat)  (a1 : Int) (b2 : Int) {t w : World} {f : FM} {H : List Seg} (HS : St t w f (H)) (rr1 : S_Wide) (h : num_Product k a1 b2 = some rr1) :
    Calls Tryz.prog 68 #[.int .i64 a1, .int .i64 b2] w (fun e w' => ∃ (g : FM), e = .returned (Value.agg #[.int .i64 rr1.Hi, .int .u64 rr1.Lo]) ∧ FM.le f g ∧ St t w' g (H)) := by
 unfold num_Product at h
 refine enter Tryz.func68 rfl (tm := #[iV a1, iV b2, uV, uV, uV, uV, uV, uV, uV, uV, uV, uV, uV, uV, uV, uV, uV, uV, uV, uV, uV, uV, uV, uV, uV, uV, uV, uV]) kr ?_
 intro B hret hnor hnp
 refine wp_seq_k fun K3 hK4 => rl ?_
 refine seqK rfl (does_alloc (z := Value.agg #[.int .i64 0, .int .u64 0]) (cs := #[.int .i64 0, .int .u64 0]) rfl kr rfl HS ?_)
 intro b5 W6 HS7
 refine nl (hK4 _ _ ?_)
 refine wp_seq_k fun K9 hK10 => rl ?_
 have hq_ := bind_some h; clear h; obtain ⟨vt11, hc12, h⟩ := hq_
 refine seqL1 kr ?_
 refine seqK rfl (does_call (f := 101) (args := #[.int .i64 a1]) kr (num_size.calls k a1 HS7 vt11 hc12) ?_)
 rintro _ W15 ⟨f13, rfl, L14, HS16⟩
 refine ⟨_, rfl, ?_⟩
 have hq_ := bind_some h; clear h; obtain ⟨vt17, hc18, h⟩ := hq_
 refine seqL1 kr ?_
 refine seqK rfl (does_call (f := 101) (args := #[.int .i64 b2]) kr (num_size.calls k b2 HS16 vt17 hc18) ?_)
 rintro _ W21 ⟨f19, rfl, L20, HS22⟩
 refine ⟨_, rfl, ?_⟩
 have hq_ := bind_some h; clear h; obtain ⟨⟨vt23, vt24⟩, hc25, h⟩ := hq_
 refine seqK rfl (does_call (f := 100) (args := #[.int .u64 vt11, .int .u64 vt17]) kr (bits_Mul64.calls k vt11 vt17 HS22 vt23 vt24 hc25) ?_)
 rintro _ W28 ⟨f26, rfl, L27, HS29⟩
 refine ⟨_, rfl, ?_⟩
 refine seqL5 kr ?_
 refine nl (hK10 _ _ ?_)
 refine wp_seq_k fun K30 hK31 => rl ?_
 refine seqL4 kr ?_
 refine seqK rfl (does_alloc (z := Value.agg #[.int .i64 0, .int .u64 0]) (cs := #[.int .i64 0, .int .u64 0]) rfl kr rfl HS29 ?_)
 intro b32 W33 HS34
 refine seqK rfl (does_store (n := 2) (vs := [.int .i64 (w64 (vt23)), .int .u64 vt24]) (cs' := #[.int .i64 (w64 (vt23)), .int .u64 vt24]) rfl kr (kv (.pointer (some ⟨b32, 0, none⟩))) (kv (.agg #[.int .i64 (w64 (vt23)), .int .u64 vt24])) rfl rfl (by intro u_ hu_; simp only [List.mem_cons, List.not_mem_nil, or_false] at hu_; rcases hu_ with rfl | rfl <;> rfl) HS34 (Nat.le_of_ble_eq_true rfl) kr ?_)
 intro W36 HS37
 refine nl (hK31 _ _ ?_)
 refine wp_seq_k (fun K38 hK39 => ?_)
 refine wp_seq_k fun K40 hK41 => rl ?_
 refine seqL5 kr ?_
 refine nl (hK41 _ _ ?_)
 have hq_ := ite_some h; clear h; rcases hq_ with ⟨c43, h⟩ | ⟨c43, h⟩
 · have c43 : ((decide (a1 < 0)) != (decide (b2 < 0))) = true := c43
   refine wpRwI 24 (x := ((decide (a1 < 0)) != (decide (b2 < 0)))) (v := true) kr c43 ?_
   refine condT kr ?_
   refine wp_seq_k fun K44 hK45 => rl ?_
   refine seqK rfl (does_run (run_loadN (n := 2) rfl Tryz.underlying132 rfl kr (kv (.pointer (some ⟨b32, 0, none⟩))) (cs := [.int .i64 (w64 (vt23)), .int .u64 vt24]) rfl (HS37.cells 0 2 _ rfl)) ?_)
   have hq_ := bind_some h; clear h; obtain ⟨vt46, hc47, h⟩ := hq_
   refine seqK rfl (does_call (f := 102) (args := #[.agg #[.int .i64 (w64 (vt23)), .int .u64 vt24]]) kr (num_Wide_Neg.calls k (⟨w64 (vt23), vt24⟩ : S_Wide) HS37 vt46 hc47) ?_)
   rintro _ W50 ⟨f48, rfl, L49, HS51⟩
   refine ⟨_, rfl, ?_⟩
   have HS52 := HS51.u1
   refine seqK rfl (does_store (n := 2) (vs := [.int .i64 vt46.Hi, .int .u64 vt46.Lo]) (cs' := #[.int .i64 vt46.Hi, .int .u64 vt46.Lo]) rfl kr (kv (.pointer (some ⟨b5, 0, none⟩))) (kv (.agg #[.int .i64 vt46.Hi, .int .u64 vt46.Lo])) rfl rfl (by intro u_ hu_; simp only [List.mem_cons, List.not_mem_nil, or_false] at hu_; rcases hu_ with rfl | rfl <;> rfl) HS52 (Nat.le_of_ble_eq_true rfl) kr ?_)
   intro W53 HS54
   refine nl (hK45 _ _ ?_)
   refine wp_ret ?_
   refine hret _ _ ?_
   refine ends (v := Value.agg #[.int .i64 vt46.Hi, .int .u64 vt46.Lo]) (results1 (q1 := .cell 4 132) kr (resN (n := 2) (cs := [.int .i64 vt46.Hi, .int .u64 vt46.Lo]) (kv (.pointer (some ⟨b5, 0, none⟩))) Tryz.underlying132 rfl kr rfl (HS54.cells 0 2 _ rfl))) kr ?_
   have HS60 := HS54.drop
   have HS61 := HS60.drop
   injection h with h
   subst h
   exact ⟨f48, rfl, (L14.trans (L20.trans (L27.trans L49))), HS61⟩
 · have c43 : ¬ (((decide (a1 < 0)) != (decide (b2 < 0))) = true) := c43
   refine wpRwI 24 (x := ((decide (a1 < 0)) != (decide (b2 < 0)))) (v := false) kr (Bool.eq_false_iff.mpr c43) ?_
   refine condF kr ?_
   refine wp_skip ?_
   refine hK39 _ _ ?_
   refine wp_seq_k fun K55 hK56 => rl ?_
   refine seqK rfl (does_run (run_loadN (n := 2) rfl Tryz.underlying132 rfl kr (kv (.pointer (some ⟨b32, 0, none⟩))) (cs := [.int .i64 (w64 (vt23)), .int .u64 vt24]) rfl (HS37.cells 0 2 _ rfl)) ?_)
   have HS57 := HS37.u1
   refine seqK rfl (does_store (n := 2) (vs := [.int .i64 (w64 (vt23)), .int .u64 vt24]) (cs' := #[.int .i64 (w64 (vt23)), .int .u64 vt24]) rfl kr (kv (.pointer (some ⟨b5, 0, none⟩))) (kv (.agg #[.int .i64 (w64 (vt23)), .int .u64 vt24])) rfl rfl (by intro u_ hu_; simp only [List.mem_cons, List.not_mem_nil, or_false] at hu_; rcases hu_ with rfl | rfl <;> rfl) HS57 (Nat.le_of_ble_eq_true rfl) kr ?_)
   intro W58 HS59
   refine nl (hK56 _ _ ?_)
   refine wp_ret ?_
   refine hret _ _ ?_
   refine ends (v := Value.agg #[.int .i64 (w64 (vt23)), .int .u64 vt24]) (results1 (q1 := .cell 4 132) kr (resN (n := 2) (cs := [.int .i64 (w64 (vt23)), .int .u64 vt24]) (kv (.pointer (some ⟨b5, 0, none⟩))) Tryz.underlying132 rfl kr rfl (HS59.cells 0 2 _ rfl))) kr ?_
   have HS62 := HS59.drop
   have HS63 := HS62.drop
   injection h with h
   subst h
   exact ⟨f26, rfl, (L14.trans (L20.trans L27)), HS63⟩

set_option maxRecDepth 100000 in
set_option maxHeartbeats 4000000 in
theorem num_Mul.calls (k : Nat)  (a1 : Int) (b2 : Int) {t w : World} {f : FM} {H : List Seg} (HS : St t w f (H)) (rr1 : Int) (rr2 : Bool) (h : num_Mul k a1 b2 = some (rr1, rr2)) :
    Calls Tryz.prog 40 #[.int .i64 a1, .int .i64 b2] w (fun e w' => ∃ (g : FM), e = .returned (Value.tuple #[.int .i64 rr1, .bool rr2]) ∧ FM.le f g ∧ St t w' g (H)) := by
 unfold num_Mul at h
 refine enter Tryz.func40 rfl (tm := #[iV a1, iV b2, uV, uV, uV, uV, uV, uV, uV, uV, uV, uV, uV, uV, uV, uV, uV, uV, uV, uV]) kr ?_
 intro B hret hnor hnp
 refine wp_seq_k fun K3 hK4 => rl ?_
 refine seqL2 kr ?_
 refine nl (hK4 _ _ ?_)
 refine wp_seq_k fun K5 hK6 => rl ?_
 have hq_ := bind_some h; clear h; obtain ⟨vt7, hc8, h⟩ := hq_
 refine seqL2 kr ?_
 refine seqK rfl (does_call (f := 68) (args := #[.int .i64 a1, .int .i64 b2]) kr (num_Product.calls k a1 b2 HS vt7 hc8) ?_)
 rintro _ W11 ⟨f9, rfl, L10, HS12⟩
 refine ⟨_, rfl, ?_⟩
 refine seqK rfl (does_alloc (z := Value.agg #[.int .i64 0, .int .u64 0]) (cs := #[.int .i64 0, .int .u64 0]) rfl kr rfl HS12 ?_)
 intro b13 W14 HS15
 refine seqK rfl (does_store (n := 2) (vs := [.int .i64 vt7.Hi, .int .u64 vt7.Lo]) (cs' := #[.int .i64 vt7.Hi, .int .u64 vt7.Lo]) rfl kr (kv (.pointer (some ⟨b13, 0, none⟩))) (kv (.agg #[.int .i64 vt7.Hi, .int .u64 vt7.Lo])) rfl rfl (by intro u_ hu_; simp only [List.mem_cons, List.not_mem_nil, or_false] at hu_; rcases hu_ with rfl | rfl <;> rfl) HS15 (Nat.le_of_ble_eq_true rfl) kr ?_)
 intro W17 HS18
 refine nl (hK6 _ _ ?_)
 refine wp_seq_k (fun K19 hK20 => ?_)
 refine wp_seq_k fun K21 hK22 => rl ?_
 refine seqL1 kr ?_
 refine seqK rfl (does_run (run_load rfl Tryz.underlying2 rfl (kv (.pointer (some ⟨b13, 0, none⟩))) (HS18.cell 0)) ?_)
 refine seqL1 kr ?_
 refine seqK rfl (does_run (run_load rfl Tryz.underlying69 rfl (kv (.pointer (some ⟨b13, 1, none⟩))) (HS18.cell 1)) ?_)
 refine seqL3 kr ?_
 refine nl (hK22 _ _ ?_)
 have hq_ := ite_some h; clear h; rcases hq_ with ⟨c24, h⟩ | ⟨c24, h⟩
 · have c24 : vt7.Hi ≠ (shr (w64 (vt7.Lo)) 63) := c24
   refine wpRwI 16 (x := (vt7.Hi != (shr (w64 (vt7.Lo)) 63))) (v := true) kr (bne_iff_ne.mpr c24) ?_
   refine condT kr ?_
   refine wp_seq_k fun K25 hK26 => rl ?_
   refine seqL2 kr ?_
   refine nl (hK26 _ _ ?_)
   refine wp_ret ?_
   refine hret _ _ ?_
   refine ends_still (v := Value.tuple #[.int .i64 0, .bool false]) kr kr ?_
   have HS29 := HS18.drop
   injection h with h
   injection h with h0_ h
   subst h0_ h
   exact ⟨f9, rfl, L10, HS29⟩
 · have c24 : ¬ (vt7.Hi ≠ (shr (w64 (vt7.Lo)) 63)) := c24
   refine wpRwI 16 (x := (vt7.Hi != (shr (w64 (vt7.Lo)) 63))) (v := false) kr (bne_eq_false_iff_eq.mpr (Decidable.of_not_not c24)) ?_
   refine condF kr ?_
   refine wp_skip ?_
   refine hK20 _ _ ?_
   refine wp_seq_k fun K27 hK28 => rl ?_
   refine seqL1 kr ?_
   refine seqK rfl (does_run (run_load rfl Tryz.underlying69 rfl (kv (.pointer (some ⟨b13, 1, none⟩))) (HS18.cell 1)) ?_)
   refine seqL3 kr ?_
   refine nl (hK28 _ _ ?_)
   refine wp_ret ?_
   refine hret _ _ ?_
   refine ends_still (v := Value.tuple #[.int .i64 (w64 (vt7.Lo)), .bool true]) kr kr ?_
   have HS30 := HS18.drop
   injection h with h
   injection h with h0_ h
   subst h0_ h
   exact ⟨f9, rfl, L10, HS30⟩

set_option maxRecDepth 100000 in
set_option maxHeartbeats 4000000 in
theorem frame_Number.calls (k : Nat) (A2 : Option Addr) (c3 : Nat) (A5 : Option Addr) (c6 : Nat) (vf1 : S_Frame) (key8 : ByteArray) (vto9 : ByteArray) {t w : World} {f : FM} {H : List Seg} (HS : St t w f (H)) (HR4 : SlR ty_Card f A2 c3 vf1.Cards) (HR7 : SlR (tInt .i64) f A5 c6 vf1.Counts) (HT : TabF Tryz.prog "internal/strconv.uint64pow10" .u64 Go.Lib.pow10Tab f) (rr1 : Int) (rr2 : Int) (h : frame_Number k vf1 key8 vto9 = some (rr1, rr2)) :
    Calls Tryz.prog 19 #[.agg #[.int .i64 vf1.W, .int .i64 vf1.H, .slice A2 vf1.Cards.length c3, .slice A5 vf1.Counts.length c6], .string key8, .string vto9] w (fun e w' => ∃ (g : FM), e = .returned (Value.tuple #[.int .i64 rr1, .int .i64 rr2]) ∧ FM.le f g ∧ St t w' g (H)) := by
 unfold frame_Number at h
 refine enter Tryz.func19 rfl (tm := #[(ag_Frame vf1 A2 c3 A5 c6), .string key8, .string vto9, uV, uV, uV, uV, uV, uV, uV, uV, uV, uV, uV, uV, uV, uV, uV, uV, uV, uV, uV, uV, uV, uV, uV, uV, uV, uV, uV, uV, uV, uV, uV, uV, uV, uV, uV, uV, uV, uV, uV, uV, uV, uV, uV, uV, uV, uV, uV, uV, uV, uV, uV, uV, uV, uV, uV, uV, uV, uV, uV, uV, uV, uV, uV, uV, uV, uV, uV, uV, uV, uV, uV, uV, uV, uV, uV, uV, uV]) kr ?_
 intro B hret hnor hnp
 refine wp_seq_k fun K10 hK11 => rl ?_
 refine seqK rfl (does_box (cs := #[.int .i64 vf1.W, .int .i64 vf1.H, .slice A2 vf1.Cards.length c3, .slice A5 vf1.Counts.length c6]) rfl (kv (.agg #[.int .i64 vf1.W, .int .i64 vf1.H, .slice A2 vf1.Cards.length c3, .slice A5 vf1.Counts.length c6])) rfl HS ?_)
 intro b12 W13 HS14
 refine seqL2 kr ?_
 refine nl (hK11 _ _ ?_)
 refine wp_seq_k fun K16 hK17 => rl ?_
 refine seqK rfl (does_run (run_loadN (n := 4) rfl Tryz.underlying29 rfl kr (kv (.pointer (some ⟨b12, 0, none⟩))) (cs := [.int .i64 vf1.W, .int .i64 vf1.H, .slice A2 vf1.Cards.length c3, .slice A5 vf1.Counts.length c6]) rfl (HS14.cells 0 4 _ rfl)) ?_)
 have hq_ := bind_some h; clear h; obtain ⟨⟨vt18, vt19⟩, hc20, h⟩ := hq_
 refine seqL1 kr ?_
 refine seqK rfl (does_call (f := 20) (args := #[.agg #[.int .i64 vf1.W, .int .i64 vf1.H, .slice A2 vf1.Cards.length c3, .slice A5 vf1.Counts.length c6], .string key8]) kr (frame_Get.calls k A2 c3 A5 c6 vf1 key8 HS14 HR4 HR7 vt18 vt19 hc20) ?_)
 rintro _ W23 ⟨f21, rfl, L22, HS24⟩
 refine ⟨_, rfl, ?_⟩
 refine seqL3 kr ?_
 refine seqK rfl (does_alloc (z := Value.agg #[.string ⟨#[]⟩, .string ⟨#[]⟩, .string ⟨#[]⟩, .string ⟨#[]⟩]) (cs := #[.string ⟨#[]⟩, .string ⟨#[]⟩, .string ⟨#[]⟩, .string ⟨#[]⟩]) rfl kr rfl HS24 ?_)
 intro b25 W26 HS27
 refine seqK rfl (does_store (n := 4) (vs := [.string vt18.Key, .string vt18.Value, .string vt18.Unit, .string vt18.Note]) (cs' := #[.string vt18.Key, .string vt18.Value, .string vt18.Unit, .string vt18.Note]) rfl kr (kv (.pointer (some ⟨b25, 0, none⟩))) (kv (.agg #[.string vt18.Key, .string vt18.Value, .string vt18.Unit, .string vt18.Note])) rfl rfl (by intro u_ hu_; simp only [List.mem_cons, List.not_mem_nil, or_false] at hu_; rcases hu_ with rfl | rfl | rfl | rfl <;> rfl) HS27 (Nat.le_of_ble_eq_true rfl) kr ?_)
 intro W29 HS30
 refine seqL1 kr ?_
 refine nl (hK17 _ _ ?_)
 refine wp_seq_k (fun K31 hK32 => ?_)
 refine wp_seq_k fun K33 hK34 => rl ?_
 refine seqL2 kr ?_
 refine nl (hK34 _ _ ?_)
 have hq_ := ite_some h; clear h; rcases hq_ with ⟨c36, h⟩ | ⟨c36, h⟩
 · have c36 : ¬ (vt19 = true) := c36
   refine wpRwI 24 (x := (!vt19)) (v := true) kr (congrArg (fun b_ => !b_) (show vt19 = false from (Bool.eq_false_iff.mpr c36)) : (!vt19) = true) ?_
   refine condT kr ?_
   refine wp_seq_k fun K37 hK38 => rl ?_
   refine seqL2 kr ?_
   refine nl (hK38 _ _ ?_)
   refine wp_ret ?_
   refine hret _ _ ?_
   refine ends_still (v := Value.tuple #[.int .i64 0, .int .i64 8]) kr kr ?_
   have HS133 := HS30.drop
   have HS134 := HS133.drop
   injection h with h
   injection h with h0_ h
   subst h0_ h
   exact ⟨f21, rfl, L22, HS134⟩
 · have c36 : ¬ (¬ (vt19 = true)) := c36
   refine wpRwI 24 (x := (!vt19)) (v := false) kr (congrArg (fun b_ => !b_) (show vt19 = true from (Decidable.of_not_not c36)) : (!vt19) = false) ?_
   refine condF kr ?_
   refine wp_skip ?_
   refine hK32 _ _ ?_
   refine wp_seq_k fun K39 hK40 => rl ?_
   refine seqL1 kr ?_
   refine seqK rfl (does_run (run_load rfl Tryz.underlying9 rfl (kv (.pointer (some ⟨b25, 1, none⟩))) (HS30.cell 1)) ?_)
   have hq_ := bind_some h; clear h; obtain ⟨vt41, hc42, h⟩ := hq_
   refine seqK rfl (does_call (f := 37) (args := #[.string vt18.Value, .int .i64 10, .int .i64 64]) kr (strconv_ParseInt.calls k vt18.Value 10 64 HS30 vt41 hc42) ?_)
   rintro _ W45 ⟨f43, rfl, L44, HS46⟩
   refine ⟨_, rfl, ?_⟩
   refine seqL5 kr ?_
   refine nl (hK40 _ _ ?_)
   refine wp_seq_k (fun K47 hK48 => ?_)
   refine wp_seq_k (fun K49 hK50 => ?_)
   refine heldG (S := Sg t f43 ([(b25, .cells #[.string vt18.Key, .string vt18.Value, .string vt18.Unit, .string vt18.Note] 51 (0, 0))] :: [(b12, .cells #[.int .i64 vf1.W, .int .i64 vf1.H, .slice A2 vf1.Cards.length c3, .slice A5 vf1.Counts.length c6] 29 (0, 0))] :: H) []) (n := 9) kr rfl HS46 ?_
   intro W51 HS52
   refine takeGL [0, 1, 2, 3, 5] (n := 9) (fuel := 4) #[true, true, true, true, false, true, false, false, false] rfl kr kr kr hnp (Sg.g0 (Sx.of [] (FM.le.refl _) HS52)) ?_
   refine takeGQ 6 [] rfl kr kr kr kr kr kr hnp (Sg.g0 (Sx.of [] (FM.le.refl _) HS52)) (fun w_ hw_ => by obtain ⟨g_, hl_, hS_⟩ := hw_.st; exact run_load rfl Tryz.underlying9 rfl (kv (.pointer (some ⟨b25, 1, none⟩))) (hS_.cell 1)) ?_
   have hq_ := bind_some h; clear h; obtain ⟨vt53, hc54, h⟩ := hq_
   refine takeGE 4 kr rfl kr (does_call (f := 38) (args := #[.int .i64 vt41, .int .i64 10]) kr (strconv_FormatInt.calls k vt41 10 HS52 (HT.mono (L22.trans L44)) vt53 hc54) ?_)
   rintro _ W57 ⟨f55, rfl, L56, HS58⟩
   refine ⟨_, rfl, ?_⟩
   refine ⟨(Sg.g0 (Sx.of [] L56 HS58)), ?_⟩
   refine takeGL [7, 8] (n := 2) (fuel := 0) #[true, true, true, true, true, true, true, true, true] rfl kr kr kr hnp (Sg.g0 (Sx.of [] L56 HS58)) ?_
   refine doneG kr ?_ _
   refine hK50 _ _ ?_
   have hq_ := ite_some h; clear h; rcases hq_ with ⟨c60, h⟩ | ⟨c60, h⟩
   · have c60 : (!(vt53.toList == vt18.Value.toList)) = true := c60
     refine wpRwI 38 (x := (!(vt53.toList == vt18.Value.toList))) (v := true) kr c60 ?_
     refine wpRwI 39 (x := (!(vt53.toList == vt18.Value.toList))) (v := true) kr c60 ?_
     refine condT kr ?_
     refine wp_seq_k fun K61 hK62 => rl ?_
     refine seqL2 kr ?_
     refine nl (hK62 _ _ ?_)
     refine wp_ret ?_
     refine hret _ _ ?_
     refine ends_still (v := Value.tuple #[.int .i64 0, .int .i64 5]) kr kr ?_
     have HS135 := HS58.drop
     have HS136 := HS135.drop
     injection h with h
     injection h with h0_ h
     subst h0_ h
     exact ⟨f55, rfl, (L22.trans (L44.trans L56)), HS136⟩
   · have c60 : ¬ ((!(vt53.toList == vt18.Value.toList)) = true) := c60
     refine wpRwI 38 (x := (!(vt53.toList == vt18.Value.toList))) (v := false) kr (Bool.eq_false_iff.mpr c60) ?_
     refine wpRwI 39 (x := (!(vt53.toList == vt18.Value.toList))) (v := false) kr (Bool.eq_false_iff.mpr c60) ?_
     refine condF kr ?_
     refine wp_skip ?_
     refine hK48 _ _ ?_
     refine wp_seq_k (fun K63 hK64 => ?_)
     refine wp_seq_k fun K65 hK66 => rl ?_
     refine seqL1 kr ?_
     refine seqK rfl (does_run (run_load rfl Tryz.underlying9 rfl (kv (.pointer (some ⟨b25, 2, none⟩))) (HS58.cell 2)) ?_)
     refine seqL2 kr ?_
     refine nl (hK66 _ _ ?_)
     have hq_ := ite_some h; clear h; rcases hq_ with ⟨c68, h⟩ | ⟨c68, h⟩
     · have c68 : (vt18.Unit.toList == vto9.toList) = true := c68
       refine wpRwI 43 (x := (vt18.Unit.toList == vto9.toList)) (v := true) kr c68 ?_
       refine condT kr ?_
       refine wp_seq_k fun K69 hK70 => rl ?_
       refine seqL3 kr ?_
       refine nl (hK70 _ _ ?_)
       refine wp_ret ?_
       refine hret _ _ ?_
       refine ends_still (v := Value.tuple #[.int .i64 vt41, .int .i64 0]) kr kr ?_
       have HS137 := HS58.drop
       have HS138 := HS137.drop
       injection h with h
       injection h with h0_ h
       subst h0_ h
       exact ⟨f55, rfl, (L22.trans (L44.trans L56)), HS138⟩
     · have c68 : ¬ ((vt18.Unit.toList == vto9.toList) = true) := c68
       refine wpRwI 43 (x := (vt18.Unit.toList == vto9.toList)) (v := false) kr (Bool.eq_false_iff.mpr c68) ?_
       refine condF kr ?_
       refine wp_skip ?_
       refine hK64 _ _ ?_
       refine wp_seq_k fun K71 hK72 => rl ?_
       refine seqL1 kr ?_
       refine seqK rfl (does_run (run_load rfl Tryz.underlying9 rfl (kv (.pointer (some ⟨b25, 2, none⟩))) (HS58.cell 2)) ?_)
       have hq_ := bind_some h; clear h; obtain ⟨⟨vt73, vt74⟩, hc75, h⟩ := hq_
       refine seqK rfl (does_call (f := 39) (args := #[.string vt18.Unit]) kr (frame_unit.calls k vt18.Unit HS58 vt73 vt74 hc75) ?_)
       rintro _ W78 ⟨f76, rfl, L77, HS79⟩
       refine ⟨_, rfl, ?_⟩
       refine seqL5 kr ?_
       refine nl (hK72 _ _ ?_)
       refine wp_seq_k fun K80 hK81 => rl ?_
       have hq_ := bind_some h; clear h; obtain ⟨⟨vt82, vt83⟩, hc84, h⟩ := hq_
       refine seqL1 kr ?_
       refine seqK rfl (does_call (f := 39) (args := #[.string vto9]) kr (frame_unit.calls k vto9 HS79 vt82 vt83 hc84) ?_)
       rintro _ W87 ⟨f85, rfl, L86, HS88⟩
       refine ⟨_, rfl, ?_⟩
       refine seqL5 kr ?_
       refine nl (hK81 _ _ ?_)
       refine wp_seq_k (fun K89 hK90 => ?_)
       refine wp_seq_k fun K91 hK92 => rl ?_
       refine seqL3 kr ?_
       have hq_ := ite_some h; clear h; rcases hq_ with ⟨c93, h⟩ | ⟨c93, h⟩
       · have c93 : (vt73.toList == (⟨#[]⟩ : ByteArray).toList) = true := c93
         refine seqRwI 57 (x := (vt73.toList == (⟨#[]⟩ : ByteArray).toList)) (v := true) kr c93 ?_
         refine seqRwI 58 (x := (vt73.toList == (⟨#[]⟩ : ByteArray).toList)) (v := true) kr c93 ?_
         refine seqL4 kr ?_
         refine nl (hK92 _ _ ?_)
         refine condT kr ?_
         refine wp_seq_k fun K94 hK95 => rl ?_
         refine seqL2 kr ?_
         refine nl (hK95 _ _ ?_)
         refine wp_ret ?_
         refine hret _ _ ?_
         refine ends_still (v := Value.tuple #[.int .i64 0, .int .i64 12]) kr kr ?_
         have HS139 := HS88.drop
         have HS140 := HS139.drop
         injection h with h
         injection h with h0_ h
         subst h0_ h
         exact ⟨f85, rfl, (L22.trans (L44.trans (L56.trans (L77.trans L86)))), HS140⟩
       · have c93 : ¬ ((vt73.toList == (⟨#[]⟩ : ByteArray).toList) = true) := c93
         refine seqRwI 57 (x := (vt73.toList == (⟨#[]⟩ : ByteArray).toList)) (v := false) kr (Bool.eq_false_iff.mpr c93) ?_
         refine seqRwI 58 (x := (vt73.toList == (⟨#[]⟩ : ByteArray).toList)) (v := false) kr (Bool.eq_false_iff.mpr c93) ?_
         refine seqL4 kr ?_
         refine nl (hK92 _ _ ?_)
         have hq_ := ite_some h; clear h; rcases hq_ with ⟨c97, h⟩ | ⟨c97, h⟩
         · have c97 : (!(vt73.toList == vt82.toList)) = true := c97
           refine wpRwI 61 (x := (!(vt73.toList == vt82.toList))) (v := true) kr c97 ?_
           refine wpRwI 62 (x := (!(vt73.toList == vt82.toList))) (v := true) kr c97 ?_
           refine condT kr ?_
           refine wp_seq_k fun K98 hK99 => rl ?_
           refine seqL2 kr ?_
           refine nl (hK99 _ _ ?_)
           refine wp_ret ?_
           refine hret _ _ ?_
           refine ends_still (v := Value.tuple #[.int .i64 0, .int .i64 12]) kr kr ?_
           have HS141 := HS88.drop
           have HS142 := HS141.drop
           injection h with h
           injection h with h0_ h
           subst h0_ h
           exact ⟨f85, rfl, (L22.trans (L44.trans (L56.trans (L77.trans L86)))), HS142⟩
         · have c97 : ¬ ((!(vt73.toList == vt82.toList)) = true) := c97
           refine wpRwI 61 (x := (!(vt73.toList == vt82.toList))) (v := false) kr (Bool.eq_false_iff.mpr c97) ?_
           refine wpRwI 62 (x := (!(vt73.toList == vt82.toList))) (v := false) kr (Bool.eq_false_iff.mpr c97) ?_
           refine condF kr ?_
           refine wp_skip ?_
           refine hK90 _ _ ?_
           refine wp_seq_k fun K100 hK101 => rl ?_
           have hq_ := bind_some h; clear h; obtain ⟨⟨vt102, vt103⟩, hc104, h⟩ := hq_
           refine seqL2 kr ?_
           refine seqK rfl (does_call (f := 40) (args := #[.int .i64 vt41, .int .i64 vt74]) kr (num_Mul.calls k vt41 vt74 HS88 vt102 vt103 hc104) ?_)
           rintro _ W107 ⟨f105, rfl, L106, HS108⟩
           refine ⟨_, rfl, ?_⟩
           refine seqL5 kr ?_
           refine nl (hK101 _ _ ?_)
           refine wp_seq_k (fun K109 hK110 => ?_)
           refine blockK (fun B111 hx112 hn113 hr114 ho115 hp116 => ?_)
           refine wp_seq_k fun K118 hK119 => rl ?_
           refine seqL3 kr ?_
           refine nl (hK119 _ _ ?_)
           have hq_ := ite_some h; clear h; rcases hq_ with ⟨c121, h⟩ | ⟨c121, h⟩
           · have c121 : ¬ (vt103 = true) := c121
             refine wpRwI 69 (x := (!vt103)) (v := true) kr (congrArg (fun b_ => !b_) (show vt103 = false from (Bool.eq_false_iff.mpr c121)) : (!vt103) = true) ?_
             refine wpRwI 71 (x := (!vt103)) (v := true) kr (congrArg (fun b_ => !b_) (show vt103 = false from (Bool.eq_false_iff.mpr c121)) : (!vt103) = true) ?_
             refine condT kr ?_
             refine wp_seq_k fun K122 hK123 => rl ?_
             refine seqL2 kr ?_
             refine nl (hK123 _ _ ?_)
             refine wp_ret ?_
             refine hr114 _ _ ?_
             refine hret _ _ ?_
             refine ends_still (v := Value.tuple #[.int .i64 0, .int .i64 2]) kr kr ?_
             have HS143 := HS108.drop
             have HS144 := HS143.drop
             injection h with h
             injection h with h0_ h
             subst h0_ h
             exact ⟨f105, rfl, (L22.trans (L44.trans (L56.trans (L77.trans (L86.trans L106))))), HS144⟩
           · have c121 : ¬ (¬ (vt103 = true)) := c121
             refine wpRwI 69 (x := (!vt103)) (v := false) kr (congrArg (fun b_ => !b_) (show vt103 = true from (Decidable.of_not_not c121)) : (!vt103) = false) ?_
             refine wpRwI 71 (x := (!vt103)) (v := false) kr (congrArg (fun b_ => !b_) (show vt103 = true from (Decidable.of_not_not c121)) : (!vt103) = false) ?_
             refine condF kr ?_
             refine wp_seq_k fun K124 hK125 => rl ?_
             have hq_ := guard_some h; clear h; obtain ⟨c126, h⟩ := hq_
             have c126 : ¬ (vt83 = 0) := c126
             refine seqL2 kr ?_
             refine seqK rfl (does_run (run_rem rfl (kv (.int .i64 vt102)) (kv (.int .i64 vt83)) c126 W107) ?_)
             refine seqL2 kr ?_
             refine nl (hK125 _ _ ?_)
             have hq_ := ite_some h; clear h; rcases hq_ with ⟨c128, h⟩ | ⟨c128, h⟩
             · have c128 : (Int.tmod vt102 vt83) ≠ 0 := c128
               refine wpRwI 72 (x := ((Int.tmod vt102 vt83) != 0)) (v := true) kr (bne_iff_ne.mpr c128) ?_
               refine wpRwI 76 (x := ((Int.tmod vt102 vt83) != 0)) (v := true) kr (bne_iff_ne.mpr c128) ?_
               refine condT kr ?_
               refine wp_seq_k fun K129 hK130 => rl ?_
               refine seqL2 kr ?_
               refine nl (hK130 _ _ ?_)
               refine wp_ret ?_
               refine hr114 _ _ ?_
               refine hret _ _ ?_
               refine ends_still (v := Value.tuple #[.int .i64 0, .int .i64 3]) kr kr ?_
               have HS145 := HS108.drop
               have HS146 := HS145.drop
               injection h with h
               injection h with h0_ h
               subst h0_ h
               exact ⟨f105, rfl, (L22.trans (L44.trans (L56.trans (L77.trans (L86.trans L106))))), HS146⟩
             · have c128 : ¬ ((Int.tmod vt102 vt83) ≠ 0) := c128
               refine wpRwI 72 (x := ((Int.tmod vt102 vt83) != 0)) (v := false) kr (bne_eq_false_iff_eq.mpr (Decidable.of_not_not c128)) ?_
               refine wpRwI 76 (x := ((Int.tmod vt102 vt83) != 0)) (v := false) kr (bne_eq_false_iff_eq.mpr (Decidable.of_not_not c128)) ?_
               refine condF kr ?_
               refine wp_skip ?_
               refine hn113 _ _ ?_
               refine hK110 _ _ ?_
               refine wp_seq_k fun K131 hK132 => rl ?_
               refine seqL2 kr ?_
               refine seqK rfl (does_run (run_div rfl (kv (.int .i64 vt102)) (kv (.int .i64 vt83)) c126 W107) ?_)
               refine seqS2 (a' := ⟨#[(ag_Frame vf1 A2 c3 A5 c6), .string key8, .string vto9, pV b12 0, uV, uV, iV (w64 (Int.tdiv vt102 vt83)), iV 0, pV b25 0, .bool vt103, iV vt41, .nilIface, .string vt73, iV vt74, .string vt82, iV vt83, iV vt102, .tuple #[(ag_Card vt18), .bool vt19], (ag_Frame vf1 A2 c3 A5 c6), .string key8, .tuple #[(ag_Card vt18), .bool vt19], (ag_Card vt18), .bool vt19, .bool vt19, fV, .tuple #[iV vt41, .nilIface], pV b25 1, .string vt18.Value, .tuple #[iV vt41, .nilIface], iV vt41, .nilIface, .nilIface, fV, fV, iV vt41, .string vt53, pV b25 1, .string vt18.Value, fV, fV, pV b25 2, .string vt18.Unit, .string vto9, fV, uV, .tuple #[.string vt73, iV vt74], pV b25 2, .string vt18.Unit, .tuple #[.string vt73, iV vt74], .string vt73, iV vt74, .tuple #[.string vt82, iV vt83], .string vto9, .tuple #[.string vt82, iV vt83], .string vt82, iV vt83, .string vt73, fV, fV, .string vt73, .string vt82, fV, fV, .tuple #[iV vt102, .bool vt103], iV vt41, iV vt74, .tuple #[iV vt102, .bool vt103], iV vt102, .bool vt103, fV, .bool vt103, fV, fV, iV vt102, iV vt83, iV (Int.tmod vt102 vt83), fV, iV vt102, iV vt83, iV (w64 (Int.tdiv vt102 vt83))], []⟩) kr ?_
               refine nl (hK132 _ _ ?_)
               refine wp_ret ?_
               refine hret _ _ ?_
               refine ends_still (v := Value.tuple #[.int .i64 (w64 (Int.tdiv vt102 vt83)), .int .i64 0]) kr kr ?_
               have HS147 := HS108.drop
               have HS148 := HS147.drop
               injection h with h
               injection h with h0_ h
               subst h0_ h
               exact ⟨f105, rfl, (L22.trans (L44.trans (L56.trans (L77.trans (L86.trans L106))))), HS148⟩

theorem strconv_Itoa.calls (k : Nat) (n : Int) {t w : World} {f : FM} {H : List Seg} (HS : St t w f H) (HT : TabF Tryz.prog "internal/strconv.uint64pow10" .u64 Go.Lib.pow10Tab f) (r1 : ByteArray) (h : strconv_Itoa k n = some r1) :
    Calls Tryz.prog 44 #[.int .i64 n] w (fun e w' => ∃ (g : FM), e = .returned (Value.string r1) ∧ FM.le f g ∧ St t w' g H) := by
  unfold strconv_Itoa at h
  have hq_ := guard_some h; clear h; obtain ⟨h1, h⟩ := hq_
  have hq_ := guard_some h; clear h; obtain ⟨h2, h⟩ := hq_
  injection h with h; subst h
  exact (itoa_calls (n := n) (fun w_ ht_ => Tryz.strconv_Itoa n h1 h2 w_ ht_) HS (HT.tab HS)).mono fun e w' ⟨he, hs⟩ => ⟨f, he, FM.le.refl _, hs⟩

theorem strings_Builder_WriteString.calls (k : Nat) (A : Option Addr) (c : Nat) (s : Seg) (l : List UInt8) (str : ByteArray) {t w : World} {f : FM} {H : List Seg} (HS : St t w f (s :: H)) (HO : OwnB 102 5 f A c s l) (r1 : Int) (r2 : List UInt8) (h : strings_Builder_WriteString k l str = some (r1, r2)) :
    Calls Tryz.prog 46 #[.pointer A, .string str] w (fun e w' => ∃ (g : FM) (s' : Seg), e = .returned (Value.tuple #[Value.int .i64 r1, Value.nilIface]) ∧ FM.le f g ∧ St t w' g (s' :: H) ∧ OwnB 102 5 g A c s' r2 ∧ True) := by
  unfold strings_Builder_WriteString at h
  have hq_ := guard_some h; clear h; obtain ⟨h1, h⟩ := hq_
  injection h with h; injection h with h2_ h3_; subst h2_ h3_
  have hc := write_calls (P := Tryz.prog) (ρ := Tryz.lays105_ren) { Tryz.lays105 with } Tryz.Builder_Extra_105 HS HO str h1
  exact hc.mono fun e w' ⟨s', he, hs, ho⟩ => ⟨f, s', he, FM.le.refl _, hs, ho, trivial⟩

set_option maxRecDepth 100000 in
set_option maxHeartbeats 4000000 in
theorem frame_header_1.calls (k : Nat) (A2 : Option Addr) (c3 : Nat) (s4 : Seg) (vt1 : ByteArray) (x6 : List UInt8) {t w : World} {f : FM} {H : List Seg} (HS : St t w f (s4 :: H)) (HO5 : OwnB 102 5 f A2 c3 s4 x6) (rr1 : List UInt8) (h : frame_header_1 k vt1 x6 = some rr1) :
    Calls Tryz.prog 45 #[.string vt1, .pointer A2] w (fun e w' => ∃ (g : FM) (s25 : Seg), e = .returned (Value.tuple #[]) ∧ FM.le f g ∧ St t w' g (s25 :: H) ∧ OwnB 102 5 g A2 c3 s25 rr1 ∧ True) := by
 unfold frame_header_1 at h
 refine enter Tryz.func45 rfl (tm := #[.string vt1, .pointer A2, uV, uV, uV, uV, uV, uV, uV, uV]) kr ?_
 intro B hret hnor hnp
 refine rl ?_
 have hq_ := bind_some h; clear h; obtain ⟨vt8, hc9, h⟩ := hq_
 refine seqL4 kr ?_
 refine seqK rfl (does_call (f := 47) (args := #[.string ⟨#[32]⟩, .int .i64 (w64 (64 - (vt1.size : Int)))]) kr (strings_Repeat.calls k (⟨#[32]⟩ : ByteArray) (w64 (64 - (vt1.size : Int))) HS vt8 hc9) ?_)
 rintro _ W12 ⟨f10, rfl, L11, HS13⟩
 refine ⟨_, rfl, ?_⟩
 have hq_ := guard_some h; clear h; obtain ⟨c14, h⟩ := hq_
 have c14 : vt1.size + vt8.size ≤ 9223372036854775807 := c14
 refine seqK rfl (does_run (run_concat rfl (kv (.string vt1)) (kv (.string vt8)) c14 W12) ?_)
 have hq_ := bind_some h; clear h; obtain ⟨⟨vt15, vt16⟩, hc17, h⟩ := hq_
 refine seqK rfl (does_call (f := 46) (args := #[.pointer A2, .string (vt1 ++ vt8)]) kr (strings_Builder_WriteString.calls k A2 c3 s4 x6 (vt1 ++ vt8) HS13 (HO5.mono L11) vt15 vt16 hc17) ?_)
 rintro _ W20 ⟨f18, s22, rfl, L19, HS21, HO23, HL24⟩
 refine ⟨_, rfl, ?_⟩
 refine nl ?_
 refine hnor _ _ ?_
 refine ends_still (v := Value.tuple #[]) kr kr ?_
 injection h with h
 subst h
 exact ⟨f18, s22, rfl, (L11.trans L19), HS21, HO23, trivial⟩

theorem strings_Builder_Len.calls (k : Nat) (A : Option Addr) (c : Nat) (s : Seg) (l : List UInt8) {t w : World} {f : FM} {H : List Seg} (HS : St t w f (s :: H)) (HO : OwnB 102 5 f A c s l) (r1 : Int) (r2 : List UInt8) (h : strings_Builder_Len k l = some (r1, r2)) :
    Calls Tryz.prog 49 #[.pointer A] w (fun e w' => ∃ (g : FM) (s' : Seg), e = .returned (Value.int .i64 r1) ∧ FM.le f g ∧ St t w' g (s' :: H) ∧ OwnB 102 5 g A c s' r2 ∧ True) := by
  unfold strings_Builder_Len at h
  injection h with h; injection h with h2_ h3_; subst h2_ h3_
  have hc := len_calls Tryz.lays170 HS HO
  exact hc.mono fun e w' ⟨he, hs⟩ => ⟨f, s, he, FM.le.refl _, hs, HO, trivial⟩

theorem strings_Builder_String.calls (k : Nat) (A : Option Addr) (c : Nat) (s : Seg) (l : List UInt8) {t w : World} {f : FM} {H : List Seg} (HS : St t w f (s :: H)) (HO : OwnB 102 5 f A c s l) (r1 : ByteArray) (h : strings_Builder_String k l = some r1) :
    Calls Tryz.prog 50 #[.pointer A] w (fun e w' => ∃ (g : FM), e = .returned (Value.string r1) ∧ FM.le f g ∧ St t w' g H) := by
  unfold strings_Builder_String at h
  have hq_ := guard_some h; clear h; obtain ⟨h1, h⟩ := hq_
  injection h with h; subst h
  have hc := string_calls Tryz.lays169 Tryz.Builder_Extra_169 HS HO h1
  exact hc.mono fun e w' ⟨he, hs⟩ => ⟨f, he, FM.le.refl _, hs⟩

end Go.Sp.U5
