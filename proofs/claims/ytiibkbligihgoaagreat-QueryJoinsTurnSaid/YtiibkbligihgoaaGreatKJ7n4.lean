import Derived.Test.YtiibkbligihgoaaGreatProg
import Derived.Test.YtiibkbligihgoaaGreatSpCopy
import Derived.Test.YtiibkbligihgoaaGreatFJ7
import Derived.Test.YtiibkbligihgoaaGreatSpSort3P
import Derived.Test.YtiibkbligihgoaaGreatShelf
import Derived.Test.YtiibkbligihgoaaGreatSpMapR
import Derived.Test.YtiibkbligihgoaaGreatSpKeys
import Derived.Test.YtiibkbligihgoaaGreatSpNode
import Derived.Test.YtiibkbligihgoaaGreatSpKeyP
import Derived.Test.YtiibkbligihgoaaGreatSpArr
import Derived.Test.YtiibkbligihgoaaGreatSpRound
import Derived.Test.YtiibkbligihgoaaGreatKJ7n0
import Derived.Test.YtiibkbligihgoaaGreatKJ7n1
import Derived.Test.YtiibkbligihgoaaGreatKJ7n2
import Derived.Test.YtiibkbligihgoaaGreatKJ7n3
namespace Go.Sp.J7
open Go Go.Sp Go.Proofs
set_option linter.unusedVariables false
attribute [local irreducible] wpList AnyL Code.wp Calls Does Code.wpIn wpListIn CallsIn bodyPostM LeavesInM
set_option maxRecDepth 100000 in
set_option maxHeartbeats 4000000 in
theorem query_CheckAsk.calls (k : Nat) (A2 : Option Addr) (c3 : Nat) (q1 : S_Ask) {t w : World} {f : FM} {H : List Seg} (HS : St t w f (H)) (HR4 : SlR ty_Cone f A2 c3 q1.Cones) (rr1 : Int) (h : query_CheckAsk k q1 = some rr1) :
    Calls Tryz.prog 43 #[.agg #[.slice A2 q1.Cones.length c3, .int .i64 q1.From, .int .i64 q1.To, .int .i64 q1.Least, .int .i64 q1.Ban]] w (fun e w' => ∃ (g : FM), e = .returned (Value.int .i64 rr1) ∧ FM.le f g ∧ St t w' g (H)) := by
 unfold query_CheckAsk at h
 refine enter Tryz.func43 rfl (tm := #[(ag_Ask q1 A2 c3), uV, uV, uV, uV, uV, uV, uV, uV, uV, uV, uV, uV, uV, uV, uV, uV, uV, uV, uV, uV, uV, uV, uV, uV, uV, uV, uV, uV, uV, uV, uV, uV, uV, uV, uV, uV, uV, uV, uV, uV, uV, uV, uV, uV, uV, uV, uV, uV, uV, uV, uV, uV, uV, uV, uV, uV, uV, uV, uV, uV, uV, uV, uV, uV, uV, uV, uV, uV, uV, uV, uV]) kr ?_
 intro B hret hnor hnp
 refine wp_seq_k fun K5 hK6 => rl ?_
 refine seqK rfl (does_box (cs := #[.slice A2 q1.Cones.length c3, .int .i64 q1.From, .int .i64 q1.To, .int .i64 q1.Least, .int .i64 q1.Ban]) rfl (kv (.agg #[.slice A2 q1.Cones.length c3, .int .i64 q1.From, .int .i64 q1.To, .int .i64 q1.Least, .int .i64 q1.Ban])) rfl HS ?_)
 intro b7 W8 HS9
 refine seqL1 kr ?_
 refine nl (hK6 _ _ ?_)
 refine wp_seq_k (fun K11 hK12 => ?_)
 refine wp_seq_k fun K13 hK14 => rl ?_
 refine seqL1 kr ?_
 refine seqK rfl (does_run (run_load rfl Tryz.underlying47 rfl (kv (.pointer (some ⟨b7, 0, none⟩))) (HS9.cell 0)) ?_)
 refine seqL2 kr ?_
 refine nl (hK14 _ _ ?_)
 have hq_ := ite_some h; clear h; rcases hq_ with ⟨c16, h⟩ | ⟨c16, h⟩
 · have c16 : (q1.Cones.length : Int) > 4 := c16
   refine wpRwI 9 kr (decide_eq_true c16) ?_
   refine condT kr ?_
   refine wp_seq_k fun K17 hK18 => rl ?_
   refine seqL1 kr ?_
   refine nl (hK18 _ _ ?_)
   refine wp_ret ?_
   refine hret _ _ ?_
   refine ends_still (v := Value.int .i64 2) kr kr ?_
   have HS147 := HS9.drop
   injection h with h
   subst h
   exact ⟨f, rfl, FM.le.refl _, HS147⟩
 · have c16 : ¬ ((q1.Cones.length : Int) > 4) := c16
   refine wpRwI 9 kr (decide_eq_false c16) ?_
   refine condF kr ?_
   refine wp_skip ?_
   refine hK12 _ _ ?_
   refine wp_seq_k (fun K19 hK20 => ?_)
   refine wp_seq_k fun K21 hK22 => rl ?_
   refine seqL1 kr ?_
   refine seqK rfl (does_run (run_load rfl Tryz.underlying47 rfl (kv (.pointer (some ⟨b7, 0, none⟩))) (HS9.cell 0)) ?_)
   refine seqL2 kr ?_
   refine nl (hK22 _ _ ?_)
   refine blockK (fun B23 hx24 hn25 hr26 ho27 hp28 => ?_)
   have hq_ := bind_some h; clear h; obtain ⟨o29, hv99, h⟩ := hq_
   have JR101 : ∀ z_, some (Sum.inl z_) = some o29 → some z_ = some rr1 := by
    intro z_ e_; injection e_ with e_; subst e_; exact h
   have J100 : ∀ (f94 : FM) (j98 : Nat → Value) (W96 : World) (a_ : Act), FM.le f f94 → some (Sum.inr ()) = some o29 → St t W96 f94 ([(b7, .cells #[.slice A2 q1.Cones.length c3, .int .i64 q1.From, .int .i64 q1.To, .int .i64 q1.Least, .int .i64 q1.Ban] 51 (0, 0))] :: H) → a_ = ⟨#[(ag_Ask q1 A2 c3), pV b7 0, (j98 0), uV, (j98 1), (j98 2), pV b7 0, .slice A2 q1.Cones.length c3, iV (q1.Cones.length : Int), fV, pV b7 0, .slice A2 q1.Cones.length c3, iV (q1.Cones.length : Int), (j98 3), (j98 4), (j98 5), (j98 6), (j98 7), (j98 8), (j98 9), (j98 10), (j98 11), (j98 12), (j98 13), (j98 14), (j98 15), (j98 16), (j98 17), (j98 18), (j98 19), (j98 20), (j98 21), uV, uV, uV, uV, uV, uV, uV, uV, uV, uV, uV, uV, uV, uV, uV, uV, uV, uV, uV, uV, uV, uV, uV, uV, uV, uV, uV, uV, uV, uV, uV, uV, uV, uV, uV, uV, uV, uV, uV, uV], []⟩ → K19 a_ W96 := by
    intro f94 j98 W96 a_ L95 hj102 HS97  hfr_; subst hfr_
    injection hj102 with hj102; subst hj102; try dsimp only at h
    simp only [Sum.elim_inr] at h
    refine hK20 _ _ ?_
    refine wp_seq_k (fun K106 hK107 => ?_)
    refine blockK (fun B108 hx109 hn110 hr111 ho112 hp113 => ?_)
    refine wp_seq_k fun K115 hK116 => rl ?_
    refine seqL1 kr ?_
    refine seqK rfl (does_run (run_load rfl Tryz.underlying48 rfl (kv (.pointer (some ⟨b7, 1, none⟩))) (HS97.cell 1)) ?_)
    refine seqL1 kr ?_
    refine seqK rfl (does_run (run_load rfl Tryz.underlying48 rfl (kv (.pointer (some ⟨b7, 2, none⟩))) (HS97.cell 2)) ?_)
    refine seqL3 kr ?_
    have hq_ := ite_some h; clear h; rcases hq_ with ⟨c117, h⟩ | ⟨c117, h⟩
    · have c117 : (mn q1.From q1.To) < (-17592186044416) := c117
      refine seqRwI 38 kr (decide_eq_true c117) ?_
      refine seqRwI 39 kr (decide_eq_true c117) ?_
      refine seqL8 kr ?_
      refine nl (hK116 _ _ ?_)
      refine condT kr ?_
      refine wp_seq_k fun K118 hK119 => rl ?_
      refine seqL1 kr ?_
      refine nl (hK119 _ _ ?_)
      refine wp_ret ?_
      refine hr111 _ _ ?_
      refine hret _ _ ?_
      refine ends_still (v := Value.int .i64 4) kr kr ?_
      have HS154 := HS97.drop
      injection h with h
      subst h
      exact ⟨f94, rfl, L95, HS154⟩
    · have c117 : ¬ ((mn q1.From q1.To) < (-17592186044416)) := c117
      refine seqRwI 38 kr (decide_eq_false c117) ?_
      refine seqRwI 39 kr (decide_eq_false c117) ?_
      refine seqL1 kr ?_
      refine seqG kr (does_run (run_load rfl Tryz.underlying48 rfl (kv (.pointer (some ⟨b7, 1, none⟩))) (HS97.cell 1)) ?_)
      refine seqL1 kr ?_
      refine seqG kr (does_run (run_load rfl Tryz.underlying48 rfl (kv (.pointer (some ⟨b7, 2, none⟩))) (HS97.cell 2)) ?_)
      refine seqL4 kr ?_
      refine nl (hK116 _ _ ?_)
      have hq_ := ite_some h; clear h; rcases hq_ with ⟨c121, h⟩ | ⟨c121, h⟩
      · have c121 : (mx q1.From q1.To) > 17592186044416 := c121
        refine wpRwI 32 kr (decide_eq_true c121) ?_
        refine wpRwI 45 kr (decide_eq_true c121) ?_
        refine wpRwI 46 kr (decide_eq_true c121) ?_
        refine condT kr ?_
        refine wp_seq_k fun K122 hK123 => rl ?_
        refine seqL1 kr ?_
        refine nl (hK123 _ _ ?_)
        refine wp_ret ?_
        refine hr111 _ _ ?_
        refine hret _ _ ?_
        refine ends_still (v := Value.int .i64 4) kr kr ?_
        have HS155 := HS97.drop
        injection h with h
        subst h
        exact ⟨f94, rfl, L95, HS155⟩
      · have c121 : ¬ ((mx q1.From q1.To) > 17592186044416) := c121
        refine wpRwI 32 kr (decide_eq_false c121) ?_
        refine wpRwI 45 kr (decide_eq_false c121) ?_
        refine wpRwI 46 kr (decide_eq_false c121) ?_
        refine condF kr ?_
        refine wp_seq_k fun K124 hK125 => rl ?_
        refine seqL1 kr ?_
        refine seqK rfl (does_run (run_load rfl Tryz.underlying48 rfl (kv (.pointer (some ⟨b7, 1, none⟩))) (HS97.cell 1)) ?_)
        refine seqL1 kr ?_
        refine seqK rfl (does_run (run_load rfl Tryz.underlying48 rfl (kv (.pointer (some ⟨b7, 2, none⟩))) (HS97.cell 2)) ?_)
        refine seqL2 kr ?_
        refine nl (hK125 _ _ ?_)
        have hq_ := ite_some h; clear h; rcases hq_ with ⟨c127, h⟩ | ⟨c127, h⟩
        · have c127 : q1.From > q1.To := c127
          refine wpRwI 47 kr (decide_eq_true c127) ?_
          refine wpRwI 52 kr (decide_eq_true c127) ?_
          refine condT kr ?_
          refine wp_seq_k fun K128 hK129 => rl ?_
          refine seqL1 kr ?_
          refine nl (hK129 _ _ ?_)
          refine wp_ret ?_
          refine hr111 _ _ ?_
          refine hret _ _ ?_
          refine ends_still (v := Value.int .i64 11) kr kr ?_
          have HS156 := HS97.drop
          injection h with h
          subst h
          exact ⟨f94, rfl, L95, HS156⟩
        · have c127 : ¬ (q1.From > q1.To) := c127
          refine wpRwI 47 kr (decide_eq_false c127) ?_
          refine wpRwI 52 kr (decide_eq_false c127) ?_
          refine condF kr ?_
          refine wp_seq_k fun K130 hK131 => rl ?_
          refine seqL1 kr ?_
          refine seqK rfl (does_run (run_load rfl Tryz.underlying49 rfl (kv (.pointer (some ⟨b7, 3, none⟩))) (HS97.cell 3)) ?_)
          refine seqL2 kr ?_
          have hq_ := ite_some h; clear h; rcases hq_ with ⟨c132, h⟩ | ⟨c132, h⟩
          · have c132 : q1.Least < 0 := c132
            refine seqRwI 56 kr (decide_eq_true c132) ?_
            refine seqRwI 57 kr (decide_eq_true c132) ?_
            refine seqL15 kr ?_
            refine nl (hK131 _ _ ?_)
            refine condT kr ?_
            refine wp_seq_k fun K133 hK134 => rl ?_
            refine seqL1 kr ?_
            refine nl (hK134 _ _ ?_)
            refine wp_ret ?_
            refine hr111 _ _ ?_
            refine hret _ _ ?_
            refine ends_still (v := Value.int .i64 4) kr kr ?_
            have HS157 := HS97.drop
            injection h with h
            subst h
            exact ⟨f94, rfl, L95, HS157⟩
          · have c132 : ¬ (q1.Least < 0) := c132
            refine seqRwI 56 kr (decide_eq_false c132) ?_
            refine seqRwI 57 kr (decide_eq_false c132) ?_
            refine seqL1 kr ?_
            refine seqG kr (does_run (run_load rfl Tryz.underlying49 rfl (kv (.pointer (some ⟨b7, 3, none⟩))) (HS97.cell 3)) ?_)
            refine seqL3 kr ?_
            have hq_ := ite_some h; clear h; rcases hq_ with ⟨c135, h⟩ | ⟨c135, h⟩
            · have c135 : q1.Least > 1125899906842624 := c135
              refine seqRwI 60 kr (decide_eq_true c135) ?_
              refine seqRwI 61 kr (decide_eq_true c135) ?_
              refine seqRwI 62 kr (decide_eq_true c135) ?_
              refine seqL10 kr ?_
              refine nl (hK131 _ _ ?_)
              refine condT kr ?_
              refine wp_seq_k fun K136 hK137 => rl ?_
              refine seqL1 kr ?_
              refine nl (hK137 _ _ ?_)
              refine wp_ret ?_
              refine hr111 _ _ ?_
              refine hret _ _ ?_
              refine ends_still (v := Value.int .i64 4) kr kr ?_
              have HS158 := HS97.drop
              injection h with h
              subst h
              exact ⟨f94, rfl, L95, HS158⟩
            · have c135 : ¬ (q1.Least > 1125899906842624) := c135
              refine seqRwI 60 kr (decide_eq_false c135) ?_
              refine seqRwI 61 kr (decide_eq_false c135) ?_
              refine seqRwI 62 kr (decide_eq_false c135) ?_
              refine seqL1 kr ?_
              refine seqG kr (does_run (run_load rfl Tryz.underlying3 rfl (kv (.pointer (some ⟨b7, 4, none⟩))) (HS97.cell 4)) ?_)
              refine seqL3 kr ?_
              have hq_ := ite_some h; clear h; rcases hq_ with ⟨c138, h⟩ | ⟨c138, h⟩
              · have c138 : q1.Ban < 0 := c138
                refine seqRwI 65 kr (decide_eq_true c138) ?_
                refine seqRwI 66 kr (decide_eq_true c138) ?_
                refine seqRwI 67 kr (decide_eq_true c138) ?_
                refine seqL5 kr ?_
                refine nl (hK131 _ _ ?_)
                refine condT kr ?_
                refine wp_seq_k fun K139 hK140 => rl ?_
                refine seqL1 kr ?_
                refine nl (hK140 _ _ ?_)
                refine wp_ret ?_
                refine hr111 _ _ ?_
                refine hret _ _ ?_
                refine ends_still (v := Value.int .i64 4) kr kr ?_
                have HS159 := HS97.drop
                injection h with h
                subst h
                exact ⟨f94, rfl, L95, HS159⟩
              · have c138 : ¬ (q1.Ban < 0) := c138
                refine seqRwI 65 kr (decide_eq_false c138) ?_
                refine seqRwI 66 kr (decide_eq_false c138) ?_
                refine seqRwI 67 kr (decide_eq_false c138) ?_
                refine seqL1 kr ?_
                refine seqG kr (does_run (run_load rfl Tryz.underlying3 rfl (kv (.pointer (some ⟨b7, 4, none⟩))) (HS97.cell 4)) ?_)
                refine seqL3 kr ?_
                refine nl (hK131 _ _ ?_)
                have hq_ := ite_some h; clear h; rcases hq_ with ⟨c142, h⟩ | ⟨c142, h⟩
                · have c142 : q1.Ban > 3 := c142
                  refine wpRwI 53 kr (decide_eq_true c142) ?_
                  refine wpRwI 70 kr (decide_eq_true c142) ?_
                  refine wpRwI 71 kr (decide_eq_true c142) ?_
                  refine condT kr ?_
                  refine wp_seq_k fun K143 hK144 => rl ?_
                  refine seqL1 kr ?_
                  refine nl (hK144 _ _ ?_)
                  refine wp_ret ?_
                  refine hr111 _ _ ?_
                  refine hret _ _ ?_
                  refine ends_still (v := Value.int .i64 4) kr kr ?_
                  have HS160 := HS97.drop
                  injection h with h
                  subst h
                  exact ⟨f94, rfl, L95, HS160⟩
                · have c142 : ¬ (q1.Ban > 3) := c142
                  refine wpRwI 53 kr (decide_eq_false c142) ?_
                  refine wpRwI 70 kr (decide_eq_false c142) ?_
                  refine wpRwI 71 kr (decide_eq_false c142) ?_
                  refine condF kr ?_
                  refine wp_skip ?_
                  refine hn110 _ _ ?_
                  refine hK107 _ _ ?_
                  refine wp_seq_k fun K145 hK146 => rl ?_
                  refine seqL1 kr ?_
                  refine nl (hK146 _ _ ?_)
                  refine wp_ret ?_
                  refine hret _ _ ?_
                  refine ends_still (v := Value.int .i64 0) kr kr ?_
                  have HS161 := HS97.drop
                  injection h with h
                  subst h
                  exact ⟨f94, rfl, L95, HS161⟩
   clear h; have h := hv99; clear hv99
   refine loopK (fun n_ a_ w_ => ∃ (f33 : FM) (x38 : Int) (j37 : Nat → Value), FM.le f f33 ∧ St t w_ f33 ([(b7, .cells #[.slice A2 q1.Cones.length c3, .int .i64 q1.From, .int .i64 q1.To, .int .i64 q1.Least, .int .i64 q1.Ban] 51 (0, 0))] :: H) ∧ query_CheckAsk.l0 k q1 n_ x38 = some o29 ∧ a_ = ⟨#[(ag_Ask q1 A2 c3), pV b7 0, (j37 0), uV, (j37 1), (j37 2), pV b7 0, .slice A2 q1.Cones.length c3, iV (q1.Cones.length : Int), fV, pV b7 0, .slice A2 q1.Cones.length c3, iV (q1.Cones.length : Int), iV x38, (j37 3), (j37 4), (j37 5), (j37 6), (j37 7), (j37 8), (j37 9), (j37 10), (j37 11), (j37 12), (j37 13), (j37 14), (j37 15), (j37 16), (j37 17), (j37 18), (j37 19), (j37 20), uV, uV, uV, uV, uV, uV, uV, uV, uV, uV, uV, uV, uV, uV, uV, uV, uV, uV, uV, uV, uV, uV, uV, uV, uV, uV, uV, uV, uV, uV, uV, uV, uV, uV, uV, uV, uV, uV, uV, uV], []⟩) k ⟨f, 0, (jL [iV 0]), fL, HS9, h, kr⟩ ?_
   clear h
   rintro n32 _ W35 ⟨f33, x38, j37, L34, HS36, h, rfl⟩ K30 hK31
   obtain _ | n32 := n32
   · exact nomatch h
   simp only [query_CheckAsk.l0] at h
   refine wp_seq_k fun K39 hK40 => rl ?_
   refine seqL1 kr ?_
   refine nl (hK40 _ _ ?_)
   refine wp_seq_k (fun K41 hK42 => ?_)
   have hq_ := ite_some h; clear h; rcases hq_ with ⟨c44, h⟩ | ⟨c44, h⟩
   · have c44 : x38 < (q1.Cones.length : Int) := c44
     refine wpRwI 14 kr (decide_eq_true c44) ?_
     refine condT kr ?_
     refine wp_skip ?_
     refine hK42 _ _ ?_
     refine wp_seq_k (fun K45 hK46 => ?_)
     refine blockK (fun B47 hx48 hn49 hr50 ho51 hp52 => ?_)
     refine wp_seq_k fun K54 hK55 => rl ?_
     have hq_ := guard_some h; clear h; obtain ⟨c56, h⟩ := hq_
     have c56 : 0 ≤ x38 := c56
     obtain ⟨b60, of61, cs57, hA62, hr58, hc59⟩ := (HR4.mono L34).at (i := x38) c56 c44
     obtain rfl := hr58
     refine seqK rfl (does_run (run_indexE hA62 (sz := 4) rfl Tryz.underlying47 kr (kv (.slice A2 q1.Cones.length c3)) (kv (.int .i64 x38)) c56 c44 W35) ?_)
     refine seqK rfl (does_run (run_loadN (n := 4) rfl Tryz.underlying55 rfl kr (kv (.pointer (some ⟨b60, of61 + (x38 : Int).toNat * 4, none⟩))) (cs := [.int .i64 (((rd q1.Cones x38).At).X), .int .i64 (((rd q1.Cones x38).At).Y), .int .i64 (((rd q1.Cones x38).At).Z), .int .i64 ((rd q1.Cones x38).Cos)]) rfl (fun j_ hj_ => ((hc59 fL HS36) j_ hj_))) ?_)
     refine seqK rfl (does_alloc (z := Value.agg #[.int .i64 0, .int .i64 0, .int .i64 0, .int .i64 0]) (cs := #[.int .i64 0, .int .i64 0, .int .i64 0, .int .i64 0]) rfl kr rfl HS36 ?_)
     intro b63 W64 HS65
     refine seqK rfl (does_storeA (vs := [.int .i64 (((rd q1.Cones x38).At).X), .int .i64 (((rd q1.Cones x38).At).Y), .int .i64 (((rd q1.Cones x38).At).Z), .int .i64 ((rd q1.Cones x38).Cos)]) rfl kr kr kr rfl (ones rfl) HS65 kr ?_)
     intro W67 HS68
     refine nl (hK55 _ _ ?_)
     refine wp_seq_k (fun K69 hK70 => ?_)
     refine wp_seq_k fun K71 hK72 => rl ?_
     refine seqL1 kr ?_
     refine seqK rfl (does_run (run_loadN (n := 3) rfl Tryz.underlying39 rfl kr (kv (.pointer (some ⟨b63, 0, none⟩))) (cs := [.int .i64 (((rd q1.Cones x38).At).X), .int .i64 (((rd q1.Cones x38).At).Y), .int .i64 (((rd q1.Cones x38).At).Z)]) rfl (HS68.cells 0 3 _ rfl)) ?_)
     have hq_ := bind_some h; clear h; obtain ⟨vt73, hc74, h⟩ := hq_
     refine seqK rfl (does_call (f := 73) (args := #[.agg #[.int .i64 (((rd q1.Cones x38).At).X), .int .i64 (((rd q1.Cones x38).At).Y), .int .i64 (((rd q1.Cones x38).At).Z)]]) kr (sphere_Check.calls k ((rd q1.Cones x38).At) HS68 vt73 hc74) ?_)
     rintro _ W77 ⟨f75, rfl, L76, HS78⟩
     refine ⟨_, rfl, ?_⟩
     refine seqL1 kr ?_
     refine nl (hK72 _ _ ?_)
     refine wp_seq_k fun K79 hK80 => rl ?_
     refine seqL2 kr ?_
     refine nl (hK80 _ _ ?_)
     have hq_ := ite_some h; clear h; rcases hq_ with ⟨c82, h⟩ | ⟨c82, h⟩
     · have c82 : vt73 ≠ 0 := c82
       refine wpRwI 21 kr (bne_iff_ne.mpr c82) ?_
       refine condT kr ?_
       refine wp_seq_k fun K83 hK84 => rl ?_
       refine seqL2 kr ?_
       refine nl (hK84 _ _ ?_)
       refine wp_ret ?_
       refine hr50 _ _ ?_
       refine hr26 _ _ ?_
       refine hret _ _ ?_
       refine ends_still (v := Value.int .i64 vt73) kr kr ?_
       have HS148 := HS78.drop
       have HS149 := HS148.drop
       replace h := JR101 _ h
       injection h with h
       subst h
       exact ⟨f75, rfl, (L34.trans L76), HS149⟩
     · have c82 : ¬ (vt73 ≠ 0) := c82
       refine wpRwI 21 (x := (vt73 != 0)) (v := false) kr (bne_eq_false_iff_eq.mpr (Decidable.of_not_not c82)) ?_
       refine condF kr ?_
       refine wp_skip ?_
       refine hK70 _ _ ?_
       refine wp_seq_k fun K85 hK86 => rl ?_
       refine seqL1 kr ?_
       refine seqK rfl (does_run (run_load rfl Tryz.underlying23 rfl (kv (.pointer (some ⟨b63, 3, none⟩))) (HS78.cell 3)) ?_)
       refine seqL2 kr ?_
       have hq_ := ite_some h; clear h; rcases hq_ with ⟨c87, h⟩ | ⟨c87, h⟩
       · have c87 : ((rd q1.Cones x38).Cos) < 0 := c87
         refine seqRwI 25 kr (decide_eq_true c87) ?_
         refine seqRwI 26 kr (decide_eq_true c87) ?_
         refine seqL4 kr ?_
         refine nl (hK86 _ _ ?_)
         refine condT kr ?_
         refine wp_seq_k fun K88 hK89 => rl ?_
         refine seqL1 kr ?_
         refine nl (hK89 _ _ ?_)
         refine wp_ret ?_
         refine hr50 _ _ ?_
         refine hr26 _ _ ?_
         refine hret _ _ ?_
         refine ends_still (v := Value.int .i64 4) kr kr ?_
         have HS150 := HS78.drop
         have HS151 := HS150.drop
         replace h := JR101 _ h
         injection h with h
         subst h
         exact ⟨f75, rfl, (L34.trans L76), HS151⟩
       · have c87 : ¬ (((rd q1.Cones x38).Cos) < 0) := c87
         refine seqRwI 25 kr (decide_eq_false c87) ?_
         refine seqRwI 26 kr (decide_eq_false c87) ?_
         refine seqL1 kr ?_
         refine seqG kr (does_run (run_load rfl Tryz.underlying23 rfl (kv (.pointer (some ⟨b63, 3, none⟩))) (HS78.cell 3)) ?_)
         refine seqL2 kr ?_
         refine nl (hK86 _ _ ?_)
         have hq_ := ite_some h; clear h; rcases hq_ with ⟨c91, h⟩ | ⟨c91, h⟩
         · have c91 : ((rd q1.Cones x38).Cos) > 1073741824 := c91
           refine wpRwI 29 kr (decide_eq_true c91) ?_
           refine wpRwI 30 kr (decide_eq_true c91) ?_
           refine condT kr ?_
           refine wp_seq_k fun K92 hK93 => rl ?_
           refine seqL1 kr ?_
           refine nl (hK93 _ _ ?_)
           refine wp_ret ?_
           refine hr50 _ _ ?_
           refine hr26 _ _ ?_
           refine hret _ _ ?_
           refine ends_still (v := Value.int .i64 4) kr kr ?_
           have HS152 := HS78.drop
           have HS153 := HS152.drop
           replace h := JR101 _ h
           injection h with h
           subst h
           exact ⟨f75, rfl, (L34.trans L76), HS153⟩
         · have c91 : ¬ (((rd q1.Cones x38).Cos) > 1073741824) := c91
           refine wpRwI 29 kr (decide_eq_false c91) ?_
           refine wpRwI 30 kr (decide_eq_false c91) ?_
           refine condF kr ?_
           refine wp_skip ?_
           refine hn49 _ _ ?_
           refine hK46 _ _ ?_
           refine rl ?_
           refine seqL2 kr ?_
           refine nl ?_
           refine hK31 n32 _ _ (Nat.lt_succ_self _) ?_
           have HS104 := HS78.u1.u1
           have HS105 := HS104.drop
           exact ⟨f75, (w64 (x38 + 1)), (jL [(j37 0), .pointer (some ⟨b63, 0, none⟩), iV vt73, tV, .pointer (some ⟨b60, of61 + (x38 : Int).toNat * 4, none⟩), (ag_Cone (rd q1.Cones x38)), .pointer (some ⟨b63, 0, none⟩), (ag_Vec ((rd q1.Cones x38).At)), iV vt73, iV vt73, fV, (j37 11), .pointer (some ⟨b63, 3, none⟩), iV ((rd q1.Cones x38).Cos), fV, fV, .pointer (some ⟨b63, 3, none⟩), iV ((rd q1.Cones x38).Cos), fV, fV, iV (w64 (x38 + 1))]), (L34.trans L76), HS105, h, kr⟩
   · have c44 : ¬ (x38 < (q1.Cones.length : Int)) := c44
     refine wpRwI 14 kr (decide_eq_false c44) ?_
     refine condF kr ?_
     refine wp_exit ?_
     refine hx24 _ _ ?_
     exact J100 f33 (jL [(j37 0), (j37 1), (j37 2), iV x38, fV, (j37 4), (j37 5), (j37 6), (j37 7), (j37 8), (j37 9), (j37 10), (j37 11), (j37 12), (j37 13), (j37 14), (j37 15), (j37 16), (j37 17), (j37 18), (j37 19), (j37 20)]) W35 _ L34 h HS36 kr

set_option maxRecDepth 100000 in
set_option maxHeartbeats 4000000 in
theorem query_between_Tick.calls (k : Nat)  (b1 : S_Bound) (lo2 : Int) (hi3 : Int) {t w : World} {f : FM} {H : List Seg} (HS : St t w f (H)) (rr1 : Int) (h : query_between_Tick k b1 lo2 hi3 = some rr1) :
    Calls Tryz.prog 54 #[.agg #[.int .i64 b1.Lo, .int .i64 b1.Hi, .bool b1.Unknown], .int .i64 lo2, .int .i64 hi3] w (fun e w' => ∃ (g : FM), e = .returned (Value.int .i64 rr1) ∧ FM.le f g ∧ St t w' g (H)) := by
 unfold query_between_Tick at h
 refine enter Tryz.func54 rfl (tm := #[(ag_Bound b1), iV lo2, iV hi3, uV, uV, uV, uV, uV, uV, uV, uV, uV, uV, uV, uV, uV, uV, uV, uV, uV, uV, uV, uV, uV, uV, uV, uV, uV, uV, uV, uV, uV]) kr ?_
 intro B hret hnor hnp
 refine wp_seq_k fun K4 hK5 => rl ?_
 refine seqK rfl (does_box (cs := #[.int .i64 b1.Lo, .int .i64 b1.Hi, .bool b1.Unknown]) rfl (kv (.agg #[.int .i64 b1.Lo, .int .i64 b1.Hi, .bool b1.Unknown])) rfl HS ?_)
 intro b6 W7 HS8
 refine seqL1 kr ?_
 refine nl (hK5 _ _ ?_)
 refine wp_seq_k (fun K10 hK11 => ?_)
 refine blockK (fun B12 hx13 hn14 hr15 ho16 hp17 => ?_)
 refine wp_seq_k fun K19 hK20 => rl ?_
 refine seqL1 kr ?_
 refine seqK rfl (does_run (run_load rfl Tryz.underlying4 rfl (kv (.pointer (some ⟨b6, 2, none⟩))) (HS8.cell 2)) ?_)
 refine seqL1 kr ?_
 refine nl (hK20 _ _ ?_)
 have hq_ := ite_some h; clear h; rcases hq_ with ⟨c22, h⟩ | ⟨c22, h⟩
 · have c22 : b1.Unknown = true := c22
   refine wpRwI 7 kr c22 ?_
   refine wpRwI 9 kr c22 ?_
   refine condT kr ?_
   refine wp_seq_k fun K23 hK24 => rl ?_
   refine seqL1 kr ?_
   refine nl (hK24 _ _ ?_)
   refine wp_ret ?_
   refine hr15 _ _ ?_
   refine hret _ _ ?_
   refine ends_still (v := Value.int .i64 1) kr kr ?_
   have HS45 := HS8.drop
   injection h with h
   subst h
   exact ⟨f, rfl, FM.le.refl _, HS45⟩
 · have c22 : ¬ (b1.Unknown = true) := c22
   refine wpRwI 7 kr (Bool.eq_false_iff.mpr c22) ?_
   refine wpRwI 9 kr (Bool.eq_false_iff.mpr c22) ?_
   refine condF kr ?_
   refine wp_seq_k fun K25 hK26 => rl ?_
   refine seqL1 kr ?_
   refine seqK rfl (does_run (run_load rfl Tryz.underlying48 rfl (kv (.pointer (some ⟨b6, 1, none⟩))) (HS8.cell 1)) ?_)
   refine seqL3 kr ?_
   have hq_ := ite_some h; clear h; rcases hq_ with ⟨c27, h⟩ | ⟨c27, h⟩
   · have c27 : b1.Hi < lo2 := c27
     refine seqRwI 14 kr (decide_eq_true c27) ?_
     refine seqRwI 15 kr (decide_eq_true c27) ?_
     refine seqL6 kr ?_
     refine nl (hK26 _ _ ?_)
     refine condT kr ?_
     refine wp_seq_k fun K28 hK29 => rl ?_
     refine seqL1 kr ?_
     refine nl (hK29 _ _ ?_)
     refine wp_ret ?_
     refine hr15 _ _ ?_
     refine hret _ _ ?_
     refine ends_still (v := Value.int .i64 0) kr kr ?_
     have HS46 := HS8.drop
     injection h with h
     subst h
     exact ⟨f, rfl, FM.le.refl _, HS46⟩
   · have c27 : ¬ (b1.Hi < lo2) := c27
     refine seqRwI 14 kr (decide_eq_false c27) ?_
     refine seqRwI 15 kr (decide_eq_false c27) ?_
     refine seqL1 kr ?_
     refine seqG kr (does_run (run_load rfl Tryz.underlying48 rfl (kv (.pointer (some ⟨b6, 0, none⟩))) (HS8.cell 0)) ?_)
     refine seqL4 kr ?_
     refine nl (hK26 _ _ ?_)
     have hq_ := ite_some h; clear h; rcases hq_ with ⟨c31, h⟩ | ⟨c31, h⟩
     · have c31 : b1.Lo > hi3 := c31
       refine wpRwI 10 kr (decide_eq_true c31) ?_
       refine wpRwI 19 kr (decide_eq_true c31) ?_
       refine wpRwI 20 kr (decide_eq_true c31) ?_
       refine condT kr ?_
       refine wp_seq_k fun K32 hK33 => rl ?_
       refine seqL1 kr ?_
       refine nl (hK33 _ _ ?_)
       refine wp_ret ?_
       refine hr15 _ _ ?_
       refine hret _ _ ?_
       refine ends_still (v := Value.int .i64 0) kr kr ?_
       have HS47 := HS8.drop
       injection h with h
       subst h
       exact ⟨f, rfl, FM.le.refl _, HS47⟩
     · have c31 : ¬ (b1.Lo > hi3) := c31
       refine wpRwI 10 kr (decide_eq_false c31) ?_
       refine wpRwI 19 kr (decide_eq_false c31) ?_
       refine wpRwI 20 kr (decide_eq_false c31) ?_
       refine condF kr ?_
       refine wp_seq_k fun K34 hK35 => rl ?_
       refine seqL1 kr ?_
       refine seqK rfl (does_run (run_load rfl Tryz.underlying48 rfl (kv (.pointer (some ⟨b6, 0, none⟩))) (HS8.cell 0)) ?_)
       refine seqL3 kr ?_
       have hq_ := ite_some h; clear h; rcases hq_ with ⟨c36, h⟩ | ⟨c36, h⟩
       · have c36 : b1.Lo ≥ lo2 := c36
         refine seqRwI 25 kr (decide_eq_true c36) ?_
         refine seqRwI 26 kr (decide_eq_true c36) ?_
         refine seqL1 kr ?_
         refine seqG kr (does_run (run_load rfl Tryz.underlying48 rfl (kv (.pointer (some ⟨b6, 1, none⟩))) (HS8.cell 1)) ?_)
         refine seqL4 kr ?_
         refine nl (hK35 _ _ ?_)
         have hq_ := ite_some h; clear h; rcases hq_ with ⟨c38, h⟩ | ⟨c38, h⟩
         · have c38 : b1.Hi ≤ hi3 := c38
           refine wpRwI 21 kr (decide_eq_true c38) ?_
           refine wpRwI 30 kr (decide_eq_true c38) ?_
           refine wpRwI 31 kr (decide_eq_true c38) ?_
           refine condT kr ?_
           refine wp_seq_k fun K39 hK40 => rl ?_
           refine seqL1 kr ?_
           refine nl (hK40 _ _ ?_)
           refine wp_ret ?_
           refine hr15 _ _ ?_
           refine hret _ _ ?_
           refine ends_still (v := Value.int .i64 2) kr kr ?_
           have HS48 := HS8.drop
           injection h with h
           subst h
           exact ⟨f, rfl, FM.le.refl _, HS48⟩
         · have c38 : ¬ (b1.Hi ≤ hi3) := c38
           refine wpRwI 21 kr (decide_eq_false c38) ?_
           refine wpRwI 30 kr (decide_eq_false c38) ?_
           refine wpRwI 31 kr (decide_eq_false c38) ?_
           refine condF kr ?_
           refine wp_skip ?_
           refine hn14 _ _ ?_
           refine hK11 _ _ ?_
           refine wp_seq_k fun K41 hK42 => rl ?_
           refine seqL1 kr ?_
           refine nl (hK42 _ _ ?_)
           refine wp_ret ?_
           refine hret _ _ ?_
           refine ends_still (v := Value.int .i64 1) kr kr ?_
           have HS49 := HS8.drop
           injection h with h
           subst h
           exact ⟨f, rfl, FM.le.refl _, HS49⟩
       · have c36 : ¬ (b1.Lo ≥ lo2) := c36
         refine seqRwI 25 kr (decide_eq_false c36) ?_
         refine seqRwI 26 kr (decide_eq_false c36) ?_
         refine seqL6 kr ?_
         refine nl (hK35 _ _ ?_)
         refine condF kr ?_
         refine wp_skip ?_
         refine hn14 _ _ ?_
         refine hK11 _ _ ?_
         refine wp_seq_k fun K43 hK44 => rl ?_
         refine seqL1 kr ?_
         refine nl (hK44 _ _ ?_)
         refine wp_ret ?_
         refine hret _ _ ?_
         refine ends_still (v := Value.int .i64 1) kr kr ?_
         have HS50 := HS8.drop
         injection h with h
         subst h
         exact ⟨f, rfl, FM.le.refl _, HS50⟩

set_option maxRecDepth 100000 in
set_option maxHeartbeats 4000000 in
theorem query_between_Quanta.calls (k : Nat)  (b1 : S_Bound) (lo2 : Int) (hi3 : Int) {t w : World} {f : FM} {H : List Seg} (HS : St t w f (H)) (rr1 : Int) (h : query_between_Quanta k b1 lo2 hi3 = some rr1) :
    Calls Tryz.prog 74 #[.agg #[.int .i64 b1.Lo, .int .i64 b1.Hi, .bool b1.Unknown], .int .i64 lo2, .int .i64 hi3] w (fun e w' => ∃ (g : FM), e = .returned (Value.int .i64 rr1) ∧ FM.le f g ∧ St t w' g (H)) := by
 unfold query_between_Quanta at h
 refine enter Tryz.func74 rfl (tm := #[(ag_Bound b1), iV lo2, iV hi3, uV, uV, uV, uV, uV, uV, uV, uV, uV, uV, uV, uV, uV, uV, uV, uV, uV, uV, uV, uV, uV, uV, uV, uV, uV, uV, uV, uV, uV]) kr ?_
 intro B hret hnor hnp
 refine wp_seq_k fun K4 hK5 => rl ?_
 refine seqK rfl (does_box (cs := #[.int .i64 b1.Lo, .int .i64 b1.Hi, .bool b1.Unknown]) rfl (kv (.agg #[.int .i64 b1.Lo, .int .i64 b1.Hi, .bool b1.Unknown])) rfl HS ?_)
 intro b6 W7 HS8
 refine seqL1 kr ?_
 refine nl (hK5 _ _ ?_)
 refine wp_seq_k (fun K10 hK11 => ?_)
 refine blockK (fun B12 hx13 hn14 hr15 ho16 hp17 => ?_)
 refine wp_seq_k fun K19 hK20 => rl ?_
 refine seqL1 kr ?_
 refine seqK rfl (does_run (run_load rfl Tryz.underlying4 rfl (kv (.pointer (some ⟨b6, 2, none⟩))) (HS8.cell 2)) ?_)
 refine seqL1 kr ?_
 refine nl (hK20 _ _ ?_)
 have hq_ := ite_some h; clear h; rcases hq_ with ⟨c22, h⟩ | ⟨c22, h⟩
 · have c22 : b1.Unknown = true := c22
   refine wpRwI 7 kr c22 ?_
   refine wpRwI 9 kr c22 ?_
   refine condT kr ?_
   refine wp_seq_k fun K23 hK24 => rl ?_
   refine seqL1 kr ?_
   refine nl (hK24 _ _ ?_)
   refine wp_ret ?_
   refine hr15 _ _ ?_
   refine hret _ _ ?_
   refine ends_still (v := Value.int .i64 1) kr kr ?_
   have HS45 := HS8.drop
   injection h with h
   subst h
   exact ⟨f, rfl, FM.le.refl _, HS45⟩
 · have c22 : ¬ (b1.Unknown = true) := c22
   refine wpRwI 7 kr (Bool.eq_false_iff.mpr c22) ?_
   refine wpRwI 9 kr (Bool.eq_false_iff.mpr c22) ?_
   refine condF kr ?_
   refine wp_seq_k fun K25 hK26 => rl ?_
   refine seqL1 kr ?_
   refine seqK rfl (does_run (run_load rfl Tryz.underlying49 rfl (kv (.pointer (some ⟨b6, 1, none⟩))) (HS8.cell 1)) ?_)
   refine seqL3 kr ?_
   have hq_ := ite_some h; clear h; rcases hq_ with ⟨c27, h⟩ | ⟨c27, h⟩
   · have c27 : b1.Hi < lo2 := c27
     refine seqRwI 14 kr (decide_eq_true c27) ?_
     refine seqRwI 15 kr (decide_eq_true c27) ?_
     refine seqL6 kr ?_
     refine nl (hK26 _ _ ?_)
     refine condT kr ?_
     refine wp_seq_k fun K28 hK29 => rl ?_
     refine seqL1 kr ?_
     refine nl (hK29 _ _ ?_)
     refine wp_ret ?_
     refine hr15 _ _ ?_
     refine hret _ _ ?_
     refine ends_still (v := Value.int .i64 0) kr kr ?_
     have HS46 := HS8.drop
     injection h with h
     subst h
     exact ⟨f, rfl, FM.le.refl _, HS46⟩
   · have c27 : ¬ (b1.Hi < lo2) := c27
     refine seqRwI 14 kr (decide_eq_false c27) ?_
     refine seqRwI 15 kr (decide_eq_false c27) ?_
     refine seqL1 kr ?_
     refine seqG kr (does_run (run_load rfl Tryz.underlying49 rfl (kv (.pointer (some ⟨b6, 0, none⟩))) (HS8.cell 0)) ?_)
     refine seqL4 kr ?_
     refine nl (hK26 _ _ ?_)
     have hq_ := ite_some h; clear h; rcases hq_ with ⟨c31, h⟩ | ⟨c31, h⟩
     · have c31 : b1.Lo > hi3 := c31
       refine wpRwI 10 kr (decide_eq_true c31) ?_
       refine wpRwI 19 kr (decide_eq_true c31) ?_
       refine wpRwI 20 kr (decide_eq_true c31) ?_
       refine condT kr ?_
       refine wp_seq_k fun K32 hK33 => rl ?_
       refine seqL1 kr ?_
       refine nl (hK33 _ _ ?_)
       refine wp_ret ?_
       refine hr15 _ _ ?_
       refine hret _ _ ?_
       refine ends_still (v := Value.int .i64 0) kr kr ?_
       have HS47 := HS8.drop
       injection h with h
       subst h
       exact ⟨f, rfl, FM.le.refl _, HS47⟩
     · have c31 : ¬ (b1.Lo > hi3) := c31
       refine wpRwI 10 kr (decide_eq_false c31) ?_
       refine wpRwI 19 kr (decide_eq_false c31) ?_
       refine wpRwI 20 kr (decide_eq_false c31) ?_
       refine condF kr ?_
       refine wp_seq_k fun K34 hK35 => rl ?_
       refine seqL1 kr ?_
       refine seqK rfl (does_run (run_load rfl Tryz.underlying49 rfl (kv (.pointer (some ⟨b6, 0, none⟩))) (HS8.cell 0)) ?_)
       refine seqL3 kr ?_
       have hq_ := ite_some h; clear h; rcases hq_ with ⟨c36, h⟩ | ⟨c36, h⟩
       · have c36 : b1.Lo ≥ lo2 := c36
         refine seqRwI 25 kr (decide_eq_true c36) ?_
         refine seqRwI 26 kr (decide_eq_true c36) ?_
         refine seqL1 kr ?_
         refine seqG kr (does_run (run_load rfl Tryz.underlying49 rfl (kv (.pointer (some ⟨b6, 1, none⟩))) (HS8.cell 1)) ?_)
         refine seqL4 kr ?_
         refine nl (hK35 _ _ ?_)
         have hq_ := ite_some h; clear h; rcases hq_ with ⟨c38, h⟩ | ⟨c38, h⟩
         · have c38 : b1.Hi ≤ hi3 := c38
           refine wpRwI 21 kr (decide_eq_true c38) ?_
           refine wpRwI 30 kr (decide_eq_true c38) ?_
           refine wpRwI 31 kr (decide_eq_true c38) ?_
           refine condT kr ?_
           refine wp_seq_k fun K39 hK40 => rl ?_
           refine seqL1 kr ?_
           refine nl (hK40 _ _ ?_)
           refine wp_ret ?_
           refine hr15 _ _ ?_
           refine hret _ _ ?_
           refine ends_still (v := Value.int .i64 2) kr kr ?_
           have HS48 := HS8.drop
           injection h with h
           subst h
           exact ⟨f, rfl, FM.le.refl _, HS48⟩
         · have c38 : ¬ (b1.Hi ≤ hi3) := c38
           refine wpRwI 21 kr (decide_eq_false c38) ?_
           refine wpRwI 30 kr (decide_eq_false c38) ?_
           refine wpRwI 31 kr (decide_eq_false c38) ?_
           refine condF kr ?_
           refine wp_skip ?_
           refine hn14 _ _ ?_
           refine hK11 _ _ ?_
           refine wp_seq_k fun K41 hK42 => rl ?_
           refine seqL1 kr ?_
           refine nl (hK42 _ _ ?_)
           refine wp_ret ?_
           refine hret _ _ ?_
           refine ends_still (v := Value.int .i64 1) kr kr ?_
           have HS49 := HS8.drop
           injection h with h
           subst h
           exact ⟨f, rfl, FM.le.refl _, HS49⟩
       · have c36 : ¬ (b1.Lo ≥ lo2) := c36
         refine seqRwI 25 kr (decide_eq_false c36) ?_
         refine seqRwI 26 kr (decide_eq_false c36) ?_
         refine seqL6 kr ?_
         refine nl (hK35 _ _ ?_)
         refine condF kr ?_
         refine wp_skip ?_
         refine hn14 _ _ ?_
         refine hK11 _ _ ?_
         refine wp_seq_k fun K43 hK44 => rl ?_
         refine seqL1 kr ?_
         refine nl (hK44 _ _ ?_)
         refine wp_ret ?_
         refine hret _ _ ?_
         refine ends_still (v := Value.int .i64 1) kr kr ?_
         have HS50 := HS8.drop
         injection h with h
         subst h
         exact ⟨f, rfl, FM.le.refl _, HS50⟩

set_option maxRecDepth 100000 in
set_option maxHeartbeats 4000000 in
theorem query_point_1.calls (k : Nat)  (c1 : Int) {t w : World} {f : FM} {H : List Seg} (HS : St t w f (H)) (rr1 : S_Bound) (h : query_point_1 k c1 = some rr1) :
    Calls Tryz.prog 87 #[.int .i64 c1] w (fun e w' => ∃ (g : FM), e = .returned (Value.agg #[.int .i64 rr1.Lo, .int .i64 rr1.Hi, .bool rr1.Unknown]) ∧ FM.le f g ∧ St t w' g (H)) := by
 unfold query_point_1 at h
 refine enter Tryz.func87 rfl (tm := #[iV c1, uV, uV, uV, uV, uV]) kr ?_
 intro B hret hnor hnp
 refine wp_seq_k fun K2 hK3 => rl ?_
 refine seqK rfl (does_alloc (z := Value.agg #[.int .i64 0, .int .i64 0, .bool false]) (cs := #[.int .i64 0, .int .i64 0, .bool false]) rfl kr rfl HS ?_)
 intro b4 W5 HS6
 refine nl (hK3 _ _ ?_)
 refine wp_seq_k fun K8 hK9 => rl ?_
 refine seqL3 kr ?_
 refine seqK rfl (does_storeA (vs := [.int .i64 c1, .int .i64 c1, .bool false]) rfl kr kr kr rfl (ones rfl) HS6 kr ?_)
 intro W10 HS11
 refine nl (hK9 _ _ ?_)
 refine wp_ret ?_
 refine hret _ _ ?_
 refine ends (v := Value.agg #[.int .i64 c1, .int .i64 c1, .bool false]) (results1 (q1 := .cell 2 29) kr (resN (n := 3) (cs := [.int .i64 c1, .int .i64 c1, .bool false]) (kv (.pointer (some ⟨b4, 0, none⟩))) Tryz.underlying29 rfl kr rfl (HS11.cells 0 3 _ rfl))) kr ?_
 have HS12 := HS11.drop
 injection h with h
 subst h
 exact ⟨f, rfl, FM.le.refl _, HS12⟩

set_option maxRecDepth 100000 in
set_option maxHeartbeats 4000000 in
theorem query_point.calls (k : Nat)  (v1 : S_Vec) {t w : World} {f : FM} {H : List Seg} (HS : St t w f (H)) (rr1 : S_Box) (h : query_point k v1 = some rr1) :
    Calls Tryz.prog 55 #[.agg #[.int .i64 v1.X, .int .i64 v1.Y, .int .i64 v1.Z]] w (fun e w' => ∃ (g : FM), e = .returned (Value.agg #[.int .i64 rr1.X.Lo, .int .i64 rr1.X.Hi, .bool rr1.X.Unknown, .int .i64 rr1.Y.Lo, .int .i64 rr1.Y.Hi, .bool rr1.Y.Unknown, .int .i64 rr1.Z.Lo, .int .i64 rr1.Z.Hi, .bool rr1.Z.Unknown]) ∧ FM.le f g ∧ St t w' g (H)) := by
 unfold query_point at h
 refine enter Tryz.func55 rfl (tm := #[(ag_Vec v1), uV, uV, uV, uV, uV, uV, uV, uV, uV, uV, uV, uV, uV, uV, uV, uV]) kr ?_
 intro B hret hnor hnp
 refine wp_seq_k fun K2 hK3 => rl ?_
 refine seqK rfl (does_box (cs := #[.int .i64 v1.X, .int .i64 v1.Y, .int .i64 v1.Z]) rfl (kv (.agg #[.int .i64 v1.X, .int .i64 v1.Y, .int .i64 v1.Z])) rfl HS ?_)
 intro b4 W5 HS6
 refine seqK rfl (does_alloc (z := Value.agg #[.int .i64 0, .int .i64 0, .bool false, .int .i64 0, .int .i64 0, .bool false, .int .i64 0, .int .i64 0, .bool false]) (cs := #[.int .i64 0, .int .i64 0, .bool false, .int .i64 0, .int .i64 0, .bool false, .int .i64 0, .int .i64 0, .bool false]) rfl kr rfl HS6 ?_)
 intro b8 W9 HS10
 refine nl (hK3 _ _ ?_)
 refine wp_seq_k fun K12 hK13 => rl ?_
 refine seqL1 kr ?_
 refine nl (hK13 _ _ ?_)
 refine wp_seq_k (fun K14 hK15 => ?_)
 have HS17 := HS10.u1.u1
 refine heldG (S := Sg t f ([(b4, .cells #[.int .i64 v1.X, .int .i64 v1.Y, .int .i64 v1.Z] 39 (0, 0))] :: H) [(13, [(b8, .cells #[.int .i64 0, .int .i64 0, .bool false, .int .i64 0, .int .i64 0, .bool false, .int .i64 0, .int .i64 0, .bool false] 31 (0, 0))])]) (n := 14) kr rfl HS17 ?_
 intro W18 HS19
 refine takeGL [0, 1] (n := 14) (fuel := 12) #[true, true, false, false, false, false, false, false, false, false, false, false, false, false] rfl kr kr kr hnp (Sg.g1 (Sx.of [[(b8, .cells #[.int .i64 0, .int .i64 0, .bool false, .int .i64 0, .int .i64 0, .bool false, .int .i64 0, .int .i64 0, .bool false] 31 (0, 0))]] fL HS19) (fun _ => St.only [] HS19 fL)) ?_
 refine takeGQ 2 [] rfl kr kr kr kr kr kr hnp (Sg.g1 (Sx.of [[(b8, .cells #[.int .i64 0, .int .i64 0, .bool false, .int .i64 0, .int .i64 0, .bool false, .int .i64 0, .int .i64 0, .bool false] 31 (0, 0))]] fL HS19) (fun _ => St.only [] HS19 fL)) (fun w_ hw_ => by obtain ⟨g_, hl_, hS_⟩ := hw_.st; exact run_load rfl Tryz.underlying2 rfl (kv (.pointer (some ⟨b4, 0, none⟩))) (hS_.cell 0)) ?_
 refine takeGL [4, 5] (n := 11) (fuel := 9) #[true, true, true, false, true, true, false, false, false, false, false, false, false, false] rfl kr kr kr hnp (Sg.g1 (Sx.of [[(b8, .cells #[.int .i64 0, .int .i64 0, .bool false, .int .i64 0, .int .i64 0, .bool false, .int .i64 0, .int .i64 0, .bool false] 31 (0, 0))]] fL HS19) (fun _ => St.only [] HS19 fL)) ?_
 refine takeGQ 6 [] rfl kr kr kr kr kr kr hnp (Sg.g1 (Sx.of [[(b8, .cells #[.int .i64 0, .int .i64 0, .bool false, .int .i64 0, .int .i64 0, .bool false, .int .i64 0, .int .i64 0, .bool false] 31 (0, 0))]] fL HS19) (fun _ => St.only [] HS19 fL)) (fun w_ hw_ => by obtain ⟨g_, hl_, hS_⟩ := hw_.st; exact run_load rfl Tryz.underlying2 rfl (kv (.pointer (some ⟨b4, 1, none⟩))) (hS_.cell 1)) ?_
 refine takeGL [8, 9] (n := 8) (fuel := 6) #[true, true, true, false, true, true, true, false, true, true, false, false, false, false] rfl kr kr kr hnp (Sg.g1 (Sx.of [[(b8, .cells #[.int .i64 0, .int .i64 0, .bool false, .int .i64 0, .int .i64 0, .bool false, .int .i64 0, .int .i64 0, .bool false] 31 (0, 0))]] fL HS19) (fun _ => St.only [] HS19 fL)) ?_
 refine takeGQ 10 [] rfl kr kr kr kr kr kr hnp (Sg.g1 (Sx.of [[(b8, .cells #[.int .i64 0, .int .i64 0, .bool false, .int .i64 0, .int .i64 0, .bool false, .int .i64 0, .int .i64 0, .bool false] 31 (0, 0))]] fL HS19) (fun _ => St.only [] HS19 fL)) (fun w_ hw_ => by obtain ⟨g_, hl_, hS_⟩ := hw_.st; exact run_load rfl Tryz.underlying2 rfl (kv (.pointer (some ⟨b4, 2, none⟩))) (hS_.cell 2)) ?_
 have hq_ := bind_some h; clear h; obtain ⟨vt20, hc21, h⟩ := hq_
 refine takeGE 3 kr rfl kr (does_call (f := 87) (args := #[.int .i64 v1.X]) kr (query_point_1.calls k v1.X HS19 vt20 hc21) ?_)
 rintro _ W24 ⟨f22, rfl, L23, HS25⟩
 refine ⟨_, rfl, ?_⟩
 refine ⟨(Sg.g1 (Sx.of [[(b8, .cells #[.int .i64 0, .int .i64 0, .bool false, .int .i64 0, .int .i64 0, .bool false, .int .i64 0, .int .i64 0, .bool false] 31 (0, 0))]] L23 HS25) (fun _ => St.only [] HS25 L23)), ?_⟩
 have hq_ := bind_some h; clear h; obtain ⟨vt26, hc27, h⟩ := hq_
 refine takeGE 7 kr rfl kr (does_call (f := 87) (args := #[.int .i64 v1.Y]) kr (query_point_1.calls k v1.Y HS25 vt26 hc27) ?_)
 rintro _ W30 ⟨f28, rfl, L29, HS31⟩
 refine ⟨_, rfl, ?_⟩
 refine ⟨(Sg.g1 (Sx.of [[(b8, .cells #[.int .i64 0, .int .i64 0, .bool false, .int .i64 0, .int .i64 0, .bool false, .int .i64 0, .int .i64 0, .bool false] 31 (0, 0))]] (L23.trans L29) HS31) (fun _ => St.only [] HS31 (L23.trans L29))), ?_⟩
 have hq_ := bind_some h; clear h; obtain ⟨vt32, hc33, h⟩ := hq_
 refine takeGE 11 kr rfl kr (does_call (f := 87) (args := #[.int .i64 v1.Z]) kr (query_point_1.calls k v1.Z HS31 vt32 hc33) ?_)
 rintro _ W36 ⟨f34, rfl, L35, HS37⟩
 refine ⟨_, rfl, ?_⟩
 refine ⟨(Sg.g1 (Sx.of [[(b8, .cells #[.int .i64 0, .int .i64 0, .bool false, .int .i64 0, .int .i64 0, .bool false, .int .i64 0, .int .i64 0, .bool false] 31 (0, 0))]] (L23.trans (L29.trans L35)) HS37) (fun _ => St.only [] HS37 (L23.trans (L29.trans L35)))), ?_⟩
 refine takeGL [12] (n := 2) (fuel := 1) #[true, true, true, true, true, true, true, true, true, true, true, true, true, false] rfl kr kr kr hnp (Sg.g1 (Sx.of [[(b8, .cells #[.int .i64 0, .int .i64 0, .bool false, .int .i64 0, .int .i64 0, .bool false, .int .i64 0, .int .i64 0, .bool false] 31 (0, 0))]] (L23.trans (L29.trans L35)) HS37) (fun _ => St.only [] HS37 (L23.trans (L29.trans L35)))) ?_
 refine takeGE 13 kr rfl kr (does_storeA (vs := [.int .i64 vt20.Lo, .int .i64 vt20.Hi, .bool vt20.Unknown, .int .i64 vt26.Lo, .int .i64 vt26.Hi, .bool vt26.Unknown, .int .i64 vt32.Lo, .int .i64 vt32.Hi, .bool vt32.Unknown]) rfl kr kr kr rfl (ones rfl) HS37 kr ?_)
 intro W38 HS39
 refine ⟨(Sg.g1 (Sx.of [[(b8, .cells #[.int .i64 vt20.Lo, .int .i64 vt20.Hi, .bool vt20.Unknown, .int .i64 vt26.Lo, .int .i64 vt26.Hi, .bool vt26.Unknown, .int .i64 vt32.Lo, .int .i64 vt32.Hi, .bool vt32.Unknown] 31 (0, 0))]] (L23.trans (L29.trans L35)) HS39) (fun hl_ => Bool.noConfusion (show true = false from hl_))), ?_⟩
 refine doneG kr ?_ _
 refine hK15 _ _ ?_
 refine wp_ret ?_
 refine hret _ _ ?_
 refine ends (v := Value.agg #[.int .i64 vt20.Lo, .int .i64 vt20.Hi, .bool vt20.Unknown, .int .i64 vt26.Lo, .int .i64 vt26.Hi, .bool vt26.Unknown, .int .i64 vt32.Lo, .int .i64 vt32.Hi, .bool vt32.Unknown]) (results1 (q1 := .cell 2 31) kr (resN (n := 9) (cs := [.int .i64 vt20.Lo, .int .i64 vt20.Hi, .bool vt20.Unknown, .int .i64 vt26.Lo, .int .i64 vt26.Hi, .bool vt26.Unknown, .int .i64 vt32.Lo, .int .i64 vt32.Hi, .bool vt32.Unknown]) (kv (.pointer (some ⟨b8, 0, none⟩))) Tryz.underlying31 rfl kr rfl (HS39.cells 0 9 _ rfl))) kr ?_
 have HS40 := HS39.drop
 have HS41 := HS40.drop
 injection h with h
 subst h
 exact ⟨f34, rfl, (L23.trans (L29.trans L35)), HS41⟩

set_option maxRecDepth 100000 in
set_option maxHeartbeats 4000000 in
theorem query_product.calls (k : Nat)  (a1 : S_Bound) (b2 : S_Bound) {t w : World} {f : FM} {H : List Seg} (HS : St t w f (H)) (rr1 : Int) (rr2 : Int) (h : query_product k a1 b2 = some (rr1, rr2)) :
    Calls Tryz.prog 32 #[.agg #[.int .i64 a1.Lo, .int .i64 a1.Hi, .bool a1.Unknown], .agg #[.int .i64 b2.Lo, .int .i64 b2.Hi, .bool b2.Unknown]] w (fun e w' => ∃ (g : FM), e = .returned (Value.tuple #[.int .i64 rr1, .int .i64 rr2]) ∧ FM.le f g ∧ St t w' g (H)) := by
 unfold query_product at h
 refine enter Tryz.func32 rfl (tm := #[(ag_Bound a1), (ag_Bound b2), uV, uV, uV, uV, uV, uV, uV, uV, uV, uV, uV, uV, uV, uV, uV, uV, uV, uV, uV, uV, uV, uV, uV, uV, uV, uV, uV, uV, uV, uV, uV, uV, uV, uV, uV, uV, uV, uV]) kr ?_
 intro B hret hnor hnp
 refine wp_seq_k fun K3 hK4 => rl ?_
 refine seqK rfl (does_box (cs := #[.int .i64 a1.Lo, .int .i64 a1.Hi, .bool a1.Unknown]) rfl (kv (.agg #[.int .i64 a1.Lo, .int .i64 a1.Hi, .bool a1.Unknown])) rfl HS ?_)
 intro b5 W6 HS7
 refine seqK rfl (does_box (cs := #[.int .i64 b2.Lo, .int .i64 b2.Hi, .bool b2.Unknown]) rfl (kv (.agg #[.int .i64 b2.Lo, .int .i64 b2.Hi, .bool b2.Unknown])) rfl HS7 ?_)
 intro b9 W10 HS11
 refine seqL2 kr ?_
 refine nl (hK4 _ _ ?_)
 refine wp_seq_k (fun K13 hK14 => ?_)
 refine heldG (S := Sg t f ([(b9, .cells #[.int .i64 b2.Lo, .int .i64 b2.Hi, .bool b2.Unknown] 29 (0, 0))] :: [(b5, .cells #[.int .i64 a1.Lo, .int .i64 a1.Hi, .bool a1.Unknown] 29 (0, 0))] :: H) []) (n := 12) kr rfl HS11 ?_
 intro W15 HS16
 refine takeGL [0] (n := 12) (fuel := 11) #[true, false, false, false, false, false, false, false, false, false, false, false] rfl kr kr kr hnp (Sg.g0 (Sx.of [] fL HS16)) ?_
 refine takeGQ 1 [] rfl kr kr kr kr kr kr hnp (Sg.g0 (Sx.of [] fL HS16)) (fun w_ hw_ => by obtain ⟨g_, hl_, hS_⟩ := hw_.st; exact run_load rfl Tryz.underlying27 rfl (kv (.pointer (some ⟨b5, 0, none⟩))) (hS_.u1.cell 0)) ?_
 refine takeGL [2] (n := 10) (fuel := 9) #[true, true, true, false, false, false, false, false, false, false, false, false] rfl kr kr kr hnp (Sg.g0 (Sx.of [] fL HS16)) ?_
 refine takeGQ 3 [] rfl kr kr kr kr kr kr hnp (Sg.g0 (Sx.of [] fL HS16)) (fun w_ hw_ => by obtain ⟨g_, hl_, hS_⟩ := hw_.st; exact run_load rfl Tryz.underlying27 rfl (kv (.pointer (some ⟨b9, 0, none⟩))) (hS_.cell 0)) ?_
 refine takeGL [4, 5] (n := 8) (fuel := 6) #[true, true, true, true, true, true, false, false, false, false, false, false] rfl kr kr kr hnp (Sg.g0 (Sx.of [] fL HS16)) ?_
 refine takeGQ 6 [] rfl kr kr kr kr kr kr hnp (Sg.g0 (Sx.of [] fL HS16)) (fun w_ hw_ => by obtain ⟨g_, hl_, hS_⟩ := hw_.st; exact run_load rfl Tryz.underlying27 rfl (kv (.pointer (some ⟨b5, 0, none⟩))) (hS_.u1.cell 0)) ?_
 refine takeGL [7] (n := 5) (fuel := 4) #[true, true, true, true, true, true, true, true, false, false, false, false] rfl kr kr kr hnp (Sg.g0 (Sx.of [] fL HS16)) ?_
 refine takeGQ 8 [] rfl kr kr kr kr kr kr hnp (Sg.g0 (Sx.of [] fL HS16)) (fun w_ hw_ => by obtain ⟨g_, hl_, hS_⟩ := hw_.st; exact run_load rfl Tryz.underlying27 rfl (kv (.pointer (some ⟨b9, 1, none⟩))) (hS_.cell 1)) ?_
 refine takeGL [9, 10, 11] (n := 3) (fuel := 0) #[true, true, true, true, true, true, true, true, true, true, true, true] rfl kr kr kr hnp (Sg.g0 (Sx.of [] fL HS16)) ?_
 refine doneG kr ?_ _
 refine hK14 _ _ ?_
 refine wp_seq_k (fun K17 hK18 => ?_)
 refine heldG (S := Sg t f ([(b9, .cells #[.int .i64 b2.Lo, .int .i64 b2.Hi, .bool b2.Unknown] 29 (0, 0))] :: [(b5, .cells #[.int .i64 a1.Lo, .int .i64 a1.Hi, .bool a1.Unknown] 29 (0, 0))] :: H) []) (n := 12) kr rfl HS16 ?_
 intro W19 HS20
 refine takeGL [0] (n := 12) (fuel := 11) #[true, false, false, false, false, false, false, false, false, false, false, false] rfl kr kr kr hnp (Sg.g0 (Sx.of [] fL HS20)) ?_
 refine takeGQ 1 [] rfl kr kr kr kr kr kr hnp (Sg.g0 (Sx.of [] fL HS20)) (fun w_ hw_ => by obtain ⟨g_, hl_, hS_⟩ := hw_.st; exact run_load rfl Tryz.underlying27 rfl (kv (.pointer (some ⟨b5, 1, none⟩))) (hS_.u1.cell 1)) ?_
 refine takeGL [2] (n := 10) (fuel := 9) #[true, true, true, false, false, false, false, false, false, false, false, false] rfl kr kr kr hnp (Sg.g0 (Sx.of [] fL HS20)) ?_
 refine takeGQ 3 [] rfl kr kr kr kr kr kr hnp (Sg.g0 (Sx.of [] fL HS20)) (fun w_ hw_ => by obtain ⟨g_, hl_, hS_⟩ := hw_.st; exact run_load rfl Tryz.underlying27 rfl (kv (.pointer (some ⟨b9, 0, none⟩))) (hS_.cell 0)) ?_
 refine takeGL [4, 5] (n := 8) (fuel := 6) #[true, true, true, true, true, true, false, false, false, false, false, false] rfl kr kr kr hnp (Sg.g0 (Sx.of [] fL HS20)) ?_
 refine takeGQ 6 [] rfl kr kr kr kr kr kr hnp (Sg.g0 (Sx.of [] fL HS20)) (fun w_ hw_ => by obtain ⟨g_, hl_, hS_⟩ := hw_.st; exact run_load rfl Tryz.underlying27 rfl (kv (.pointer (some ⟨b5, 1, none⟩))) (hS_.u1.cell 1)) ?_
 refine takeGL [7] (n := 5) (fuel := 4) #[true, true, true, true, true, true, true, true, false, false, false, false] rfl kr kr kr hnp (Sg.g0 (Sx.of [] fL HS20)) ?_
 refine takeGQ 8 [] rfl kr kr kr kr kr kr hnp (Sg.g0 (Sx.of [] fL HS20)) (fun w_ hw_ => by obtain ⟨g_, hl_, hS_⟩ := hw_.st; exact run_load rfl Tryz.underlying27 rfl (kv (.pointer (some ⟨b9, 1, none⟩))) (hS_.cell 1)) ?_
 refine takeGL [9, 10, 11] (n := 3) (fuel := 0) #[true, true, true, true, true, true, true, true, true, true, true, true] rfl kr kr kr hnp (Sg.g0 (Sx.of [] fL HS20)) ?_
 refine doneG kr ?_ _
 refine hK18 _ _ ?_
 refine wp_seq_k fun K21 hK22 => rl ?_
 refine seqL12 kr ?_
 refine nl (hK22 _ _ ?_)
 refine wp_ret ?_
 refine hret _ _ ?_
 refine ends_still (v := Value.tuple #[.int .i64 (mn (mn (mn (w64 (a1.Lo * b2.Lo)) (w64 (a1.Lo * b2.Hi))) (w64 (a1.Hi * b2.Lo))) (w64 (a1.Hi * b2.Hi))), .int .i64 (mx (mx (mx (w64 (a1.Lo * b2.Lo)) (w64 (a1.Lo * b2.Hi))) (w64 (a1.Hi * b2.Lo))) (w64 (a1.Hi * b2.Hi)))]) kr kr ?_
 have HS23 := HS20.drop
 have HS24 := HS23.drop
 injection h with h
 injection h with h0_ h
 subst h0_ h
 exact ⟨f, rfl, FM.le.refl _, HS24⟩

set_option maxRecDepth 100000 in
set_option maxHeartbeats 4000000 in
theorem query_square.calls (k : Nat)  (b1 : S_Bound) {t w : World} {f : FM} {H : List Seg} (HS : St t w f (H)) (rr1 : Int) (rr2 : Int) (h : query_square k b1 = some (rr1, rr2)) :
    Calls Tryz.prog 33 #[.agg #[.int .i64 b1.Lo, .int .i64 b1.Hi, .bool b1.Unknown]] w (fun e w' => ∃ (g : FM), e = .returned (Value.tuple #[.int .i64 rr1, .int .i64 rr2]) ∧ FM.le f g ∧ St t w' g (H)) := by
 unfold query_square at h
 refine enter Tryz.func33 rfl (tm := #[(ag_Bound b1), uV, uV, uV, uV, uV, uV, uV, uV, uV, uV, uV, uV, uV, uV, uV, uV, uV, uV, uV, uV, uV, uV, uV, uV, uV, uV, uV, uV, uV, uV, uV]) kr ?_
 intro B hret hnor hnp
 refine wp_seq_k fun K2 hK3 => rl ?_
 refine seqK rfl (does_box (cs := #[.int .i64 b1.Lo, .int .i64 b1.Hi, .bool b1.Unknown]) rfl (kv (.agg #[.int .i64 b1.Lo, .int .i64 b1.Hi, .bool b1.Unknown])) rfl HS ?_)
 intro b4 W5 HS6
 refine seqL2 kr ?_
 refine nl (hK3 _ _ ?_)
 refine wp_seq_k (fun K8 hK9 => ?_)
 refine heldG (S := Sg t f ([(b4, .cells #[.int .i64 b1.Lo, .int .i64 b1.Hi, .bool b1.Unknown] 29 (0, 0))] :: H) []) (n := 6) kr rfl HS6 ?_
 intro W10 HS11
 refine takeGL [0] (n := 6) (fuel := 5) #[true, false, false, false, false, false] rfl kr kr kr hnp (Sg.g0 (Sx.of [] fL HS11)) ?_
 refine takeGQ 1 [] rfl kr kr kr kr kr kr hnp (Sg.g0 (Sx.of [] fL HS11)) (fun w_ hw_ => by obtain ⟨g_, hl_, hS_⟩ := hw_.st; exact run_load rfl Tryz.underlying27 rfl (kv (.pointer (some ⟨b4, 0, none⟩))) (hS_.cell 0)) ?_
 refine takeGL [2] (n := 4) (fuel := 3) #[true, true, true, false, false, false] rfl kr kr kr hnp (Sg.g0 (Sx.of [] fL HS11)) ?_
 refine takeGQ 3 [] rfl kr kr kr kr kr kr hnp (Sg.g0 (Sx.of [] fL HS11)) (fun w_ hw_ => by obtain ⟨g_, hl_, hS_⟩ := hw_.st; exact run_load rfl Tryz.underlying27 rfl (kv (.pointer (some ⟨b4, 1, none⟩))) (hS_.cell 1)) ?_
 refine takeGL [4, 5] (n := 2) (fuel := 0) #[true, true, true, true, true, true] rfl kr kr kr hnp (Sg.g0 (Sx.of [] fL HS11)) ?_
 refine doneG kr ?_ _
 refine hK9 _ _ ?_
 refine wp_seq_k fun K12 hK13 => rl ?_
 refine seqL8 kr ?_
 refine nl (hK13 _ _ ?_)
 refine wp_seq_k (fun K14 hK15 => ?_)
 refine wp_seq_k fun K16 hK17 => rl ?_
 refine seqL3 kr ?_
 have hq_ := ite_some h; clear h; rcases hq_ with ⟨c18, h⟩ | ⟨c18, h⟩
 · have c18 : b1.Lo > 0 := c18
   refine seqRwI 18 kr (decide_eq_true c18) ?_
   refine seqRwI 19 kr (decide_eq_true c18) ?_
   refine seqL3 kr ?_
   refine nl (hK17 _ _ ?_)
   refine condT kr ?_
   refine rl ?_
   refine seqL8 kr ?_
   refine nl (hK15 _ _ ?_)
   refine wp_seq_k fun K19 hK20 => rl ?_
   refine seqL4 kr ?_
   refine nl (hK20 _ _ ?_)
   refine wp_ret ?_
   refine hret _ _ ?_
   refine ends_still (v := Value.tuple #[.int .i64 (mn (w64 (b1.Lo * b1.Lo)) (w64 (b1.Hi * b1.Hi))), .int .i64 (mx (w64 (b1.Lo * b1.Lo)) (w64 (b1.Hi * b1.Hi)))]) kr kr ?_
   have HS27 := HS11.drop
   injection h with h
   injection h with h0_ h
   subst h0_ h
   exact ⟨f, rfl, FM.le.refl _, HS27⟩
 · have c18 : ¬ (b1.Lo > 0) := c18
   refine seqRwI 18 kr (decide_eq_false c18) ?_
   refine seqRwI 19 kr (decide_eq_false c18) ?_
   refine seqL3 kr ?_
   refine nl (hK17 _ _ ?_)
   have hq_ := ite_some h; clear h; rcases hq_ with ⟨c22, h⟩ | ⟨c22, h⟩
   · have c22 : b1.Hi < 0 := c22
     refine wpRwI 21 kr (decide_eq_true c22) ?_
     refine wpRwI 22 kr (decide_eq_true c22) ?_
     refine condT kr ?_
     refine rl ?_
     refine seqL8 kr ?_
     refine nl (hK15 _ _ ?_)
     refine wp_seq_k fun K23 hK24 => rl ?_
     refine seqL4 kr ?_
     refine nl (hK24 _ _ ?_)
     refine wp_ret ?_
     refine hret _ _ ?_
     refine ends_still (v := Value.tuple #[.int .i64 (mn (w64 (b1.Lo * b1.Lo)) (w64 (b1.Hi * b1.Hi))), .int .i64 (mx (w64 (b1.Lo * b1.Lo)) (w64 (b1.Hi * b1.Hi)))]) kr kr ?_
     have HS28 := HS11.drop
     injection h with h
     injection h with h0_ h
     subst h0_ h
     exact ⟨f, rfl, FM.le.refl _, HS28⟩
   · have c22 : ¬ (b1.Hi < 0) := c22
     refine wpRwI 21 kr (decide_eq_false c22) ?_
     refine wpRwI 22 kr (decide_eq_false c22) ?_
     refine condF kr ?_
     refine wp_skip ?_
     refine hK15 _ _ ?_
     refine wp_seq_k fun K25 hK26 => rl ?_
     refine seqL4 kr ?_
     refine nl (hK26 _ _ ?_)
     refine wp_ret ?_
     refine hret _ _ ?_
     refine ends_still (v := Value.tuple #[.int .i64 0, .int .i64 (mx (w64 (b1.Lo * b1.Lo)) (w64 (b1.Hi * b1.Hi)))]) kr kr ?_
     have HS29 := HS11.drop
     injection h with h
     injection h with h0_ h
     subst h0_ h
     exact ⟨f, rfl, FM.le.refl _, HS29⟩

set_option maxRecDepth 100000 in
set_option maxHeartbeats 4000000 in
theorem bits_Mul64.calls (k : Nat)  (x1 : Int) (y2 : Int) {t w : World} {f : FM} {H : List Seg} (HS : St t w f (H)) (rr1 : Int) (rr2 : Int) (h : bits_Mul64 k x1 y2 = some (rr1, rr2)) :
    Calls Tryz.prog 64 #[.int .u64 x1, .int .u64 y2] w (fun e w' => ∃ (g : FM), e = .returned (Value.tuple #[.int .u64 rr1, .int .u64 rr2]) ∧ FM.le f g ∧ St t w' g (H)) := by
 unfold bits_Mul64 at h
 refine enter Tryz.func64 rfl (tm := #[.int .u64 x1, .int .u64 y2, uV, uV, uV, uV, uV, uV, uV, uV, uV, uV, uV, uV, uV, uV, uV, uV, uV, uV, uV, uV, uV, uV, uV, uV, uV, uV, uV, uV, uV, uV, uV, uV, uV, uV, uV, uV, uV, uV, uV, uV, uV, uV, uV, uV, uV, uV, uV, uV, uV]) kr ?_
 intro B hret hnor hnp
 refine wp_seq_k fun K3 hK4 => rl ?_
 refine seqL2 kr ?_
 refine nl (hK4 _ _ ?_)
 refine wp_seq_k fun K5 hK6 => rl ?_
 refine seqL3 kr ?_
 refine nl (hK6 _ _ ?_)
 refine wp_seq_k fun K7 hK8 => rl ?_
 refine seqL3 kr ?_
 refine nl (hK8 _ _ ?_)
 refine wp_seq_k fun K9 hK10 => rl ?_
 refine seqL3 kr ?_
 refine nl (hK10 _ _ ?_)
 refine wp_seq_k fun K11 hK12 => rl ?_
 refine seqL3 kr ?_
 refine nl (hK12 _ _ ?_)
 refine wp_seq_k fun K13 hK14 => rl ?_
 refine seqL4 kr ?_
 refine nl (hK14 _ _ ?_)
 refine wp_seq_k fun K15 hK16 => rl ?_
 refine seqL7 kr ?_
 refine nl (hK16 _ _ ?_)
 refine wp_seq_k fun K17 hK18 => rl ?_
 refine seqL3 kr ?_
 refine nl (hK18 _ _ ?_)
 refine wp_seq_k fun K19 hK20 => rl ?_
 refine seqL3 kr ?_
 refine nl (hK20 _ _ ?_)
 refine wp_seq_k fun K21 hK22 => rl ?_
 refine seqL6 kr ?_
 refine nl (hK22 _ _ ?_)
 refine wp_seq_k fun K23 hK24 => rl ?_
 refine seqL9 kr ?_
 refine nl (hK24 _ _ ?_)
 refine wp_seq_k fun K25 hK26 => rl ?_
 refine seqL4 kr ?_
 refine nl (hK26 _ _ ?_)
 refine wp_ret ?_
 refine hret _ _ ?_
 refine ends_still (v := Value.tuple #[.int .u64 (u64 ((u64 ((u64 ((shr x1 32) * (shr y2 32))) + (shr (u64 ((u64 ((shr x1 32) * (Go.bits .and .u64 y2 4294967295))) + (shr (u64 ((Go.bits .and .u64 x1 4294967295) * (Go.bits .and .u64 y2 4294967295))) 32))) 32))) + (shr (u64 ((Go.bits .and .u64 (u64 ((u64 ((shr x1 32) * (Go.bits .and .u64 y2 4294967295))) + (shr (u64 ((Go.bits .and .u64 x1 4294967295) * (Go.bits .and .u64 y2 4294967295))) 32))) 4294967295) + (u64 ((Go.bits .and .u64 x1 4294967295) * (shr y2 32))))) 32))), .int .u64 (u64 (x1 * y2))]) kr kr ?_
 injection h with h
 injection h with h0_ h
 subst h0_ h
 exact ⟨f, rfl, FM.le.refl _, HS⟩

set_option maxRecDepth 100000 in
set_option maxHeartbeats 4000000 in
theorem num_SqrtMul.calls (k : Nat)  (a1 : Int) (b2 : Int) {t w : World} {f : FM} {H : List Seg} (HS : St t w f (H)) (rr1 : Int) (h : num_SqrtMul k a1 b2 = some rr1) :
    Calls Tryz.prog 34 #[.int .i64 a1, .int .i64 b2] w (fun e w' => ∃ (g : FM), e = .returned (Value.int .i64 rr1) ∧ FM.le f g ∧ St t w' g (H)) := by
 unfold num_SqrtMul at h
 refine enter Tryz.func34 rfl (tm := #[iV a1, iV b2, uV, uV, uV, uV, uV, uV, uV, uV, uV, uV, uV, uV, uV, uV, uV, uV, uV, uV, uV, uV, uV, uV, uV, uV, uV, uV, uV, uV, uV, uV, uV, uV, uV, uV, uV, uV, uV, uV, uV, uV, uV, uV, uV, uV, uV, uV, uV, uV, uV, uV, uV, uV, uV, uV, uV]) kr ?_
 intro B hret hnor hnp
 refine wp_seq_k fun K3 hK4 => rl ?_
 refine seqL1 kr ?_
 refine nl (hK4 _ _ ?_)
 refine wp_seq_k (fun K5 hK6 => ?_)
 refine wp_seq_k fun K7 hK8 => rl ?_
 refine seqL3 kr ?_
 have hq_ := ite_some h; clear h; rcases hq_ with ⟨c9, h⟩ | ⟨c9, h⟩
 · have c9 : a1 < 0 := c9
   refine seqRwI 12 kr (decide_eq_true c9) ?_
   refine seqRwI 13 kr (decide_eq_true c9) ?_
   refine seqL3 kr ?_
   refine nl (hK8 _ _ ?_)
   refine condT kr ?_
   refine wp_seq_k fun K10 hK11 => rl ?_
   refine seqL1 kr ?_
   refine nl (hK11 _ _ ?_)
   refine wp_ret ?_
   refine hret _ _ ?_
   refine ends_still (v := Value.int .i64 0) kr kr ?_
   injection h with h
   subst h
   exact ⟨f, rfl, FM.le.refl _, HS⟩
 · have c9 : ¬ (a1 < 0) := c9
   refine seqRwI 12 kr (decide_eq_false c9) ?_
   refine seqRwI 13 kr (decide_eq_false c9) ?_
   refine seqL3 kr ?_
   refine nl (hK8 _ _ ?_)
   have hq_ := ite_some h; clear h; rcases hq_ with ⟨c13, h⟩ | ⟨c13, h⟩
   · have c13 : b2 < 0 := c13
     refine wpRwI 15 kr (decide_eq_true c13) ?_
     refine wpRwI 16 kr (decide_eq_true c13) ?_
     refine condT kr ?_
     refine wp_seq_k fun K14 hK15 => rl ?_
     refine seqL1 kr ?_
     refine nl (hK15 _ _ ?_)
     refine wp_ret ?_
     refine hret _ _ ?_
     refine ends_still (v := Value.int .i64 0) kr kr ?_
     injection h with h
     subst h
     exact ⟨f, rfl, FM.le.refl _, HS⟩
   · have c13 : ¬ (b2 < 0) := c13
     refine wpRwI 15 kr (decide_eq_false c13) ?_
     refine wpRwI 16 kr (decide_eq_false c13) ?_
     refine condF kr ?_
     refine wp_skip ?_
     refine hK6 _ _ ?_
     refine wp_seq_k fun K16 hK17 => rl ?_
     have hq_ := bind_some h; clear h; obtain ⟨⟨vt18, vt19⟩, hc20, h⟩ := hq_
     refine seqL4 kr ?_
     refine seqK rfl (does_call (f := 64) (args := #[.int .u64 (u64 (a1)), .int .u64 (u64 (b2))]) kr (bits_Mul64.calls k (u64 (a1)) (u64 (b2)) HS vt18 vt19 hc20) ?_)
     rintro _ W23 ⟨f21, rfl, L22, HS24⟩
     refine ⟨_, rfl, ?_⟩
     refine seqL5 kr ?_
     refine nl (hK17 _ _ ?_)
     refine wp_seq_k fun K25 hK26 => rl ?_
     refine seqL1 kr ?_
     refine nl (hK26 _ _ ?_)
     refine wp_seq_k (fun K27 hK28 => ?_)
     refine wp_seq_k fun K29 hK30 => rl ?_
     refine seqL1 kr ?_
     refine nl (hK30 _ _ ?_)
     refine blockK (fun B31 hx32 hn33 hr34 ho35 hp36 => ?_)
     have hq_ := bind_some h; clear h; obtain ⟨o37, hv84, h⟩ := hq_
     have J85 : ∀ (f78 : FM) (r83 : Int) (j82 : Nat → Value) (W80 : World) (a_ : Act), FM.le f21 f78 → some (r83) = some o37 → St t W80 f78 (H) → a_ = ⟨#[iV a1, iV b2, uV, uV, iV 0, .int .u64 vt18, .int .u64 vt19, .int .u64 r83, (j82 0), (j82 1), (j82 2), iV a1, fV, fV, iV b2, fV, fV, .tuple #[.int .u64 vt18, .int .u64 vt19], iV a1, .int .u64 (u64 (a1)), iV b2, .int .u64 (u64 (b2)), .tuple #[.int .u64 vt18, .int .u64 vt19], .int .u64 vt18, .int .u64 vt19, (j82 3), (j82 4), (j82 5), (j82 6), (j82 7), (j82 8), (j82 9), (j82 10), (j82 11), (j82 12), (j82 13), (j82 14), (j82 15), (j82 16), (j82 17), (j82 18), (j82 19), (j82 20), (j82 21), (j82 22), (j82 23), (j82 24), (j82 25), (j82 26), (j82 27), (j82 28), (j82 29), (j82 30), (j82 31), (j82 32), uV, uV], []⟩ → K27 a_ W80 := by
      intro f78 r83 j82 W80 a_ L79 hj86 HS81  hfr_; subst hfr_
      injection hj86 with hj86; subst hj86; try dsimp only at h
      refine hK28 _ _ ?_
      refine wp_seq_k fun K87 hK88 => rl ?_
      refine seqL3 kr ?_
      refine nl (hK88 _ _ ?_)
      refine wp_ret ?_
      refine hret _ _ ?_
      refine ends_still (v := Value.int .i64 (w64 (r83))) kr kr ?_
      injection h with h
      subst h
      exact ⟨f78, rfl, (L22.trans L79), HS81⟩
     clear h; have h := hv84; clear hv84
     refine loopK (fun n_ a_ w_ => ∃ (f41 : FM) (r46 : Int) (bit47 : Int) (j45 : Nat → Value), FM.le f21 f41 ∧ St t w_ f41 (H) ∧ num_SqrtMul.l0 k vt18 vt19 n_ r46 bit47 = some o37 ∧ a_ = ⟨#[iV a1, iV b2, uV, uV, iV 0, .int .u64 vt18, .int .u64 vt19, .int .u64 r46, .int .u64 bit47, (j45 0), (j45 1), iV a1, fV, fV, iV b2, fV, fV, .tuple #[.int .u64 vt18, .int .u64 vt19], iV a1, .int .u64 (u64 (a1)), iV b2, .int .u64 (u64 (b2)), .tuple #[.int .u64 vt18, .int .u64 vt19], .int .u64 vt18, .int .u64 vt19, (j45 2), (j45 3), (j45 4), (j45 5), (j45 6), (j45 7), (j45 8), (j45 9), (j45 10), (j45 11), (j45 12), (j45 13), (j45 14), (j45 15), (j45 16), (j45 17), (j45 18), (j45 19), (j45 20), (j45 21), (j45 22), (j45 23), (j45 24), (j45 25), (j45 26), (j45 27), (j45 28), (j45 29), (j45 30), (j45 31), uV, uV], []⟩) k ⟨f21, 0, 4611686018427387904, (jL []), fL, HS24, h, kr⟩ ?_
     clear h
     rintro n40 _ W43 ⟨f41, r46, bit47, j45, L42, HS44, h, rfl⟩ K38 hK39
     obtain _ | n40 := n40
     · exact nomatch h
     simp only [num_SqrtMul.l0] at h
     refine wp_seq_k (fun K48 hK49 => ?_)
     refine wp_seq_k fun K50 hK51 => rl ?_
     refine seqL2 kr ?_
     refine nl (hK51 _ _ ?_)
     have hq_ := ite_some h; clear h; rcases hq_ with ⟨c53, h⟩ | ⟨c53, h⟩
     · have c53 : bit47 > 0 := c53
       refine wpRwI 26 kr (decide_eq_true c53) ?_
       refine condT kr ?_
       refine wp_skip ?_
       refine hK49 _ _ ?_
       refine wp_seq_k (fun K54 hK55 => ?_)
       refine blockK (fun B56 hx57 hn58 hr59 ho60 hp61 => ?_)
       refine wp_seq_k fun K63 hK64 => rl ?_
       have hq_ := bind_some h; clear h; obtain ⟨⟨vt65, vt66⟩, hc67, h⟩ := hq_
       refine seqL6 kr ?_
       refine seqK rfl (does_call (f := 64) (args := #[.int .u64 (Go.bits .or .u64 r46 bit47), .int .u64 (Go.bits .or .u64 r46 bit47)]) kr (bits_Mul64.calls k (Go.bits .or .u64 r46 bit47) (Go.bits .or .u64 r46 bit47) HS44 vt65 vt66 hc67) ?_)
       rintro _ W70 ⟨f68, rfl, L69, HS71⟩
       refine ⟨_, rfl, ?_⟩
       refine seqL5 kr ?_
       refine nl (hK64 _ _ ?_)
       refine wp_seq_k fun K72 hK73 => rl ?_
       refine seqL4 kr ?_
       have hq_ := ite_some h; clear h; rcases hq_ with ⟨c74, h⟩ | ⟨c74, h⟩
       · have c74 : vt65 < vt18 := c74
         refine seqRwI 41 kr (decide_eq_true c74) ?_
         refine seqRwI 42 kr (decide_eq_true c74) ?_
         refine seqL9 kr ?_
         refine nl (hK73 _ _ ?_)
         refine condT kr ?_
         refine rl ?_
         refine seqL4 kr ?_
         refine nl ?_
         refine hn58 _ _ ?_
         refine hK55 _ _ ?_
         refine rl ?_
         refine seqL3 kr ?_
         refine nl ?_
         refine hK39 n40 _ _ (Nat.lt_succ_self _) ?_
         exact ⟨f68, (Go.bits .or .u64 r46 bit47), (shr bit47 1), (jL [.int .u64 vt65, .int .u64 vt66, .int .u64 bit47, tV, .int .u64 bit47, .int .u64 (shr bit47 1), .tuple #[.int .u64 vt65, .int .u64 vt66], .int .u64 r46, .int .u64 bit47, .int .u64 (Go.bits .or .u64 r46 bit47), .int .u64 r46, .int .u64 bit47, .int .u64 (Go.bits .or .u64 r46 bit47), .tuple #[.int .u64 vt65, .int .u64 vt66], .int .u64 vt65, .int .u64 vt66, .int .u64 vt65, .int .u64 vt18, tV, tV, uV, uV, uV, uV, uV, uV, uV, uV, tV, .int .u64 r46, .int .u64 bit47, .int .u64 (Go.bits .or .u64 r46 bit47)]), (L42.trans L69), HS71, h, kr⟩
       · have c74 : ¬ (vt65 < vt18) := c74
         refine seqRwI 41 kr (decide_eq_false c74) ?_
         refine seqRwI 42 kr (decide_eq_false c74) ?_
         refine seqL4 kr ?_
         have hq_ := ite_some h; clear h; rcases hq_ with ⟨c75, h⟩ | ⟨c75, h⟩
         · have c75 : vt65 = vt18 := c75
           refine seqRwI 45 kr (beq_iff_eq.mpr c75) ?_
           refine seqRwI 46 kr (beq_iff_eq.mpr c75) ?_
           refine seqL5 kr ?_
           refine nl (hK73 _ _ ?_)
           have hq_ := ite_some h; clear h; rcases hq_ with ⟨c77, h⟩ | ⟨c77, h⟩
           · have c77 : vt66 ≤ vt19 := c77
             refine wpRwI 49 kr (decide_eq_true c77) ?_
             refine wpRwI 50 kr (decide_eq_true c77) ?_
             refine wpRwI 51 kr (decide_eq_true c77) ?_
             refine condT kr ?_
             refine rl ?_
             refine seqL4 kr ?_
             refine nl ?_
             refine hn58 _ _ ?_
             refine hK55 _ _ ?_
             refine rl ?_
             refine seqL3 kr ?_
             refine nl ?_
             refine hK39 n40 _ _ (Nat.lt_succ_self _) ?_
             exact ⟨f68, (Go.bits .or .u64 r46 bit47), (shr bit47 1), (jL [.int .u64 vt65, .int .u64 vt66, .int .u64 bit47, tV, .int .u64 bit47, .int .u64 (shr bit47 1), .tuple #[.int .u64 vt65, .int .u64 vt66], .int .u64 r46, .int .u64 bit47, .int .u64 (Go.bits .or .u64 r46 bit47), .int .u64 r46, .int .u64 bit47, .int .u64 (Go.bits .or .u64 r46 bit47), .tuple #[.int .u64 vt65, .int .u64 vt66], .int .u64 vt65, .int .u64 vt66, .int .u64 vt65, .int .u64 vt18, fV, fV, .int .u64 vt65, .int .u64 vt18, tV, tV, .int .u64 vt66, .int .u64 vt19, tV, tV, tV, .int .u64 r46, .int .u64 bit47, .int .u64 (Go.bits .or .u64 r46 bit47)]), (L42.trans L69), HS71, h, kr⟩
           · have c77 : ¬ (vt66 ≤ vt19) := c77
             refine wpRwI 49 kr (decide_eq_false c77) ?_
             refine wpRwI 50 kr (decide_eq_false c77) ?_
             refine wpRwI 51 kr (decide_eq_false c77) ?_
             refine condF kr ?_
             refine wp_skip ?_
             refine hn58 _ _ ?_
             refine hK55 _ _ ?_
             refine rl ?_
             refine seqL3 kr ?_
             refine nl ?_
             refine hK39 n40 _ _ (Nat.lt_succ_self _) ?_
             exact ⟨f68, r46, (shr bit47 1), (jL [.int .u64 vt65, .int .u64 vt66, .int .u64 bit47, tV, .int .u64 bit47, .int .u64 (shr bit47 1), .tuple #[.int .u64 vt65, .int .u64 vt66], .int .u64 r46, .int .u64 bit47, .int .u64 (Go.bits .or .u64 r46 bit47), .int .u64 r46, .int .u64 bit47, .int .u64 (Go.bits .or .u64 r46 bit47), .tuple #[.int .u64 vt65, .int .u64 vt66], .int .u64 vt65, .int .u64 vt66, .int .u64 vt65, .int .u64 vt18, fV, fV, .int .u64 vt65, .int .u64 vt18, tV, tV, .int .u64 vt66, .int .u64 vt19, fV, fV, fV, (j45 29), (j45 30), (j45 31)]), (L42.trans L69), HS71, h, kr⟩
         · have c75 : ¬ (vt65 = vt18) := c75
           refine seqRwI 45 kr (beq_eq_false_iff_ne.mpr c75) ?_
           refine seqRwI 46 kr (beq_eq_false_iff_ne.mpr c75) ?_
           refine seqL5 kr ?_
           refine nl (hK73 _ _ ?_)
           refine condF kr ?_
           refine wp_skip ?_
           refine hn58 _ _ ?_
           refine hK55 _ _ ?_
           refine rl ?_
           refine seqL3 kr ?_
           refine nl ?_
           refine hK39 n40 _ _ (Nat.lt_succ_self _) ?_
           exact ⟨f68, r46, (shr bit47 1), (jL [.int .u64 vt65, .int .u64 vt66, .int .u64 bit47, tV, .int .u64 bit47, .int .u64 (shr bit47 1), .tuple #[.int .u64 vt65, .int .u64 vt66], .int .u64 r46, .int .u64 bit47, .int .u64 (Go.bits .or .u64 r46 bit47), .int .u64 r46, .int .u64 bit47, .int .u64 (Go.bits .or .u64 r46 bit47), .tuple #[.int .u64 vt65, .int .u64 vt66], .int .u64 vt65, .int .u64 vt66, .int .u64 vt65, .int .u64 vt18, fV, fV, .int .u64 vt65, .int .u64 vt18, fV, fV, uV, uV, uV, fV, fV, (j45 29), (j45 30), (j45 31)]), (L42.trans L69), HS71, h, kr⟩
     · have c53 : ¬ (bit47 > 0) := c53
       refine wpRwI 26 kr (decide_eq_false c53) ?_
       refine condF kr ?_
       refine wp_exit ?_
       refine hx32 _ _ ?_
       exact J85 f41 r46 (jL [.int .u64 bit47, (j45 0), (j45 1), .int .u64 bit47, fV, (j45 4), (j45 5), (j45 6), (j45 7), (j45 8), (j45 9), (j45 10), (j45 11), (j45 12), (j45 13), (j45 14), (j45 15), (j45 16), (j45 17), (j45 18), (j45 19), (j45 20), (j45 21), (j45 22), (j45 23), (j45 24), (j45 25), (j45 26), (j45 27), (j45 28), (j45 29), (j45 30), (j45 31)]) W43 _ L42 h HS44 kr

set_option maxRecDepth 100000 in
set_option maxHeartbeats 4000000 in
theorem num_size.calls (k : Nat)  (a1 : Int) {t w : World} {f : FM} {H : List Seg} (HS : St t w f (H)) (rr1 : Int) (h : num_size k a1 = some rr1) :
    Calls Tryz.prog 65 #[.int .i64 a1] w (fun e w' => ∃ (g : FM), e = .returned (Value.int .u64 rr1) ∧ FM.le f g ∧ St t w' g (H)) := by
 unfold num_size at h
 refine enter Tryz.func65 rfl (tm := #[iV a1, uV, uV, uV, uV, uV, uV, uV, uV, uV]) kr ?_
 intro B hret hnor hnp
 refine wp_seq_k fun K2 hK3 => rl ?_
 refine seqL1 kr ?_
 refine nl (hK3 _ _ ?_)
 refine wp_seq_k (fun K4 hK5 => ?_)
 refine wp_seq_k fun K6 hK7 => rl ?_
 refine seqL2 kr ?_
 refine nl (hK7 _ _ ?_)
 have hq_ := ite_some h; clear h; rcases hq_ with ⟨c9, h⟩ | ⟨c9, h⟩
 · have c9 : a1 < 0 := c9
   refine wpRwI 4 kr (decide_eq_true c9) ?_
   refine condT kr ?_
   refine wp_seq_k fun K10 hK11 => rl ?_
   refine seqL4 kr ?_
   refine nl (hK11 _ _ ?_)
   refine wp_ret ?_
   refine hret _ _ ?_
   refine ends_still (v := Value.int .u64 (u64 (0 - (u64 (a1))))) kr kr ?_
   injection h with h
   subst h
   exact ⟨f, rfl, FM.le.refl _, HS⟩
 · have c9 : ¬ (a1 < 0) := c9
   refine wpRwI 4 kr (decide_eq_false c9) ?_
   refine condF kr ?_
   refine wp_skip ?_
   refine hK5 _ _ ?_
   refine wp_seq_k fun K12 hK13 => rl ?_
   refine seqL3 kr ?_
   refine nl (hK13 _ _ ?_)
   refine wp_ret ?_
   refine hret _ _ ?_
   refine ends_still (v := Value.int .u64 (u64 (a1))) kr kr ?_
   injection h with h
   subst h
   exact ⟨f, rfl, FM.le.refl _, HS⟩

set_option maxRecDepth 100000 in
set_option maxHeartbeats 4000000 in
theorem num_Wide_Neg.calls (k : Nat)  (vw1 : S_Wide) {t w : World} {f : FM} {H : List Seg} (HS : St t w f (H)) (rr1 : S_Wide) (h : num_Wide_Neg k vw1 = some rr1) :
    Calls Tryz.prog 66 #[.agg #[.int .i64 vw1.Hi, .int .u64 vw1.Lo]] w (fun e w' => ∃ (g : FM), e = .returned (Value.agg #[.int .i64 rr1.Hi, .int .u64 rr1.Lo]) ∧ FM.le f g ∧ St t w' g (H)) := by
 unfold num_Wide_Neg at h
 refine enter Tryz.func66 rfl (tm := #[.agg #[iV vw1.Hi, .int .u64 vw1.Lo], uV, uV, uV, uV, uV, uV, uV, uV, uV, uV, uV, uV, uV, uV, uV, uV, uV, uV, uV, uV, uV, uV, uV, uV, uV, uV]) kr ?_
 intro B hret hnor hnp
 refine wp_seq_k fun K2 hK3 => rl ?_
 refine seqK rfl (does_box (cs := #[.int .i64 vw1.Hi, .int .u64 vw1.Lo]) rfl (kv (.agg #[.int .i64 vw1.Hi, .int .u64 vw1.Lo])) rfl HS ?_)
 intro b4 W5 HS6
 refine seqK rfl (does_alloc (z := Value.agg #[.int .i64 0, .int .u64 0]) (cs := #[.int .i64 0, .int .u64 0]) rfl kr rfl HS6 ?_)
 intro b8 W9 HS10
 refine nl (hK3 _ _ ?_)
 refine wp_seq_k fun K12 hK13 => rl ?_
 refine seqL1 kr ?_
 refine seqK rfl (does_run (run_load rfl Tryz.underlying88 rfl (kv (.pointer (some ⟨b4, 1, none⟩))) (HS10.u1.cell 1)) ?_)
 have hq_ := guard_some h; clear h; obtain ⟨c14, h⟩ := hq_
 have c14 : 0 ≤ (Go.bits .xor .u64 IntKind.u64.max vw1.Lo) := c14
 refine seqL1 kr ?_
 refine seqK rfl (does_run (run_add64op (x := Go.bits .xor .u64 IntKind.u64.max vw1.Lo) (y := 1) (c := 0) kr Tryz.func91 kr kr kr kr c14 (by decide) (by decide) (by decide) W9) ?_)
 refine seqL5 kr ?_
 refine nl (hK13 _ _ ?_)
 refine wp_seq_k fun K15 hK16 => rl ?_
 refine seqL1 kr ?_
 refine seqK rfl (does_run (run_load rfl Tryz.underlying2 rfl (kv (.pointer (some ⟨b4, 0, none⟩))) (HS10.u1.cell 0)) ?_)
 have hq_ := guard_some h; clear h; obtain ⟨c17, h⟩ := hq_
 have c17 : 0 ≤ (Go.bits .xor .u64 IntKind.u64.max (u64 (vw1.Hi))) := c17
 have hq_ := guard_some h; clear h; obtain ⟨c18, h⟩ := hq_
 have c18 : 0 ≤ (((Go.bits .xor .u64 IntKind.u64.max vw1.Lo) + 1 + 0) / 18446744073709551616) := c18
 have hq_ := guard_some h; clear h; obtain ⟨c19, h⟩ := hq_
 have c19 : (((Go.bits .xor .u64 IntKind.u64.max vw1.Lo) + 1 + 0) / 18446744073709551616) ≤ 1 := c19
 refine seqL3 kr ?_
 refine seqK rfl (does_run (run_add64op (x := Go.bits .xor .u64 IntKind.u64.max (u64 (vw1.Hi))) (y := 0) (c := ((Go.bits .xor .u64 IntKind.u64.max vw1.Lo) + 1 + 0) / 18446744073709551616) kr Tryz.func91 kr kr kr kr c17 (by decide) c18 c19 W9) ?_)
 refine seqL5 kr ?_
 refine nl (hK16 _ _ ?_)
 refine wp_seq_k fun K20 hK21 => rl ?_
 refine seqL4 kr ?_
 refine seqK rfl (does_storeA (vs := [.int .i64 (w64 (((Go.bits .xor .u64 IntKind.u64.max (u64 (vw1.Hi))) + 0 + (((Go.bits .xor .u64 IntKind.u64.max vw1.Lo) + 1 + 0) / 18446744073709551616)) % 18446744073709551616)), .int .u64 (((Go.bits .xor .u64 IntKind.u64.max vw1.Lo) + 1 + 0) % 18446744073709551616)]) rfl kr kr kr rfl (ones rfl) HS10 kr ?_)
 intro W22 HS23
 refine nl (hK21 _ _ ?_)
 refine wp_ret ?_
 refine hret _ _ ?_
 refine ends (v := Value.agg #[.int .i64 (w64 (((Go.bits .xor .u64 IntKind.u64.max (u64 (vw1.Hi))) + 0 + (((Go.bits .xor .u64 IntKind.u64.max vw1.Lo) + 1 + 0) / 18446744073709551616)) % 18446744073709551616)), .int .u64 (((Go.bits .xor .u64 IntKind.u64.max vw1.Lo) + 1 + 0) % 18446744073709551616)]) (results1 (q1 := .cell 2 90) kr (resN (n := 2) (cs := [.int .i64 (w64 (((Go.bits .xor .u64 IntKind.u64.max (u64 (vw1.Hi))) + 0 + (((Go.bits .xor .u64 IntKind.u64.max vw1.Lo) + 1 + 0) / 18446744073709551616)) % 18446744073709551616)), .int .u64 (((Go.bits .xor .u64 IntKind.u64.max vw1.Lo) + 1 + 0) % 18446744073709551616)]) (kv (.pointer (some ⟨b8, 0, none⟩))) Tryz.underlying90 rfl kr rfl (HS23.cells 0 2 _ rfl))) kr ?_
 have HS24 := HS23.drop
 have HS25 := HS24.drop
 injection h with h
 subst h
 exact ⟨f, rfl, FM.le.refl _, HS25⟩

set_option maxRecDepth 100000 in
set_option maxHeartbeats 4000000 in
theorem num_Product.calls (k : Nat)  (a1 : Int) (b2 : Int) {t w : World} {f : FM} {H : List Seg} (HS : St t w f (H)) (rr1 : S_Wide) (h : num_Product k a1 b2 = some rr1) :
    Calls Tryz.prog 35 #[.int .i64 a1, .int .i64 b2] w (fun e w' => ∃ (g : FM), e = .returned (Value.agg #[.int .i64 rr1.Hi, .int .u64 rr1.Lo]) ∧ FM.le f g ∧ St t w' g (H)) := by
 unfold num_Product at h
 refine enter Tryz.func35 rfl (tm := #[iV a1, iV b2, uV, uV, uV, uV, uV, uV, uV, uV, uV, uV, uV, uV, uV, uV, uV, uV, uV, uV, uV, uV, uV, uV, uV, uV, uV, uV]) kr ?_
 intro B hret hnor hnp
 refine wp_seq_k fun K3 hK4 => rl ?_
 refine seqK rfl (does_alloc (z := Value.agg #[.int .i64 0, .int .u64 0]) (cs := #[.int .i64 0, .int .u64 0]) rfl kr rfl HS ?_)
 intro b5 W6 HS7
 refine nl (hK4 _ _ ?_)
 refine wp_seq_k fun K9 hK10 => rl ?_
 have hq_ := bind_some h; clear h; obtain ⟨vt11, hc12, h⟩ := hq_
 refine seqL1 kr ?_
 refine seqK rfl (does_call (f := 65) (args := #[.int .i64 a1]) kr (num_size.calls k a1 HS7 vt11 hc12) ?_)
 rintro _ W15 ⟨f13, rfl, L14, HS16⟩
 refine ⟨_, rfl, ?_⟩
 have hq_ := bind_some h; clear h; obtain ⟨vt17, hc18, h⟩ := hq_
 refine seqL1 kr ?_
 refine seqK rfl (does_call (f := 65) (args := #[.int .i64 b2]) kr (num_size.calls k b2 HS16 vt17 hc18) ?_)
 rintro _ W21 ⟨f19, rfl, L20, HS22⟩
 refine ⟨_, rfl, ?_⟩
 have hq_ := bind_some h; clear h; obtain ⟨⟨vt23, vt24⟩, hc25, h⟩ := hq_
 refine seqK rfl (does_call (f := 64) (args := #[.int .u64 vt11, .int .u64 vt17]) kr (bits_Mul64.calls k vt11 vt17 HS22 vt23 vt24 hc25) ?_)
 rintro _ W28 ⟨f26, rfl, L27, HS29⟩
 refine ⟨_, rfl, ?_⟩
 refine seqL5 kr ?_
 refine nl (hK10 _ _ ?_)
 refine wp_seq_k fun K30 hK31 => rl ?_
 refine seqL4 kr ?_
 refine seqK rfl (does_alloc (z := Value.agg #[.int .i64 0, .int .u64 0]) (cs := #[.int .i64 0, .int .u64 0]) rfl kr rfl HS29 ?_)
 intro b32 W33 HS34
 refine seqK rfl (does_storeA (vs := [.int .i64 (w64 (vt23)), .int .u64 vt24]) rfl kr kr kr rfl (ones rfl) HS34 kr ?_)
 intro W36 HS37
 refine nl (hK31 _ _ ?_)
 refine wp_seq_k (fun K38 hK39 => ?_)
 refine wp_seq_k fun K40 hK41 => rl ?_
 refine seqL5 kr ?_
 refine nl (hK41 _ _ ?_)
 have hq_ := ite_some h; clear h; rcases hq_ with ⟨c43, h⟩ | ⟨c43, h⟩
 · have c43 : ((decide (a1 < 0)) != (decide (b2 < 0))) = true := c43
   refine wpRwI 24 kr c43 ?_
   refine condT kr ?_
   refine wp_seq_k fun K44 hK45 => rl ?_
   refine seqK rfl (does_run (run_loadN (n := 2) rfl Tryz.underlying90 rfl kr (kv (.pointer (some ⟨b32, 0, none⟩))) (cs := [.int .i64 (w64 (vt23)), .int .u64 vt24]) rfl (HS37.cells 0 2 _ rfl)) ?_)
   have hq_ := bind_some h; clear h; obtain ⟨vt46, hc47, h⟩ := hq_
   refine seqK rfl (does_call (f := 66) (args := #[.agg #[.int .i64 (w64 (vt23)), .int .u64 vt24]]) kr (num_Wide_Neg.calls k (⟨w64 (vt23), vt24⟩ : S_Wide) HS37 vt46 hc47) ?_)
   rintro _ W50 ⟨f48, rfl, L49, HS51⟩
   refine ⟨_, rfl, ?_⟩
   have HS52 := HS51.u1
   refine seqK rfl (does_storeA (vs := [.int .i64 vt46.Hi, .int .u64 vt46.Lo]) rfl kr kr kr rfl (ones rfl) HS52 kr ?_)
   intro W53 HS54
   refine nl (hK45 _ _ ?_)
   refine wp_ret ?_
   refine hret _ _ ?_
   refine ends (v := Value.agg #[.int .i64 vt46.Hi, .int .u64 vt46.Lo]) (results1 (q1 := .cell 4 90) kr (resN (n := 2) (cs := [.int .i64 vt46.Hi, .int .u64 vt46.Lo]) (kv (.pointer (some ⟨b5, 0, none⟩))) Tryz.underlying90 rfl kr rfl (HS54.cells 0 2 _ rfl))) kr ?_
   have HS60 := HS54.drop
   have HS61 := HS60.drop
   injection h with h
   subst h
   exact ⟨f48, rfl, (L14.trans (L20.trans (L27.trans L49))), HS61⟩
 · have c43 : ¬ (((decide (a1 < 0)) != (decide (b2 < 0))) = true) := c43
   refine wpRwI 24 kr (Bool.eq_false_iff.mpr c43) ?_
   refine condF kr ?_
   refine wp_skip ?_
   refine hK39 _ _ ?_
   refine wp_seq_k fun K55 hK56 => rl ?_
   refine seqK rfl (does_run (run_loadN (n := 2) rfl Tryz.underlying90 rfl kr (kv (.pointer (some ⟨b32, 0, none⟩))) (cs := [.int .i64 (w64 (vt23)), .int .u64 vt24]) rfl (HS37.cells 0 2 _ rfl)) ?_)
   have HS57 := HS37.u1
   refine seqK rfl (does_storeA (vs := [.int .i64 (w64 (vt23)), .int .u64 vt24]) rfl kr kr kr rfl (ones rfl) HS57 kr ?_)
   intro W58 HS59
   refine nl (hK56 _ _ ?_)
   refine wp_ret ?_
   refine hret _ _ ?_
   refine ends (v := Value.agg #[.int .i64 (w64 (vt23)), .int .u64 vt24]) (results1 (q1 := .cell 4 90) kr (resN (n := 2) (cs := [.int .i64 (w64 (vt23)), .int .u64 vt24]) (kv (.pointer (some ⟨b5, 0, none⟩))) Tryz.underlying90 rfl kr rfl (HS59.cells 0 2 _ rfl))) kr ?_
   have HS62 := HS59.drop
   have HS63 := HS62.drop
   injection h with h
   subst h
   exact ⟨f26, rfl, (L14.trans (L20.trans L27)), HS63⟩

set_option maxRecDepth 100000 in
set_option maxHeartbeats 4000000 in
theorem cmp_isNaN_int64.calls (k : Nat)  (x1 : Int) {t w : World} {f : FM} {H : List Seg} (HS : St t w f (H)) (rr1 : Bool) (h : cmp_isNaN_int64 k x1 = some rr1) :
    Calls Tryz.prog 92 #[.int .i64 x1] w (fun e w' => ∃ (g : FM), e = .returned (Value.bool rr1) ∧ FM.le f g ∧ St t w' g (H)) := by
 unfold cmp_isNaN_int64 at h
 refine enter Tryz.func92 rfl (tm := #[iV x1, uV, uV, uV, uV, uV]) kr ?_
 intro B hret hnor hnp
 refine wp_seq_k fun K2 hK3 => rl ?_
 refine seqL1 kr ?_
 refine nl (hK3 _ _ ?_)
 refine wp_seq_k fun K4 hK5 => rl ?_
 refine seqL4 kr ?_
 refine nl (hK5 _ _ ?_)
 refine wp_ret ?_
 refine hret _ _ ?_
 refine ends_still (v := Value.bool (x1 != x1)) kr kr ?_
 injection h with h
 subst h
 exact ⟨f, rfl, FM.le.refl _, HS⟩

set_option maxRecDepth 100000 in
set_option maxHeartbeats 4000000 in
theorem cmp_Compare_int64.calls (k : Nat)  (x1 : Int) (y2 : Int) {t w : World} {f : FM} {H : List Seg} (HS : St t w f (H)) (rr1 : Int) (h : cmp_Compare_int64 k x1 y2 = some rr1) :
    Calls Tryz.prog 67 #[.int .i64 x1, .int .i64 y2] w (fun e w' => ∃ (g : FM), e = .returned (Value.int .i64 rr1) ∧ FM.le f g ∧ St t w' g (H)) := by
 unfold cmp_Compare_int64 at h
 refine enter Tryz.func67 rfl (tm := #[iV x1, iV y2, uV, uV, uV, uV, uV, uV, uV, uV, uV, uV, uV, uV, uV, uV, uV, uV, uV, uV]) kr ?_
 intro B hret hnor hnp
 refine wp_seq_k fun K3 hK4 => rl ?_
 refine seqL1 kr ?_
 refine nl (hK4 _ _ ?_)
 refine wp_seq_k fun K5 hK6 => rl ?_
 have hq_ := bind_some h; clear h; obtain ⟨vt7, hc8, h⟩ := hq_
 refine seqL1 kr ?_
 refine seqK rfl (does_call (f := 92) (args := #[.int .i64 x1]) kr (cmp_isNaN_int64.calls k x1 HS vt7 hc8) ?_)
 rintro _ W11 ⟨f9, rfl, L10, HS12⟩
 refine ⟨_, rfl, ?_⟩
 refine seqL1 kr ?_
 refine nl (hK6 _ _ ?_)
 refine wp_seq_k fun K13 hK14 => rl ?_
 have hq_ := bind_some h; clear h; obtain ⟨vt15, hc16, h⟩ := hq_
 refine seqL1 kr ?_
 refine seqK rfl (does_call (f := 92) (args := #[.int .i64 y2]) kr (cmp_isNaN_int64.calls k y2 HS12 vt15 hc16) ?_)
 rintro _ W19 ⟨f17, rfl, L18, HS20⟩
 refine ⟨_, rfl, ?_⟩
 refine seqL1 kr ?_
 refine nl (hK14 _ _ ?_)
 refine wp_seq_k (fun K21 hK22 => ?_)
 refine wp_seq_k fun K23 hK24 => rl ?_
 refine seqL1 kr ?_
 refine nl (hK24 _ _ ?_)
 have hq_ := ite_some h; clear h; rcases hq_ with ⟨c26, h⟩ | ⟨c26, h⟩
 · have c26 : vt7 = true := c26
   refine wpRwI 5 kr c26 ?_
   refine wpRwI 8 kr c26 ?_
   refine wpRwI 11 kr c26 ?_
   refine condT kr ?_
   refine wp_seq_k (fun K27 hK28 => ?_)
   refine wp_seq_k fun K29 hK30 => rl ?_
   refine seqL1 kr ?_
   refine nl (hK30 _ _ ?_)
   have hq_ := ite_some h; clear h; rcases hq_ with ⟨c32, h⟩ | ⟨c32, h⟩
   · have c32 : vt15 = true := c32
     refine wpRwI 6 kr c32 ?_
     refine wpRwI 10 kr c32 ?_
     refine wpRwI 12 kr c32 ?_
     refine condT kr ?_
     refine wp_seq_k fun K33 hK34 => rl ?_
     refine seqL1 kr ?_
     refine nl (hK34 _ _ ?_)
     refine wp_ret ?_
     refine hret _ _ ?_
     refine ends_still (v := Value.int .i64 0) kr kr ?_
     injection h with h
     subst h
     exact ⟨f17, rfl, (L10.trans L18), HS20⟩
   · have c32 : ¬ (vt15 = true) := c32
     refine wpRwI 6 kr (Bool.eq_false_iff.mpr c32) ?_
     refine wpRwI 10 kr (Bool.eq_false_iff.mpr c32) ?_
     refine wpRwI 12 kr (Bool.eq_false_iff.mpr c32) ?_
     refine condF kr ?_
     refine wp_skip ?_
     refine hK28 _ _ ?_
     refine wp_seq_k fun K35 hK36 => rl ?_
     refine seqL1 kr ?_
     refine nl (hK36 _ _ ?_)
     refine wp_ret ?_
     refine hret _ _ ?_
     refine ends_still (v := Value.int .i64 (-1)) kr kr ?_
     injection h with h
     subst h
     exact ⟨f17, rfl, (L10.trans L18), HS20⟩
 · have c26 : ¬ (vt7 = true) := c26
   refine wpRwI 5 kr (Bool.eq_false_iff.mpr c26) ?_
   refine wpRwI 8 kr (Bool.eq_false_iff.mpr c26) ?_
   refine wpRwI 11 kr (Bool.eq_false_iff.mpr c26) ?_
   refine condF kr ?_
   refine wp_skip ?_
   refine hK22 _ _ ?_
   refine wp_seq_k (fun K37 hK38 => ?_)
   refine wp_seq_k fun K39 hK40 => rl ?_
   refine seqL1 kr ?_
   refine nl (hK40 _ _ ?_)
   have hq_ := ite_some h; clear h; rcases hq_ with ⟨c42, h⟩ | ⟨c42, h⟩
   · have c42 : vt15 = true := c42
     refine wpRwI 6 kr c42 ?_
     refine wpRwI 10 kr c42 ?_
     refine wpRwI 13 kr c42 ?_
     refine condT kr ?_
     refine wp_seq_k fun K43 hK44 => rl ?_
     refine seqL1 kr ?_
     refine nl (hK44 _ _ ?_)
     refine wp_ret ?_
     refine hret _ _ ?_
     refine ends_still (v := Value.int .i64 1) kr kr ?_
     injection h with h
     subst h
     exact ⟨f17, rfl, (L10.trans L18), HS20⟩
   · have c42 : ¬ (vt15 = true) := c42
     refine wpRwI 6 kr (Bool.eq_false_iff.mpr c42) ?_
     refine wpRwI 10 kr (Bool.eq_false_iff.mpr c42) ?_
     refine wpRwI 13 kr (Bool.eq_false_iff.mpr c42) ?_
     refine condF kr ?_
     refine wp_skip ?_
     refine hK38 _ _ ?_
     refine wp_seq_k (fun K45 hK46 => ?_)
     refine wp_seq_k fun K47 hK48 => rl ?_
     refine seqL3 kr ?_
     refine nl (hK48 _ _ ?_)
     have hq_ := ite_some h; clear h; rcases hq_ with ⟨c50, h⟩ | ⟨c50, h⟩
     · have c50 : x1 < y2 := c50
       refine wpRwI 16 kr (decide_eq_true c50) ?_
       refine condT kr ?_
       refine wp_seq_k fun K51 hK52 => rl ?_
       refine seqL1 kr ?_
       refine nl (hK52 _ _ ?_)
       refine wp_ret ?_
       refine hret _ _ ?_
       refine ends_still (v := Value.int .i64 (-1)) kr kr ?_
       injection h with h
       subst h
       exact ⟨f17, rfl, (L10.trans L18), HS20⟩
     · have c50 : ¬ (x1 < y2) := c50
       refine wpRwI 16 kr (decide_eq_false c50) ?_
       refine condF kr ?_
       refine wp_skip ?_
       refine hK46 _ _ ?_
       refine wp_seq_k (fun K53 hK54 => ?_)
       refine wp_seq_k fun K55 hK56 => rl ?_
       refine seqL3 kr ?_
       refine nl (hK56 _ _ ?_)
       have hq_ := ite_some h; clear h; rcases hq_ with ⟨c58, h⟩ | ⟨c58, h⟩
       · have c58 : x1 > y2 := c58
         refine wpRwI 19 kr (decide_eq_true c58) ?_
         refine condT kr ?_
         refine wp_seq_k fun K59 hK60 => rl ?_
         refine seqL1 kr ?_
         refine nl (hK60 _ _ ?_)
         refine wp_ret ?_
         refine hret _ _ ?_
         refine ends_still (v := Value.int .i64 1) kr kr ?_
         injection h with h
         subst h
         exact ⟨f17, rfl, (L10.trans L18), HS20⟩
       · have c58 : ¬ (x1 > y2) := c58
         refine wpRwI 19 kr (decide_eq_false c58) ?_
         refine condF kr ?_
         refine wp_skip ?_
         refine hK54 _ _ ?_
         refine wp_seq_k fun K61 hK62 => rl ?_
         refine seqL1 kr ?_
         refine nl (hK62 _ _ ?_)
         refine wp_ret ?_
         refine hret _ _ ?_
         refine ends_still (v := Value.int .i64 0) kr kr ?_
         injection h with h
         subst h
         exact ⟨f17, rfl, (L10.trans L18), HS20⟩

set_option maxRecDepth 100000 in
set_option maxHeartbeats 4000000 in
theorem cmp_isNaN_uint64.calls (k : Nat)  (x1 : Int) {t w : World} {f : FM} {H : List Seg} (HS : St t w f (H)) (rr1 : Bool) (h : cmp_isNaN_uint64 k x1 = some rr1) :
    Calls Tryz.prog 93 #[.int .u64 x1] w (fun e w' => ∃ (g : FM), e = .returned (Value.bool rr1) ∧ FM.le f g ∧ St t w' g (H)) := by
 unfold cmp_isNaN_uint64 at h
 refine enter Tryz.func93 rfl (tm := #[.int .u64 x1, uV, uV, uV, uV, uV]) kr ?_
 intro B hret hnor hnp
 refine wp_seq_k fun K2 hK3 => rl ?_
 refine seqL1 kr ?_
 refine nl (hK3 _ _ ?_)
 refine wp_seq_k fun K4 hK5 => rl ?_
 refine seqL4 kr ?_
 refine nl (hK5 _ _ ?_)
 refine wp_ret ?_
 refine hret _ _ ?_
 refine ends_still (v := Value.bool (x1 != x1)) kr kr ?_
 injection h with h
 subst h
 exact ⟨f, rfl, FM.le.refl _, HS⟩

set_option maxRecDepth 100000 in
set_option maxHeartbeats 4000000 in
theorem cmp_Compare_uint64.calls (k : Nat)  (x1 : Int) (y2 : Int) {t w : World} {f : FM} {H : List Seg} (HS : St t w f (H)) (rr1 : Int) (h : cmp_Compare_uint64 k x1 y2 = some rr1) :
    Calls Tryz.prog 68 #[.int .u64 x1, .int .u64 y2] w (fun e w' => ∃ (g : FM), e = .returned (Value.int .i64 rr1) ∧ FM.le f g ∧ St t w' g (H)) := by
 unfold cmp_Compare_uint64 at h
 refine enter Tryz.func68 rfl (tm := #[.int .u64 x1, .int .u64 y2, uV, uV, uV, uV, uV, uV, uV, uV, uV, uV, uV, uV, uV, uV, uV, uV, uV, uV]) kr ?_
 intro B hret hnor hnp
 refine wp_seq_k fun K3 hK4 => rl ?_
 refine seqL1 kr ?_
 refine nl (hK4 _ _ ?_)
 refine wp_seq_k fun K5 hK6 => rl ?_
 have hq_ := bind_some h; clear h; obtain ⟨vt7, hc8, h⟩ := hq_
 refine seqL1 kr ?_
 refine seqK rfl (does_call (f := 93) (args := #[.int .u64 x1]) kr (cmp_isNaN_uint64.calls k x1 HS vt7 hc8) ?_)
 rintro _ W11 ⟨f9, rfl, L10, HS12⟩
 refine ⟨_, rfl, ?_⟩
 refine seqL1 kr ?_
 refine nl (hK6 _ _ ?_)
 refine wp_seq_k fun K13 hK14 => rl ?_
 have hq_ := bind_some h; clear h; obtain ⟨vt15, hc16, h⟩ := hq_
 refine seqL1 kr ?_
 refine seqK rfl (does_call (f := 93) (args := #[.int .u64 y2]) kr (cmp_isNaN_uint64.calls k y2 HS12 vt15 hc16) ?_)
 rintro _ W19 ⟨f17, rfl, L18, HS20⟩
 refine ⟨_, rfl, ?_⟩
 refine seqL1 kr ?_
 refine nl (hK14 _ _ ?_)
 refine wp_seq_k (fun K21 hK22 => ?_)
 refine wp_seq_k fun K23 hK24 => rl ?_
 refine seqL1 kr ?_
 refine nl (hK24 _ _ ?_)
 have hq_ := ite_some h; clear h; rcases hq_ with ⟨c26, h⟩ | ⟨c26, h⟩
 · have c26 : vt7 = true := c26
   refine wpRwI 5 kr c26 ?_
   refine wpRwI 8 kr c26 ?_
   refine wpRwI 11 kr c26 ?_
   refine condT kr ?_
   refine wp_seq_k (fun K27 hK28 => ?_)
   refine wp_seq_k fun K29 hK30 => rl ?_
   refine seqL1 kr ?_
   refine nl (hK30 _ _ ?_)
   have hq_ := ite_some h; clear h; rcases hq_ with ⟨c32, h⟩ | ⟨c32, h⟩
   · have c32 : vt15 = true := c32
     refine wpRwI 6 kr c32 ?_
     refine wpRwI 10 kr c32 ?_
     refine wpRwI 12 kr c32 ?_
     refine condT kr ?_
     refine wp_seq_k fun K33 hK34 => rl ?_
     refine seqL1 kr ?_
     refine nl (hK34 _ _ ?_)
     refine wp_ret ?_
     refine hret _ _ ?_
     refine ends_still (v := Value.int .i64 0) kr kr ?_
     injection h with h
     subst h
     exact ⟨f17, rfl, (L10.trans L18), HS20⟩
   · have c32 : ¬ (vt15 = true) := c32
     refine wpRwI 6 kr (Bool.eq_false_iff.mpr c32) ?_
     refine wpRwI 10 kr (Bool.eq_false_iff.mpr c32) ?_
     refine wpRwI 12 kr (Bool.eq_false_iff.mpr c32) ?_
     refine condF kr ?_
     refine wp_skip ?_
     refine hK28 _ _ ?_
     refine wp_seq_k fun K35 hK36 => rl ?_
     refine seqL1 kr ?_
     refine nl (hK36 _ _ ?_)
     refine wp_ret ?_
     refine hret _ _ ?_
     refine ends_still (v := Value.int .i64 (-1)) kr kr ?_
     injection h with h
     subst h
     exact ⟨f17, rfl, (L10.trans L18), HS20⟩
 · have c26 : ¬ (vt7 = true) := c26
   refine wpRwI 5 kr (Bool.eq_false_iff.mpr c26) ?_
   refine wpRwI 8 kr (Bool.eq_false_iff.mpr c26) ?_
   refine wpRwI 11 kr (Bool.eq_false_iff.mpr c26) ?_
   refine condF kr ?_
   refine wp_skip ?_
   refine hK22 _ _ ?_
   refine wp_seq_k (fun K37 hK38 => ?_)
   refine wp_seq_k fun K39 hK40 => rl ?_
   refine seqL1 kr ?_
   refine nl (hK40 _ _ ?_)
   have hq_ := ite_some h; clear h; rcases hq_ with ⟨c42, h⟩ | ⟨c42, h⟩
   · have c42 : vt15 = true := c42
     refine wpRwI 6 kr c42 ?_
     refine wpRwI 10 kr c42 ?_
     refine wpRwI 13 kr c42 ?_
     refine condT kr ?_
     refine wp_seq_k fun K43 hK44 => rl ?_
     refine seqL1 kr ?_
     refine nl (hK44 _ _ ?_)
     refine wp_ret ?_
     refine hret _ _ ?_
     refine ends_still (v := Value.int .i64 1) kr kr ?_
     injection h with h
     subst h
     exact ⟨f17, rfl, (L10.trans L18), HS20⟩
   · have c42 : ¬ (vt15 = true) := c42
     refine wpRwI 6 kr (Bool.eq_false_iff.mpr c42) ?_
     refine wpRwI 10 kr (Bool.eq_false_iff.mpr c42) ?_
     refine wpRwI 13 kr (Bool.eq_false_iff.mpr c42) ?_
     refine condF kr ?_
     refine wp_skip ?_
     refine hK38 _ _ ?_
     refine wp_seq_k (fun K45 hK46 => ?_)
     refine wp_seq_k fun K47 hK48 => rl ?_
     refine seqL3 kr ?_
     refine nl (hK48 _ _ ?_)
     have hq_ := ite_some h; clear h; rcases hq_ with ⟨c50, h⟩ | ⟨c50, h⟩
     · have c50 : x1 < y2 := c50
       refine wpRwI 16 kr (decide_eq_true c50) ?_
       refine condT kr ?_
       refine wp_seq_k fun K51 hK52 => rl ?_
       refine seqL1 kr ?_
       refine nl (hK52 _ _ ?_)
       refine wp_ret ?_
       refine hret _ _ ?_
       refine ends_still (v := Value.int .i64 (-1)) kr kr ?_
       injection h with h
       subst h
       exact ⟨f17, rfl, (L10.trans L18), HS20⟩
     · have c50 : ¬ (x1 < y2) := c50
       refine wpRwI 16 kr (decide_eq_false c50) ?_
       refine condF kr ?_
       refine wp_skip ?_
       refine hK46 _ _ ?_
       refine wp_seq_k (fun K53 hK54 => ?_)
       refine wp_seq_k fun K55 hK56 => rl ?_
       refine seqL3 kr ?_
       refine nl (hK56 _ _ ?_)
       have hq_ := ite_some h; clear h; rcases hq_ with ⟨c58, h⟩ | ⟨c58, h⟩
       · have c58 : x1 > y2 := c58
         refine wpRwI 19 kr (decide_eq_true c58) ?_
         refine condT kr ?_
         refine wp_seq_k fun K59 hK60 => rl ?_
         refine seqL1 kr ?_
         refine nl (hK60 _ _ ?_)
         refine wp_ret ?_
         refine hret _ _ ?_
         refine ends_still (v := Value.int .i64 1) kr kr ?_
         injection h with h
         subst h
         exact ⟨f17, rfl, (L10.trans L18), HS20⟩
       · have c58 : ¬ (x1 > y2) := c58
         refine wpRwI 19 kr (decide_eq_false c58) ?_
         refine condF kr ?_
         refine wp_skip ?_
         refine hK54 _ _ ?_
         refine wp_seq_k fun K61 hK62 => rl ?_
         refine seqL1 kr ?_
         refine nl (hK62 _ _ ?_)
         refine wp_ret ?_
         refine hret _ _ ?_
         refine ends_still (v := Value.int .i64 0) kr kr ?_
         injection h with h
         subst h
         exact ⟨f17, rfl, (L10.trans L18), HS20⟩

set_option maxRecDepth 100000 in
set_option maxHeartbeats 4000000 in
theorem cmp_Or_int.calls (k : Nat) (A2 : Option Addr) (c3 : Nat) (vals1 : List Int) {t w : World} {f : FM} {H : List Seg} (HS : St t w f (H)) (HR4 : SlR (tInt .i64) f A2 c3 vals1) (rr1 : Int) (h : cmp_Or_int k vals1 = some rr1) :
    Calls Tryz.prog 62 #[.slice A2 vals1.length c3] w (fun e w' => ∃ (g : FM), e = .returned (Value.int .i64 rr1) ∧ FM.le f g ∧ St t w' g (H)) := by
 unfold cmp_Or_int at h
 refine enter Tryz.func62 rfl (tm := #[.slice A2 vals1.length c3, uV, uV, uV, uV, uV, uV, uV, uV, uV, uV, uV, uV, uV, uV, uV, uV, uV]) kr ?_
 intro B hret hnor hnp
 refine wp_seq_k fun K5 hK6 => rl ?_
 refine seqL1 kr ?_
 refine nl (hK6 _ _ ?_)
 refine wp_seq_k fun K7 hK8 => rl ?_
 refine seqL1 kr ?_
 refine nl (hK8 _ _ ?_)
 refine wp_seq_k (fun K9 hK10 => ?_)
 refine wp_seq_k fun K11 hK12 => rl ?_
 refine seqL3 kr ?_
 refine nl (hK12 _ _ ?_)
 refine blockK (fun B13 hx14 hn15 hr16 ho17 hp18 => ?_)
 have hq_ := bind_some h; clear h; obtain ⟨o19, hv64, h⟩ := hq_
 have JR66 : ∀ z_, some (Sum.inl z_) = some o19 → some z_ = some rr1 := by
  intro z_ e_; injection e_ with e_; subst e_; exact h
 have J65 : ∀ (f59 : FM) (j63 : Nat → Value) (W61 : World) (a_ : Act), FM.le f f59 → some (Sum.inr ()) = some o19 → St t W61 f59 (H) → a_ = ⟨#[.slice A2 vals1.length c3, uV, (j63 0), iV 0, uV, (j63 1), .slice A2 vals1.length c3, iV (vals1.length : Int), (j63 2), (j63 3), (j63 4), (j63 5), (j63 6), (j63 7), (j63 8), (j63 9), (j63 10), uV], []⟩ → K9 a_ W61 := by
  intro f59 j63 W61 a_ L60 hj67 HS62  hfr_; subst hfr_
  injection hj67 with hj67; subst hj67; try dsimp only at h
  simp only [Sum.elim_inr] at h
  refine hK10 _ _ ?_
  refine wp_seq_k fun K68 hK69 => rl ?_
  refine seqL2 kr ?_
  refine nl (hK69 _ _ ?_)
  refine wp_ret ?_
  refine hret _ _ ?_
  refine ends_still (v := Value.int .i64 0) kr kr ?_
  injection h with h
  subst h
  exact ⟨f59, rfl, L60, HS62⟩
 clear h; have h := hv64; clear hv64
 refine loopK (fun n_ a_ w_ => ∃ (f23 : FM) (x28 : Int) (j27 : Nat → Value), FM.le f f23 ∧ St t w_ f23 (H) ∧ cmp_Or_int.l0 k vals1 n_ x28 = some o19 ∧ a_ = ⟨#[.slice A2 vals1.length c3, uV, (j27 0), iV 0, uV, (j27 1), .slice A2 vals1.length c3, iV (vals1.length : Int), iV x28, (j27 2), (j27 3), (j27 4), (j27 5), (j27 6), (j27 7), (j27 8), (j27 9), uV], []⟩) k ⟨f, 0, (jL [iV 0]), fL, HS, h, kr⟩ ?_
 clear h
 rintro n22 _ W25 ⟨f23, x28, j27, L24, HS26, h, rfl⟩ K20 hK21
 obtain _ | n22 := n22
 · exact nomatch h
 simp only [cmp_Or_int.l0] at h
 refine wp_seq_k fun K29 hK30 => rl ?_
 refine seqL1 kr ?_
 refine nl (hK30 _ _ ?_)
 refine wp_seq_k (fun K31 hK32 => ?_)
 have hq_ := ite_some h; clear h; rcases hq_ with ⟨c34, h⟩ | ⟨c34, h⟩
 · have c34 : x28 < (vals1.length : Int) := c34
   refine wpRwI 9 kr (decide_eq_true c34) ?_
   refine condT kr ?_
   refine wp_skip ?_
   refine hK32 _ _ ?_
   refine wp_seq_k (fun K35 hK36 => ?_)
   refine blockK (fun B37 hx38 hn39 hr40 ho41 hp42 => ?_)
   refine wp_seq_k fun K44 hK45 => rl ?_
   have hq_ := guard_some h; clear h; obtain ⟨c46, h⟩ := hq_
   have c46 : 0 ≤ x28 := c46
   obtain ⟨b50, of51, cs47, hA52, hr48, hc49⟩ := (HR4.mono L24).at (i := x28) c46 c34
   obtain rfl := hr48
   refine seqK rfl (does_run (run_indexE hA52 (sz := 1) rfl Tryz.underlying22 kr (kv (.slice A2 vals1.length c3)) (kv (.int .i64 x28)) c46 c34 W25) ?_)
   refine seqK rfl (does_run (run_load rfl Tryz.underlying3 rfl (kv (.pointer (some ⟨b50, of51 + (x28 : Int).toNat * 1, none⟩))) ((hc49 fL HS26) 0 (by decide))) ?_)
   refine seqL1 kr ?_
   refine nl (hK45 _ _ ?_)
   refine wp_seq_k fun K53 hK54 => rl ?_
   refine seqL3 kr ?_
   refine nl (hK54 _ _ ?_)
   have hq_ := ite_some h; clear h; rcases hq_ with ⟨c56, h⟩ | ⟨c56, h⟩
   · have c56 : (rd vals1 x28) ≠ 0 := c56
     refine wpRwI 14 kr (bne_iff_ne.mpr c56) ?_
     refine condT kr ?_
     refine wp_seq_k fun K57 hK58 => rl ?_
     refine seqL2 kr ?_
     refine nl (hK58 _ _ ?_)
     refine wp_ret ?_
     refine hr40 _ _ ?_
     refine hr16 _ _ ?_
     refine hret _ _ ?_
     refine ends_still (v := Value.int .i64 (rd vals1 x28)) kr kr ?_
     replace h := JR66 _ h
     injection h with h
     subst h
     exact ⟨f23, rfl, L24, HS26⟩
   · have c56 : ¬ ((rd vals1 x28) ≠ 0) := c56
     refine wpRwI 14 (x := ((rd vals1 x28) != 0)) (v := false) kr (bne_eq_false_iff_eq.mpr (Decidable.of_not_not c56)) ?_
     refine condF kr ?_
     refine wp_skip ?_
     refine hn39 _ _ ?_
     refine hK36 _ _ ?_
     refine rl ?_
     refine seqL2 kr ?_
     refine nl ?_
     refine hK21 n22 _ _ (Nat.lt_succ_self _) ?_
     exact ⟨f23, (w64 (x28 + 1)), (jL [(j27 0), iV (rd vals1 x28), tV, .pointer (some ⟨b50, of51 + (x28 : Int).toNat * 1, none⟩), iV (rd vals1 x28), iV (rd vals1 x28), iV 0, fV, (j27 8), iV (w64 (x28 + 1))]), L24, HS26, h, kr⟩
 · have c34 : ¬ (x28 < (vals1.length : Int)) := c34
   refine wpRwI 9 kr (decide_eq_false c34) ?_
   refine condF kr ?_
   refine wp_exit ?_
   refine hx14 _ _ ?_
   exact J65 f23 (jL [(j27 0), (j27 1), iV x28, fV, (j27 3), (j27 4), (j27 5), (j27 6), (j27 7), (j27 8), (j27 9)]) W25 _ L24 h HS26 kr

set_option maxRecDepth 100000 in
set_option maxHeartbeats 4000000 in
theorem num_Wide_Cmp.calls (k : Nat)  (vw1 : S_Wide) (v2 : S_Wide) {t w : World} {f : FM} {H : List Seg} (HS : St t w f (H)) (rr1 : Int) (h : num_Wide_Cmp k vw1 v2 = some rr1) :
    Calls Tryz.prog 36 #[.agg #[.int .i64 vw1.Hi, .int .u64 vw1.Lo], .agg #[.int .i64 v2.Hi, .int .u64 v2.Lo]] w (fun e w' => ∃ (g : FM), e = .returned (Value.int .i64 rr1) ∧ FM.le f g ∧ St t w' g (H)) := by
 unfold num_Wide_Cmp at h
 refine enter Tryz.func36 rfl (tm := #[.agg #[iV vw1.Hi, .int .u64 vw1.Lo], .agg #[iV v2.Hi, .int .u64 v2.Lo], uV, uV, uV, uV, uV, uV, uV, uV, uV, uV, uV, uV, uV, uV, uV]) kr ?_
 intro B hret hnor hnp
 refine wp_seq_k fun K3 hK4 => rl ?_
 refine seqK rfl (does_box (cs := #[.int .i64 vw1.Hi, .int .u64 vw1.Lo]) rfl (kv (.agg #[.int .i64 vw1.Hi, .int .u64 vw1.Lo])) rfl HS ?_)
 intro b5 W6 HS7
 refine seqK rfl (does_box (cs := #[.int .i64 v2.Hi, .int .u64 v2.Lo]) rfl (kv (.agg #[.int .i64 v2.Hi, .int .u64 v2.Lo])) rfl HS7 ?_)
 intro b9 W10 HS11
 refine seqL1 kr ?_
 refine nl (hK4 _ _ ?_)
 refine wp_seq_k (fun K13 hK14 => ?_)
 refine heldG (S := Sg t f ([(b9, .cells #[.int .i64 v2.Hi, .int .u64 v2.Lo] 90 (0, 0))] :: [(b5, .cells #[.int .i64 vw1.Hi, .int .u64 vw1.Lo] 90 (0, 0))] :: H) []) (n := 13) kr rfl HS11 ?_
 intro W15 HS16
 refine takeGL [0] (n := 13) (fuel := 12) #[true, false, false, false, false, false, false, false, false, false, false, false, false] rfl kr kr kr hnp (Sg.g0 (Sx.of [] fL HS16)) ?_
 refine takeGQ 1 [] rfl kr kr kr kr kr kr hnp (Sg.g0 (Sx.of [] fL HS16)) (fun w_ hw_ => by obtain ⟨g_, hl_, hS_⟩ := hw_.st; exact run_load rfl Tryz.underlying2 rfl (kv (.pointer (some ⟨b5, 0, none⟩))) (hS_.u1.cell 0)) ?_
 refine takeGL [2] (n := 11) (fuel := 10) #[true, true, true, false, false, false, false, false, false, false, false, false, false] rfl kr kr kr hnp (Sg.g0 (Sx.of [] fL HS16)) ?_
 refine takeGQ 3 [] rfl kr kr kr kr kr kr hnp (Sg.g0 (Sx.of [] fL HS16)) (fun w_ hw_ => by obtain ⟨g_, hl_, hS_⟩ := hw_.st; exact run_load rfl Tryz.underlying2 rfl (kv (.pointer (some ⟨b9, 0, none⟩))) (hS_.cell 0)) ?_
 refine takeGL [5] (n := 9) (fuel := 8) #[true, true, true, true, false, true, false, false, false, false, false, false, false] rfl kr kr kr hnp (Sg.g0 (Sx.of [] fL HS16)) ?_
 refine takeGQ 6 [] rfl kr kr kr kr kr kr hnp (Sg.g0 (Sx.of [] fL HS16)) (fun w_ hw_ => by obtain ⟨g_, hl_, hS_⟩ := hw_.st; exact run_load rfl Tryz.underlying88 rfl (kv (.pointer (some ⟨b5, 1, none⟩))) (hS_.u1.cell 1)) ?_
 refine takeGL [7] (n := 7) (fuel := 6) #[true, true, true, true, false, true, true, true, false, false, false, false, false] rfl kr kr kr hnp (Sg.g0 (Sx.of [] fL HS16)) ?_
 refine takeGQ 8 [] rfl kr kr kr kr kr kr hnp (Sg.g0 (Sx.of [] fL HS16)) (fun w_ hw_ => by obtain ⟨g_, hl_, hS_⟩ := hw_.st; exact run_load rfl Tryz.underlying88 rfl (kv (.pointer (some ⟨b9, 1, none⟩))) (hS_.cell 1)) ?_
 have hq_ := bind_some h; clear h; obtain ⟨vt17, hc18, h⟩ := hq_
 refine takeGE 4 kr rfl kr (does_call (f := 67) (args := #[.int .i64 vw1.Hi, .int .i64 v2.Hi]) kr (cmp_Compare_int64.calls k vw1.Hi v2.Hi HS16 vt17 hc18) ?_)
 rintro _ W21 ⟨f19, rfl, L20, HS22⟩
 refine ⟨_, rfl, ?_⟩
 refine ⟨(Sg.g0 (Sx.of [] L20 HS22)), ?_⟩
 have hq_ := bind_some h; clear h; obtain ⟨vt23, hc24, h⟩ := hq_
 refine takeGE 9 kr rfl kr (does_call (f := 68) (args := #[.int .u64 vw1.Lo, .int .u64 v2.Lo]) kr (cmp_Compare_uint64.calls k vw1.Lo v2.Lo HS22 vt23 hc24) ?_)
 rintro _ W27 ⟨f25, rfl, L26, HS28⟩
 refine ⟨_, rfl, ?_⟩
 refine ⟨(Sg.g0 (Sx.of [] (L20.trans L26) HS28)), ?_⟩
 refine takeGE 10 kr rfl kr (does_lit (e := (tInt .i64)) (E := 3) (vs := #[(0, Value.int .i64 vt17), (1, Value.int .i64 vt23)]) (cs := #[.int .i64 vt17, .int .i64 vt23]) (xs := ([vt17, vt23] : List Int)) rfl Tryz.underlying22 kr kr ⟨[.int .i64 vt17], _, rfl, rfl, ⟨[.int .i64 vt23], _, rfl, rfl, rfl⟩⟩ rfl HS28 ?_ (by decide))
 intro b29 W30 s31 HS32 _ HO33
 refine ⟨(Sg.g0 (Sx.of [s31] (L20.trans L26) HS32)), ?_⟩
 obtain ⟨f35, L36, HS37, HR38, th39⟩ := HO33.lend HS32
 have hq_ := bind_some h; clear h; obtain ⟨vt40, hc41, h⟩ := hq_
 refine takeGE 11 kr rfl kr (does_call (f := 62) (args := #[.slice (some ⟨b29, 0, none⟩) ([vt17, vt23] : List Int).length 2]) kr (cmp_Or_int.calls k (some ⟨b29, 0, none⟩) 2 ([vt17, vt23] : List Int) HS37 HR38 vt40 hc41) ?_)
 rintro _ W44 ⟨f42, rfl, L43, HS45⟩
 refine ⟨_, rfl, ?_⟩
 obtain ⟨f46, L47, HS48⟩ := th39 L43 HS45
 refine ⟨(Sg.g0 (Sx.of [s31] (L20.trans (L26.trans L47)) HS48)), ?_⟩
 refine takeGL [12] (n := 1) (fuel := 0) #[true, true, true, true, true, true, true, true, true, true, true, true, true] rfl kr kr kr hnp (Sg.g0 (Sx.of [s31] (L20.trans (L26.trans L47)) HS48)) ?_
 refine doneG kr ?_ _
 refine hK14 _ _ ?_
 refine wp_ret ?_
 refine hret _ _ ?_
 refine ends_still (v := Value.int .i64 vt40) kr kr ?_
 have HS49 := HS48.drop
 have HS50 := HS49.drop
 have HS51 := HS50.drop
 injection h with h
 subst h
 exact ⟨f46, rfl, (L20.trans (L26.trans L47)), HS51⟩

end Go.Sp.J7
