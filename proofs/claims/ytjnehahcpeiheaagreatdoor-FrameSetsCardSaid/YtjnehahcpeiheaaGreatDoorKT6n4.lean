import Derived.Test.YtjnehahcpeiheaaGreatDoorProg
import Derived.Test.YtjnehahcpeiheaaGreatDoorSpCopy
import Derived.Test.YtjnehahcpeiheaaGreatDoorFT6
import Derived.Test.YtjnehahcpeiheaaGreatDoorSpStr
import Derived.Test.YtjnehahcpeiheaaGreatDoorSpLib
import Derived.Test.YtjnehahcpeiheaaGreatDoorSpBld
import Derived.Test.YtjnehahcpeiheaaGreatDoorConv
import Derived.Test.YtjnehahcpeiheaaGreatDoorLibs
import Derived.Test.YtjnehahcpeiheaaGreatDoorSpWays
import Derived.Test.YtjnehahcpeiheaaGreatDoorSpRound
import Derived.Test.YtjnehahcpeiheaaGreatDoorKT6n0
import Derived.Test.YtjnehahcpeiheaaGreatDoorKT6n1
import Derived.Test.YtjnehahcpeiheaaGreatDoorKT6n2
import Derived.Test.YtjnehahcpeiheaaGreatDoorKT6n3
namespace Go.Sp.T6
open Go Go.Sp Go.Proofs
set_option linter.unusedVariables false
attribute [local irreducible] wpList AnyL Code.wp Calls Does Code.wpIn wpListIn CallsIn bodyPostM LeavesInM
set_option maxRecDepth 100000 in
set_option maxHeartbeats 4000000 in
theorem frame_whole.calls (k : Nat) (A2 : Option Addr) (c3 : Nat) (A6 : Option Addr) (c7 : Nat) (cards1 : List S_Card) (data5 : List Int) {t w : World} {f : FM} {H : List Seg} (HS : St t w f (H)) (HR4 : SlR ty_Card f A2 c3 cards1) (HR8 : SlR (tInt .u8) f A6 c7 data5) (rr1 : S_Frame) (rr2 : Bool) (h : frame_whole k cards1 data5 = some (rr1, rr2)) :
    Calls Tryz.prog 32 #[.slice A2 cards1.length c3, .slice A6 data5.length c7] w (fun e w' => ∃ (g : FM) (A612 : Option Addr) (c613 : Nat) (A614 : Option Addr) (c615 : Nat) (s616 : Seg), e = .returned (Value.tuple #[.agg #[.int .i64 rr1.W, .int .i64 rr1.H, .slice A612 rr1.Cards.length c613, .slice A614 rr1.Counts.length c615], .bool rr2]) ∧ FM.le f g ∧ St t w' g (s616 :: H) ∧ SlR ty_Card g A612 c613 rr1.Cards ∧ Own (tInt .i64) 3 g A614 c615 s616 rr1.Counts) := by
 unfold frame_whole at h
 refine enter Tryz.func32 rfl (tm := #[.slice A2 cards1.length c3, .slice A6 data5.length c7, uV, uV, uV, uV, uV, uV, uV, uV, uV, uV, uV, uV, uV, uV, uV, uV, uV, uV, uV, uV, uV, uV, uV, uV, uV, uV, uV, uV, uV, uV, uV, uV, uV, uV, uV, uV, uV, uV, uV, uV, uV, uV, uV, uV, uV, uV, uV, uV, uV, uV, uV, uV, uV, uV, uV, uV, uV, uV, uV, uV, uV, uV, uV, uV, uV, uV, uV, uV, uV, uV, uV, uV, uV, uV, uV, uV, uV, uV, uV, uV, uV, uV, uV, uV, uV, uV, uV, uV, uV, uV, uV, uV, uV, uV, uV, uV, uV, uV, uV, uV, uV, uV, uV, uV, uV, uV, uV]) kr ?_
 intro B hret hnor hnp
 refine wp_seq_k fun K9 hK10 => rl ?_
 refine seqK rfl (does_alloc (z := Value.agg #[.int .i64 0, .int .i64 0, .slice none 0 0, .slice none 0 0]) (cs := #[.int .i64 0, .int .i64 0, .slice none 0 0, .slice none 0 0]) rfl kr rfl HS ?_)
 intro b11 W12 HS13
 refine seqL1 kr ?_
 refine nl (hK10 _ _ ?_)
 refine wp_seq_k fun K15 hK16 => rl ?_
 refine seqK rfl (does_alloc (z := Value.agg #[.int .i64 0, .int .i64 0, .int .i64 0]) (cs := #[.int .i64 0, .int .i64 0, .int .i64 0]) rfl kr rfl HS13 ?_)
 intro b17 W18 HS19
 refine nl (hK16 _ _ ?_)
 refine wp_seq_k (fun K21 hK22 => ?_)
 refine wp_seq_k fun K23 hK24 => rl ?_
 refine seqL1 kr ?_
 refine nl (hK24 _ _ ?_)
 refine blockK (fun B25 hx26 hn27 hr28 ho29 hp30 => ?_)
 refine wp_loop_rounds 4 ?_
 refine loopStepK (fun K31 hK32 => ?_)
 refine wp_seq_k fun K33 hK34 => rl ?_
 refine seqL1 kr ?_
 refine nl (hK34 _ _ ?_)
 refine wp_seq_k (fun K35 hK36 => ?_)
 refine condT kr ?_
 refine wp_skip ?_
 refine hK36 _ _ ?_
 refine wp_seq_k (fun K37 hK38 => ?_)
 refine blockK (fun B39 hx40 hn41 hr42 ho43 hp44 => ?_)
 refine wp_seq_k fun K46 hK47 => rl ?_
 refine seqL2 kr ?_
 refine nl (hK47 _ _ ?_)
 refine wp_seq_k (fun K48 hK49 => ?_)
 refine wp_seq_k fun K50 hK51 => rl ?_
 refine seqL4 kr ?_
 refine nl (hK51 _ _ ?_)
 have hq_ := ite_some h; clear h; rcases hq_ with ⟨c53, h⟩ | ⟨c53, h⟩
 · have c53 : 0 ≥ (cards1.length : Int) := c53
   refine wpRwI 21 kr (decide_eq_true c53) ?_
   refine condT kr ?_
   refine wp_seq_k fun K54 hK55 => rl ?_
   have HS56 := HS19.u1
   refine seqL1 kr ?_
   refine seqK rfl (does_storeA (vs := [.int .i64 0, .int .i64 0, .slice none 0 0, .slice none 0 0]) rfl kr kr kr rfl (ones rfl) HS56 kr ?_)
   intro W57 HS58
   refine seqL1 kr ?_
   refine nl (hK55 _ _ ?_)
   refine wp_ret ?_
   refine hr42 _ _ ?_
   refine hr28 _ _ ?_
   refine hret _ _ ?_
   have HS535 := HS58.cons_nil
   refine ends (v := Value.tuple #[.agg #[.int .i64 0, .int .i64 0, .slice none 0 0, .slice none 0 0], .bool false]) (results2 (q1 := .cell 4 29) (q2 := .tmp 5) kr (resN (n := 4) (cs := [.int .i64 0, .int .i64 0, .slice none 0 0, .slice none 0 0]) (kv (.pointer (some ⟨b11, 0, none⟩))) Tryz.underlying29 rfl kr rfl (HS535.u1.cells 0 4 _ rfl)) (resT (kv (.bool false)))) kr ?_
   have HS538 := HS535.u2.u2
   have HS539 := HS538.drop
   have HS540 := HS539.drop
   injection h with h
   injection h with h0_ h
   subst h0_ h
   exact ⟨f, none, 0, none, 0, [], rfl, FM.le.refl _, HS540, (SlR.nil _ _), (Own.nil _)⟩
 · have c53 : ¬ (0 ≥ (cards1.length : Int)) := c53
   refine wpRwI 21 kr (decide_eq_false c53) ?_
   refine condF kr ?_
   refine wp_skip ?_
   refine hK49 _ _ ?_
   refine wp_seq_k fun K59 hK60 => rl ?_
   have hq_ := guard_some h; clear h; obtain ⟨c61, h⟩ := hq_
   have c61 : 0 < (cards1.length : Int) := c61
   obtain ⟨b65, of66, cs62, hA67, hr63, hc64⟩ := HR4.at (i := 0) (by decide) c61
   obtain rfl := hr63
   refine seqL2 kr ?_
   refine seqK rfl (does_run (run_indexE hA67 (sz := 4) rfl Tryz.underlying27 kr (kv (.slice A2 cards1.length c3)) (kv (.int .i64 0)) (by decide) c61 W18) ?_)
   refine seqL1 kr ?_
   refine seqK rfl (does_run (run_load rfl Tryz.underlying9 rfl (kv (.pointer (some ⟨b65, of66 + (0 : Int).toNat * 4 + 1, none⟩))) ((hc64 fL HS19) 1 (by decide))) ?_)
   have hq_ := bind_some h; clear h; obtain ⟨vt68, hc69, h⟩ := hq_
   refine seqK rfl (does_call (f := 62) (args := #[.string ((rd cards1 0).Value)]) kr (strconv_Atoi.calls k ((rd cards1 0).Value) HS19 vt68 hc69) ?_)
   rintro _ W72 ⟨f70, rfl, L71, HS73⟩
   refine ⟨_, rfl, ?_⟩
   refine seqL5 kr ?_
   refine nl (hK60 _ _ ?_)
   refine wp_seq_k (fun K74 hK75 => ?_)
   refine wp_seq_k fun K76 hK77 => rl ?_
   refine seqL7 kr ?_
   have hq_ := ite_some h; clear h; rcases hq_ with ⟨c78, h⟩ | ⟨c78, h⟩
   · have c78 : vt68 < 1 := c78
     refine seqRwI 36 kr (decide_eq_true c78) ?_
     refine seqRwI 37 kr (decide_eq_true c78) ?_
     refine seqRwI 38 kr (decide_eq_true c78) ?_
     refine seqL3 kr ?_
     refine nl (hK77 _ _ ?_)
     refine condT kr ?_
     refine wp_seq_k fun K79 hK80 => rl ?_
     have HS81 := HS73.u1
     refine seqL1 kr ?_
     refine seqK rfl (does_storeA (vs := [.int .i64 0, .int .i64 0, .slice none 0 0, .slice none 0 0]) rfl kr kr kr rfl (ones rfl) HS81 kr ?_)
     intro W82 HS83
     refine seqL1 kr ?_
     refine nl (hK80 _ _ ?_)
     refine wp_ret ?_
     refine hr42 _ _ ?_
     refine hr28 _ _ ?_
     refine hret _ _ ?_
     have HS541 := HS83.cons_nil
     refine ends (v := Value.tuple #[.agg #[.int .i64 0, .int .i64 0, .slice none 0 0, .slice none 0 0], .bool false]) (results2 (q1 := .cell 4 29) (q2 := .tmp 5) kr (resN (n := 4) (cs := [.int .i64 0, .int .i64 0, .slice none 0 0, .slice none 0 0]) (kv (.pointer (some ⟨b11, 0, none⟩))) Tryz.underlying29 rfl kr rfl (HS541.u1.cells 0 4 _ rfl)) (resT (kv (.bool false)))) kr ?_
     have HS544 := HS541.u2.u2
     have HS545 := HS544.drop
     have HS546 := HS545.drop
     injection h with h
     injection h with h0_ h
     subst h0_ h
     exact ⟨f70, none, 0, none, 0, [], rfl, L71, HS546, (SlR.nil _ _), (Own.nil _)⟩
   · have c78 : ¬ (vt68 < 1) := c78
     refine seqRwI 36 kr (decide_eq_false c78) ?_
     refine seqRwI 37 kr (decide_eq_false c78) ?_
     refine seqRwI 38 kr (decide_eq_false c78) ?_
     refine seqL3 kr ?_
     refine nl (hK77 _ _ ?_)
     have hq_ := ite_some h; clear h; rcases hq_ with ⟨c85, h⟩ | ⟨c85, h⟩
     · have c85 : vt68 > 32 := c85
       refine wpRwI 40 kr (decide_eq_true c85) ?_
       refine wpRwI 41 kr (decide_eq_true c85) ?_
       refine condT kr ?_
       refine wp_seq_k fun K86 hK87 => rl ?_
       have HS88 := HS73.u1
       refine seqL1 kr ?_
       refine seqK rfl (does_storeA (vs := [.int .i64 0, .int .i64 0, .slice none 0 0, .slice none 0 0]) rfl kr kr kr rfl (ones rfl) HS88 kr ?_)
       intro W89 HS90
       refine seqL1 kr ?_
       refine nl (hK87 _ _ ?_)
       refine wp_ret ?_
       refine hr42 _ _ ?_
       refine hr28 _ _ ?_
       refine hret _ _ ?_
       have HS547 := HS90.cons_nil
       refine ends (v := Value.tuple #[.agg #[.int .i64 0, .int .i64 0, .slice none 0 0, .slice none 0 0], .bool false]) (results2 (q1 := .cell 4 29) (q2 := .tmp 5) kr (resN (n := 4) (cs := [.int .i64 0, .int .i64 0, .slice none 0 0, .slice none 0 0]) (kv (.pointer (some ⟨b11, 0, none⟩))) Tryz.underlying29 rfl kr rfl (HS547.u1.cells 0 4 _ rfl)) (resT (kv (.bool false)))) kr ?_
       have HS550 := HS547.u2.u2
       have HS551 := HS550.drop
       have HS552 := HS551.drop
       injection h with h
       injection h with h0_ h
       subst h0_ h
       exact ⟨f70, none, 0, none, 0, [], rfl, L71, HS552, (SlR.nil _ _), (Own.nil _)⟩
     · have c85 : ¬ (vt68 > 32) := c85
       refine wpRwI 40 kr (decide_eq_false c85) ?_
       refine wpRwI 41 kr (decide_eq_false c85) ?_
       refine condF kr ?_
       refine wp_skip ?_
       refine hK75 _ _ ?_
       refine rl ?_
       refine seqL3 kr ?_
       refine seqK rfl (does_store (n := 1) (vs := [.int .i64 vt68]) (cs' := #[.int .i64 vt68, .int .i64 0, .int .i64 0]) rfl kr (kv (.pointer (some ⟨b17, 0, none⟩))) (kv (.int .i64 vt68)) rfl rfl (ones rfl) HS73 (Nat.le_of_ble_eq_true rfl) kr ?_)
       intro W91 HS92
       refine nl ?_
       refine hn41 _ _ ?_
       refine hK38 _ _ ?_
       refine rl ?_
       refine seqL2 kr ?_
       refine nl (hK32 _ _ ?_)
       refine loopStepK (fun K93 hK94 => ?_)
       refine wp_seq_k fun K95 hK96 => rl ?_
       refine seqL1 kr ?_
       refine nl (hK96 _ _ ?_)
       refine wp_seq_k (fun K97 hK98 => ?_)
       refine condT kr ?_
       refine wp_skip ?_
       refine hK98 _ _ ?_
       refine wp_seq_k (fun K99 hK100 => ?_)
       refine blockK (fun B101 hx102 hn103 hr104 ho105 hp106 => ?_)
       refine wp_seq_k fun K108 hK109 => rl ?_
       refine seqL2 kr ?_
       refine nl (hK109 _ _ ?_)
       refine wp_seq_k (fun K110 hK111 => ?_)
       refine wp_seq_k fun K112 hK113 => rl ?_
       refine seqL4 kr ?_
       refine nl (hK113 _ _ ?_)
       have hq_ := ite_some h; clear h; rcases hq_ with ⟨c115, h⟩ | ⟨c115, h⟩
       · have c115 : 1 ≥ (cards1.length : Int) := c115
         refine wpRwI 21 kr (decide_eq_true c115) ?_
         refine condT kr ?_
         refine wp_seq_k fun K116 hK117 => rl ?_
         have HS118 := HS92.u1
         refine seqL1 kr ?_
         refine seqK rfl (does_storeA (vs := [.int .i64 0, .int .i64 0, .slice none 0 0, .slice none 0 0]) rfl kr kr kr rfl (ones rfl) HS118 kr ?_)
         intro W119 HS120
         refine seqL1 kr ?_
         refine nl (hK117 _ _ ?_)
         refine wp_ret ?_
         refine hr104 _ _ ?_
         refine hr28 _ _ ?_
         refine hret _ _ ?_
         have HS553 := HS120.cons_nil
         refine ends (v := Value.tuple #[.agg #[.int .i64 0, .int .i64 0, .slice none 0 0, .slice none 0 0], .bool false]) (results2 (q1 := .cell 4 29) (q2 := .tmp 5) kr (resN (n := 4) (cs := [.int .i64 0, .int .i64 0, .slice none 0 0, .slice none 0 0]) (kv (.pointer (some ⟨b11, 0, none⟩))) Tryz.underlying29 rfl kr rfl (HS553.u1.cells 0 4 _ rfl)) (resT (kv (.bool false)))) kr ?_
         have HS556 := HS553.u2.u2
         have HS557 := HS556.drop
         have HS558 := HS557.drop
         injection h with h
         injection h with h0_ h
         subst h0_ h
         exact ⟨f70, none, 0, none, 0, [], rfl, L71, HS558, (SlR.nil _ _), (Own.nil _)⟩
       · have c115 : ¬ (1 ≥ (cards1.length : Int)) := c115
         refine wpRwI 21 kr (decide_eq_false c115) ?_
         refine condF kr ?_
         refine wp_skip ?_
         refine hK111 _ _ ?_
         refine wp_seq_k fun K121 hK122 => rl ?_
         have hq_ := guard_some h; clear h; obtain ⟨c123, h⟩ := hq_
         have c123 : 1 < (cards1.length : Int) := c123
         obtain ⟨b127, of128, cs124, hA129, hr125, hc126⟩ := (HR4.mono L71).at (i := 1) (by decide) c123
         obtain rfl := hr125
         refine seqL2 kr ?_
         refine seqK rfl (does_run (run_indexE hA129 (sz := 4) rfl Tryz.underlying27 kr (kv (.slice A2 cards1.length c3)) (kv (.int .i64 1)) (by decide) c123 W91) ?_)
         refine seqL1 kr ?_
         refine seqK rfl (does_run (run_load rfl Tryz.underlying9 rfl (kv (.pointer (some ⟨b127, of128 + (1 : Int).toNat * 4 + 1, none⟩))) ((hc126 fL HS92) 1 (by decide))) ?_)
         have hq_ := bind_some h; clear h; obtain ⟨vt130, hc131, h⟩ := hq_
         refine seqK rfl (does_call (f := 62) (args := #[.string ((rd cards1 1).Value)]) kr (strconv_Atoi.calls k ((rd cards1 1).Value) HS92 vt130 hc131) ?_)
         rintro _ W134 ⟨f132, rfl, L133, HS135⟩
         refine ⟨_, rfl, ?_⟩
         refine seqL5 kr ?_
         refine nl (hK122 _ _ ?_)
         refine wp_seq_k (fun K136 hK137 => ?_)
         refine wp_seq_k fun K138 hK139 => rl ?_
         refine seqL7 kr ?_
         have hq_ := ite_some h; clear h; rcases hq_ with ⟨c140, h⟩ | ⟨c140, h⟩
         · have c140 : vt130 < 1 := c140
           refine seqRwI 36 kr (decide_eq_true c140) ?_
           refine seqRwI 37 kr (decide_eq_true c140) ?_
           refine seqRwI 38 kr (decide_eq_true c140) ?_
           refine seqL3 kr ?_
           refine nl (hK139 _ _ ?_)
           refine condT kr ?_
           refine wp_seq_k fun K141 hK142 => rl ?_
           have HS143 := HS135.u1
           refine seqL1 kr ?_
           refine seqK rfl (does_storeA (vs := [.int .i64 0, .int .i64 0, .slice none 0 0, .slice none 0 0]) rfl kr kr kr rfl (ones rfl) HS143 kr ?_)
           intro W144 HS145
           refine seqL1 kr ?_
           refine nl (hK142 _ _ ?_)
           refine wp_ret ?_
           refine hr104 _ _ ?_
           refine hr28 _ _ ?_
           refine hret _ _ ?_
           have HS559 := HS145.cons_nil
           refine ends (v := Value.tuple #[.agg #[.int .i64 0, .int .i64 0, .slice none 0 0, .slice none 0 0], .bool false]) (results2 (q1 := .cell 4 29) (q2 := .tmp 5) kr (resN (n := 4) (cs := [.int .i64 0, .int .i64 0, .slice none 0 0, .slice none 0 0]) (kv (.pointer (some ⟨b11, 0, none⟩))) Tryz.underlying29 rfl kr rfl (HS559.u1.cells 0 4 _ rfl)) (resT (kv (.bool false)))) kr ?_
           have HS562 := HS559.u2.u2
           have HS563 := HS562.drop
           have HS564 := HS563.drop
           injection h with h
           injection h with h0_ h
           subst h0_ h
           exact ⟨f132, none, 0, none, 0, [], rfl, (L71.trans L133), HS564, (SlR.nil _ _), (Own.nil _)⟩
         · have c140 : ¬ (vt130 < 1) := c140
           refine seqRwI 36 kr (decide_eq_false c140) ?_
           refine seqRwI 37 kr (decide_eq_false c140) ?_
           refine seqRwI 38 kr (decide_eq_false c140) ?_
           refine seqL3 kr ?_
           refine nl (hK139 _ _ ?_)
           have hq_ := ite_some h; clear h; rcases hq_ with ⟨c147, h⟩ | ⟨c147, h⟩
           · have c147 : vt130 > 32 := c147
             refine wpRwI 40 kr (decide_eq_true c147) ?_
             refine wpRwI 41 kr (decide_eq_true c147) ?_
             refine condT kr ?_
             refine wp_seq_k fun K148 hK149 => rl ?_
             have HS150 := HS135.u1
             refine seqL1 kr ?_
             refine seqK rfl (does_storeA (vs := [.int .i64 0, .int .i64 0, .slice none 0 0, .slice none 0 0]) rfl kr kr kr rfl (ones rfl) HS150 kr ?_)
             intro W151 HS152
             refine seqL1 kr ?_
             refine nl (hK149 _ _ ?_)
             refine wp_ret ?_
             refine hr104 _ _ ?_
             refine hr28 _ _ ?_
             refine hret _ _ ?_
             have HS565 := HS152.cons_nil
             refine ends (v := Value.tuple #[.agg #[.int .i64 0, .int .i64 0, .slice none 0 0, .slice none 0 0], .bool false]) (results2 (q1 := .cell 4 29) (q2 := .tmp 5) kr (resN (n := 4) (cs := [.int .i64 0, .int .i64 0, .slice none 0 0, .slice none 0 0]) (kv (.pointer (some ⟨b11, 0, none⟩))) Tryz.underlying29 rfl kr rfl (HS565.u1.cells 0 4 _ rfl)) (resT (kv (.bool false)))) kr ?_
             have HS568 := HS565.u2.u2
             have HS569 := HS568.drop
             have HS570 := HS569.drop
             injection h with h
             injection h with h0_ h
             subst h0_ h
             exact ⟨f132, none, 0, none, 0, [], rfl, (L71.trans L133), HS570, (SlR.nil _ _), (Own.nil _)⟩
           · have c147 : ¬ (vt130 > 32) := c147
             refine wpRwI 40 kr (decide_eq_false c147) ?_
             refine wpRwI 41 kr (decide_eq_false c147) ?_
             refine condF kr ?_
             refine wp_skip ?_
             refine hK137 _ _ ?_
             refine rl ?_
             refine seqL3 kr ?_
             refine seqK rfl (does_store (n := 1) (vs := [.int .i64 vt130]) (cs' := #[.int .i64 vt68, .int .i64 vt130, .int .i64 0]) rfl kr (kv (.pointer (some ⟨b17, 1, none⟩))) (kv (.int .i64 vt130)) rfl rfl (ones rfl) HS135 (Nat.le_of_ble_eq_true rfl) kr ?_)
             intro W153 HS154
             refine nl ?_
             refine hn103 _ _ ?_
             refine hK100 _ _ ?_
             refine rl ?_
             refine seqS2 (a' := ⟨#[.slice A2 cards1.length c3, .slice A6 data5.length c7, uV, uV, pV b11 0, fV, pV b17 0, iV 1, iV vt130, .nilIface, uV, uV, uV, uV, uV, iV 2, tV, iV 1, iV 1, .slice A2 cards1.length c3, iV (cards1.length : Int), fV, uV, .tuple #[iV vt130, .nilIface], .slice A2 cards1.length c3, iV 1, pV b127 (of128 + (1 : Int).toNat * 4), pV b127 (of128 + (1 : Int).toNat * 4 + 1), .string ((rd cards1 1).Value), .tuple #[iV vt130, .nilIface], iV vt130, .nilIface, .nilIface, fV, fV, iV vt130, fV, fV, fV, iV vt130, fV, fV, uV, iV 1, iV vt130, pV b17 1, iV 2, uV, uV, uV, uV, uV, uV, uV, uV, uV, uV, uV, uV, uV, uV, uV, uV, uV, uV, uV, uV, uV, uV, uV, uV, uV, uV, uV, uV, uV, uV, uV, uV, uV, uV, uV, uV, uV, uV, uV, uV, uV, uV, uV, uV, uV, uV, uV, uV, uV, uV, uV, uV, uV, uV, uV, uV, uV, uV, uV, uV, uV, uV], []⟩) kr ?_
             refine nl (hK94 _ _ ?_)
             refine loopStepK (fun K155 hK156 => ?_)
             refine wp_seq_k fun K157 hK158 => rl ?_
             refine seqL1 kr ?_
             refine nl (hK158 _ _ ?_)
             refine wp_seq_k (fun K159 hK160 => ?_)
             refine condT kr ?_
             refine wp_skip ?_
             refine hK160 _ _ ?_
             refine wp_seq_k (fun K161 hK162 => ?_)
             refine blockK (fun B163 hx164 hn165 hr166 ho167 hp168 => ?_)
             refine wp_seq_k fun K170 hK171 => rl ?_
             refine seqL2 kr ?_
             refine nl (hK171 _ _ ?_)
             refine wp_seq_k (fun K172 hK173 => ?_)
             refine wp_seq_k fun K174 hK175 => rl ?_
             refine seqL4 kr ?_
             refine nl (hK175 _ _ ?_)
             have hq_ := ite_some h; clear h; rcases hq_ with ⟨c177, h⟩ | ⟨c177, h⟩
             · have c177 : 2 ≥ (cards1.length : Int) := c177
               refine wpRwI 21 kr (decide_eq_true c177) ?_
               refine condT kr ?_
               refine wp_seq_k fun K178 hK179 => rl ?_
               have HS180 := HS154.u1
               refine seqL1 kr ?_
               refine seqK rfl (does_storeA (vs := [.int .i64 0, .int .i64 0, .slice none 0 0, .slice none 0 0]) rfl kr kr kr rfl (ones rfl) HS180 kr ?_)
               intro W181 HS182
               refine seqL1 kr ?_
               refine nl (hK179 _ _ ?_)
               refine wp_ret ?_
               refine hr166 _ _ ?_
               refine hr28 _ _ ?_
               refine hret _ _ ?_
               have HS571 := HS182.cons_nil
               refine ends (v := Value.tuple #[.agg #[.int .i64 0, .int .i64 0, .slice none 0 0, .slice none 0 0], .bool false]) (results2 (q1 := .cell 4 29) (q2 := .tmp 5) kr (resN (n := 4) (cs := [.int .i64 0, .int .i64 0, .slice none 0 0, .slice none 0 0]) (kv (.pointer (some ⟨b11, 0, none⟩))) Tryz.underlying29 rfl kr rfl (HS571.u1.cells 0 4 _ rfl)) (resT (kv (.bool false)))) kr ?_
               have HS574 := HS571.u2.u2
               have HS575 := HS574.drop
               have HS576 := HS575.drop
               injection h with h
               injection h with h0_ h
               subst h0_ h
               exact ⟨f132, none, 0, none, 0, [], rfl, (L71.trans L133), HS576, (SlR.nil _ _), (Own.nil _)⟩
             · have c177 : ¬ (2 ≥ (cards1.length : Int)) := c177
               refine wpRwI 21 kr (decide_eq_false c177) ?_
               refine condF kr ?_
               refine wp_skip ?_
               refine hK173 _ _ ?_
               refine wp_seq_k fun K183 hK184 => rl ?_
               have hq_ := guard_some h; clear h; obtain ⟨c185, h⟩ := hq_
               have c185 : 2 < (cards1.length : Int) := c185
               obtain ⟨b189, of190, cs186, hA191, hr187, hc188⟩ := (HR4.mono (L71.trans L133)).at (i := 2) (by decide) c185
               obtain rfl := hr187
               refine seqL2 kr ?_
               refine seqK rfl (does_run (run_indexE hA191 (sz := 4) rfl Tryz.underlying27 kr (kv (.slice A2 cards1.length c3)) (kv (.int .i64 2)) (by decide) c185 W153) ?_)
               refine seqL1 kr ?_
               refine seqK rfl (does_run (run_load rfl Tryz.underlying9 rfl (kv (.pointer (some ⟨b189, of190 + (2 : Int).toNat * 4 + 1, none⟩))) ((hc188 fL HS154) 1 (by decide))) ?_)
               have hq_ := bind_some h; clear h; obtain ⟨vt192, hc193, h⟩ := hq_
               refine seqK rfl (does_call (f := 62) (args := #[.string ((rd cards1 2).Value)]) kr (strconv_Atoi.calls k ((rd cards1 2).Value) HS154 vt192 hc193) ?_)
               rintro _ W196 ⟨f194, rfl, L195, HS197⟩
               refine ⟨_, rfl, ?_⟩
               refine seqL5 kr ?_
               refine nl (hK184 _ _ ?_)
               refine wp_seq_k (fun K198 hK199 => ?_)
               refine wp_seq_k fun K200 hK201 => rl ?_
               refine seqL7 kr ?_
               have hq_ := ite_some h; clear h; rcases hq_ with ⟨c202, h⟩ | ⟨c202, h⟩
               · have c202 : vt192 < 1 := c202
                 refine seqRwI 36 kr (decide_eq_true c202) ?_
                 refine seqRwI 37 kr (decide_eq_true c202) ?_
                 refine seqRwI 38 kr (decide_eq_true c202) ?_
                 refine seqL3 kr ?_
                 refine nl (hK201 _ _ ?_)
                 refine condT kr ?_
                 refine wp_seq_k fun K203 hK204 => rl ?_
                 have HS205 := HS197.u1
                 refine seqL1 kr ?_
                 refine seqK rfl (does_storeA (vs := [.int .i64 0, .int .i64 0, .slice none 0 0, .slice none 0 0]) rfl kr kr kr rfl (ones rfl) HS205 kr ?_)
                 intro W206 HS207
                 refine seqL1 kr ?_
                 refine nl (hK204 _ _ ?_)
                 refine wp_ret ?_
                 refine hr166 _ _ ?_
                 refine hr28 _ _ ?_
                 refine hret _ _ ?_
                 have HS577 := HS207.cons_nil
                 refine ends (v := Value.tuple #[.agg #[.int .i64 0, .int .i64 0, .slice none 0 0, .slice none 0 0], .bool false]) (results2 (q1 := .cell 4 29) (q2 := .tmp 5) kr (resN (n := 4) (cs := [.int .i64 0, .int .i64 0, .slice none 0 0, .slice none 0 0]) (kv (.pointer (some ⟨b11, 0, none⟩))) Tryz.underlying29 rfl kr rfl (HS577.u1.cells 0 4 _ rfl)) (resT (kv (.bool false)))) kr ?_
                 have HS580 := HS577.u2.u2
                 have HS581 := HS580.drop
                 have HS582 := HS581.drop
                 injection h with h
                 injection h with h0_ h
                 subst h0_ h
                 exact ⟨f194, none, 0, none, 0, [], rfl, (L71.trans (L133.trans L195)), HS582, (SlR.nil _ _), (Own.nil _)⟩
               · have c202 : ¬ (vt192 < 1) := c202
                 refine seqRwI 36 kr (decide_eq_false c202) ?_
                 refine seqRwI 37 kr (decide_eq_false c202) ?_
                 refine seqRwI 38 kr (decide_eq_false c202) ?_
                 refine seqL3 kr ?_
                 refine nl (hK201 _ _ ?_)
                 have hq_ := ite_some h; clear h; rcases hq_ with ⟨c209, h⟩ | ⟨c209, h⟩
                 · have c209 : vt192 > 32 := c209
                   refine wpRwI 40 kr (decide_eq_true c209) ?_
                   refine wpRwI 41 kr (decide_eq_true c209) ?_
                   refine condT kr ?_
                   refine wp_seq_k fun K210 hK211 => rl ?_
                   have HS212 := HS197.u1
                   refine seqL1 kr ?_
                   refine seqK rfl (does_storeA (vs := [.int .i64 0, .int .i64 0, .slice none 0 0, .slice none 0 0]) rfl kr kr kr rfl (ones rfl) HS212 kr ?_)
                   intro W213 HS214
                   refine seqL1 kr ?_
                   refine nl (hK211 _ _ ?_)
                   refine wp_ret ?_
                   refine hr166 _ _ ?_
                   refine hr28 _ _ ?_
                   refine hret _ _ ?_
                   have HS583 := HS214.cons_nil
                   refine ends (v := Value.tuple #[.agg #[.int .i64 0, .int .i64 0, .slice none 0 0, .slice none 0 0], .bool false]) (results2 (q1 := .cell 4 29) (q2 := .tmp 5) kr (resN (n := 4) (cs := [.int .i64 0, .int .i64 0, .slice none 0 0, .slice none 0 0]) (kv (.pointer (some ⟨b11, 0, none⟩))) Tryz.underlying29 rfl kr rfl (HS583.u1.cells 0 4 _ rfl)) (resT (kv (.bool false)))) kr ?_
                   have HS586 := HS583.u2.u2
                   have HS587 := HS586.drop
                   have HS588 := HS587.drop
                   injection h with h
                   injection h with h0_ h
                   subst h0_ h
                   exact ⟨f194, none, 0, none, 0, [], rfl, (L71.trans (L133.trans L195)), HS588, (SlR.nil _ _), (Own.nil _)⟩
                 · have c209 : ¬ (vt192 > 32) := c209
                   refine wpRwI 40 kr (decide_eq_false c209) ?_
                   refine wpRwI 41 kr (decide_eq_false c209) ?_
                   refine condF kr ?_
                   refine wp_skip ?_
                   refine hK199 _ _ ?_
                   refine rl ?_
                   refine seqL3 kr ?_
                   refine seqK rfl (does_store (n := 1) (vs := [.int .i64 vt192]) (cs' := #[.int .i64 vt68, .int .i64 vt130, .int .i64 vt192]) rfl kr (kv (.pointer (some ⟨b17, 2, none⟩))) (kv (.int .i64 vt192)) rfl rfl (ones rfl) HS197 (Nat.le_of_ble_eq_true rfl) kr ?_)
                   intro W215 HS216
                   refine nl ?_
                   refine hn165 _ _ ?_
                   refine hK162 _ _ ?_
                   refine rl ?_
                   refine seqL2 kr ?_
                   refine nl (hK156 _ _ ?_)
                   refine loopStepK (fun K217 hK218 => ?_)
                   refine wp_seq_k fun K219 hK220 => rl ?_
                   refine seqL1 kr ?_
                   refine nl (hK220 _ _ ?_)
                   refine wp_seq_k (fun K221 hK222 => ?_)
                   refine condF kr ?_
                   refine wp_exit ?_
                   refine hx26 _ _ ?_
                   refine hK22 _ _ ?_
                   refine wp_seq_k (fun K223 hK224 => ?_)
                   refine heldG (S := Sg t f194 ([(b17, .cells #[.int .i64 vt68, .int .i64 vt130, .int .i64 vt192] 127 (0, 0))] :: [(b11, .cells #[.int .i64 0, .int .i64 0, .slice none 0 0, .slice none 0 0] 29 (0, 0))] :: H) []) (n := 9) kr rfl HS216 ?_
                   intro W225 HS226
                   refine takeGL [0] (n := 9) (fuel := 8) #[true, false, false, false, false, false, false, false, false] rfl kr kr kr hnp (Sg.g0 (Sx.of [] fL HS226)) ?_
                   refine takeGQ 1 [] rfl kr kr kr kr kr kr hnp (Sg.g0 (Sx.of [] fL HS226)) (fun w_ hw_ => by obtain ⟨g_, hl_, hS_⟩ := hw_.st; exact run_load rfl Tryz.underlying3 rfl (kv (.pointer (some ⟨b17, 0, none⟩))) (hS_.cell 0)) ?_
                   refine takeGL [2] (n := 7) (fuel := 6) #[true, true, true, false, false, false, false, false, false] rfl kr kr kr hnp (Sg.g0 (Sx.of [] fL HS226)) ?_
                   refine takeGQ 3 [] rfl kr kr kr kr kr kr hnp (Sg.g0 (Sx.of [] fL HS226)) (fun w_ hw_ => by obtain ⟨g_, hl_, hS_⟩ := hw_.st; exact run_load rfl Tryz.underlying3 rfl (kv (.pointer (some ⟨b17, 1, none⟩))) (hS_.cell 1)) ?_
                   have hq_ := guard_some h; clear h; obtain ⟨c227, h⟩ := hq_
                   have c227 : 3 ≤ (cards1.length : Int) := c227
                   refine takeGL [4] (n := 5) (fuel := 4) #[true, true, true, true, true, false, false, false, false] rfl kr kr kr hnp (Sg.g0 (Sx.of [] fL HS226)) ?_
                   refine withR #[true, true, true, true, true, true, true, true, true] ?_
                   intro R237 hR238 hR239
                   have J240 : ∀ (A228 : Option Addr) (c229 : Nat) (b231 : Nat) (W241 : World) (a_ : Act), SlR ty_Card f A228 c229 (cards1.drop (3 : Int).toNat) → St t W241 f194 ([(b231, .cells #[.int .i64 vt68, .int .i64 vt130, .slice A228 (cards1.drop (3 : Int).toNat).length c229, .slice none 0 0] 29 (0, 0))] :: [(b17, .cells #[.int .i64 vt68, .int .i64 vt130, .int .i64 vt192] 127 (0, 0))] :: [(b11, .cells #[.int .i64 0, .int .i64 0, .slice none 0 0, .slice none 0 0] 29 (0, 0))] :: H) → a_ = ⟨#[.slice A2 cards1.length c3, .slice A6 data5.length c7, uV, uV, pV b11 0, fV, pV b17 0, iV 2, iV vt192, .nilIface, pV b231 0, uV, uV, uV, uV, iV 3, fV, iV 2, iV 2, .slice A2 cards1.length c3, iV (cards1.length : Int), fV, uV, .tuple #[iV vt192, .nilIface], .slice A2 cards1.length c3, iV 2, pV b189 (of190 + (2 : Int).toNat * 4), pV b189 (of190 + (2 : Int).toNat * 4 + 1), .string ((rd cards1 2).Value), .tuple #[iV vt192, .nilIface], iV vt192, .nilIface, .nilIface, fV, fV, iV vt192, fV, fV, fV, iV vt192, fV, fV, uV, iV 2, iV vt192, pV b17 2, iV 3, pV b17 0, iV vt68, pV b17 1, iV vt130, .slice A2 cards1.length c3, .slice A228 (cards1.drop (3 : Int).toNat).length c229, .agg #[iV vt68, iV vt130, .slice A228 (cards1.drop (3 : Int).toNat).length c229, .slice none 0 0], uV, uV, uV, uV, uV, uV, uV, uV, uV, uV, uV, uV, uV, uV, uV, uV, uV, uV, uV, uV, uV, uV, uV, uV, uV, uV, uV, uV, uV, uV, uV, uV, uV, uV, uV, uV, uV, uV, uV, uV, uV, uV, uV, uV, uV, uV, uV, uV, uV, uV, uV, uV, uV, uV, uV], []⟩ → R237 a_ W241 := by
                    intro A228 c229 b231 W241 a_ HR230 HS242 hfr_; subst hfr_
                    refine hR238 _ _ ?_
                    refine doneG kr ?_ _
                    refine hK224 _ _ ?_
                    refine wp_seq_k (fun K261 hK262 => ?_)
                    refine wp_seq_k fun K263 hK264 => rl ?_
                    refine seqL1 kr ?_
                    refine seqK rfl (does_run (run_load rfl Tryz.underlying3 rfl (kv (.pointer (some ⟨b17, 2, none⟩))) (HS242.u1.cell 2)) ?_)
                    refine seqL2 kr ?_
                    have hq_ := ite_some h; clear h; rcases hq_ with ⟨c265, h⟩ | ⟨c265, h⟩
                    · have c265 : vt192 > 2 := c265
                      refine seqRwI 56 kr (decide_eq_true c265) ?_
                      refine seqRwI 57 kr (decide_eq_true c265) ?_
                      refine seqL12 kr ?_
                      refine nl (hK264 _ _ ?_)
                      refine condT kr ?_
                      refine wp_seq_k fun K266 hK267 => rl ?_
                      have HS268 := HS242.u2
                      refine seqL1 kr ?_
                      refine seqK rfl (does_storeA (vs := [.int .i64 0, .int .i64 0, .slice none 0 0, .slice none 0 0]) rfl kr kr kr rfl (ones rfl) HS268 kr ?_)
                      intro W269 HS270
                      refine seqL1 kr ?_
                      refine nl (hK267 _ _ ?_)
                      refine wp_ret ?_
                      refine hret _ _ ?_
                      have HS589 := HS270.cons_nil
                      refine ends (v := Value.tuple #[.agg #[.int .i64 0, .int .i64 0, .slice none 0 0, .slice none 0 0], .bool false]) (results2 (q1 := .cell 4 29) (q2 := .tmp 5) kr (resN (n := 4) (cs := [.int .i64 0, .int .i64 0, .slice none 0 0, .slice none 0 0]) (kv (.pointer (some ⟨b11, 0, none⟩))) Tryz.underlying29 rfl kr rfl (HS589.u1.cells 0 4 _ rfl)) (resT (kv (.bool false)))) kr ?_
                      have HS593 := HS589.u3.u3.u3
                      have HS594 := HS593.drop
                      have HS595 := HS594.drop
                      have HS596 := HS595.drop
                      injection h with h
                      injection h with h0_ h
                      subst h0_ h
                      exact ⟨f194, none, 0, none, 0, [], rfl, (L71.trans (L133.trans L195)), HS596, (SlR.nil _ _), (Own.nil _)⟩
                    · have c265 : ¬ (vt192 > 2) := c265
                      refine seqRwI 56 kr (decide_eq_false c265) ?_
                      refine seqRwI 57 kr (decide_eq_false c265) ?_
                      refine seqL3 kr ?_
                      refine seqG kr (does_run (run_load rfl Tryz.underlying3 rfl (kv (.pointer (some ⟨b231, 0, none⟩))) (HS242.cell 0)) ?_)
                      refine seqL1 kr ?_
                      refine seqG kr (does_run (run_load rfl Tryz.underlying3 rfl (kv (.pointer (some ⟨b231, 1, none⟩))) (HS242.cell 1)) ?_)
                      refine seqL2 kr ?_
                      refine seqG kr (does_run (run_load rfl Tryz.underlying3 rfl (kv (.pointer (some ⟨b17, 2, none⟩))) (HS242.u1.cell 2)) ?_)
                      refine seqL3 kr ?_
                      refine nl (hK264 _ _ ?_)
                      have hq_ := ite_some h; clear h; rcases hq_ with ⟨c272, h⟩ | ⟨c272, h⟩
                      · have c272 : (data5.length : Int) < (w64 ((w64 (vt68 * vt130)) * vt192)) := c272
                        refine wpRwI 68 kr (decide_eq_true c272) ?_
                        refine wpRwI 69 kr (decide_eq_true c272) ?_
                        refine condT kr ?_
                        refine wp_seq_k fun K273 hK274 => rl ?_
                        have HS275 := HS242.u2
                        refine seqL1 kr ?_
                        refine seqK rfl (does_storeA (vs := [.int .i64 0, .int .i64 0, .slice none 0 0, .slice none 0 0]) rfl kr kr kr rfl (ones rfl) HS275 kr ?_)
                        intro W276 HS277
                        refine seqL1 kr ?_
                        refine nl (hK274 _ _ ?_)
                        refine wp_ret ?_
                        refine hret _ _ ?_
                        have HS597 := HS277.cons_nil
                        refine ends (v := Value.tuple #[.agg #[.int .i64 0, .int .i64 0, .slice none 0 0, .slice none 0 0], .bool false]) (results2 (q1 := .cell 4 29) (q2 := .tmp 5) kr (resN (n := 4) (cs := [.int .i64 0, .int .i64 0, .slice none 0 0, .slice none 0 0]) (kv (.pointer (some ⟨b11, 0, none⟩))) Tryz.underlying29 rfl kr rfl (HS597.u1.cells 0 4 _ rfl)) (resT (kv (.bool false)))) kr ?_
                        have HS601 := HS597.u3.u3.u3
                        have HS602 := HS601.drop
                        have HS603 := HS602.drop
                        have HS604 := HS603.drop
                        injection h with h
                        injection h with h0_ h
                        subst h0_ h
                        exact ⟨f194, none, 0, none, 0, [], rfl, (L71.trans (L133.trans L195)), HS604, (SlR.nil _ _), (Own.nil _)⟩
                      · have c272 : ¬ ((data5.length : Int) < (w64 ((w64 (vt68 * vt130)) * vt192))) := c272
                        refine wpRwI 68 kr (decide_eq_false c272) ?_
                        refine wpRwI 69 kr (decide_eq_false c272) ?_
                        refine condF kr ?_
                        refine wp_skip ?_
                        refine hK262 _ _ ?_
                        refine wp_seq_k (fun K278 hK279 => ?_)
                        refine wp_seq_k fun K280 hK281 => rl ?_
                        refine seqL1 kr ?_
                        refine seqK rfl (does_run (run_load rfl Tryz.underlying3 rfl (kv (.pointer (some ⟨b231, 0, none⟩))) (HS242.cell 0)) ?_)
                        refine seqL1 kr ?_
                        refine seqK rfl (does_run (run_load rfl Tryz.underlying3 rfl (kv (.pointer (some ⟨b231, 1, none⟩))) (HS242.cell 1)) ?_)
                        refine seqL2 kr ?_
                        refine nl (hK281 _ _ ?_)
                        refine blockK (fun B282 hx283 hn284 hr285 ho286 hp287 => ?_)
                        have hq_ := bind_some h; clear h; obtain ⟨o397, hv521, h⟩ := hq_
                        have J522 : ∀ (f510 : FM) (A516 : Option Addr) (c517 : Nat) (s518 : Seg) (x515 : List Int) (j514 : Nat → Value) (W512 : World) (a_ : Act), FM.le f194 f510 → some (x515) = some o397 → St t W512 f510 (s518 :: [(b231, .cells #[.int .i64 vt68, .int .i64 vt130, .slice A228 (cards1.drop (3 : Int).toNat).length c229, .slice A516 x515.length c517] 29 (0, 0))] :: [(b17, .cells #[.int .i64 vt68, .int .i64 vt130, .int .i64 vt192] 127 (0, 0))] :: [(b11, .cells #[.int .i64 0, .int .i64 0, .slice none 0 0, .slice none 0 0] 29 (0, 0))] :: H) → Own (tInt .i64) 3 f510 A516 c517 s518 x515 → a_ = ⟨#[.slice A2 cards1.length c3, .slice A6 data5.length c7, uV, uV, pV b11 0, fV, pV b17 0, iV 2, iV vt192, .nilIface, pV b231 0, (j514 0), (j514 1), uV, (j514 2), iV 3, fV, iV 2, iV 2, .slice A2 cards1.length c3, iV (cards1.length : Int), fV, uV, .tuple #[iV vt192, .nilIface], .slice A2 cards1.length c3, iV 2, pV b189 (of190 + (2 : Int).toNat * 4), pV b189 (of190 + (2 : Int).toNat * 4 + 1), .string ((rd cards1 2).Value), .tuple #[iV vt192, .nilIface], iV vt192, .nilIface, .nilIface, fV, fV, iV vt192, fV, fV, fV, iV vt192, fV, fV, uV, iV 2, iV vt192, pV b17 2, iV 3, pV b17 0, iV vt68, pV b17 1, iV vt130, .slice A2 cards1.length c3, .slice A228 (cards1.drop (3 : Int).toNat).length c229, .agg #[iV vt68, iV vt130, .slice A228 (cards1.drop (3 : Int).toNat).length c229, .slice none 0 0], pV b17 2, iV vt192, fV, fV, .slice A6 data5.length c7, iV (data5.length : Int), pV b231 0, iV vt68, pV b231 1, iV vt130, iV (w64 (vt68 * vt130)), pV b17 2, iV vt192, iV (w64 ((w64 (vt68 * vt130)) * vt192)), fV, fV, uV, pV b231 0, iV vt68, pV b231 1, iV vt130, iV (w64 (vt68 * vt130)), (j514 3), (j514 4), (j514 5), (j514 6), (j514 7), (j514 8), (j514 9), (j514 10), (j514 11), (j514 12), (j514 13), (j514 14), (j514 15), (j514 16), (j514 17), (j514 18), (j514 19), (j514 20), (j514 21), (j514 22), (j514 23), (j514 24), (j514 25), (j514 26), (j514 27), (j514 28), (j514 29), (j514 30), (j514 31), (j514 32), (j514 33), (j514 34), uV], []⟩ → K278 a_ W512 := by
                         intro f510 A516 c517 s518 x515 j514 W512 a_ L511 hj523 HS513 HO519 hfr_; subst hfr_
                         injection hj523 with hj523; subst hj523; try dsimp only at h
                         refine hK279 _ _ ?_
                         refine wp_seq_k fun K530 hK531 => rl ?_
                         refine seqK rfl (does_run (run_loadN (n := 4) rfl Tryz.underlying29 rfl kr (kv (.pointer (some ⟨b231, 0, none⟩))) (cs := [.int .i64 vt68, .int .i64 vt130, .slice A228 (cards1.drop (3 : Int).toNat).length c229, .slice A516 x515.length c517]) rfl (HS513.u1.cells 0 4 _ rfl)) ?_)
                         have HS532 := HS513.u3
                         refine seqK rfl (does_storeA (vs := [.int .i64 vt68, .int .i64 vt130, .slice A228 (cards1.drop (3 : Int).toNat).length c229, .slice A516 x515.length c517]) rfl kr kr kr rfl (ones rfl) HS532 kr ?_)
                         intro W533 HS534
                         refine seqL1 kr ?_
                         refine nl (hK531 _ _ ?_)
                         refine wp_ret ?_
                         refine hret _ _ ?_
                         refine ends (v := Value.tuple #[.agg #[.int .i64 vt68, .int .i64 vt130, .slice A228 (cards1.drop (3 : Int).toNat).length c229, .slice A516 x515.length c517], .bool true]) (results2 (q1 := .cell 4 29) (q2 := .tmp 5) kr (resN (n := 4) (cs := [.int .i64 vt68, .int .i64 vt130, .slice A228 (cards1.drop (3 : Int).toNat).length c229, .slice A516 x515.length c517]) (kv (.pointer (some ⟨b11, 0, none⟩))) Tryz.underlying29 rfl kr rfl (HS534.cells 0 4 _ rfl)) (resT (kv (.bool true)))) kr ?_
                         have HS608 := HS534.u1.u3.u3.u3
                         have HS609 := HS608.drop
                         have HS610 := HS609.drop
                         have HS611 := HS610.drop
                         injection h with h
                         injection h with h0_ h
                         subst h0_ h
                         exact ⟨f510, A228, c229, A516, c517, s518, rfl, (L71.trans (L133.trans (L195.trans L511))), HS611, (HR230.mono (L71.trans (L133.trans (L195.trans L511)))), HO519⟩
                        clear h; have h := hv521; clear hv521
                        have HS524 := HS242.cons_nil
                        refine loopK (fun n_ a_ w_ => ∃ (f401 : FM) (A408 : Option Addr) (c409 : Nat) (s410 : Seg) (x406 : Int) (x407 : List Int) (j405 : Nat → Value), FM.le f194 f401 ∧ St t w_ f401 (s410 :: [(b231, .cells #[.int .i64 vt68, .int .i64 vt130, .slice A228 (cards1.drop (3 : Int).toNat).length c229, .slice A408 x407.length c409] 29 (0, 0))] :: [(b17, .cells #[.int .i64 vt68, .int .i64 vt130, .int .i64 vt192] 127 (0, 0))] :: [(b11, .cells #[.int .i64 0, .int .i64 0, .slice none 0 0, .slice none 0 0] 29 (0, 0))] :: H) ∧ Own (tInt .i64) 3 f401 A408 c409 s410 x407 ∧ frame_whole.l0 k vt68 vt130 vt192 data5 n_ x406 x407 = some o397 ∧ a_ = ⟨#[.slice A2 cards1.length c3, .slice A6 data5.length c7, uV, uV, pV b11 0, fV, pV b17 0, iV 2, iV vt192, .nilIface, pV b231 0, (j405 0), (j405 1), uV, (j405 2), iV 3, fV, iV 2, iV 2, .slice A2 cards1.length c3, iV (cards1.length : Int), fV, uV, .tuple #[iV vt192, .nilIface], .slice A2 cards1.length c3, iV 2, pV b189 (of190 + (2 : Int).toNat * 4), pV b189 (of190 + (2 : Int).toNat * 4 + 1), .string ((rd cards1 2).Value), .tuple #[iV vt192, .nilIface], iV vt192, .nilIface, .nilIface, fV, fV, iV vt192, fV, fV, fV, iV vt192, fV, fV, uV, iV 2, iV vt192, pV b17 2, iV 3, pV b17 0, iV vt68, pV b17 1, iV vt130, .slice A2 cards1.length c3, .slice A228 (cards1.drop (3 : Int).toNat).length c229, .agg #[iV vt68, iV vt130, .slice A228 (cards1.drop (3 : Int).toNat).length c229, .slice none 0 0], pV b17 2, iV vt192, fV, fV, .slice A6 data5.length c7, iV (data5.length : Int), pV b231 0, iV vt68, pV b231 1, iV vt130, iV (w64 (vt68 * vt130)), pV b17 2, iV vt192, iV (w64 ((w64 (vt68 * vt130)) * vt192)), fV, fV, uV, pV b231 0, iV vt68, pV b231 1, iV vt130, iV (w64 (vt68 * vt130)), iV x406, (j405 3), (j405 4), (j405 5), (j405 6), (j405 7), (j405 8), (j405 9), (j405 10), (j405 11), (j405 12), (j405 13), (j405 14), (j405 15), (j405 16), (j405 17), (j405 18), (j405 19), (j405 20), (j405 21), (j405 22), (j405 23), (j405 24), (j405 25), (j405 26), (j405 27), (j405 28), (j405 29), (j405 30), (j405 31), (j405 32), (j405 33), uV], []⟩) k ⟨f194, none, 0, [], 0, ([] : List Int), (jL []), fL, HS524, (Own.nil _), h, kr⟩ ?_
                        clear h
                        rintro n400 _ W403 ⟨f401, A408, c409, s410, x406, x407, j405, L402, HS404, HO411, h, rfl⟩ K398 hK399
                        obtain _ | n400 := n400
                        · exact nomatch h
                        simp only [frame_whole.l0] at h
                        refine wp_seq_k fun K413 hK414 => rl ?_
                        refine seqL1 kr ?_
                        refine nl (hK414 _ _ ?_)
                        refine wp_seq_k (fun K415 hK416 => ?_)
                        have hq_ := ite_some h; clear h; rcases hq_ with ⟨c418, h⟩ | ⟨c418, h⟩
                        · have c418 : x406 < (w64 (vt68 * vt130)) := c418
                          refine wpRwI 77 kr (decide_eq_true c418) ?_
                          refine condT kr ?_
                          refine wp_skip ?_
                          refine hK416 _ _ ?_
                          refine wp_seq_k (fun K419 hK420 => ?_)
                          refine blockK (fun B421 hx422 hn423 hr424 ho425 hp426 => ?_)
                          refine wp_seq_k fun K428 hK429 => rl ?_
                          refine seqL2 kr ?_
                          refine nl (hK429 _ _ ?_)
                          refine wp_seq_k fun K430 hK431 => rl ?_
                          refine seqL1 kr ?_
                          refine nl (hK431 _ _ ?_)
                          refine wp_seq_k (fun K432 hK433 => ?_)
                          refine wp_seq_k fun K434 hK435 => rl ?_
                          refine seqL3 kr ?_
                          refine seqK rfl (does_run (run_load rfl Tryz.underlying3 rfl (kv (.pointer (some ⟨b17, 2, none⟩))) (HS404.u2.cell 2)) ?_)
                          refine seqL4 kr ?_
                          refine seqK rfl (does_run (run_load rfl Tryz.underlying3 rfl (kv (.pointer (some ⟨b17, 2, none⟩))) (HS404.u2.cell 2)) ?_)
                          have hq_ := guard_some h; clear h; obtain ⟨c436, h⟩ := hq_
                          have c436 : 0 ≤ (w64 (x406 * vt192)) := c436
                          have hq_ := guard_some h; clear h; obtain ⟨c437, h⟩ := hq_
                          have c437 : (w64 (x406 * vt192)) ≤ (w64 ((w64 (x406 + 1)) * vt192)) := c437
                          have hq_ := guard_some h; clear h; obtain ⟨c438, h⟩ := hq_
                          have c438 : (w64 ((w64 (x406 + 1)) * vt192)) ≤ (data5.length : Int) := c438
                          refine seqL1 kr ?_
                          refine seqK rfl (does_cutLH (e := (tInt .u8)) (xs := data5) rfl Tryz.underlying23 kr (kv (.slice A6 data5.length c7)) (kv (.int .i64 (w64 (x406 * vt192)))) (kv (.int .i64 (w64 ((w64 (x406 + 1)) * vt192))))  c436 c437 c438 HR8 ?_)
                          intro A439 c440 HR441
                          refine seqL2 kr ?_
                          refine nl (hK435 _ _ ?_)
                          refine blockK (fun B442 hx443 hn444 hr445 ho446 hp447 => ?_)
                          have hq_ := bind_some h; clear h; obtain ⟨o448, hv489, h⟩ := hq_
                          have J490 : ∀ (f483 : FM) (c488 : Int) (j487 : Nat → Value) (W485 : World) (a_ : Act), FM.le f401 f483 → some (c488) = some o448 → St t W485 f483 (s410 :: [(b231, .cells #[.int .i64 vt68, .int .i64 vt130, .slice A228 (cards1.drop (3 : Int).toNat).length c229, .slice A408 x407.length c409] 29 (0, 0))] :: [(b17, .cells #[.int .i64 vt68, .int .i64 vt130, .int .i64 vt192] 127 (0, 0))] :: [(b11, .cells #[.int .i64 0, .int .i64 0, .slice none 0 0, .slice none 0 0] 29 (0, 0))] :: H) → a_ = ⟨#[.slice A2 cards1.length c3, .slice A6 data5.length c7, uV, uV, pV b11 0, fV, pV b17 0, iV 2, iV vt192, .nilIface, pV b231 0, iV x406, iV c488, uV, (j487 0), iV 3, fV, iV 2, iV 2, .slice A2 cards1.length c3, iV (cards1.length : Int), fV, uV, .tuple #[iV vt192, .nilIface], .slice A2 cards1.length c3, iV 2, pV b189 (of190 + (2 : Int).toNat * 4), pV b189 (of190 + (2 : Int).toNat * 4 + 1), .string ((rd cards1 2).Value), .tuple #[iV vt192, .nilIface], iV vt192, .nilIface, .nilIface, fV, fV, iV vt192, fV, fV, fV, iV vt192, fV, fV, uV, iV 2, iV vt192, pV b17 2, iV 3, pV b17 0, iV vt68, pV b17 1, iV vt130, .slice A2 cards1.length c3, .slice A228 (cards1.drop (3 : Int).toNat).length c229, .agg #[iV vt68, iV vt130, .slice A228 (cards1.drop (3 : Int).toNat).length c229, .slice none 0 0], pV b17 2, iV vt192, fV, fV, .slice A6 data5.length c7, iV (data5.length : Int), pV b231 0, iV vt68, pV b231 1, iV vt130, iV (w64 (vt68 * vt130)), pV b17 2, iV vt192, iV (w64 ((w64 (vt68 * vt130)) * vt192)), fV, fV, uV, pV b231 0, iV vt68, pV b231 1, iV vt130, iV (w64 (vt68 * vt130)), iV x406, tV, iV x406, .slice A6 data5.length c7, iV x406, pV b17 2, iV vt192, iV (w64 (x406 * vt192)), iV x406, iV (w64 (x406 + 1)), pV b17 2, iV vt192, iV (w64 ((w64 (x406 + 1)) * vt192)), .slice A439 ((data5.take (w64 ((w64 (x406 + 1)) * vt192)).toNat).drop (w64 (x406 * vt192)).toNat).length c440, iV (((data5.take (w64 ((w64 (x406 + 1)) * vt192)).toNat).drop (w64 (x406 * vt192)).toNat).length : Int), (j487 1), (j487 2), (j487 3), (j487 4), (j487 5), (j487 6), (j487 7), (j487 8), (j487 9), (j487 10), (j405 27), (j405 28), (j405 29), (j405 30), (j405 31), (j405 32), (j405 33), uV], []⟩ → K432 a_ W485 := by
                           intro f483 c488 j487 W485 a_ L484 hj491 HS486  hfr_; subst hfr_
                           injection hj491 with hj491; subst hj491; try dsimp only at h
                           refine hK433 _ _ ?_
                           refine rl ?_
                           refine seqL1 kr ?_
                           refine seqK rfl (does_run (run_load rfl Tryz.underlying22 rfl (kv (.pointer (some ⟨b231, 3, none⟩))) (HS486.u1.cell 3)) ?_)
                           refine seqL1 kr ?_
                           refine seqK rfl (does_lit (e := (tInt .i64)) (E := 3) (vs := #[(0, Value.int .i64 c488)]) (cs := #[.int .i64 c488]) (xs := ([c488] : List Int)) rfl Tryz.underlying22 kr kr ⟨[.int .i64 c488], _, rfl, rfl, rfl⟩ rfl HS486 ?_ (by decide))
                           intro b492 W493 s494 HS495 _ HO496
                           have hq_ := guard_some h; clear h; obtain ⟨c498, h⟩ := hq_
                           have c498 : (x407.length + 1) * 8 ≤ 140737488355328 := c498
                           have HS500 := HS495.u1.u1
                           refine seqK rfl (does_append1 (e := (tInt .i64)) (E := 3) (xs := x407) (ys := ([c488] : List Int)) rfl (kv (.slice A408 x407.length c409)) (kv (.slice (some ⟨b492, 0, none⟩) ([c488] : List Int).length 1)) Tryz.underlying22 inf3 (HO411.mono L484) HO496 HS500 c498 (lim63 c498 (by decide)) ?_)
                           intro A501 c502 s503 W504 HS505 HO506
                           have HS507 := HS505.u1
                           refine seqL1 kr ?_
                           refine seqK rfl (does_store (n := 1) (vs := [.slice A501 (x407 ++ ([c488] : List Int)).length c502]) (cs' := #[.int .i64 vt68, .int .i64 vt130, .slice A228 (cards1.drop (3 : Int).toNat).length c229, .slice A501 (x407 ++ ([c488] : List Int)).length c502]) rfl kr (kv (.pointer (some ⟨b231, 3, none⟩))) (kv (.slice A501 (x407 ++ ([c488] : List Int)).length c502)) rfl rfl (ones rfl) HS507 (Nat.le_of_ble_eq_true rfl) kr ?_)
                           intro W508 HS509
                           refine nl ?_
                           refine hn423 _ _ ?_
                           refine hK420 _ _ ?_
                           refine rl ?_
                           refine seqL2 kr ?_
                           refine nl ?_
                           refine hK399 n400 _ _ (Nat.lt_succ_self _) ?_
                           have HS529 := HS509.u3.u3.u2.u3
                           exact ⟨f483, A501, c502, s503, (w64 (x406 + 1)), (x407 ++ ([c488] : List Int)), (jL [iV x406, iV c488, (j487 0), tV, iV x406, .slice A6 data5.length c7, iV x406, .pointer (some ⟨b17, 2, none⟩), iV vt192, iV (w64 (x406 * vt192)), iV x406, iV (w64 (x406 + 1)), .pointer (some ⟨b17, 2, none⟩), iV vt192, iV (w64 ((w64 (x406 + 1)) * vt192)), .slice A439 ((data5.take (w64 ((w64 (x406 + 1)) * vt192)).toNat).drop (w64 (x406 * vt192)).toNat).length c440, iV (((data5.take (w64 ((w64 (x406 + 1)) * vt192)).toNat).drop (w64 (x406 * vt192)).toNat).length : Int), (j487 1), (j487 2), (j487 3), (j487 4), (j487 5), (j487 6), (j487 7), (j487 8), (j487 9), (j487 10), .pointer (some ⟨b231, 3, none⟩), .slice A408 x407.length c409, iV c488, .slice (some ⟨b492, 0, none⟩) ([c488] : List Int).length 1, .slice A501 (x407 ++ ([c488] : List Int)).length c502, .pointer (some ⟨b231, 3, none⟩), iV (w64 (x406 + 1))]), (L402.trans L484), HS529, HO506, h, kr⟩
                          clear h; have h := hv489; clear hv489
                          refine loopK (fun n_ a_ w_ => ∃ (f452 : FM) (c457 : Int) (x458 : Int) (j456 : Nat → Value), FM.le f401 f452 ∧ St t w_ f452 (s410 :: [(b231, .cells #[.int .i64 vt68, .int .i64 vt130, .slice A228 (cards1.drop (3 : Int).toNat).length c229, .slice A408 x407.length c409] 29 (0, 0))] :: [(b17, .cells #[.int .i64 vt68, .int .i64 vt130, .int .i64 vt192] 127 (0, 0))] :: [(b11, .cells #[.int .i64 0, .int .i64 0, .slice none 0 0, .slice none 0 0] 29 (0, 0))] :: H) ∧ frame_whole.l1 k data5 x406 vt192 n_ c457 x458 = some o448 ∧ a_ = ⟨#[.slice A2 cards1.length c3, .slice A6 data5.length c7, uV, uV, pV b11 0, fV, pV b17 0, iV 2, iV vt192, .nilIface, pV b231 0, iV x406, iV c457, uV, (j456 0), iV 3, fV, iV 2, iV 2, .slice A2 cards1.length c3, iV (cards1.length : Int), fV, uV, .tuple #[iV vt192, .nilIface], .slice A2 cards1.length c3, iV 2, pV b189 (of190 + (2 : Int).toNat * 4), pV b189 (of190 + (2 : Int).toNat * 4 + 1), .string ((rd cards1 2).Value), .tuple #[iV vt192, .nilIface], iV vt192, .nilIface, .nilIface, fV, fV, iV vt192, fV, fV, fV, iV vt192, fV, fV, uV, iV 2, iV vt192, pV b17 2, iV 3, pV b17 0, iV vt68, pV b17 1, iV vt130, .slice A2 cards1.length c3, .slice A228 (cards1.drop (3 : Int).toNat).length c229, .agg #[iV vt68, iV vt130, .slice A228 (cards1.drop (3 : Int).toNat).length c229, .slice none 0 0], pV b17 2, iV vt192, fV, fV, .slice A6 data5.length c7, iV (data5.length : Int), pV b231 0, iV vt68, pV b231 1, iV vt130, iV (w64 (vt68 * vt130)), pV b17 2, iV vt192, iV (w64 ((w64 (vt68 * vt130)) * vt192)), fV, fV, uV, pV b231 0, iV vt68, pV b231 1, iV vt130, iV (w64 (vt68 * vt130)), iV x406, tV, iV x406, .slice A6 data5.length c7, iV x406, pV b17 2, iV vt192, iV (w64 (x406 * vt192)), iV x406, iV (w64 (x406 + 1)), pV b17 2, iV vt192, iV (w64 ((w64 (x406 + 1)) * vt192)), .slice A439 ((data5.take (w64 ((w64 (x406 + 1)) * vt192)).toNat).drop (w64 (x406 * vt192)).toNat).length c440, iV (((data5.take (w64 ((w64 (x406 + 1)) * vt192)).toNat).drop (w64 (x406 * vt192)).toNat).length : Int), iV x458, (j456 1), (j456 2), (j456 3), (j456 4), (j456 5), (j456 6), (j456 7), (j456 8), (j456 9), (j405 27), (j405 28), (j405 29), (j405 30), (j405 31), (j405 32), (j405 33), uV], []⟩) k ⟨f401, 0, 0, (jL [(j405 2), (j405 18), (j405 19), (j405 20), (j405 21), (j405 22), (j405 23), (j405 24), (j405 25), (j405 26)]), fL, HS404, h, kr⟩ ?_
                          clear h
                          rintro n451 _ W454 ⟨f452, c457, x458, j456, L453, HS455, h, rfl⟩ K449 hK450
                          obtain _ | n451 := n451
                          · exact nomatch h
                          simp only [frame_whole.l1] at h
                          refine wp_seq_k fun K459 hK460 => rl ?_
                          refine seqL1 kr ?_
                          refine nl (hK460 _ _ ?_)
                          refine wp_seq_k (fun K461 hK462 => ?_)
                          have hq_ := ite_some h; clear h; rcases hq_ with ⟨c464, h⟩ | ⟨c464, h⟩
                          · have c464 : x458 < (((data5.take (w64 ((w64 (x406 + 1)) * vt192)).toNat).drop (w64 (x406 * vt192)).toNat).length : Int) := c464
                            refine wpRwI 92 kr (decide_eq_true c464) ?_
                            refine condT kr ?_
                            refine wp_skip ?_
                            refine hK462 _ _ ?_
                            refine wp_seq_k (fun K465 hK466 => ?_)
                            refine blockK (fun B467 hx468 hn469 hr470 ho471 hp472 => ?_)
                            refine wp_seq_k fun K474 hK475 => rl ?_
                            have hq_ := guard_some h; clear h; obtain ⟨c476, h⟩ := hq_
                            have c476 : 0 ≤ x458 := c476
                            obtain ⟨b480, of481, cs477, hA482, hr478, hc479⟩ := (HR441.mono (L71.trans (L133.trans (L195.trans (L402.trans L453))))).at (i := x458) c476 c464
                            obtain rfl := hr478
                            refine seqK rfl (does_run (run_indexE hA482 (sz := 1) rfl Tryz.underlying23 kr (kv (.slice A439 ((data5.take (w64 ((w64 (x406 + 1)) * vt192)).toNat).drop (w64 (x406 * vt192)).toNat).length c440)) (kv (.int .i64 x458)) c476 c464 W454) ?_)
                            refine seqK rfl (does_run (run_load rfl Tryz.underlying5 rfl (kv (.pointer (some ⟨b480, of481 + (x458 : Int).toNat * 1, none⟩))) ((hc479 fL HS455) 0 (by decide))) ?_)
                            refine seqL1 kr ?_
                            refine nl (hK475 _ _ ?_)
                            refine rl ?_
                            refine seqL6 kr ?_
                            refine nl ?_
                            refine hn469 _ _ ?_
                            refine hK466 _ _ ?_
                            refine rl ?_
                            refine seqL2 kr ?_
                            refine nl ?_
                            refine hK450 n451 _ _ (Nat.lt_succ_self _) ?_
                            exact ⟨f452, (Go.bits .or .i64 (w64 (c457 * 2 ^ 8)) (w64 ((rd ((data5.take (w64 ((w64 (x406 + 1)) * vt192)).toNat).drop (w64 (x406 * vt192)).toNat) x458)))), (w64 (x458 + 1)), (jL [.int .u8 (rd ((data5.take (w64 ((w64 (x406 + 1)) * vt192)).toNat).drop (w64 (x406 * vt192)).toNat) x458), tV, .pointer (some ⟨b480, of481 + (x458 : Int).toNat * 1, none⟩), .int .u8 (rd ((data5.take (w64 ((w64 (x406 + 1)) * vt192)).toNat).drop (w64 (x406 * vt192)).toNat) x458), iV c457, iV (w64 (c457 * 2 ^ 8)), .int .u8 (rd ((data5.take (w64 ((w64 (x406 + 1)) * vt192)).toNat).drop (w64 (x406 * vt192)).toNat) x458), iV (w64 ((rd ((data5.take (w64 ((w64 (x406 + 1)) * vt192)).toNat).drop (w64 (x406 * vt192)).toNat) x458))), iV (Go.bits .or .i64 (w64 (c457 * 2 ^ 8)) (w64 ((rd ((data5.take (w64 ((w64 (x406 + 1)) * vt192)).toNat).drop (w64 (x406 * vt192)).toNat) x458)))), iV (w64 (x458 + 1))]), L453, HS455, h, kr⟩
                          · have c464 : ¬ (x458 < (((data5.take (w64 ((w64 (x406 + 1)) * vt192)).toNat).drop (w64 (x406 * vt192)).toNat).length : Int)) := c464
                            refine wpRwI 92 kr (decide_eq_false c464) ?_
                            refine condF kr ?_
                            refine wp_exit ?_
                            refine hx443 _ _ ?_
                            exact J490 f452 c457 (jL [(j456 0), iV x458, fV, (j456 2), (j456 3), (j456 4), (j456 5), (j456 6), (j456 7), (j456 8), (j456 9)]) W454 _ L453 h HS455 kr
                        · have c418 : ¬ (x406 < (w64 (vt68 * vt130))) := c418
                          refine wpRwI 77 kr (decide_eq_false c418) ?_
                          refine condF kr ?_
                          refine wp_exit ?_
                          refine hx283 _ _ ?_
                          exact J522 f401 A408 c409 s410 x407 (jL [(j405 0), (j405 1), (j405 2), iV x406, fV, (j405 4), (j405 5), (j405 6), (j405 7), (j405 8), (j405 9), (j405 10), (j405 11), (j405 12), (j405 13), (j405 14), (j405 15), (j405 16), (j405 17), (j405 18), (j405 19), (j405 20), (j405 21), (j405 22), (j405 23), (j405 24), (j405 25), (j405 26), (j405 27), (j405 28), (j405 29), (j405 30), (j405 31), (j405 32), (j405 33)]) W403 _ L402 h HS404 HO411 kr
                   refine takeEither 5 7 kr rfl rfl rfl rfl ?_ ?_
                   · refine does_cutL (e := ty_Card) (xs := cards1) rfl Tryz.underlying27 kr (kv (.slice A2 cards1.length c3)) (kv (.int .i64 3)) (by decide) c227 HR4 ?_
                     intro A243 c244 HR245
                     refine ⟨(Sg.g0 (Sx.of [] fL HS226)), ?_⟩
                     refine takeGL [6] (n := 3) (fuel := 2) #[true, true, true, true, true, true, true, false, false] rfl kr kr kr hnp (Sg.g0 (Sx.of [] fL HS226)) ?_
                     refine takeGE 7 kr rfl kr (does_alloc (z := Value.agg #[.int .i64 0, .int .i64 0, .slice none 0 0, .slice none 0 0]) (cs := #[.int .i64 0, .int .i64 0, .slice none 0 0, .slice none 0 0]) rfl kr rfl HS226 ?_)
                     intro b246 W247 HS248
                     refine ⟨(Sg.g0 (Sx.of [[(b246, .cells #[.int .i64 0, .int .i64 0, .slice none 0 0, .slice none 0 0] 29 (0, 0))]] fL HS248)), ?_⟩
                     refine takeGE 8 kr rfl kr (does_storeA (vs := [.int .i64 vt68, .int .i64 vt130, .slice A243 (cards1.drop (3 : Int).toNat).length c244, .slice none 0 0]) rfl kr kr kr rfl (ones rfl) HS248 kr ?_)
                     intro W250 HS251
                     refine ⟨(Sg.g0 (Sx.of [[(b246, .cells #[.int .i64 vt68, .int .i64 vt130, .slice A243 (cards1.drop (3 : Int).toNat).length c244, .slice none 0 0] 29 (0, 0))]] fL HS251)), ?_⟩
                     refine hR239 _ _ ?_
                     exact J240 A243 c244 b246 W250 _ HR245 HS251 kr
                   · refine does_alloc (z := Value.agg #[.int .i64 0, .int .i64 0, .slice none 0 0, .slice none 0 0]) (cs := #[.int .i64 0, .int .i64 0, .slice none 0 0, .slice none 0 0]) rfl kr rfl HS226 ?_
                     intro b252 W253 HS254
                     refine ⟨(Sg.g0 (Sx.of [[(b252, .cells #[.int .i64 0, .int .i64 0, .slice none 0 0, .slice none 0 0] 29 (0, 0))]] fL HS254)), ?_⟩
                     refine takeGE 5 kr rfl kr (does_cutL (e := ty_Card) (xs := cards1) rfl Tryz.underlying27 kr (kv (.slice A2 cards1.length c3)) (kv (.int .i64 3)) (by decide) c227 HR4 ?_)
                     intro A256 c257 HR258
                     refine ⟨(Sg.g0 (Sx.of [[(b252, .cells #[.int .i64 0, .int .i64 0, .slice none 0 0, .slice none 0 0] 29 (0, 0))]] fL HS254)), ?_⟩
                     refine takeGL [6] (n := 2) (fuel := 1) #[true, true, true, true, true, true, true, true, false] rfl kr kr kr hnp (Sg.g0 (Sx.of [[(b252, .cells #[.int .i64 0, .int .i64 0, .slice none 0 0, .slice none 0 0] 29 (0, 0))]] fL HS254)) ?_
                     refine takeGE 8 kr rfl kr (does_storeA (vs := [.int .i64 vt68, .int .i64 vt130, .slice A256 (cards1.drop (3 : Int).toNat).length c257, .slice none 0 0]) rfl kr kr kr rfl (ones rfl) HS254 kr ?_)
                     intro W259 HS260
                     refine ⟨(Sg.g0 (Sx.of [[(b252, .cells #[.int .i64 vt68, .int .i64 vt130, .slice A256 (cards1.drop (3 : Int).toNat).length c257, .slice none 0 0] 29 (0, 0))]] fL HS260)), ?_⟩
                     refine hR239 _ _ ?_
                     exact J240 A256 c257 b252 W259 _ HR258 HS260 kr

set_option maxRecDepth 100000 in
set_option maxHeartbeats 4000000 in
theorem frame_Decode.calls (k : Nat) (A2 : Option Addr) (c3 : Nat) (b1 : List Int) {t w : World} {f : FM} {H : List Seg} (HS : St t w f (H)) (HR4 : SlR (tInt .u8) f A2 c3 b1) (HA : TabF Tryz.prog "strings.asciiSpace" .u8 Go.Lib.asciiSpaceTab f) (HM : VarI 5 f) (HT : TabF Tryz.prog "internal/strconv.uint64pow10" .u64 Go.Lib.pow10Tab f) (rr1 : S_Frame) (rr2 : Int) (h : frame_Decode k b1 = some (rr1, rr2)) :
    Calls Tryz.prog 12 #[.slice A2 b1.length c3] w (fun e w' => ∃ (g : FM) (A519 : Option Addr) (c520 : Nat) (A521 : Option Addr) (c522 : Nat) (s523 : Seg), e = .returned (Value.tuple #[.agg #[.int .i64 rr1.W, .int .i64 rr1.H, .slice A519 rr1.Cards.length c520, .slice A521 rr1.Counts.length c522], .int .i64 rr2]) ∧ FM.le f g ∧ St t w' g (s523 :: H) ∧ SlR ty_Card g A519 c520 rr1.Cards ∧ Own (tInt .i64) 3 g A521 c522 s523 rr1.Counts) := by
 unfold frame_Decode at h
 refine enter Tryz.func12 rfl (tm := #[.slice A2 b1.length c3, uV, uV, uV, uV, uV, uV, uV, uV, uV, uV, uV, uV, uV, uV, uV, uV, uV, uV, uV, uV, uV, uV, uV, uV, uV, uV, uV, uV, uV, uV, uV, uV, uV, uV, uV, uV, uV, uV, uV, uV, uV, uV, uV, uV, uV, uV, uV, uV, uV, uV, uV, uV, uV, uV, uV, uV, uV, uV, uV, uV, uV, uV, uV, uV, uV, uV, uV, uV, uV, uV, uV, uV, uV, uV, uV, uV, uV, uV, uV, uV, uV, uV, uV, uV, uV, uV, uV, uV, uV, uV, uV, uV, uV, uV, uV, uV, uV, uV, uV, uV, uV, uV, uV, uV, uV, uV, uV, uV, uV, uV, uV, uV, uV, uV]) kr ?_
 intro B hret hnor hnp
 refine wp_seq_k fun K5 hK6 => rl ?_
 refine seqK rfl (does_alloc (z := Value.agg #[.int .i64 0, .int .i64 0, .slice none 0 0, .slice none 0 0]) (cs := #[.int .i64 0, .int .i64 0, .slice none 0 0, .slice none 0 0]) rfl kr rfl HS ?_)
 intro b7 W8 HS9
 refine seqL1 kr ?_
 refine nl (hK6 _ _ ?_)
 refine wp_seq_k fun K11 hK12 => rl ?_
 have hq_ := bind_some h; clear h; obtain ⟨⟨vt13, vt14⟩, hc15, h⟩ := hq_
 refine seqL1 kr ?_
 refine seqK rfl (does_call (f := 11) (args := #[.slice A2 b1.length c3]) kr (frame_Verify.calls k A2 c3 b1 HS9 HR4 vt13 vt14 hc15) ?_)
 rintro _ W18 ⟨f16, A20, c21, s22, rfl, L17, HS19, HO23⟩
 refine ⟨_, rfl, ?_⟩
 refine seqL5 kr ?_
 refine nl (hK12 _ _ ?_)
 refine wp_seq_k (fun K25 hK26 => ?_)
 refine blockK (fun B27 hx28 hn29 hr30 ho31 hp32 => ?_)
 refine wp_seq_k fun K34 hK35 => rl ?_
 refine seqL3 kr ?_
 refine nl (hK35 _ _ ?_)
 have hq_ := ite_some h; clear h; rcases hq_ with ⟨c37, h⟩ | ⟨c37, h⟩
 · have c37 : vt14 ≠ 0 := c37
   refine wpRwI 21 kr (bne_iff_ne.mpr c37) ?_
   refine wpRwI 23 kr (bne_iff_ne.mpr c37) ?_
   refine condT kr ?_
   refine wp_seq_k fun K38 hK39 => rl ?_
   have HS40 := HS19.u1
   refine seqL2 kr ?_
   refine seqK rfl (does_storeA (vs := [.int .i64 0, .int .i64 0, .slice none 0 0, .slice none 0 0]) rfl kr kr kr rfl (ones rfl) HS40 kr ?_)
   intro W41 HS42
   refine seqL1 kr ?_
   refine nl (hK39 _ _ ?_)
   refine wp_ret ?_
   refine hr30 _ _ ?_
   refine hret _ _ ?_
   have HS444 := HS42.cons_nil
   refine ends (v := Value.tuple #[.agg #[.int .i64 0, .int .i64 0, .slice none 0 0, .slice none 0 0], .int .i64 vt14]) (results2 (q1 := .cell 2 29) (q2 := .tmp 3) kr (resN (n := 4) (cs := [.int .i64 0, .int .i64 0, .slice none 0 0, .slice none 0 0]) (kv (.pointer (some ⟨b7, 0, none⟩))) Tryz.underlying29 rfl kr rfl (HS444.u1.cells 0 4 _ rfl)) (resT (kv (.int .i64 vt14)))) kr ?_
   have HS447 := HS444.u2.u2
   have HS448 := HS447.drop
   have HS449 := HS448.drop
   injection h with h
   injection h with h0_ h
   subst h0_ h
   exact ⟨f16, none, 0, none, 0, [], rfl, L17, HS449, (SlR.nil _ _), (Own.nil _)⟩
 · have c37 : ¬ (vt14 ≠ 0) := c37
   refine wpRwI 21 (x := (vt14 != 0)) (v := false) kr (bne_eq_false_iff_eq.mpr (Decidable.of_not_not c37)) ?_
   refine wpRwI 23 (x := (vt14 != 0)) (v := false) kr (bne_eq_false_iff_eq.mpr (Decidable.of_not_not c37)) ?_
   refine condF kr ?_
   refine wp_seq_k fun K43 hK44 => rl ?_
   refine seqL4 kr ?_
   refine nl (hK44 _ _ ?_)
   have hq_ := ite_some h; clear h; rcases hq_ with ⟨c46, h⟩ | ⟨c46, h⟩
   · have c46 : (vt13.length : Int) > 0 := c46
     refine wpRwI 26 kr (decide_eq_true c46) ?_
     refine wpRwI 29 kr (decide_eq_true c46) ?_
     refine condT kr ?_
     refine wp_seq_k fun K47 hK48 => rl ?_
     have HS49 := HS19.u1
     refine seqL1 kr ?_
     refine seqK rfl (does_storeA (vs := [.int .i64 0, .int .i64 0, .slice none 0 0, .slice none 0 0]) rfl kr kr kr rfl (ones rfl) HS49 kr ?_)
     intro W50 HS51
     refine seqL1 kr ?_
     refine nl (hK48 _ _ ?_)
     refine wp_ret ?_
     refine hr30 _ _ ?_
     refine hret _ _ ?_
     have HS450 := HS51.cons_nil
     refine ends (v := Value.tuple #[.agg #[.int .i64 0, .int .i64 0, .slice none 0 0, .slice none 0 0], .int .i64 13]) (results2 (q1 := .cell 2 29) (q2 := .tmp 3) kr (resN (n := 4) (cs := [.int .i64 0, .int .i64 0, .slice none 0 0, .slice none 0 0]) (kv (.pointer (some ⟨b7, 0, none⟩))) Tryz.underlying29 rfl kr rfl (HS450.u1.cells 0 4 _ rfl)) (resT (kv (.int .i64 13)))) kr ?_
     have HS453 := HS450.u2.u2
     have HS454 := HS453.drop
     have HS455 := HS454.drop
     injection h with h
     injection h with h0_ h
     subst h0_ h
     exact ⟨f16, none, 0, none, 0, [], rfl, L17, HS455, (SlR.nil _ _), (Own.nil _)⟩
   · have c46 : ¬ ((vt13.length : Int) > 0) := c46
     refine wpRwI 26 kr (decide_eq_false c46) ?_
     refine wpRwI 29 kr (decide_eq_false c46) ?_
     refine condF kr ?_
     refine wp_skip ?_
     refine hn29 _ _ ?_
     refine hK26 _ _ ?_
     refine wp_seq_k fun K52 hK53 => rl ?_
     refine seqL1 kr ?_
     refine nl (hK53 _ _ ?_)
     refine wp_seq_k (fun K54 hK55 => ?_)
     refine wp_seq_k fun K56 hK57 => rl ?_
     refine seqL1 kr ?_
     refine nl (hK57 _ _ ?_)
     refine blockK (fun B58 hx59 hn60 hr61 ho62 hp63 => ?_)
     have hq_ := bind_some h; clear h; obtain ⟨o64, hv119, h⟩ := hq_
     have J120 : ∀ (f108 : FM) (A114 : Option Addr) (c115 : Nat) (s116 : Seg) (body113 : List Int) (j112 : Nat → Value) (W110 : World) (a_ : Act), FM.le f16 f108 → some (body113) = some o64 → St t W110 f108 (s116 :: s22 :: [(b7, .cells #[.int .i64 0, .int .i64 0, .slice none 0 0, .slice none 0 0] 29 (0, 0))] :: H) → Own (tInt .u8) 5 f108 A114 c115 s116 body113 → a_ = ⟨#[.slice A2 b1.length c3, uV, pV b7 0, iV 0, .slice A20 vt13.length c21, iV vt14, .slice A114 body113.length c115, (j112 0), uV, uV, uV, uV, uV, uV, uV, uV, .tuple #[.slice A20 vt13.length c21, iV vt14], .slice A2 b1.length c3, .tuple #[.slice A20 vt13.length c21, iV vt14], .slice A20 vt13.length c21, iV vt14, fV, iV vt14, fV, uV, uV, fV, .slice A20 vt13.length c21, iV (vt13.length : Int), fV, uV, (j112 1), (j112 2), (j112 3), (j112 4), (j112 5), (j112 6), (j112 7), (j112 8), (j112 9), (j112 10), (j112 11), (j112 12), (j112 13), uV, uV, uV, uV, uV, uV, uV, uV, uV, uV, uV, uV, uV, uV, uV, uV, uV, uV, uV, uV, uV, uV, uV, uV, uV, uV, uV, uV, uV, uV, uV, uV, uV, uV, uV, uV, uV, uV, uV, uV, uV, uV, uV, uV, uV, uV, uV, uV, uV, uV, uV, uV, uV, uV, uV, uV, uV, uV, uV, uV, uV, uV, uV, uV, uV, uV, uV, uV, uV, uV, uV], []⟩ → K54 a_ W110 := by
      intro f108 A114 c115 s116 body113 j112 W110 a_ L109 hj121 HS111 HO117 hfr_; subst hfr_
      injection hj121 with hj121; subst hj121; try dsimp only at h
      refine hK55 _ _ ?_
      refine wp_seq_k fun K124 hK125 => rl ?_
      refine seqL1 kr ?_
      refine nl (hK125 _ _ ?_)
      refine wp_seq_k fun K126 hK127 => rl ?_
      refine seqL1 kr ?_
      refine nl (hK127 _ _ ?_)
      refine wp_seq_k (fun K128 hK129 => ?_)
      refine blockK (fun B130 hx131 hn132 hr133 ho134 hp135 => ?_)
      obtain ⟨f235, L236, HS237, HR238⟩ := HO117.freeze HS111
      have hq_ := bind_some h; clear h; obtain ⟨o239, hv345, h⟩ := hq_
      have JR347 : ∀ z_, some (Sum.inl z_) = some o239 → some z_ = some (rr1, rr2) := by
       intro z_ e_; injection e_ with e_; subst e_; exact h
      have J346 : ∀ (f333 : FM) (A339 : Option Addr) (c340 : Nat) (s341 : Seg) (cards338 : List S_Card) (vat344 : Int) (j337 : Nat → Value) (W335 : World) (a_ : Act), FM.le f235 f333 → some (Sum.inr (cards338, vat344)) = some o239 → St t W335 f333 (s341 :: s22 :: [(b7, .cells #[.int .i64 0, .int .i64 0, .slice none 0 0, .slice none 0 0] 29 (0, 0))] :: H) → Own ty_Card 51 f333 A339 c340 s341 cards338 → a_ = ⟨#[.slice A2 b1.length c3, uV, pV b7 0, (j337 0), .slice A20 vt13.length c21, iV vt14, .slice A114 body113.length c115, (j112 0), .slice A339 cards338.length c340, iV vat344, (j337 1), (j337 2), uV, uV, uV, uV, .tuple #[.slice A20 vt13.length c21, iV vt14], .slice A2 b1.length c3, .tuple #[.slice A20 vt13.length c21, iV vt14], .slice A20 vt13.length c21, iV vt14, fV, iV vt14, fV, uV, uV, fV, .slice A20 vt13.length c21, iV (vt13.length : Int), fV, uV, (j112 1), (j112 2), (j112 3), (j112 4), (j112 5), (j112 6), (j112 7), (j112 8), (j112 9), (j112 10), (j112 11), (j112 12), (j112 13), (j337 3), (j337 4), (j337 5), (j337 6), (j337 7), (j337 8), (j337 9), (j337 10), (j337 11), (j337 12), (j337 13), (j337 14), (j337 15), (j337 16), (j337 17), (j337 18), (j337 19), (j337 20), (j337 21), (j337 22), (j337 23), (j337 24), (j337 25), (j337 26), (j337 27), (j337 28), (j337 29), (j337 30), (j337 31), (j337 32), (j337 33), (j337 34), (j337 35), (j337 36), (j337 37), (j337 38), (j337 39), (j337 40), uV, uV, uV, uV, uV, uV, uV, uV, uV, uV, uV, uV, uV, uV, uV, uV, uV, uV, uV, uV, uV, uV, uV, uV, uV, uV, uV, uV, uV, uV, uV, uV, uV], []⟩ → K128 a_ W335 := by
       intro f333 A339 c340 s341 cards338 vat344 j337 W335 a_ L334 hj348 HS336 HO342 hfr_; subst hfr_
       injection hj348 with hj348; subst hj348; try dsimp only at h
       simp only [Sum.elim_inr] at h
       refine hK129 _ _ ?_
       refine wp_seq_k fun K356 hK357 => rl ?_
       have hq_ := guard_some h; clear h; obtain ⟨c358, h⟩ := hq_
       have c358 : 0 ≤ (mn (body113.length : Int) (w64 ((w64 ((w64 (Int.tdiv vat344 256)) + 1)) * 256))) := c358
       have hq_ := guard_some h; clear h; obtain ⟨c359, h⟩ := hq_
       have c359 : (mn (body113.length : Int) (w64 ((w64 ((w64 (Int.tdiv vat344 256)) + 1)) * 256))) ≤ (body113.length : Int) := c359
       refine seqL9 kr ?_
       refine seqK rfl (does_cutL (e := (tInt .u8)) (xs := body113) rfl Tryz.underlying23 kr (kv (.slice A114 body113.length c115)) (kv (.int .i64 (mn (body113.length : Int) (w64 ((w64 ((w64 (Int.tdiv vat344 256)) + 1)) * 256))))) c358 c359 HR238 ?_)
       intro A360 c361 HR362
       obtain ⟨f363, L364, HS365, HR366⟩ := HO342.freeze HS336
       have hq_ := bind_some h; clear h; obtain ⟨⟨vt367, vt368⟩, hc369, h⟩ := hq_
       refine seqK rfl (does_call (f := 32) (args := #[.slice A339 cards338.length c340, .slice A360 (body113.drop (mn (body113.length : Int) (w64 ((w64 ((w64 (Int.tdiv vat344 256)) + 1)) * 256))).toNat).length c361]) kr (frame_whole.calls k A339 c340 A360 c361 cards338 (body113.drop (mn (body113.length : Int) (w64 ((w64 ((w64 (Int.tdiv vat344 256)) + 1)) * 256))).toNat) HS365 HR366 (HR362.mono (L334.trans L364)) vt367 vt368 hc369) ?_)
       rintro _ W372 ⟨f370, A374, c375, A377, c378, s379, rfl, L371, HS373, HR376, HO380⟩
       refine ⟨_, rfl, ?_⟩
       refine seqL3 kr ?_
       refine seqK rfl (does_alloc (z := Value.agg #[.int .i64 0, .int .i64 0, .slice none 0 0, .slice none 0 0]) (cs := #[.int .i64 0, .int .i64 0, .slice none 0 0, .slice none 0 0]) rfl kr rfl HS373 ?_)
       intro b382 W383 HS384
       refine seqK rfl (does_storeA (vs := [.int .i64 vt367.W, .int .i64 vt367.H, .slice A374 vt367.Cards.length c375, .slice A377 vt367.Counts.length c378]) rfl kr kr kr rfl (ones rfl) HS384 kr ?_)
       intro W386 HS387
       refine seqL1 kr ?_
       refine nl (hK357 _ _ ?_)
       refine wp_seq_k (fun K388 hK389 => ?_)
       refine wp_seq_k fun K390 hK391 => rl ?_
       refine seqL2 kr ?_
       refine nl (hK391 _ _ ?_)
       have hq_ := ite_some h; clear h; rcases hq_ with ⟨c393, h⟩ | ⟨c393, h⟩
       · have c393 : ¬ (vt368 = true) := c393
         refine wpRwI 97 kr (congrArg (fun b_ => !b_) (show vt368 = false from (Bool.eq_false_iff.mpr c393)) : (!vt368) = true) ?_
         refine condT kr ?_
         refine wp_seq_k fun K394 hK395 => rl ?_
         have HS396 := HS387.u3
         refine seqL1 kr ?_
         refine seqK rfl (does_storeA (vs := [.int .i64 0, .int .i64 0, .slice none 0 0, .slice none 0 0]) rfl kr kr kr rfl (ones rfl) HS396 kr ?_)
         intro W397 HS398
         refine seqL1 kr ?_
         refine nl (hK395 _ _ ?_)
         refine wp_ret ?_
         refine hret _ _ ?_
         have HS476 := HS398.cons_nil
         refine ends (v := Value.tuple #[.agg #[.int .i64 0, .int .i64 0, .slice none 0 0, .slice none 0 0], .int .i64 3]) (results2 (q1 := .cell 2 29) (q2 := .tmp 3) kr (resN (n := 4) (cs := [.int .i64 0, .int .i64 0, .slice none 0 0, .slice none 0 0]) (kv (.pointer (some ⟨b7, 0, none⟩))) Tryz.underlying29 rfl kr rfl (HS476.u1.cells 0 4 _ rfl)) (resT (kv (.int .i64 3)))) kr ?_
         have HS481 := HS476.u4.u4.u4.u4
         have HS482 := HS481.drop
         have HS483 := HS482.drop
         have HS484 := HS483.drop
         have HS485 := HS484.drop
         injection h with h
         injection h with h0_ h
         subst h0_ h
         exact ⟨f370, none, 0, none, 0, [], rfl, (L17.trans (L109.trans (L236.trans (L334.trans (L364.trans L371))))), HS485, (SlR.nil _ _), (Own.nil _)⟩
       · have c393 : ¬ (¬ (vt368 = true)) := c393
         refine wpRwI 97 (x := (!vt368)) (v := false) kr (congrArg (fun b_ => !b_) (show vt368 = true from (Decidable.of_not_not c393)) : (!vt368) = false) ?_
         refine condF kr ?_
         refine wp_skip ?_
         refine hK389 _ _ ?_
         refine wp_seq_k (fun K399 hK400 => ?_)
         refine wp_seq_k fun K401 hK402 => rl ?_
         refine seqK rfl (does_run (run_loadN (n := 4) rfl Tryz.underlying29 rfl kr (kv (.pointer (some ⟨b382, 0, none⟩))) (cs := [.int .i64 vt367.W, .int .i64 vt367.H, .slice A374 vt367.Cards.length c375, .slice A377 vt367.Counts.length c378]) rfl (HS387.cells 0 4 _ rfl)) ?_)
         have HS403 := HS387.u1
         obtain ⟨f404, L405, HS406, HR407, th408⟩ := HO380.lend HS403
         have hq_ := bind_some h; clear h; obtain ⟨⟨vt409, vt410⟩, hc411, h⟩ := hq_
         refine seqK rfl (does_call (f := 7) (args := #[.agg #[.int .i64 vt367.W, .int .i64 vt367.H, .slice A374 vt367.Cards.length c375, .slice A377 vt367.Counts.length c378]]) kr (frame_Encode.calls k A374 c375 A377 c378 vt367 HS406 (HR376.mono L405) HR407 (HA.mono (L17.trans (L109.trans (L236.trans (L334.trans (L364.trans (L371.trans L405))))))) (HT.mono (L17.trans (L109.trans (L236.trans (L334.trans (L364.trans (L371.trans L405))))))) vt409 vt410 hc411) ?_)
         rintro _ W414 ⟨f412, A416, c417, s418, rfl, L413, HS415, HO419⟩
         refine ⟨_, rfl, ?_⟩
         obtain ⟨f421, L422, HS423⟩ := th408 L413 HS415
         replace HO419 := HO419.flat (g := f421) (fun _ _ _ _ h_ => h_)
         refine seqL5 kr ?_
         refine nl (hK402 _ _ ?_)
         refine wp_seq_k fun K424 hK425 => rl ?_
         refine seqL3 kr ?_
         have hq_ := ite_some h; clear h; rcases hq_ with ⟨c426, h⟩ | ⟨c426, h⟩
         · have c426 : vt410 ≠ 0 := c426
           refine seqRwI 105 kr (bne_iff_ne.mpr c426) ?_
           refine seqRwI 106 kr (bne_iff_ne.mpr c426) ?_
           refine seqL6 kr ?_
           refine nl (hK425 _ _ ?_)
           refine condT kr ?_
           refine wp_seq_k fun K427 hK428 => rl ?_
           have HS429 := HS423.u4
           refine seqL1 kr ?_
           refine seqK rfl (does_storeA (vs := [.int .i64 0, .int .i64 0, .slice none 0 0, .slice none 0 0]) rfl kr kr kr rfl (ones rfl) HS429 kr ?_)
           intro W430 HS431
           refine seqL1 kr ?_
           refine nl (hK428 _ _ ?_)
           refine wp_ret ?_
           refine hret _ _ ?_
           have HS486 := HS431.cons_nil
           refine ends (v := Value.tuple #[.agg #[.int .i64 0, .int .i64 0, .slice none 0 0, .slice none 0 0], .int .i64 3]) (results2 (q1 := .cell 2 29) (q2 := .tmp 3) kr (resN (n := 4) (cs := [.int .i64 0, .int .i64 0, .slice none 0 0, .slice none 0 0]) (kv (.pointer (some ⟨b7, 0, none⟩))) Tryz.underlying29 rfl kr rfl (HS486.u1.cells 0 4 _ rfl)) (resT (kv (.int .i64 3)))) kr ?_
           have HS492 := HS486.u5.u5.u5.u5.u5
           have HS493 := HS492.drop
           have HS494 := HS493.drop
           have HS495 := HS494.drop
           have HS496 := HS495.drop
           have HS497 := HS496.drop
           injection h with h
           injection h with h0_ h
           subst h0_ h
           exact ⟨f421, none, 0, none, 0, [], rfl, (L17.trans (L109.trans (L236.trans (L334.trans (L364.trans (L371.trans L422)))))), HS497, (SlR.nil _ _), (Own.nil _)⟩
         · have c426 : ¬ (vt410 ≠ 0) := c426
           refine seqRwI 105 (x := (vt410 != 0)) (v := false) kr (bne_eq_false_iff_eq.mpr (Decidable.of_not_not c426)) ?_
           refine seqRwI 106 (x := (vt410 != 0)) (v := false) kr (bne_eq_false_iff_eq.mpr (Decidable.of_not_not c426)) ?_
           refine seqL1 kr ?_
           refine seqG kr (does_run (run_bstr (f := _) rfl Tryz.underlying23 Tryz.underlying5 Tryz.underlying9 (kv (.slice A416 vt409.length c417)) ((HO419.mono fL).rc HS423.u1)) ?_)
           refine seqL1 kr ?_
           refine seqG kr (does_run (run_bstr (f := _) rfl Tryz.underlying23 Tryz.underlying5 Tryz.underlying9 (kv (.slice A2 b1.length c3)) ((HR4.mono (L17.trans (L109.trans (L236.trans (L334.trans (L364.trans (L371.trans L422))))))).rc HS423)) ?_)
           refine seqL2 kr ?_
           refine nl (hK425 _ _ ?_)
           have hq_ := ite_some h; clear h; rcases hq_ with ⟨c433, h⟩ | ⟨c433, h⟩
           · have c433 : (!((bstr vt409).toList == (bstr b1).toList)) = true := c433
             refine wpRwI 111 kr c433 ?_
             refine wpRwI 112 kr c433 ?_
             refine condT kr ?_
             refine wp_seq_k fun K434 hK435 => rl ?_
             have HS436 := HS423.u4
             refine seqL1 kr ?_
             refine seqK rfl (does_storeA (vs := [.int .i64 0, .int .i64 0, .slice none 0 0, .slice none 0 0]) rfl kr kr kr rfl (ones rfl) HS436 kr ?_)
             intro W437 HS438
             refine seqL1 kr ?_
             refine nl (hK435 _ _ ?_)
             refine wp_ret ?_
             refine hret _ _ ?_
             have HS498 := HS438.cons_nil
             refine ends (v := Value.tuple #[.agg #[.int .i64 0, .int .i64 0, .slice none 0 0, .slice none 0 0], .int .i64 3]) (results2 (q1 := .cell 2 29) (q2 := .tmp 3) kr (resN (n := 4) (cs := [.int .i64 0, .int .i64 0, .slice none 0 0, .slice none 0 0]) (kv (.pointer (some ⟨b7, 0, none⟩))) Tryz.underlying29 rfl kr rfl (HS498.u1.cells 0 4 _ rfl)) (resT (kv (.int .i64 3)))) kr ?_
             have HS504 := HS498.u5.u5.u5.u5.u5
             have HS505 := HS504.drop
             have HS506 := HS505.drop
             have HS507 := HS506.drop
             have HS508 := HS507.drop
             have HS509 := HS508.drop
             injection h with h
             injection h with h0_ h
             subst h0_ h
             exact ⟨f421, none, 0, none, 0, [], rfl, (L17.trans (L109.trans (L236.trans (L334.trans (L364.trans (L371.trans L422)))))), HS509, (SlR.nil _ _), (Own.nil _)⟩
           · have c433 : ¬ ((!((bstr vt409).toList == (bstr b1).toList)) = true) := c433
             refine wpRwI 111 kr (Bool.eq_false_iff.mpr c433) ?_
             refine wpRwI 112 kr (Bool.eq_false_iff.mpr c433) ?_
             refine condF kr ?_
             refine wp_skip ?_
             refine hK400 _ _ ?_
             refine wp_seq_k fun K439 hK440 => rl ?_
             refine seqK rfl (does_run (run_loadN (n := 4) rfl Tryz.underlying29 rfl kr (kv (.pointer (some ⟨b382, 0, none⟩))) (cs := [.int .i64 vt367.W, .int .i64 vt367.H, .slice A374 vt367.Cards.length c375, .slice A377 vt367.Counts.length c378]) rfl (HS423.u2.cells 0 4 _ rfl)) ?_)
             have HS441 := HS423.u4
             refine seqK rfl (does_storeA (vs := [.int .i64 vt367.W, .int .i64 vt367.H, .slice A374 vt367.Cards.length c375, .slice A377 vt367.Counts.length c378]) rfl kr kr kr rfl (ones rfl) HS441 kr ?_)
             intro W442 HS443
             refine seqL1 kr ?_
             refine nl (hK440 _ _ ?_)
             refine wp_ret ?_
             refine hret _ _ ?_
             refine ends (v := Value.tuple #[.agg #[.int .i64 vt367.W, .int .i64 vt367.H, .slice A374 vt367.Cards.length c375, .slice A377 vt367.Counts.length c378], .int .i64 0]) (results2 (q1 := .cell 2 29) (q2 := .tmp 3) kr (resN (n := 4) (cs := [.int .i64 vt367.W, .int .i64 vt367.H, .slice A374 vt367.Cards.length c375, .slice A377 vt367.Counts.length c378]) (kv (.pointer (some ⟨b7, 0, none⟩))) Tryz.underlying29 rfl kr rfl (HS443.cells 0 4 _ rfl)) (resT (kv (.int .i64 0)))) kr ?_
             have HS514 := HS443.u1.u4.u4.u4.u4
             have HS515 := HS514.drop
             have HS516 := HS515.drop
             have HS517 := HS516.drop
             have HS518 := HS517.drop
             injection h with h
             injection h with h0_ h
             subst h0_ h
             exact ⟨f421, A374, c375, A377, c378, s379, rfl, (L17.trans (L109.trans (L236.trans (L334.trans (L364.trans (L371.trans L422)))))), HS518, (HR376.mono L422), (HO380.mono L422)⟩
      clear h; have h := hv345; clear hv345
      have HS349 := HS237.cons_nil
      refine loopK (fun n_ a_ w_ => ∃ (f243 : FM) (A249 : Option Addr) (c250 : Nat) (s251 : Seg) (cards248 : List S_Card) (vat254 : Int) (j247 : Nat → Value), FM.le f235 f243 ∧ St t w_ f243 (s251 :: s22 :: [(b7, .cells #[.int .i64 0, .int .i64 0, .slice none 0 0, .slice none 0 0] 29 (0, 0))] :: H) ∧ Own ty_Card 51 f243 A249 c250 s251 cards248 ∧ frame_Decode.l1 k body113 n_ cards248 vat254 = some o239 ∧ a_ = ⟨#[.slice A2 b1.length c3, uV, pV b7 0, (j247 0), .slice A20 vt13.length c21, iV vt14, .slice A114 body113.length c115, (j112 0), .slice A249 cards248.length c250, iV vat254, (j247 1), (j247 2), uV, uV, uV, uV, .tuple #[.slice A20 vt13.length c21, iV vt14], .slice A2 b1.length c3, .tuple #[.slice A20 vt13.length c21, iV vt14], .slice A20 vt13.length c21, iV vt14, fV, iV vt14, fV, uV, uV, fV, .slice A20 vt13.length c21, iV (vt13.length : Int), fV, uV, (j112 1), (j112 2), (j112 3), (j112 4), (j112 5), (j112 6), (j112 7), (j112 8), (j112 9), (j112 10), (j112 11), (j112 12), (j112 13), (j247 3), (j247 4), (j247 5), (j247 6), (j247 7), (j247 8), (j247 9), (j247 10), (j247 11), (j247 12), (j247 13), (j247 14), (j247 15), (j247 16), (j247 17), (j247 18), (j247 19), (j247 20), (j247 21), (j247 22), (j247 23), (j247 24), (j247 25), (j247 26), (j247 27), (j247 28), (j247 29), (j247 30), (j247 31), (j247 32), (j247 33), (j247 34), (j247 35), (j247 36), (j247 37), (j247 38), (j247 39), (j247 40), uV, uV, uV, uV, uV, uV, uV, uV, uV, uV, uV, uV, uV, uV, uV, uV, uV, uV, uV, uV, uV, uV, uV, uV, uV, uV, uV, uV, uV, uV, uV, uV, uV], []⟩) k ⟨f235, none, 0, [], ([] : List S_Card), 0, (jL [iV 0]), fL, HS349, (Own.nil _), h, kr⟩ ?_
      clear h
      rintro n242 _ W245 ⟨f243, A249, c250, s251, cards248, vat254, j247, L244, HS246, HO252, h, rfl⟩ K240 hK241
      obtain _ | n242 := n242
      · exact nomatch h
      simp only [frame_Decode.l1] at h
      refine wp_seq_k (fun K255 hK256 => ?_)
      refine wp_seq_k fun K257 hK258 => rl ?_
      refine seqL5 kr ?_
      have hq_ := ite_some h; clear h; rcases hq_ with ⟨c259, h⟩ | ⟨c259, h⟩
      · have c259 : vat254 < (body113.length : Int) := c259
        refine seqRwI 47 kr (decide_eq_true c259) ?_
        refine seqRwI 48 kr (decide_eq_true c259) ?_
        have hq_ := guard_some h; clear h; obtain ⟨c260, h⟩ := hq_
        have c260 : 0 ≤ vat254 := c260
        have hq_ := guard_some h; clear h; obtain ⟨c261, h⟩ := hq_
        have c261 : vat254 ≤ (w64 (vat254 + 64)) := c261
        have hq_ := guard_some h; clear h; obtain ⟨c262, h⟩ := hq_
        have c262 : (w64 (vat254 + 64)) ≤ (body113.length : Int) := c262
        refine seqL4 kr ?_
        refine seqG kr (does_cutLH (e := (tInt .u8)) (xs := body113) rfl Tryz.underlying23 kr (kv (.slice A114 body113.length c115)) (kv (.int .i64 vat254)) (kv (.int .i64 (w64 (vat254 + 64))))  c260 c261 c262 HR238 ?_)
        intro A263 c264 HR265
        refine seqG kr (does_run (run_bstr (f := _) rfl Tryz.underlying23 Tryz.underlying5 Tryz.underlying9 (kv (.slice A263 ((body113.take (w64 (vat254 + 64)).toNat).drop (vat254).toNat).length c264)) ((HR265.mono L244).rc HS246)) ?_)
        have hq_ := bind_some h; clear h; obtain ⟨vt266, hc267, h⟩ := hq_
        refine seqG kr (does_call (f := 30) (args := #[.string (bstr ((body113.take (w64 (vat254 + 64)).toNat).drop (vat254).toNat)), .string ⟨#[32]⟩]) kr (strings_TrimRight.calls k (bstr ((body113.take (w64 (vat254 + 64)).toNat).drop (vat254).toNat)) Z14 HS246 vt266 hc267) ?_)
        rintro _ W270 ⟨f268, rfl, L269, HS271⟩
        refine ⟨_, rfl, ?_⟩
        refine seqL2 kr ?_
        refine nl (hK258 _ _ ?_)
        have hq_ := ite_some h; clear h; rcases hq_ with ⟨c273, h⟩ | ⟨c273, h⟩
        · have c273 : (!(vt266.toList == Z25.toList)) = true := c273
          refine wpRwI 56 kr c273 ?_
          refine wpRwI 57 kr c273 ?_
          refine condT kr ?_
          refine wp_skip ?_
          refine hK256 _ _ ?_
          refine wp_seq_k (fun K274 hK275 => ?_)
          refine blockK (fun B276 hx277 hn278 hr279 ho280 hp281 => ?_)
          refine wp_seq_k fun K283 hK284 => rl ?_
          refine seqL4 kr ?_
          refine seqK rfl (does_cutLH (e := (tInt .u8)) (xs := body113) rfl Tryz.underlying23 kr (kv (.slice A114 body113.length c115)) (kv (.int .i64 vat254)) (kv (.int .i64 (w64 (vat254 + 64))))  c260 c261 c262 HR238 ?_)
          intro A285 c286 HR287
          refine seqK rfl (does_run (run_bstr (f := _) rfl Tryz.underlying23 Tryz.underlying5 Tryz.underlying9 (kv (.slice A285 ((body113.take (w64 (vat254 + 64)).toNat).drop (vat254).toNat).length c286)) ((HR287.mono (L244.trans L269)).rc HS271)) ?_)
          have hq_ := bind_some h; clear h; obtain ⟨⟨vt288, vt289⟩, hc290, h⟩ := hq_
          refine seqK rfl (does_call (f := 31) (args := #[.string (bstr ((body113.take (w64 (vat254 + 64)).toNat).drop (vat254).toNat))]) kr (frame_card.calls k (bstr ((body113.take (w64 (vat254 + 64)).toNat).drop (vat254).toNat)) HS271 (HM.mono (L17.trans (L109.trans (L236.trans (L244.trans L269))))) vt288 vt289 hc290) ?_)
          rintro _ W293 ⟨f291, rfl, L292, HS294⟩
          refine ⟨_, rfl, ?_⟩
          refine seqL3 kr ?_
          refine seqK rfl (does_alloc (z := Value.agg #[.string ⟨#[]⟩, .string ⟨#[]⟩, .string ⟨#[]⟩, .string ⟨#[]⟩]) (cs := #[.string ⟨#[]⟩, .string ⟨#[]⟩, .string ⟨#[]⟩, .string ⟨#[]⟩]) rfl kr rfl HS294 ?_)
          intro b295 W296 HS297
          refine seqK rfl (does_storeA (vs := [.string vt288.Key, .string vt288.Value, .string vt288.Unit, .string vt288.Note]) rfl kr kr kr rfl (ones rfl) HS297 kr ?_)
          intro W299 HS300
          refine seqL1 kr ?_
          refine nl (hK284 _ _ ?_)
          refine wp_seq_k (fun K301 hK302 => ?_)
          refine wp_seq_k fun K303 hK304 => rl ?_
          refine seqL3 kr ?_
          have hq_ := ite_some h; clear h; rcases hq_ with ⟨c305, h⟩ | ⟨c305, h⟩
          · have c305 : ¬ (vt289 = true) := c305
            refine seqRwI 71 kr (congrArg (fun b_ => !b_) (show vt289 = false from (Bool.eq_false_iff.mpr c305)) : (!vt289) = true) ?_
            refine seqRwI 72 kr (congrArg (fun b_ => !b_) (show vt289 = false from (Bool.eq_false_iff.mpr c305)) : (!vt289) = true) ?_
            refine seqL4 kr ?_
            refine nl (hK304 _ _ ?_)
            refine condT kr ?_
            refine wp_seq_k fun K306 hK307 => rl ?_
            have HS308 := HS300.u3
            refine seqL1 kr ?_
            refine seqK rfl (does_storeA (vs := [.int .i64 0, .int .i64 0, .slice none 0 0, .slice none 0 0]) rfl kr kr kr rfl (ones rfl) HS308 kr ?_)
            intro W309 HS310
            refine seqL1 kr ?_
            refine nl (hK307 _ _ ?_)
            refine wp_ret ?_
            refine hr279 _ _ ?_
            refine hr133 _ _ ?_
            refine hret _ _ ?_
            have HS456 := HS310.cons_nil
            refine ends (v := Value.tuple #[.agg #[.int .i64 0, .int .i64 0, .slice none 0 0, .slice none 0 0], .int .i64 3]) (results2 (q1 := .cell 2 29) (q2 := .tmp 3) kr (resN (n := 4) (cs := [.int .i64 0, .int .i64 0, .slice none 0 0, .slice none 0 0]) (kv (.pointer (some ⟨b7, 0, none⟩))) Tryz.underlying29 rfl kr rfl (HS456.u1.cells 0 4 _ rfl)) (resT (kv (.int .i64 3)))) kr ?_
            have HS461 := HS456.u4.u4.u4.u4
            have HS462 := HS461.drop
            have HS463 := HS462.drop
            have HS464 := HS463.drop
            have HS465 := HS464.drop
            replace h := JR347 _ h
            injection h with h
            injection h with h0_ h
            subst h0_ h
            exact ⟨f291, none, 0, none, 0, [], rfl, (L17.trans (L109.trans (L236.trans (L244.trans (L269.trans L292))))), HS465, (SlR.nil _ _), (Own.nil _)⟩
          · have c305 : ¬ (¬ (vt289 = true)) := c305
            refine seqRwI 71 (x := (!vt289)) (v := false) kr (congrArg (fun b_ => !b_) (show vt289 = true from (Decidable.of_not_not c305)) : (!vt289) = false) ?_
            refine seqRwI 72 (x := (!vt289)) (v := false) kr (congrArg (fun b_ => !b_) (show vt289 = true from (Decidable.of_not_not c305)) : (!vt289) = false) ?_
            refine seqL4 kr ?_
            refine nl (hK304 _ _ ?_)
            have hq_ := ite_some h; clear h; rcases hq_ with ⟨c312, h⟩ | ⟨c312, h⟩
            · have c312 : (cards248.length : Int) > 31 := c312
              refine wpRwI 75 kr (decide_eq_true c312) ?_
              refine wpRwI 76 kr (decide_eq_true c312) ?_
              refine condT kr ?_
              refine wp_seq_k fun K313 hK314 => rl ?_
              have HS315 := HS300.u3
              refine seqL1 kr ?_
              refine seqK rfl (does_storeA (vs := [.int .i64 0, .int .i64 0, .slice none 0 0, .slice none 0 0]) rfl kr kr kr rfl (ones rfl) HS315 kr ?_)
              intro W316 HS317
              refine seqL1 kr ?_
              refine nl (hK314 _ _ ?_)
              refine wp_ret ?_
              refine hr279 _ _ ?_
              refine hr133 _ _ ?_
              refine hret _ _ ?_
              have HS466 := HS317.cons_nil
              refine ends (v := Value.tuple #[.agg #[.int .i64 0, .int .i64 0, .slice none 0 0, .slice none 0 0], .int .i64 3]) (results2 (q1 := .cell 2 29) (q2 := .tmp 3) kr (resN (n := 4) (cs := [.int .i64 0, .int .i64 0, .slice none 0 0, .slice none 0 0]) (kv (.pointer (some ⟨b7, 0, none⟩))) Tryz.underlying29 rfl kr rfl (HS466.u1.cells 0 4 _ rfl)) (resT (kv (.int .i64 3)))) kr ?_
              have HS471 := HS466.u4.u4.u4.u4
              have HS472 := HS471.drop
              have HS473 := HS472.drop
              have HS474 := HS473.drop
              have HS475 := HS474.drop
              replace h := JR347 _ h
              injection h with h
              injection h with h0_ h
              subst h0_ h
              exact ⟨f291, none, 0, none, 0, [], rfl, (L17.trans (L109.trans (L236.trans (L244.trans (L269.trans L292))))), HS475, (SlR.nil _ _), (Own.nil _)⟩
            · have c312 : ¬ ((cards248.length : Int) > 31) := c312
              refine wpRwI 75 kr (decide_eq_false c312) ?_
              refine wpRwI 76 kr (decide_eq_false c312) ?_
              refine condF kr ?_
              refine wp_skip ?_
              refine hK302 _ _ ?_
              refine rl ?_
              refine seqL1 kr ?_
              refine seqK rfl (does_run (run_loadN (n := 4) rfl Tryz.underlying51 rfl kr (kv (.pointer (some ⟨b295, 0, none⟩))) (cs := [.string vt288.Key, .string vt288.Value, .string vt288.Unit, .string vt288.Note]) rfl (HS300.cells 0 4 _ rfl)) ?_)
              refine seqK rfl (does_lit (e := ty_Card) (E := 51) (vs := #[(0, Value.agg #[.string vt288.Key, .string vt288.Value, .string vt288.Unit, .string vt288.Note])]) (cs := #[.string vt288.Key, .string vt288.Value, .string vt288.Unit, .string vt288.Note]) (xs := ([vt288] : List S_Card)) rfl Tryz.underlying27 kr kr ⟨[.string vt288.Key, .string vt288.Value, .string vt288.Unit, .string vt288.Note], _, rfl, rfl, rfl⟩ rfl HS300 ?_ (by decide))
              intro b318 W319 s320 HS321 _ HO322
              have hq_ := guard_some h; clear h; obtain ⟨c324, h⟩ := hq_
              have c324 : (cards248.length + 1) * 64 ≤ 140737488355328 := c324
              have HS326 := HS321.u2.u1
              refine seqK rfl (does_append1 (e := ty_Card) (E := 51) (xs := cards248) (ys := ([vt288] : List S_Card)) rfl (kv (.slice A249 cards248.length c250)) (kv (.slice (some ⟨b318, 0, none⟩) ([vt288] : List S_Card).length 1)) Tryz.underlying27 inf51 (HO252.mono (L269.trans L292)) HO322 HS326 c324 (lim63 c324 (by decide)) ?_)
              intro A327 c328 s329 W330 HS331 HO332
              refine seqL1 kr ?_
              refine nl ?_
              refine hn278 _ _ ?_
              refine hK275 _ _ ?_
              refine rl ?_
              refine seqL3 kr ?_
              refine nl ?_
              refine hK241 n242 _ _ (Nat.lt_succ_self _) ?_
              have HS354 := HS331.u3.u3.u2.u3
              have HS355 := HS354.drop
              exact ⟨f291, A327, c328, s329, (cards248 ++ ([vt288] : List S_Card)), (w64 (vat254 + 64)), (jL [(j247 0), .pointer (some ⟨b295, 0, none⟩), .bool vt289, iV vat254, .slice A114 body113.length c115, iV (body113.length : Int), tV, tV, .slice A114 body113.length c115, iV vat254, iV vat254, iV (w64 (vat254 + 64)), .slice A263 ((body113.take (w64 (vat254 + 64)).toNat).drop (vat254).toNat).length c264, .string (bstr ((body113.take (w64 (vat254 + 64)).toNat).drop (vat254).toNat)), .string vt266, tV, tV, iV vat254, iV (w64 (vat254 + 64)), .tuple #[(ag_Card vt288), .bool vt289], .slice A114 body113.length c115, iV vat254, iV vat254, iV (w64 (vat254 + 64)), .slice A285 ((body113.take (w64 (vat254 + 64)).toNat).drop (vat254).toNat).length c286, .string (bstr ((body113.take (w64 (vat254 + 64)).toNat).drop (vat254).toNat)), .tuple #[(ag_Card vt288), .bool vt289], (ag_Card vt288), .bool vt289, .bool vt289, fV, fV, .slice A249 cards248.length c250, iV (cards248.length : Int), fV, fV, (j247 36), .slice A249 cards248.length c250, (ag_Card vt288), .slice (some ⟨b318, 0, none⟩) ([vt288] : List S_Card).length 1, .slice A327 (cards248 ++ ([vt288] : List S_Card)).length c328]), (L244.trans (L269.trans L292)), HS355, HO332, h, kr⟩
        · have c273 : ¬ ((!(vt266.toList == Z25.toList)) = true) := c273
          refine wpRwI 56 kr (Bool.eq_false_iff.mpr c273) ?_
          refine wpRwI 57 kr (Bool.eq_false_iff.mpr c273) ?_
          refine condF kr ?_
          refine wp_exit ?_
          refine hx131 _ _ ?_
          exact J346 f268 A249 c250 s251 cards248 vat254 (jL [(j247 0), (j247 1), (j247 2), iV vat254, .slice A114 body113.length c115, iV (body113.length : Int), tV, tV, .slice A114 body113.length c115, iV vat254, iV vat254, iV (w64 (vat254 + 64)), .slice A263 ((body113.take (w64 (vat254 + 64)).toNat).drop (vat254).toNat).length c264, .string (bstr ((body113.take (w64 (vat254 + 64)).toNat).drop (vat254).toNat)), .string vt266, fV, fV, (j247 17), (j247 18), (j247 19), (j247 20), (j247 21), (j247 22), (j247 23), (j247 24), (j247 25), (j247 26), (j247 27), (j247 28), (j247 29), (j247 30), (j247 31), (j247 32), (j247 33), (j247 34), (j247 35), (j247 36), (j247 37), (j247 38), (j247 39), (j247 40)]) W270 _ (L244.trans L269) h HS271 (HO252.mono L269) kr
      · have c259 : ¬ (vat254 < (body113.length : Int)) := c259
        refine seqRwI 47 kr (decide_eq_false c259) ?_
        refine seqRwI 48 kr (decide_eq_false c259) ?_
        refine seqL9 kr ?_
        refine nl (hK258 _ _ ?_)
        refine condF kr ?_
        refine wp_exit ?_
        refine hx131 _ _ ?_
        exact J346 f243 A249 c250 s251 cards248 vat254 (jL [(j247 0), (j247 1), (j247 2), iV vat254, .slice A114 body113.length c115, iV (body113.length : Int), fV, fV, uV, uV, uV, uV, uV, uV, uV, uV, fV, (j247 17), (j247 18), (j247 19), (j247 20), (j247 21), (j247 22), (j247 23), (j247 24), (j247 25), (j247 26), (j247 27), (j247 28), (j247 29), (j247 30), (j247 31), (j247 32), (j247 33), (j247 34), (j247 35), (j247 36), (j247 37), (j247 38), (j247 39), (j247 40)]) W245 _ L244 h HS246 HO252 kr
     clear h; have h := hv119; clear hv119
     have HS122 := HS19.cons_nil
     refine loopK (fun n_ a_ w_ => ∃ (f68 : FM) (A74 : Option Addr) (c75 : Nat) (s76 : Seg) (body73 : List Int) (i79 : Int) (j72 : Nat → Value), FM.le f16 f68 ∧ St t w_ f68 (s76 :: s22 :: [(b7, .cells #[.int .i64 0, .int .i64 0, .slice none 0 0, .slice none 0 0] 29 (0, 0))] :: H) ∧ Own (tInt .u8) 5 f68 A74 c75 s76 body73 ∧ frame_Decode.l0 k b1 n_ body73 i79 = some o64 ∧ a_ = ⟨#[.slice A2 b1.length c3, uV, pV b7 0, iV 0, .slice A20 vt13.length c21, iV vt14, .slice A74 body73.length c75, iV i79, uV, uV, uV, uV, uV, uV, uV, uV, .tuple #[.slice A20 vt13.length c21, iV vt14], .slice A2 b1.length c3, .tuple #[.slice A20 vt13.length c21, iV vt14], .slice A20 vt13.length c21, iV vt14, fV, iV vt14, fV, uV, uV, fV, .slice A20 vt13.length c21, iV (vt13.length : Int), fV, uV, (j72 0), (j72 1), (j72 2), (j72 3), (j72 4), (j72 5), (j72 6), (j72 7), (j72 8), (j72 9), (j72 10), (j72 11), (j72 12), uV, uV, uV, uV, uV, uV, uV, uV, uV, uV, uV, uV, uV, uV, uV, uV, uV, uV, uV, uV, uV, uV, uV, uV, uV, uV, uV, uV, uV, uV, uV, uV, uV, uV, uV, uV, uV, uV, uV, uV, uV, uV, uV, uV, uV, uV, uV, uV, uV, uV, uV, uV, uV, uV, uV, uV, uV, uV, uV, uV, uV, uV, uV, uV, uV, uV, uV, uV, uV, uV, uV], []⟩) k ⟨f16, none, 0, [], ([] : List Int), 0, (jL []), fL, HS122, (Own.nil _), h, kr⟩ ?_
     clear h
     rintro n67 _ W70 ⟨f68, A74, c75, s76, body73, i79, j72, L69, HS71, HO77, h, rfl⟩ K65 hK66
     obtain _ | n67 := n67
     · exact nomatch h
     simp only [frame_Decode.l0] at h
     refine wp_seq_k (fun K80 hK81 => ?_)
     refine wp_seq_k fun K82 hK83 => rl ?_
     refine seqL4 kr ?_
     refine nl (hK83 _ _ ?_)
     have hq_ := ite_some h; clear h; rcases hq_ with ⟨c85, h⟩ | ⟨c85, h⟩
     · have c85 : i79 < (b1.length : Int) := c85
       refine wpRwI 34 kr (decide_eq_true c85) ?_
       refine condT kr ?_
       refine wp_skip ?_
       refine hK81 _ _ ?_
       refine wp_seq_k (fun K86 hK87 => ?_)
       refine blockK (fun B88 hx89 hn90 hr91 ho92 hp93 => ?_)
       refine rl ?_
       have hq_ := guard_some h; clear h; obtain ⟨c95, h⟩ := hq_
       have c95 : 0 ≤ i79 := c95
       have hq_ := guard_some h; clear h; obtain ⟨c96, h⟩ := hq_
       have c96 : i79 ≤ (w64 (i79 + 256)) := c96
       have hq_ := guard_some h; clear h; obtain ⟨c97, h⟩ := hq_
       have c97 : (w64 (i79 + 256)) ≤ (b1.length : Int) := c97
       refine seqL5 kr ?_
       refine seqK rfl (does_cutLH (e := (tInt .u8)) (xs := b1) rfl Tryz.underlying23 kr (kv (.slice A2 b1.length c3)) (kv (.int .i64 i79)) (kv (.int .i64 (w64 (i79 + 256))))  c95 c96 c97 HR4 ?_)
       intro A98 c99 HR100
       have hq_ := guard_some h; clear h; obtain ⟨c101, h⟩ := hq_
       have c101 : (body73.length + ((b1.take (w64 (i79 + 256)).toNat).drop (i79).toNat).length) * 1 ≤ 140737488355328 := c101
       refine seqK rfl (does_append (e := (tInt .u8)) (E := 5) (xs := body73) (ys := ((b1.take (w64 (i79 + 256)).toNat).drop (i79).toNat)) rfl (kv (.slice A74 body73.length c75)) (kv (.slice A98 ((b1.take (w64 (i79 + 256)).toNat).drop (i79).toNat).length c99)) Tryz.underlying23 inf5 HO77 HS71 ((HR100.mono (L17.trans L69)).rc HS71) c101 (lim63 c101 (by decide)) ?_)
       intro A102 c103 s104 W105 HS106 HO107
       refine seqL1 kr ?_
       refine nl ?_
       refine hn90 _ _ ?_
       refine hK87 _ _ ?_
       refine rl ?_
       refine seqL3 kr ?_
       refine nl ?_
       refine hK66 n67 _ _ (Nat.lt_succ_self _) ?_
       exact ⟨f68, A102, c103, s104, (body73 ++ ((b1.take (w64 (i79 + 256)).toNat).drop (i79).toNat)), (w64 (i79 + 260)), (jL [iV i79, .slice A2 b1.length c3, iV (b1.length : Int), tV, iV i79, iV (w64 (i79 + 260)), .slice A74 body73.length c75, .slice A2 b1.length c3, iV i79, iV i79, iV (w64 (i79 + 256)), .slice A98 ((b1.take (w64 (i79 + 256)).toNat).drop (i79).toNat).length c99, .slice A102 (body73 ++ ((b1.take (w64 (i79 + 256)).toNat).drop (i79).toNat)).length c103]), L69, HS106, HO107, h, kr⟩
     · have c85 : ¬ (i79 < (b1.length : Int)) := c85
       refine wpRwI 34 kr (decide_eq_false c85) ?_
       refine condF kr ?_
       refine wp_exit ?_
       refine hx59 _ _ ?_
       exact J120 f68 A74 c75 s76 body73 (jL [iV i79, iV i79, .slice A2 b1.length c3, iV (b1.length : Int), fV, (j72 4), (j72 5), (j72 6), (j72 7), (j72 8), (j72 9), (j72 10), (j72 11), (j72 12)]) W70 _ L69 h HS71 HO77 kr

theorem strconv_ParseInt.calls (k : Nat) (s : ByteArray) (b : Int) (n : Int) {t w : World} {f : FM} {H : List Seg} (HS : St t w f H) (r1 : Int) (h : strconv_ParseInt k s b n = some r1) :
    Calls Tryz.prog 37 #[.string s, .int .i64 b, .int .i64 n] w (fun e w' => ∃ (g : FM), e = .returned (Value.tuple #[Value.int .i64 r1, Value.nilIface]) ∧ FM.le f g ∧ St t w' g H) := by
  unfold strconv_ParseInt at h
  have hq_ := guard_some h; clear h; obtain ⟨h1, h⟩ := hq_
  have hq_ := guard_some h; clear h; obtain ⟨h2, h⟩ := hq_
  have hq_ := guard_some h; clear h; obtain ⟨h3, h⟩ := hq_
  have hv : Go.Lib.parseIntB 64 s.data.toList = .ok r1 := by
    cases hc_ : Go.Lib.parseIntB 64 s.data.toList with
    | ok v_ => rw [hc_] at h; injection h with h; rw [h]
    | _ => rw [hc_] at h; cases h
  subst h1 h2
  exact lib_calls (Tryz.strconv_ParseInt_10_at64_ok s h3 r1 hv w) q_bytes2 HS

set_option maxRecDepth 100000 in
set_option maxHeartbeats 4000000 in
theorem frame_unit.calls (k : Nat)  (s1 : ByteArray) {t w : World} {f : FM} {H : List Seg} (HS : St t w f (H)) (rr1 : ByteArray) (rr2 : Int) (h : frame_unit k s1 = some (rr1, rr2)) :
    Calls Tryz.prog 39 #[.string s1] w (fun e w' => ∃ (g : FM), e = .returned (Value.tuple #[.string rr1, .int .i64 rr2]) ∧ FM.le f g ∧ St t w' g (H)) := by
 unfold frame_unit at h
 refine enter Tryz.func39 rfl (tm := #[.string s1, uV, uV, uV, uV, uV, uV, uV, uV, uV, uV, uV, uV, uV, uV, uV, uV, uV, uV, uV, uV, uV, uV, uV]) kr ?_
 intro B hret hnor hnp
 refine wp_seq_k fun K2 hK3 => rl ?_
 refine seqL2 kr ?_
 refine nl (hK3 _ _ ?_)
 refine wp_seq_k (fun K4 hK5 => ?_)
 refine wp_seq_k fun K6 hK7 => rl ?_
 refine seqL1 kr ?_
 refine nl (hK7 _ _ ?_)
 refine blockK (fun B8 hx9 hn10 hr11 ho12 hp13 => ?_)
 refine wp_seq_k fun K15 hK16 => rl ?_
 refine seqL2 kr ?_
 refine nl (hK16 _ _ ?_)
 have hq_ := ite_some h; clear h; rcases hq_ with ⟨c18, h⟩ | ⟨c18, h⟩
 · have c18 : (s1.toList == Z9.toList) = true := c18
   refine wpRwI 5 kr c18 ?_
   refine wpRwI 6 kr c18 ?_
   refine condT kr ?_
   refine wp_seq_k fun K19 hK20 => rl ?_
   refine seqL2 kr ?_
   refine nl (hK20 _ _ ?_)
   refine wp_ret ?_
   refine hr11 _ _ ?_
   refine hret _ _ ?_
   refine ends_still (v := Value.tuple #[.string ⟨#[116, 105, 109, 101]⟩, .int .i64 1]) kr kr ?_
   injection h with h
   injection h with h0_ h
   subst h0_ h
   exact ⟨f, rfl, FM.le.refl _, HS⟩
 · have c18 : ¬ ((s1.toList == Z9.toList) = true) := c18
   refine wpRwI 5 kr (Bool.eq_false_iff.mpr c18) ?_
   refine wpRwI 6 kr (Bool.eq_false_iff.mpr c18) ?_
   refine condF kr ?_
   refine wp_seq_k (fun K21 hK22 => ?_)
   refine wp_seq_k fun K23 hK24 => rl ?_
   refine seqL2 kr ?_
   refine nl (hK24 _ _ ?_)
   have hq_ := bind_some h; clear h; obtain ⟨v25, hv33, h⟩ := hq_
   have J34 : ∀ (f27 : FM) (x32 : Bool) (j31 : Nat → Value) (W29 : World) (a_ : Act), FM.le f f27 → some (x32) = some v25 → St t W29 f27 (H) → a_ = ⟨#[.string s1, uV, .string ⟨#[]⟩, iV 0, .string s1, fV, fV, .bool x32, .bool (s1.toList == Z41.toList), (j31 0), uV, uV, uV, uV, uV, uV, uV, uV, uV, uV, uV, uV, uV, uV], []⟩ → K21 a_ W29 := by
    intro f27 x32 j31 W29 a_ L28 hj35 HS30  hfr_; subst hfr_
    injection hj35 with hj35; subst hj35; try dsimp only at h
    refine hK22 _ _ ?_
    have hq_ := ite_some h; clear h; rcases hq_ with ⟨c37, h⟩ | ⟨c37, h⟩
    · have c37 : x32 = true := c37
      refine wpRwI 7 kr c37 ?_
      refine condT kr ?_
      refine wp_seq_k fun K38 hK39 => rl ?_
      refine seqL2 kr ?_
      refine nl (hK39 _ _ ?_)
      refine wp_ret ?_
      refine hr11 _ _ ?_
      refine hret _ _ ?_
      refine ends_still (v := Value.tuple #[.string ⟨#[116, 105, 109, 101]⟩, .int .i64 1000]) kr kr ?_
      injection h with h
      injection h with h0_ h
      subst h0_ h
      exact ⟨f27, rfl, L28, HS30⟩
    · have c37 : ¬ (x32 = true) := c37
      refine wpRwI 7 kr (Bool.eq_false_iff.mpr c37) ?_
      refine condF kr ?_
      refine wp_seq_k fun K40 hK41 => rl ?_
      refine seqL2 kr ?_
      refine nl (hK41 _ _ ?_)
      have hq_ := ite_some h; clear h; rcases hq_ with ⟨c43, h⟩ | ⟨c43, h⟩
      · have c43 : (s1.toList == Z4.toList) = true := c43
        refine wpRwI 10 kr c43 ?_
        refine wpRwI 11 kr c43 ?_
        refine condT kr ?_
        refine wp_seq_k fun K44 hK45 => rl ?_
        refine seqL2 kr ?_
        refine nl (hK45 _ _ ?_)
        refine wp_ret ?_
        refine hr11 _ _ ?_
        refine hret _ _ ?_
        refine ends_still (v := Value.tuple #[.string ⟨#[116, 105, 109, 101]⟩, .int .i64 60000]) kr kr ?_
        injection h with h
        injection h with h0_ h
        subst h0_ h
        exact ⟨f27, rfl, L28, HS30⟩
      · have c43 : ¬ ((s1.toList == Z4.toList) = true) := c43
        refine wpRwI 10 kr (Bool.eq_false_iff.mpr c43) ?_
        refine wpRwI 11 kr (Bool.eq_false_iff.mpr c43) ?_
        refine condF kr ?_
        refine wp_seq_k fun K46 hK47 => rl ?_
        refine seqL2 kr ?_
        refine nl (hK47 _ _ ?_)
        have hq_ := ite_some h; clear h; rcases hq_ with ⟨c49, h⟩ | ⟨c49, h⟩
        · have c49 : (s1.toList == Z3.toList) = true := c49
          refine wpRwI 12 kr c49 ?_
          refine wpRwI 13 kr c49 ?_
          refine condT kr ?_
          refine wp_seq_k fun K50 hK51 => rl ?_
          refine seqL2 kr ?_
          refine nl (hK51 _ _ ?_)
          refine wp_ret ?_
          refine hr11 _ _ ?_
          refine hret _ _ ?_
          refine ends_still (v := Value.tuple #[.string ⟨#[116, 105, 109, 101]⟩, .int .i64 3600000]) kr kr ?_
          injection h with h
          injection h with h0_ h
          subst h0_ h
          exact ⟨f27, rfl, L28, HS30⟩
        · have c49 : ¬ ((s1.toList == Z3.toList) = true) := c49
          refine wpRwI 12 kr (Bool.eq_false_iff.mpr c49) ?_
          refine wpRwI 13 kr (Bool.eq_false_iff.mpr c49) ?_
          refine condF kr ?_
          refine wp_seq_k fun K52 hK53 => rl ?_
          refine seqL2 kr ?_
          refine nl (hK53 _ _ ?_)
          have hq_ := ite_some h; clear h; rcases hq_ with ⟨c55, h⟩ | ⟨c55, h⟩
          · have c55 : (s1.toList == Z1.toList) = true := c55
            refine wpRwI 14 kr c55 ?_
            refine wpRwI 15 kr c55 ?_
            refine condT kr ?_
            refine wp_seq_k fun K56 hK57 => rl ?_
            refine seqL2 kr ?_
            refine nl (hK57 _ _ ?_)
            refine wp_ret ?_
            refine hr11 _ _ ?_
            refine hret _ _ ?_
            refine ends_still (v := Value.tuple #[.string ⟨#[116, 105, 109, 101]⟩, .int .i64 86400000]) kr kr ?_
            injection h with h
            injection h with h0_ h
            subst h0_ h
            exact ⟨f27, rfl, L28, HS30⟩
          · have c55 : ¬ ((s1.toList == Z1.toList) = true) := c55
            refine wpRwI 14 kr (Bool.eq_false_iff.mpr c55) ?_
            refine wpRwI 15 kr (Bool.eq_false_iff.mpr c55) ?_
            refine condF kr ?_
            refine wp_seq_k fun K58 hK59 => rl ?_
            refine seqL2 kr ?_
            refine nl (hK59 _ _ ?_)
            have hq_ := ite_some h; clear h; rcases hq_ with ⟨c61, h⟩ | ⟨c61, h⟩
            · have c61 : (s1.toList == Z7.toList) = true := c61
              refine wpRwI 16 kr c61 ?_
              refine wpRwI 17 kr c61 ?_
              refine condT kr ?_
              refine wp_seq_k fun K62 hK63 => rl ?_
              refine seqL2 kr ?_
              refine nl (hK63 _ _ ?_)
              refine wp_ret ?_
              refine hr11 _ _ ?_
              refine hret _ _ ?_
              refine ends_still (v := Value.tuple #[.string ⟨#[108, 101, 110, 103, 116, 104]⟩, .int .i64 1]) kr kr ?_
              injection h with h
              injection h with h0_ h
              subst h0_ h
              exact ⟨f27, rfl, L28, HS30⟩
            · have c61 : ¬ ((s1.toList == Z7.toList) = true) := c61
              refine wpRwI 16 kr (Bool.eq_false_iff.mpr c61) ?_
              refine wpRwI 17 kr (Bool.eq_false_iff.mpr c61) ?_
              refine condF kr ?_
              refine wp_seq_k fun K64 hK65 => rl ?_
              refine seqL2 kr ?_
              refine nl (hK65 _ _ ?_)
              have hq_ := ite_some h; clear h; rcases hq_ with ⟨c67, h⟩ | ⟨c67, h⟩
              · have c67 : (s1.toList == Z43.toList) = true := c67
                refine wpRwI 18 kr c67 ?_
                refine wpRwI 19 kr c67 ?_
                refine condT kr ?_
                refine wp_seq_k fun K68 hK69 => rl ?_
                refine seqL2 kr ?_
                refine nl (hK69 _ _ ?_)
                refine wp_ret ?_
                refine hr11 _ _ ?_
                refine hret _ _ ?_
                refine ends_still (v := Value.tuple #[.string ⟨#[108, 101, 110, 103, 116, 104]⟩, .int .i64 256]) kr kr ?_
                injection h with h
                injection h with h0_ h
                subst h0_ h
                exact ⟨f27, rfl, L28, HS30⟩
              · have c67 : ¬ ((s1.toList == Z43.toList) = true) := c67
                refine wpRwI 18 kr (Bool.eq_false_iff.mpr c67) ?_
                refine wpRwI 19 kr (Bool.eq_false_iff.mpr c67) ?_
                refine condF kr ?_
                refine wp_seq_k fun K70 hK71 => rl ?_
                refine seqL2 kr ?_
                refine nl (hK71 _ _ ?_)
                have hq_ := ite_some h; clear h; rcases hq_ with ⟨c73, h⟩ | ⟨c73, h⟩
                · have c73 : (s1.toList == Z38.toList) = true := c73
                  refine wpRwI 20 kr c73 ?_
                  refine wpRwI 21 kr c73 ?_
                  refine condT kr ?_
                  refine wp_seq_k fun K74 hK75 => rl ?_
                  refine seqL2 kr ?_
                  refine nl (hK75 _ _ ?_)
                  refine wp_ret ?_
                  refine hr11 _ _ ?_
                  refine hret _ _ ?_
                  refine ends_still (v := Value.tuple #[.string ⟨#[97, 110, 103, 108, 101]⟩, .int .i64 1]) kr kr ?_
                  injection h with h
                  injection h with h0_ h
                  subst h0_ h
                  exact ⟨f27, rfl, L28, HS30⟩
                · have c73 : ¬ ((s1.toList == Z38.toList) = true) := c73
                  refine wpRwI 20 kr (Bool.eq_false_iff.mpr c73) ?_
                  refine wpRwI 21 kr (Bool.eq_false_iff.mpr c73) ?_
                  refine condF kr ?_
                  refine wp_seq_k fun K76 hK77 => rl ?_
                  refine seqL2 kr ?_
                  refine nl (hK77 _ _ ?_)
                  have hq_ := ite_some h; clear h; rcases hq_ with ⟨c79, h⟩ | ⟨c79, h⟩
                  · have c79 : (s1.toList == Z10.toList) = true := c79
                    refine wpRwI 22 kr c79 ?_
                    refine wpRwI 23 kr c79 ?_
                    refine condT kr ?_
                    refine wp_seq_k fun K80 hK81 => rl ?_
                    refine seqL2 kr ?_
                    refine nl (hK81 _ _ ?_)
                    refine wp_ret ?_
                    refine hr11 _ _ ?_
                    refine hret _ _ ?_
                    refine ends_still (v := Value.tuple #[.string ⟨#[97, 110, 103, 108, 101]⟩, .int .i64 4294967296]) kr kr ?_
                    injection h with h
                    injection h with h0_ h
                    subst h0_ h
                    exact ⟨f27, rfl, L28, HS30⟩
                  · have c79 : ¬ ((s1.toList == Z10.toList) = true) := c79
                    refine wpRwI 22 kr (Bool.eq_false_iff.mpr c79) ?_
                    refine wpRwI 23 kr (Bool.eq_false_iff.mpr c79) ?_
                    refine condF kr ?_
                    refine wp_skip ?_
                    refine hn10 _ _ ?_
                    refine hK5 _ _ ?_
                    refine wp_seq_k fun K82 hK83 => rl ?_
                    refine seqL2 kr ?_
                    refine nl (hK83 _ _ ?_)
                    refine wp_ret ?_
                    refine hret _ _ ?_
                    refine ends_still (v := Value.tuple #[.string ⟨#[]⟩, .int .i64 0]) kr kr ?_
                    injection h with h
                    injection h with h0_ h
                    subst h0_ h
                    exact ⟨f27, rfl, L28, HS30⟩
   clear h; have h := hv33; clear hv33
   have hq_ := ite_some h; clear h; rcases hq_ with ⟨c26, h⟩ | ⟨c26, h⟩
   · have c26 : (s1.toList == Z41.toList) = true := c26
     refine wpRwI 7 kr c26 ?_
     refine wpRwI 8 kr c26 ?_
     refine condT kr ?_
     refine wp_skip ?_
     refine fnRwI (F := K21) 8 (x := true) (v := (s1.toList == Z41.toList)) kr (Eq.symm c26) ?_
     refine fnRwI (F := K21) 7 (x := true) (v := (s1.toList == Z41.toList)) kr (Eq.symm c26) ?_
     exact J34 f (s1.toList == Z41.toList) (jL []) w _ fL h HS kr
   · have c26 : ¬ ((s1.toList == Z41.toList) = true) := c26
     refine wpRwI 7 kr (Bool.eq_false_iff.mpr c26) ?_
     refine wpRwI 8 kr (Bool.eq_false_iff.mpr c26) ?_
     refine condF kr ?_
     refine rl ?_
     refine seqL2 kr ?_
     refine nl ?_
     refine fnRwI (F := K21) 8 (x := false) (v := (s1.toList == Z41.toList)) kr (Eq.symm (Bool.eq_false_iff.mpr c26)) ?_
     exact J34 f (s1.toList == Z6.toList) (jL [.bool (s1.toList == Z6.toList)]) w _ fL h HS kr

set_option maxRecDepth 100000 in
set_option maxHeartbeats 4000000 in
theorem num_size.calls (k : Nat)  (a1 : Int) {t w : World} {f : FM} {H : List Seg} (HS : St t w f (H)) (rr1 : Int) (h : num_size k a1 = some rr1) :
    Calls Tryz.prog 101 #[.int .i64 a1] w (fun e w' => ∃ (g : FM), e = .returned (Value.int .u64 rr1) ∧ FM.le f g ∧ St t w' g (H)) := by
 unfold num_size at h
 refine enter Tryz.func101 rfl (tm := #[iV a1, uV, uV, uV, uV, uV, uV, uV, uV, uV]) kr ?_
 intro B hret hnor hnp
 refine wp_seq_k fun K2 hK3 => rl ?_
 refine seqL1 kr ?_
 refine nl (hK3 _ _ ?_)
 refine wp_seq_k (fun K4 hK5 => ?_)
 refine wp_seq_k fun K6 hK7 => rl ?_
 refine seqL2 kr ?_
 refine nl (hK7 _ _ ?_)
 have hq_ := ite_some h; clear h; rcases hq_ with ⟨c9, h⟩ | ⟨c9, h⟩
 · have c9 : a1 < 0 := c9
   refine wpRwI 4 kr (decide_eq_true c9) ?_
   refine condT kr ?_
   refine wp_seq_k fun K10 hK11 => rl ?_
   refine seqL4 kr ?_
   refine nl (hK11 _ _ ?_)
   refine wp_ret ?_
   refine hret _ _ ?_
   refine ends_still (v := Value.int .u64 (u64 (0 - (u64 (a1))))) kr kr ?_
   injection h with h
   subst h
   exact ⟨f, rfl, FM.le.refl _, HS⟩
 · have c9 : ¬ (a1 < 0) := c9
   refine wpRwI 4 kr (decide_eq_false c9) ?_
   refine condF kr ?_
   refine wp_skip ?_
   refine hK5 _ _ ?_
   refine wp_seq_k fun K12 hK13 => rl ?_
   refine seqL3 kr ?_
   refine nl (hK13 _ _ ?_)
   refine wp_ret ?_
   refine hret _ _ ?_
   refine ends_still (v := Value.int .u64 (u64 (a1))) kr kr ?_
   injection h with h
   subst h
   exact ⟨f, rfl, FM.le.refl _, HS⟩

set_option maxRecDepth 100000 in
set_option maxHeartbeats 4000000 in
theorem bits_Mul64.calls (k : Nat)  (x1 : Int) (y2 : Int) {t w : World} {f : FM} {H : List Seg} (HS : St t w f (H)) (rr1 : Int) (rr2 : Int) (h : bits_Mul64 k x1 y2 = some (rr1, rr2)) :
    Calls Tryz.prog 100 #[.int .u64 x1, .int .u64 y2] w (fun e w' => ∃ (g : FM), e = .returned (Value.tuple #[.int .u64 rr1, .int .u64 rr2]) ∧ FM.le f g ∧ St t w' g (H)) := by
 unfold bits_Mul64 at h
 refine enter Tryz.func100 rfl (tm := #[.int .u64 x1, .int .u64 y2, uV, uV, uV, uV, uV, uV, uV, uV, uV, uV, uV, uV, uV, uV, uV, uV, uV, uV, uV, uV, uV, uV, uV, uV, uV, uV, uV, uV, uV, uV, uV, uV, uV, uV, uV, uV, uV, uV, uV, uV, uV, uV, uV, uV, uV, uV, uV, uV, uV]) kr ?_
 intro B hret hnor hnp
 refine wp_seq_k fun K3 hK4 => rl ?_
 refine seqL2 kr ?_
 refine nl (hK4 _ _ ?_)
 refine wp_seq_k fun K5 hK6 => rl ?_
 refine seqL3 kr ?_
 refine nl (hK6 _ _ ?_)
 refine wp_seq_k fun K7 hK8 => rl ?_
 refine seqL3 kr ?_
 refine nl (hK8 _ _ ?_)
 refine wp_seq_k fun K9 hK10 => rl ?_
 refine seqL3 kr ?_
 refine nl (hK10 _ _ ?_)
 refine wp_seq_k fun K11 hK12 => rl ?_
 refine seqL3 kr ?_
 refine nl (hK12 _ _ ?_)
 refine wp_seq_k fun K13 hK14 => rl ?_
 refine seqL4 kr ?_
 refine nl (hK14 _ _ ?_)
 refine wp_seq_k fun K15 hK16 => rl ?_
 refine seqL7 kr ?_
 refine nl (hK16 _ _ ?_)
 refine wp_seq_k fun K17 hK18 => rl ?_
 refine seqL3 kr ?_
 refine nl (hK18 _ _ ?_)
 refine wp_seq_k fun K19 hK20 => rl ?_
 refine seqL3 kr ?_
 refine nl (hK20 _ _ ?_)
 refine wp_seq_k fun K21 hK22 => rl ?_
 refine seqL6 kr ?_
 refine nl (hK22 _ _ ?_)
 refine wp_seq_k fun K23 hK24 => rl ?_
 refine seqL9 kr ?_
 refine nl (hK24 _ _ ?_)
 refine wp_seq_k fun K25 hK26 => rl ?_
 refine seqL4 kr ?_
 refine nl (hK26 _ _ ?_)
 refine wp_ret ?_
 refine hret _ _ ?_
 refine ends_still (v := Value.tuple #[.int .u64 (u64 ((u64 ((u64 ((shr x1 32) * (shr y2 32))) + (shr (u64 ((u64 ((shr x1 32) * (Go.bits .and .u64 y2 4294967295))) + (shr (u64 ((Go.bits .and .u64 x1 4294967295) * (Go.bits .and .u64 y2 4294967295))) 32))) 32))) + (shr (u64 ((Go.bits .and .u64 (u64 ((u64 ((shr x1 32) * (Go.bits .and .u64 y2 4294967295))) + (shr (u64 ((Go.bits .and .u64 x1 4294967295) * (Go.bits .and .u64 y2 4294967295))) 32))) 4294967295) + (u64 ((Go.bits .and .u64 x1 4294967295) * (shr y2 32))))) 32))), .int .u64 (u64 (x1 * y2))]) kr kr ?_
 injection h with h
 injection h with h0_ h
 subst h0_ h
 exact ⟨f, rfl, FM.le.refl _, HS⟩

set_option maxRecDepth 100000 in
set_option maxHeartbeats 4000000 in
theorem num_Wide_Neg.calls (k : Nat)  (vw1 : S_Wide) {t w : World} {f : FM} {H : List Seg} (HS : St t w f (H)) (rr1 : S_Wide) (h : num_Wide_Neg k vw1 = some rr1) :
    Calls Tryz.prog 102 #[.agg #[.int .i64 vw1.Hi, .int .u64 vw1.Lo]] w (fun e w' => ∃ (g : FM), e = .returned (Value.agg #[.int .i64 rr1.Hi, .int .u64 rr1.Lo]) ∧ FM.le f g ∧ St t w' g (H)) := by
 unfold num_Wide_Neg at h
 refine enter Tryz.func102 rfl (tm := #[.agg #[iV vw1.Hi, .int .u64 vw1.Lo], uV, uV, uV, uV, uV, uV, uV, uV, uV, uV, uV, uV, uV, uV, uV, uV, uV, uV, uV, uV, uV, uV, uV, uV, uV, uV]) kr ?_
 intro B hret hnor hnp
 refine wp_seq_k fun K2 hK3 => rl ?_
 refine seqK rfl (does_box (cs := #[.int .i64 vw1.Hi, .int .u64 vw1.Lo]) rfl (kv (.agg #[.int .i64 vw1.Hi, .int .u64 vw1.Lo])) rfl HS ?_)
 intro b4 W5 HS6
 refine seqK rfl (does_alloc (z := Value.agg #[.int .i64 0, .int .u64 0]) (cs := #[.int .i64 0, .int .u64 0]) rfl kr rfl HS6 ?_)
 intro b8 W9 HS10
 refine nl (hK3 _ _ ?_)
 refine wp_seq_k fun K12 hK13 => rl ?_
 refine seqL1 kr ?_
 refine seqK rfl (does_run (run_load rfl Tryz.underlying69 rfl (kv (.pointer (some ⟨b4, 1, none⟩))) (HS10.u1.cell 1)) ?_)
 have hq_ := guard_some h; clear h; obtain ⟨c14, h⟩ := hq_
 have c14 : 0 ≤ (Go.bits .xor .u64 IntKind.u64.max vw1.Lo) := c14
 refine seqL1 kr ?_
 refine seqK rfl (does_run (run_add64op (x := Go.bits .xor .u64 IntKind.u64.max vw1.Lo) (y := 1) (c := 0) kr Tryz.func124 kr kr kr kr c14 (by decide) (by decide) (by decide) W9) ?_)
 refine seqL5 kr ?_
 refine nl (hK13 _ _ ?_)
 refine wp_seq_k fun K15 hK16 => rl ?_
 refine seqL1 kr ?_
 refine seqK rfl (does_run (run_load rfl Tryz.underlying2 rfl (kv (.pointer (some ⟨b4, 0, none⟩))) (HS10.u1.cell 0)) ?_)
 have hq_ := guard_some h; clear h; obtain ⟨c17, h⟩ := hq_
 have c17 : 0 ≤ (Go.bits .xor .u64 IntKind.u64.max (u64 (vw1.Hi))) := c17
 have hq_ := guard_some h; clear h; obtain ⟨c18, h⟩ := hq_
 have c18 : 0 ≤ (((Go.bits .xor .u64 IntKind.u64.max vw1.Lo) + 1 + 0) / 18446744073709551616) := c18
 have hq_ := guard_some h; clear h; obtain ⟨c19, h⟩ := hq_
 have c19 : (((Go.bits .xor .u64 IntKind.u64.max vw1.Lo) + 1 + 0) / 18446744073709551616) ≤ 1 := c19
 refine seqL3 kr ?_
 refine seqK rfl (does_run (run_add64op (x := Go.bits .xor .u64 IntKind.u64.max (u64 (vw1.Hi))) (y := 0) (c := ((Go.bits .xor .u64 IntKind.u64.max vw1.Lo) + 1 + 0) / 18446744073709551616) kr Tryz.func124 kr kr kr kr c17 (by decide) c18 c19 W9) ?_)
 refine seqL5 kr ?_
 refine nl (hK16 _ _ ?_)
 refine wp_seq_k fun K20 hK21 => rl ?_
 refine seqL4 kr ?_
 refine seqK rfl (does_storeA (vs := [.int .i64 (w64 (((Go.bits .xor .u64 IntKind.u64.max (u64 (vw1.Hi))) + 0 + (((Go.bits .xor .u64 IntKind.u64.max vw1.Lo) + 1 + 0) / 18446744073709551616)) % 18446744073709551616)), .int .u64 (((Go.bits .xor .u64 IntKind.u64.max vw1.Lo) + 1 + 0) % 18446744073709551616)]) rfl kr kr kr rfl (ones rfl) HS10 kr ?_)
 intro W22 HS23
 refine nl (hK21 _ _ ?_)
 refine wp_ret ?_
 refine hret _ _ ?_
 refine ends (v := Value.agg #[.int .i64 (w64 (((Go.bits .xor .u64 IntKind.u64.max (u64 (vw1.Hi))) + 0 + (((Go.bits .xor .u64 IntKind.u64.max vw1.Lo) + 1 + 0) / 18446744073709551616)) % 18446744073709551616)), .int .u64 (((Go.bits .xor .u64 IntKind.u64.max vw1.Lo) + 1 + 0) % 18446744073709551616)]) (results1 (q1 := .cell 2 132) kr (resN (n := 2) (cs := [.int .i64 (w64 (((Go.bits .xor .u64 IntKind.u64.max (u64 (vw1.Hi))) + 0 + (((Go.bits .xor .u64 IntKind.u64.max vw1.Lo) + 1 + 0) / 18446744073709551616)) % 18446744073709551616)), .int .u64 (((Go.bits .xor .u64 IntKind.u64.max vw1.Lo) + 1 + 0) % 18446744073709551616)]) (kv (.pointer (some ⟨b8, 0, none⟩))) Tryz.underlying132 rfl kr rfl (HS23.cells 0 2 _ rfl))) kr ?_
 have HS24 := HS23.drop
 have HS25 := HS24.drop
 injection h with h
 subst h
 exact ⟨f, rfl, FM.le.refl _, HS25⟩

set_option maxRecDepth 100000 in
set_option maxHeartbeats 4000000 in
theorem num_Product.calls (k : Nat)  (a1 : Int) (b2 : Int) {t w : World} {f : FM} {H : List Seg} (HS : St t w f (H)) (rr1 : S_Wide) (h : num_Product k a1 b2 = some rr1) :
    Calls Tryz.prog 68 #[.int .i64 a1, .int .i64 b2] w (fun e w' => ∃ (g : FM), e = .returned (Value.agg #[.int .i64 rr1.Hi, .int .u64 rr1.Lo]) ∧ FM.le f g ∧ St t w' g (H)) := by
 unfold num_Product at h
 refine enter Tryz.func68 rfl (tm := #[iV a1, iV b2, uV, uV, uV, uV, uV, uV, uV, uV, uV, uV, uV, uV, uV, uV, uV, uV, uV, uV, uV, uV, uV, uV, uV, uV, uV, uV]) kr ?_
 intro B hret hnor hnp
 refine wp_seq_k fun K3 hK4 => rl ?_
 refine seqK rfl (does_alloc (z := Value.agg #[.int .i64 0, .int .u64 0]) (cs := #[.int .i64 0, .int .u64 0]) rfl kr rfl HS ?_)
 intro b5 W6 HS7
 refine nl (hK4 _ _ ?_)
 refine wp_seq_k fun K9 hK10 => rl ?_
 have hq_ := bind_some h; clear h; obtain ⟨vt11, hc12, h⟩ := hq_
 refine seqL1 kr ?_
 refine seqK rfl (does_call (f := 101) (args := #[.int .i64 a1]) kr (num_size.calls k a1 HS7 vt11 hc12) ?_)
 rintro _ W15 ⟨f13, rfl, L14, HS16⟩
 refine ⟨_, rfl, ?_⟩
 have hq_ := bind_some h; clear h; obtain ⟨vt17, hc18, h⟩ := hq_
 refine seqL1 kr ?_
 refine seqK rfl (does_call (f := 101) (args := #[.int .i64 b2]) kr (num_size.calls k b2 HS16 vt17 hc18) ?_)
 rintro _ W21 ⟨f19, rfl, L20, HS22⟩
 refine ⟨_, rfl, ?_⟩
 have hq_ := bind_some h; clear h; obtain ⟨⟨vt23, vt24⟩, hc25, h⟩ := hq_
 refine seqK rfl (does_call (f := 100) (args := #[.int .u64 vt11, .int .u64 vt17]) kr (bits_Mul64.calls k vt11 vt17 HS22 vt23 vt24 hc25) ?_)
 rintro _ W28 ⟨f26, rfl, L27, HS29⟩
 refine ⟨_, rfl, ?_⟩
 refine seqL5 kr ?_
 refine nl (hK10 _ _ ?_)
 refine wp_seq_k fun K30 hK31 => rl ?_
 refine seqL4 kr ?_
 refine seqK rfl (does_alloc (z := Value.agg #[.int .i64 0, .int .u64 0]) (cs := #[.int .i64 0, .int .u64 0]) rfl kr rfl HS29 ?_)
 intro b32 W33 HS34
 refine seqK rfl (does_storeA (vs := [.int .i64 (w64 (vt23)), .int .u64 vt24]) rfl kr kr kr rfl (ones rfl) HS34 kr ?_)
 intro W36 HS37
 refine nl (hK31 _ _ ?_)
 refine wp_seq_k (fun K38 hK39 => ?_)
 refine wp_seq_k fun K40 hK41 => rl ?_
 refine seqL5 kr ?_
 refine nl (hK41 _ _ ?_)
 have hq_ := ite_some h; clear h; rcases hq_ with ⟨c43, h⟩ | ⟨c43, h⟩
 · have c43 : ((decide (a1 < 0)) != (decide (b2 < 0))) = true := c43
   refine wpRwI 24 kr c43 ?_
   refine condT kr ?_
   refine wp_seq_k fun K44 hK45 => rl ?_
   refine seqK rfl (does_run (run_loadN (n := 2) rfl Tryz.underlying132 rfl kr (kv (.pointer (some ⟨b32, 0, none⟩))) (cs := [.int .i64 (w64 (vt23)), .int .u64 vt24]) rfl (HS37.cells 0 2 _ rfl)) ?_)
   have hq_ := bind_some h; clear h; obtain ⟨vt46, hc47, h⟩ := hq_
   refine seqK rfl (does_call (f := 102) (args := #[.agg #[.int .i64 (w64 (vt23)), .int .u64 vt24]]) kr (num_Wide_Neg.calls k (⟨w64 (vt23), vt24⟩ : S_Wide) HS37 vt46 hc47) ?_)
   rintro _ W50 ⟨f48, rfl, L49, HS51⟩
   refine ⟨_, rfl, ?_⟩
   have HS52 := HS51.u1
   refine seqK rfl (does_storeA (vs := [.int .i64 vt46.Hi, .int .u64 vt46.Lo]) rfl kr kr kr rfl (ones rfl) HS52 kr ?_)
   intro W53 HS54
   refine nl (hK45 _ _ ?_)
   refine wp_ret ?_
   refine hret _ _ ?_
   refine ends (v := Value.agg #[.int .i64 vt46.Hi, .int .u64 vt46.Lo]) (results1 (q1 := .cell 4 132) kr (resN (n := 2) (cs := [.int .i64 vt46.Hi, .int .u64 vt46.Lo]) (kv (.pointer (some ⟨b5, 0, none⟩))) Tryz.underlying132 rfl kr rfl (HS54.cells 0 2 _ rfl))) kr ?_
   have HS60 := HS54.drop
   have HS61 := HS60.drop
   injection h with h
   subst h
   exact ⟨f48, rfl, (L14.trans (L20.trans (L27.trans L49))), HS61⟩
 · have c43 : ¬ (((decide (a1 < 0)) != (decide (b2 < 0))) = true) := c43
   refine wpRwI 24 kr (Bool.eq_false_iff.mpr c43) ?_
   refine condF kr ?_
   refine wp_skip ?_
   refine hK39 _ _ ?_
   refine wp_seq_k fun K55 hK56 => rl ?_
   refine seqK rfl (does_run (run_loadN (n := 2) rfl Tryz.underlying132 rfl kr (kv (.pointer (some ⟨b32, 0, none⟩))) (cs := [.int .i64 (w64 (vt23)), .int .u64 vt24]) rfl (HS37.cells 0 2 _ rfl)) ?_)
   have HS57 := HS37.u1
   refine seqK rfl (does_storeA (vs := [.int .i64 (w64 (vt23)), .int .u64 vt24]) rfl kr kr kr rfl (ones rfl) HS57 kr ?_)
   intro W58 HS59
   refine nl (hK56 _ _ ?_)
   refine wp_ret ?_
   refine hret _ _ ?_
   refine ends (v := Value.agg #[.int .i64 (w64 (vt23)), .int .u64 vt24]) (results1 (q1 := .cell 4 132) kr (resN (n := 2) (cs := [.int .i64 (w64 (vt23)), .int .u64 vt24]) (kv (.pointer (some ⟨b5, 0, none⟩))) Tryz.underlying132 rfl kr rfl (HS59.cells 0 2 _ rfl))) kr ?_
   have HS62 := HS59.drop
   have HS63 := HS62.drop
   injection h with h
   subst h
   exact ⟨f26, rfl, (L14.trans (L20.trans L27)), HS63⟩

end Go.Sp.T6
