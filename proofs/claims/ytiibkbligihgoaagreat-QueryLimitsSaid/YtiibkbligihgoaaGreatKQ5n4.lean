import Derived.Test.YtiibkbligihgoaaGreatProg
import Derived.Test.YtiibkbligihgoaaGreatSpCopy
import Derived.Test.YtiibkbligihgoaaGreatFQ5
import Derived.Test.YtiibkbligihgoaaGreatShelf
import Derived.Test.YtiibkbligihgoaaGreatSpMapR
import Derived.Test.YtiibkbligihgoaaGreatSpKeys
import Derived.Test.YtiibkbligihgoaaGreatSpRound
import Derived.Test.YtiibkbligihgoaaGreatKQ5n0
import Derived.Test.YtiibkbligihgoaaGreatKQ5n1
import Derived.Test.YtiibkbligihgoaaGreatKQ5n2
import Derived.Test.YtiibkbligihgoaaGreatKQ5n3
namespace Go.Sp.Q5
open Go Go.Sp Go.Proofs
set_option linter.unusedVariables false
attribute [local irreducible] wpList AnyL Code.wp Calls Does Code.wpIn wpListIn CallsIn bodyPostM LeavesInM
set_option maxRecDepth 100000 in
set_option maxHeartbeats 4000000 in
theorem query_grade.calls (k : Nat) (A2 : Option Addr) (c3 : Nat) (A6 : Option Addr) (c7 : Nat) (r1 : S_Row) (q5 : S_Ask) {t w : World} {f : FM} {H : List Seg} (HS : St t w f (H)) (HR4 : SlR (tInt .i64) f A2 c3 r1.Frames) (HR8 : SlR ty_Cone f A6 c7 q5.Cones) (rr1 : Int) (h : query_grade k r1 q5 = some rr1) :
    Calls Tryz.prog 44 #[.agg #[.int .i64 r1.ID, .int .i64 r1.Box.X.Lo, .int .i64 r1.Box.X.Hi, .bool r1.Box.X.Unknown, .int .i64 r1.Box.Y.Lo, .int .i64 r1.Box.Y.Hi, .bool r1.Box.Y.Unknown, .int .i64 r1.Box.Z.Lo, .int .i64 r1.Box.Z.Hi, .bool r1.Box.Z.Unknown, .int .i64 r1.Flux.Lo, .int .i64 r1.Flux.Hi, .bool r1.Flux.Unknown, .int .i64 r1.When.Lo, .int .i64 r1.When.Hi, .bool r1.When.Unknown, .slice A2 r1.Frames.length c3, .int .i64 r1.Marks], .agg #[.slice A6 q5.Cones.length c7, .int .i64 q5.From, .int .i64 q5.To, .int .i64 q5.Least, .int .i64 q5.Ban]] w (fun e w' => ∃ (g : FM), e = .returned (Value.int .i64 rr1) ∧ FM.le f g ∧ St t w' g (H)) := by
 unfold query_grade at h
 refine enter Tryz.func44 rfl (tm := #[(ag_Row r1 A2 c3), (ag_Ask q5 A6 c7), uV, uV, uV, uV, uV, uV, uV, uV, uV, uV, uV, uV, uV, uV, uV, uV, uV, uV, uV, uV, uV, uV, uV, uV, uV, uV, uV, uV, uV, uV, uV, uV, uV, uV, uV, uV, uV, uV, uV, uV, uV, uV, uV, uV]) kr ?_
 intro B hret hnor hnp
 refine wp_seq_k fun K9 hK10 => rl ?_
 refine seqK rfl (does_box (cs := #[.int .i64 r1.ID, .int .i64 r1.Box.X.Lo, .int .i64 r1.Box.X.Hi, .bool r1.Box.X.Unknown, .int .i64 r1.Box.Y.Lo, .int .i64 r1.Box.Y.Hi, .bool r1.Box.Y.Unknown, .int .i64 r1.Box.Z.Lo, .int .i64 r1.Box.Z.Hi, .bool r1.Box.Z.Unknown, .int .i64 r1.Flux.Lo, .int .i64 r1.Flux.Hi, .bool r1.Flux.Unknown, .int .i64 r1.When.Lo, .int .i64 r1.When.Hi, .bool r1.When.Unknown, .slice A2 r1.Frames.length c3, .int .i64 r1.Marks]) rfl (kv (.agg #[.int .i64 r1.ID, .int .i64 r1.Box.X.Lo, .int .i64 r1.Box.X.Hi, .bool r1.Box.X.Unknown, .int .i64 r1.Box.Y.Lo, .int .i64 r1.Box.Y.Hi, .bool r1.Box.Y.Unknown, .int .i64 r1.Box.Z.Lo, .int .i64 r1.Box.Z.Hi, .bool r1.Box.Z.Unknown, .int .i64 r1.Flux.Lo, .int .i64 r1.Flux.Hi, .bool r1.Flux.Unknown, .int .i64 r1.When.Lo, .int .i64 r1.When.Hi, .bool r1.When.Unknown, .slice A2 r1.Frames.length c3, .int .i64 r1.Marks])) rfl HS ?_)
 intro b11 W12 HS13
 refine seqK rfl (does_box (cs := #[.slice A6 q5.Cones.length c7, .int .i64 q5.From, .int .i64 q5.To, .int .i64 q5.Least, .int .i64 q5.Ban]) rfl (kv (.agg #[.slice A6 q5.Cones.length c7, .int .i64 q5.From, .int .i64 q5.To, .int .i64 q5.Least, .int .i64 q5.Ban])) rfl HS13 ?_)
 intro b15 W16 HS17
 refine seqL1 kr ?_
 refine nl (hK10 _ _ ?_)
 refine wp_seq_k (fun K19 hK20 => ?_)
 refine heldG (S := Sg t f ([(b15, .cells #[.slice A6 q5.Cones.length c7, .int .i64 q5.From, .int .i64 q5.To, .int .i64 q5.Least, .int .i64 q5.Ban] 51 (0, 0))] :: [(b11, .cells #[.int .i64 r1.ID, .int .i64 r1.Box.X.Lo, .int .i64 r1.Box.X.Hi, .bool r1.Box.X.Unknown, .int .i64 r1.Box.Y.Lo, .int .i64 r1.Box.Y.Hi, .bool r1.Box.Y.Unknown, .int .i64 r1.Box.Z.Lo, .int .i64 r1.Box.Z.Hi, .bool r1.Box.Z.Unknown, .int .i64 r1.Flux.Lo, .int .i64 r1.Flux.Hi, .bool r1.Flux.Unknown, .int .i64 r1.When.Lo, .int .i64 r1.When.Hi, .bool r1.When.Unknown, .slice A2 r1.Frames.length c3, .int .i64 r1.Marks] 99 (0, 0))] :: H) []) (n := 14) kr rfl HS17 ?_
 intro W21 HS22
 refine takeGL [0] (n := 14) (fuel := 13) #[true, false, false, false, false, false, false, false, false, false, false, false, false, false] rfl kr kr kr hnp (Sg.g0 (Sx.of [] fL HS22)) ?_
 refine takeGQ 1 [] rfl kr kr kr kr kr kr hnp (Sg.g0 (Sx.of [] fL HS22)) (fun w_ hw_ => by obtain ⟨g_, hl_, hS_⟩ := hw_.st; exact run_loadN (n := 3) rfl Tryz.underlying97 rfl kr (kv (.pointer (some ⟨b11, 13, none⟩))) (cs := [.int .i64 r1.When.Lo, .int .i64 r1.When.Hi, .bool r1.When.Unknown]) rfl (hS_.u1.cells 13 3 _ rfl)) ?_
 refine takeGL [2] (n := 12) (fuel := 11) #[true, true, true, false, false, false, false, false, false, false, false, false, false, false] rfl kr kr kr hnp (Sg.g0 (Sx.of [] fL HS22)) ?_
 refine takeGQ 3 [] rfl kr kr kr kr kr kr hnp (Sg.g0 (Sx.of [] fL HS22)) (fun w_ hw_ => by obtain ⟨g_, hl_, hS_⟩ := hw_.st; exact run_load rfl Tryz.underlying48 rfl (kv (.pointer (some ⟨b15, 1, none⟩))) (hS_.cell 1)) ?_
 refine takeGL [4] (n := 10) (fuel := 9) #[true, true, true, true, true, false, false, false, false, false, false, false, false, false] rfl kr kr kr hnp (Sg.g0 (Sx.of [] fL HS22)) ?_
 refine takeGQ 5 [] rfl kr kr kr kr kr kr hnp (Sg.g0 (Sx.of [] fL HS22)) (fun w_ hw_ => by obtain ⟨g_, hl_, hS_⟩ := hw_.st; exact run_load rfl Tryz.underlying48 rfl (kv (.pointer (some ⟨b15, 2, none⟩))) (hS_.cell 2)) ?_
 refine takeGL [7] (n := 8) (fuel := 7) #[true, true, true, true, true, true, false, true, false, false, false, false, false, false] rfl kr kr kr hnp (Sg.g0 (Sx.of [] fL HS22)) ?_
 refine takeGQ 8 [] rfl kr kr kr kr kr kr hnp (Sg.g0 (Sx.of [] fL HS22)) (fun w_ hw_ => by obtain ⟨g_, hl_, hS_⟩ := hw_.st; exact run_loadN (n := 3) rfl Tryz.underlying95 rfl kr (kv (.pointer (some ⟨b11, 10, none⟩))) (cs := [.int .i64 r1.Flux.Lo, .int .i64 r1.Flux.Hi, .bool r1.Flux.Unknown]) rfl (hS_.u1.cells 10 3 _ rfl)) ?_
 refine takeGL [9] (n := 6) (fuel := 5) #[true, true, true, true, true, true, false, true, true, true, false, false, false, false] rfl kr kr kr hnp (Sg.g0 (Sx.of [] fL HS22)) ?_
 refine takeGQ 10 [] rfl kr kr kr kr kr kr hnp (Sg.g0 (Sx.of [] fL HS22)) (fun w_ hw_ => by obtain ⟨g_, hl_, hS_⟩ := hw_.st; exact run_load rfl Tryz.underlying49 rfl (kv (.pointer (some ⟨b15, 3, none⟩))) (hS_.cell 3)) ?_
 have hq_ := bind_some h; clear h; obtain ⟨vt23, hc24, h⟩ := hq_
 refine takeGE 6 kr rfl kr (does_call (f := 54) (args := #[.agg #[.int .i64 r1.When.Lo, .int .i64 r1.When.Hi, .bool r1.When.Unknown], .int .i64 q5.From, .int .i64 q5.To]) kr (query_between_Tick.calls k r1.When q5.From q5.To HS22 vt23 hc24) ?_)
 rintro _ W27 ⟨f25, rfl, L26, HS28⟩
 refine ⟨_, rfl, ?_⟩
 refine ⟨(Sg.g0 (Sx.of [] L26 HS28)), ?_⟩
 have hq_ := bind_some h; clear h; obtain ⟨vt29, hc30, h⟩ := hq_
 refine takeGE 11 kr rfl kr (does_call (f := 74) (args := #[.agg #[.int .i64 r1.Flux.Lo, .int .i64 r1.Flux.Hi, .bool r1.Flux.Unknown], .int .i64 q5.Least, .int .i64 1125899906842624]) kr (query_between_Quanta.calls k r1.Flux q5.Least 1125899906842624 HS28 vt29 hc30) ?_)
 rintro _ W33 ⟨f31, rfl, L32, HS34⟩
 refine ⟨_, rfl, ?_⟩
 refine ⟨(Sg.g0 (Sx.of [] (L26.trans L32) HS34)), ?_⟩
 refine takeGL [12, 13] (n := 2) (fuel := 0) #[true, true, true, true, true, true, true, true, true, true, true, true, true, true] rfl kr kr kr hnp (Sg.g0 (Sx.of [] (L26.trans L32) HS34)) ?_
 refine doneG kr ?_ _
 refine hK20 _ _ ?_
 refine wp_seq_k (fun K35 hK36 => ?_)
 refine wp_seq_k fun K37 hK38 => rl ?_
 refine seqL1 kr ?_
 refine seqK rfl (does_run (run_load rfl Tryz.underlying3 rfl (kv (.pointer (some ⟨b11, 17, none⟩))) (HS34.u1.cell 17)) ?_)
 refine seqL1 kr ?_
 refine seqK rfl (does_run (run_load rfl Tryz.underlying3 rfl (kv (.pointer (some ⟨b15, 4, none⟩))) (HS34.cell 4)) ?_)
 refine seqL2 kr ?_
 refine nl (hK38 _ _ ?_)
 have hq_ := bind_some h; clear h; obtain ⟨v39, hv47, h⟩ := hq_
 have J48 : ∀ (f41 : FM) (vg46 : Int) (W43 : World) (a_ : Act), FM.le f31 f41 → some (vg46) = some v39 → St t W43 f41 ([(b15, .cells #[.slice A6 q5.Cones.length c7, .int .i64 q5.From, .int .i64 q5.To, .int .i64 q5.Least, .int .i64 q5.Ban] 51 (0, 0))] :: [(b11, .cells #[.int .i64 r1.ID, .int .i64 r1.Box.X.Lo, .int .i64 r1.Box.X.Hi, .bool r1.Box.X.Unknown, .int .i64 r1.Box.Y.Lo, .int .i64 r1.Box.Y.Hi, .bool r1.Box.Y.Unknown, .int .i64 r1.Box.Z.Lo, .int .i64 r1.Box.Z.Hi, .bool r1.Box.Z.Unknown, .int .i64 r1.Flux.Lo, .int .i64 r1.Flux.Hi, .bool r1.Flux.Unknown, .int .i64 r1.When.Lo, .int .i64 r1.When.Hi, .bool r1.When.Unknown, .slice A2 r1.Frames.length c3, .int .i64 r1.Marks] 99 (0, 0))] :: H) → a_ = ⟨#[(ag_Row r1 A2 c3), (ag_Ask q5 A6 c7), pV b11 0, pV b15 0, iV 0, iV vg46, uV, uV, pV b11 13, (ag_Bound r1.When), pV b15 1, iV q5.From, pV b15 2, iV q5.To, iV vt23, pV b11 10, (ag_Bound r1.Flux), pV b15 3, iV q5.Least, iV vt29, iV (mn vt23 vt29), pV b11 17, iV r1.Marks, pV b15 4, iV q5.Ban, iV (Go.bits .and .i64 r1.Marks q5.Ban), .bool ((Go.bits .and .i64 r1.Marks q5.Ban) != 0), uV, uV, uV, uV, uV, uV, uV, uV, uV, uV, uV, uV, uV, uV, uV, uV, uV, uV, uV], []⟩ → K35 a_ W43 := by
  intro f41 vg46 W43 a_ L42 hj49 HS44  hfr_; subst hfr_
  injection hj49 with hj49; subst hj49; try dsimp only at h
  refine hK36 _ _ ?_
  refine wp_seq_k (fun K50 hK51 => ?_)
  refine wp_seq_k fun K52 hK53 => rl ?_
  refine seqL1 kr ?_
  refine seqK rfl (does_run (run_load rfl Tryz.underlying47 rfl (kv (.pointer (some ⟨b15, 0, none⟩))) (HS44.cell 0)) ?_)
  refine seqL2 kr ?_
  refine nl (hK53 _ _ ?_)
  refine blockK (fun B54 hx55 hn56 hr57 ho58 hp59 => ?_)
  have hq_ := bind_some h; clear h; obtain ⟨o60, hv121, h⟩ := hq_
  have J122 : ∀ (f115 : FM) (vg120 : Int) (j119 : Nat → Value) (W117 : World) (a_ : Act), FM.le f41 f115 → some (vg120) = some o60 → St t W117 f115 ([(b15, .cells #[.slice A6 q5.Cones.length c7, .int .i64 q5.From, .int .i64 q5.To, .int .i64 q5.Least, .int .i64 q5.Ban] 51 (0, 0))] :: [(b11, .cells #[.int .i64 r1.ID, .int .i64 r1.Box.X.Lo, .int .i64 r1.Box.X.Hi, .bool r1.Box.X.Unknown, .int .i64 r1.Box.Y.Lo, .int .i64 r1.Box.Y.Hi, .bool r1.Box.Y.Unknown, .int .i64 r1.Box.Z.Lo, .int .i64 r1.Box.Z.Hi, .bool r1.Box.Z.Unknown, .int .i64 r1.Flux.Lo, .int .i64 r1.Flux.Hi, .bool r1.Flux.Unknown, .int .i64 r1.When.Lo, .int .i64 r1.When.Hi, .bool r1.When.Unknown, .slice A2 r1.Frames.length c3, .int .i64 r1.Marks] 99 (0, 0))] :: H) → a_ = ⟨#[(ag_Row r1 A2 c3), (ag_Ask q5 A6 c7), pV b11 0, pV b15 0, iV 0, iV vg120, uV, (j119 0), pV b11 13, (ag_Bound r1.When), pV b15 1, iV q5.From, pV b15 2, iV q5.To, iV vt23, pV b11 10, (ag_Bound r1.Flux), pV b15 3, iV q5.Least, iV vt29, iV (mn vt23 vt29), pV b11 17, iV r1.Marks, pV b15 4, iV q5.Ban, iV (Go.bits .and .i64 r1.Marks q5.Ban), .bool ((Go.bits .and .i64 r1.Marks q5.Ban) != 0), pV b15 0, .slice A6 q5.Cones.length c7, iV (q5.Cones.length : Int), (j119 1), (j119 2), (j119 3), (j119 4), (j119 5), (j119 6), (j119 7), (j119 8), (j119 9), (j119 10), (j119 11), (j119 12), (j119 13), (j119 14), (j119 15), uV], []⟩ → K50 a_ W117 := by
   intro f115 vg120 j119 W117 a_ L116 hj123 HS118  hfr_; subst hfr_
   injection hj123 with hj123; subst hj123; try dsimp only at h
   refine hK51 _ _ ?_
   refine wp_seq_k fun K128 hK129 => rl ?_
   refine seqL2 kr ?_
   refine nl (hK129 _ _ ?_)
   refine wp_ret ?_
   refine hret _ _ ?_
   refine ends_still (v := Value.int .i64 vg120) kr kr ?_
   have HS130 := HS118.drop
   have HS131 := HS130.drop
   injection h with h
   subst h
   exact ⟨f115, rfl, (L26.trans (L32.trans (L42.trans L116))), HS131⟩
  clear h; have h := hv121; clear hv121
  refine loopK (fun n_ a_ w_ => ∃ (f64 : FM) (vg69 : Int) (x70 : Int) (j68 : Nat → Value), FM.le f41 f64 ∧ St t w_ f64 ([(b15, .cells #[.slice A6 q5.Cones.length c7, .int .i64 q5.From, .int .i64 q5.To, .int .i64 q5.Least, .int .i64 q5.Ban] 51 (0, 0))] :: [(b11, .cells #[.int .i64 r1.ID, .int .i64 r1.Box.X.Lo, .int .i64 r1.Box.X.Hi, .bool r1.Box.X.Unknown, .int .i64 r1.Box.Y.Lo, .int .i64 r1.Box.Y.Hi, .bool r1.Box.Y.Unknown, .int .i64 r1.Box.Z.Lo, .int .i64 r1.Box.Z.Hi, .bool r1.Box.Z.Unknown, .int .i64 r1.Flux.Lo, .int .i64 r1.Flux.Hi, .bool r1.Flux.Unknown, .int .i64 r1.When.Lo, .int .i64 r1.When.Hi, .bool r1.When.Unknown, .slice A2 r1.Frames.length c3, .int .i64 r1.Marks] 99 (0, 0))] :: H) ∧ query_grade.l0 k q5 r1 n_ vg69 x70 = some o60 ∧ a_ = ⟨#[(ag_Row r1 A2 c3), (ag_Ask q5 A6 c7), pV b11 0, pV b15 0, iV 0, iV vg69, uV, (j68 0), pV b11 13, (ag_Bound r1.When), pV b15 1, iV q5.From, pV b15 2, iV q5.To, iV vt23, pV b11 10, (ag_Bound r1.Flux), pV b15 3, iV q5.Least, iV vt29, iV (mn vt23 vt29), pV b11 17, iV r1.Marks, pV b15 4, iV q5.Ban, iV (Go.bits .and .i64 r1.Marks q5.Ban), .bool ((Go.bits .and .i64 r1.Marks q5.Ban) != 0), pV b15 0, .slice A6 q5.Cones.length c7, iV (q5.Cones.length : Int), iV x70, (j68 1), (j68 2), (j68 3), (j68 4), (j68 5), (j68 6), (j68 7), (j68 8), (j68 9), (j68 10), (j68 11), (j68 12), (j68 13), (j68 14), uV], []⟩) k ⟨f41, vg46, 0, (jL []), fL, HS44, h, kr⟩ ?_
  clear h
  rintro n63 _ W66 ⟨f64, vg69, x70, j68, L65, HS67, h, rfl⟩ K61 hK62
  obtain _ | n63 := n63
  · exact nomatch h
  simp only [query_grade.l0] at h
  refine wp_seq_k fun K71 hK72 => rl ?_
  refine seqL1 kr ?_
  refine nl (hK72 _ _ ?_)
  refine wp_seq_k (fun K73 hK74 => ?_)
  have hq_ := ite_some h; clear h; rcases hq_ with ⟨c76, h⟩ | ⟨c76, h⟩
  · have c76 : x70 < (q5.Cones.length : Int) := c76
    refine wpRwI 31 kr (decide_eq_true c76) ?_
    refine condT kr ?_
    refine wp_skip ?_
    refine hK74 _ _ ?_
    refine wp_seq_k (fun K77 hK78 => ?_)
    refine blockK (fun B79 hx80 hn81 hr82 ho83 hp84 => ?_)
    refine wp_seq_k fun K86 hK87 => rl ?_
    have hq_ := guard_some h; clear h; obtain ⟨c88, h⟩ := hq_
    have c88 : 0 ≤ x70 := c88
    obtain ⟨b92, of93, cs89, hA94, hr90, hc91⟩ := (HR8.mono (L26.trans (L32.trans (L42.trans L65)))).at (i := x70) c88 c76
    obtain rfl := hr90
    refine seqK rfl (does_run (run_indexE hA94 (sz := 4) rfl Tryz.underlying47 kr (kv (.slice A6 q5.Cones.length c7)) (kv (.int .i64 x70)) c88 c76 W66) ?_)
    refine seqK rfl (does_run (run_loadN (n := 4) rfl Tryz.underlying55 rfl kr (kv (.pointer (some ⟨b92, of93 + (x70 : Int).toNat * 4, none⟩))) (cs := [.int .i64 (((rd q5.Cones x70).At).X), .int .i64 (((rd q5.Cones x70).At).Y), .int .i64 (((rd q5.Cones x70).At).Z), .int .i64 ((rd q5.Cones x70).Cos)]) rfl (fun j_ hj_ => ((hc91 fL HS67) j_ hj_))) ?_)
    refine seqK rfl (does_alloc (z := Value.agg #[.int .i64 0, .int .i64 0, .int .i64 0, .int .i64 0]) (cs := #[.int .i64 0, .int .i64 0, .int .i64 0, .int .i64 0]) rfl kr rfl HS67 ?_)
    intro b95 W96 HS97
    refine seqK rfl (does_storeA (vs := [.int .i64 (((rd q5.Cones x70).At).X), .int .i64 (((rd q5.Cones x70).At).Y), .int .i64 (((rd q5.Cones x70).At).Z), .int .i64 ((rd q5.Cones x70).Cos)]) rfl kr kr kr rfl (ones rfl) HS97 kr ?_)
    intro W99 HS100
    refine nl (hK87 _ _ ?_)
    refine heldG (S := Sg t f64 ([(b95, .cells #[.int .i64 (((rd q5.Cones x70).At).X), .int .i64 (((rd q5.Cones x70).At).Y), .int .i64 (((rd q5.Cones x70).At).Z), .int .i64 ((rd q5.Cones x70).Cos)] 55 (0, 0))] :: [(b15, .cells #[.slice A6 q5.Cones.length c7, .int .i64 q5.From, .int .i64 q5.To, .int .i64 q5.Least, .int .i64 q5.Ban] 51 (0, 0))] :: [(b11, .cells #[.int .i64 r1.ID, .int .i64 r1.Box.X.Lo, .int .i64 r1.Box.X.Hi, .bool r1.Box.X.Unknown, .int .i64 r1.Box.Y.Lo, .int .i64 r1.Box.Y.Hi, .bool r1.Box.Y.Unknown, .int .i64 r1.Box.Z.Lo, .int .i64 r1.Box.Z.Hi, .bool r1.Box.Z.Unknown, .int .i64 r1.Flux.Lo, .int .i64 r1.Flux.Hi, .bool r1.Flux.Unknown, .int .i64 r1.When.Lo, .int .i64 r1.When.Hi, .bool r1.When.Unknown, .slice A2 r1.Frames.length c3, .int .i64 r1.Marks] 99 (0, 0))] :: H) []) (n := 11) kr rfl HS100 ?_
    intro W101 HS102
    refine takeGL [0, 1] (n := 11) (fuel := 9) #[true, true, false, false, false, false, false, false, false, false, false] rfl kr kr kr (fun ch_ a_ w_ q_ => (fun ch_ a_ w_ q_ => hnp ch_ a_ w_ (hp59 ch_ a_ w_ q_)) ch_ a_ w_ (hp84 ch_ a_ w_ q_)) (Sg.g0 (Sx.of [] fL HS102)) ?_
    refine takeGQ 2 [] rfl kr kr kr kr kr kr (fun ch_ a_ w_ q_ => (fun ch_ a_ w_ q_ => hnp ch_ a_ w_ (hp59 ch_ a_ w_ q_)) ch_ a_ w_ (hp84 ch_ a_ w_ q_)) (Sg.g0 (Sx.of [] fL HS102)) (fun w_ hw_ => by obtain ⟨g_, hl_, hS_⟩ := hw_.st; exact run_loadN (n := 9) rfl Tryz.underlying31 rfl kr (kv (.pointer (some ⟨b11, 1, none⟩))) (cs := [.int .i64 r1.Box.X.Lo, .int .i64 r1.Box.X.Hi, .bool r1.Box.X.Unknown, .int .i64 r1.Box.Y.Lo, .int .i64 r1.Box.Y.Hi, .bool r1.Box.Y.Unknown, .int .i64 r1.Box.Z.Lo, .int .i64 r1.Box.Z.Hi, .bool r1.Box.Z.Unknown]) rfl (hS_.u2.cells 1 9 _ rfl)) ?_
    refine takeGL [3] (n := 8) (fuel := 7) #[true, true, true, true, false, false, false, false, false, false, false] rfl kr kr kr (fun ch_ a_ w_ q_ => (fun ch_ a_ w_ q_ => hnp ch_ a_ w_ (hp59 ch_ a_ w_ q_)) ch_ a_ w_ (hp84 ch_ a_ w_ q_)) (Sg.g0 (Sx.of [] fL HS102)) ?_
    refine takeGQ 4 [] rfl kr kr kr kr kr kr (fun ch_ a_ w_ q_ => (fun ch_ a_ w_ q_ => hnp ch_ a_ w_ (hp59 ch_ a_ w_ q_)) ch_ a_ w_ (hp84 ch_ a_ w_ q_)) (Sg.g0 (Sx.of [] fL HS102)) (fun w_ hw_ => by obtain ⟨g_, hl_, hS_⟩ := hw_.st; exact run_loadN (n := 3) rfl Tryz.underlying39 rfl kr (kv (.pointer (some ⟨b95, 0, none⟩))) (cs := [.int .i64 (((rd q5.Cones x70).At).X), .int .i64 (((rd q5.Cones x70).At).Y), .int .i64 (((rd q5.Cones x70).At).Z)]) rfl (hS_.cells 0 3 _ rfl)) ?_
    refine takeGL [6] (n := 6) (fuel := 5) #[true, true, true, true, true, false, true, false, false, false, false] rfl kr kr kr (fun ch_ a_ w_ q_ => (fun ch_ a_ w_ q_ => hnp ch_ a_ w_ (hp59 ch_ a_ w_ q_)) ch_ a_ w_ (hp84 ch_ a_ w_ q_)) (Sg.g0 (Sx.of [] fL HS102)) ?_
    refine takeGQ 7 [] rfl kr kr kr kr kr kr (fun ch_ a_ w_ q_ => (fun ch_ a_ w_ q_ => hnp ch_ a_ w_ (hp59 ch_ a_ w_ q_)) ch_ a_ w_ (hp84 ch_ a_ w_ q_)) (Sg.g0 (Sx.of [] fL HS102)) (fun w_ hw_ => by obtain ⟨g_, hl_, hS_⟩ := hw_.st; exact run_load rfl Tryz.underlying23 rfl (kv (.pointer (some ⟨b95, 3, none⟩))) (hS_.cell 3)) ?_
    have hq_ := bind_some h; clear h; obtain ⟨vt103, hc104, h⟩ := hq_
    refine takeGE 5 kr rfl kr (does_call (f := 55) (args := #[.agg #[.int .i64 (((rd q5.Cones x70).At).X), .int .i64 (((rd q5.Cones x70).At).Y), .int .i64 (((rd q5.Cones x70).At).Z)]]) kr (query_point.calls k ((rd q5.Cones x70).At) HS102 vt103 hc104) ?_)
    rintro _ W107 ⟨f105, rfl, L106, HS108⟩
    refine ⟨_, rfl, ?_⟩
    refine ⟨(Sg.g0 (Sx.of [] L106 HS108)), ?_⟩
    have hq_ := bind_some h; clear h; obtain ⟨vt109, hc110, h⟩ := hq_
    refine takeGE 8 kr rfl kr (does_call (f := 10) (args := #[.agg #[.int .i64 r1.Box.X.Lo, .int .i64 r1.Box.X.Hi, .bool r1.Box.X.Unknown, .int .i64 r1.Box.Y.Lo, .int .i64 r1.Box.Y.Hi, .bool r1.Box.Y.Unknown, .int .i64 r1.Box.Z.Lo, .int .i64 r1.Box.Z.Hi, .bool r1.Box.Z.Unknown], .agg #[.int .i64 vt103.X.Lo, .int .i64 vt103.X.Hi, .bool vt103.X.Unknown, .int .i64 vt103.Y.Lo, .int .i64 vt103.Y.Hi, .bool vt103.Y.Unknown, .int .i64 vt103.Z.Lo, .int .i64 vt103.Z.Hi, .bool vt103.Z.Unknown], .int .i64 ((rd q5.Cones x70).Cos)]) kr (query_Near.calls k r1.Box vt103 ((rd q5.Cones x70).Cos) HS108 vt109 hc110) ?_)
    rintro _ W113 ⟨f111, rfl, L112, HS114⟩
    refine ⟨_, rfl, ?_⟩
    refine ⟨(Sg.g0 (Sx.of [] (L106.trans L112) HS114)), ?_⟩
    refine takeGL [9, 10] (n := 2) (fuel := 0) #[true, true, true, true, true, true, true, true, true, true, true] rfl kr kr kr (fun ch_ a_ w_ q_ => (fun ch_ a_ w_ q_ => hnp ch_ a_ w_ (hp59 ch_ a_ w_ q_)) ch_ a_ w_ (hp84 ch_ a_ w_ q_)) (Sg.g0 (Sx.of [] (L106.trans L112) HS114)) ?_
    refine doneG kr ?_ _
    refine hn81 _ _ ?_
    refine hK78 _ _ ?_
    refine rl ?_
    refine seqL2 kr ?_
    refine nl ?_
    refine hK62 n63 _ _ (Nat.lt_succ_self _) ?_
    have HS126 := HS114.u2.u2.u2
    have HS127 := HS126.drop
    exact ⟨f111, (mn vg69 vt109), (w64 (x70 + 1)), (jL [.pointer (some ⟨b95, 0, none⟩), tV, .pointer (some ⟨b92, of93 + (x70 : Int).toNat * 4, none⟩), (ag_Cone (rd q5.Cones x70)), iV vg69, .pointer (some ⟨b11, 1, none⟩), (ag_Box r1.Box), .pointer (some ⟨b95, 0, none⟩), (ag_Vec ((rd q5.Cones x70).At)), (ag_Box vt103), .pointer (some ⟨b95, 3, none⟩), iV ((rd q5.Cones x70).Cos), iV vt109, iV (mn vg69 vt109), iV (w64 (x70 + 1))]), (L65.trans (L106.trans L112)), HS127, h, kr⟩
  · have c76 : ¬ (x70 < (q5.Cones.length : Int)) := c76
    refine wpRwI 31 kr (decide_eq_false c76) ?_
    refine condF kr ?_
    refine wp_exit ?_
    refine hx55 _ _ ?_
    exact J122 f64 vg69 (jL [(j68 0), iV x70, fV, (j68 2), (j68 3), (j68 4), (j68 5), (j68 6), (j68 7), (j68 8), (j68 9), (j68 10), (j68 11), (j68 12), (j68 13), (j68 14)]) W66 _ L65 h HS67 kr
 clear h; have h := hv47; clear hv47
 have hq_ := ite_some h; clear h; rcases hq_ with ⟨c40, h⟩ | ⟨c40, h⟩
 · have c40 : (Go.bits .and .i64 r1.Marks q5.Ban) ≠ 0 := c40
   refine wpRwI 26 kr (bne_iff_ne.mpr c40) ?_
   refine condT kr ?_
   refine rl ?_
   refine seqL1 kr ?_
   refine nl ?_
   refine fnRwI (F := K35) 26 (x := true) (v := ((Go.bits .and .i64 r1.Marks q5.Ban) != 0)) kr (Eq.symm (bne_iff_ne.mpr c40)) ?_
   exact J48 f31 0 W33 _ fL h HS34 kr
 · have c40 : ¬ ((Go.bits .and .i64 r1.Marks q5.Ban) ≠ 0) := c40
   refine wpRwI 26 (x := ((Go.bits .and .i64 r1.Marks q5.Ban) != 0)) (v := false) kr (bne_eq_false_iff_eq.mpr (Decidable.of_not_not c40)) ?_
   refine condF kr ?_
   refine wp_skip ?_
   refine fnRwI (F := K35) 26 (x := false) (v := ((Go.bits .and .i64 r1.Marks q5.Ban) != 0)) kr (Eq.symm (bne_eq_false_iff_eq.mpr (Decidable.of_not_not c40))) ?_
   exact J48 f31 (mn vt23 vt29) W33 _ fL h HS34 kr

set_option maxRecDepth 100000 in
set_option maxHeartbeats 4000000 in
theorem query_Scan.calls (k : Nat) (A2 : Option Addr) (c3 : Nat) (A6 : Option Addr) (c7 : Nat) (rows1 : List S_Row) (q5 : S_Ask) {t w : World} {f : FM} {H : List Seg} (HS : St t w f (H)) (HR4 : SlR ty_Row f A2 c3 rows1) (HR8 : SlR ty_Cone f A6 c7 q5.Cones) (rr1 : List S_Answer) (rr2 : Int) (h : query_Scan k rows1 q5 = some (rr1, rr2)) :
    Calls Tryz.prog 21 #[.slice A2 rows1.length c3, .agg #[.slice A6 q5.Cones.length c7, .int .i64 q5.From, .int .i64 q5.To, .int .i64 q5.Least, .int .i64 q5.Ban]] w (fun e w' => ∃ (g : FM) (A169 : Option Addr) (c170 : Nat) (s171 : Seg), e = .returned (Value.tuple #[.slice A169 rr1.length c170, .int .i64 rr2]) ∧ FM.le f g ∧ St t w' g (s171 :: H) ∧ Own ty_Answer 62 g A169 c170 s171 rr1) := by
 unfold query_Scan at h
 refine enter Tryz.func21 rfl (tm := #[.slice A2 rows1.length c3, (ag_Ask q5 A6 c7), uV, uV, uV, uV, uV, uV, uV, uV, uV, uV, uV, uV, uV, uV, uV, uV, uV, uV, uV, uV, uV, uV, uV, uV, uV, uV, uV, uV, uV, uV, uV, uV, uV, uV, uV, uV, uV, uV, uV, uV]) kr ?_
 intro B hret hnor hnp
 refine wp_seq_k fun K9 hK10 => rl ?_
 refine seqK rfl (does_box (cs := #[.slice A6 q5.Cones.length c7, .int .i64 q5.From, .int .i64 q5.To, .int .i64 q5.Least, .int .i64 q5.Ban]) rfl (kv (.agg #[.slice A6 q5.Cones.length c7, .int .i64 q5.From, .int .i64 q5.To, .int .i64 q5.Least, .int .i64 q5.Ban])) rfl HS ?_)
 intro b11 W12 HS13
 refine seqL2 kr ?_
 refine nl (hK10 _ _ ?_)
 refine wp_seq_k (fun K15 hK16 => ?_)
 refine wp_seq_k fun K17 hK18 => rl ?_
 have hq_ := bind_some h; clear h; obtain ⟨vt19, hc20, h⟩ := hq_
 refine seqL1 kr ?_
 refine seqK rfl (does_call (f := 42) (args := #[.slice A2 rows1.length c3]) kr (catalog_Check.calls k A2 c3 rows1 HS13 HR4 vt19 hc20) ?_)
 rintro _ W23 ⟨f21, rfl, L22, HS24⟩
 refine ⟨_, rfl, ?_⟩
 refine seqL1 kr ?_
 refine nl (hK18 _ _ ?_)
 refine wp_seq_k fun K25 hK26 => rl ?_
 refine seqL2 kr ?_
 refine nl (hK26 _ _ ?_)
 have hq_ := ite_some h; clear h; rcases hq_ with ⟨c28, h⟩ | ⟨c28, h⟩
 · have c28 : vt19 ≠ 0 := c28
   refine wpRwI 15 kr (bne_iff_ne.mpr c28) ?_
   refine condT kr ?_
   refine wp_seq_k fun K29 hK30 => rl ?_
   refine seqL3 kr ?_
   refine nl (hK30 _ _ ?_)
   refine wp_ret ?_
   refine hret _ _ ?_
   have HS159 := HS24.cons_nil
   refine ends_still (v := Value.tuple #[.slice none 0 0, .int .i64 vt19]) kr kr ?_
   have HS161 := HS159.u1
   have HS162 := HS161.drop
   injection h with h
   injection h with h0_ h
   subst h0_ h
   exact ⟨f21, none, 0, [], rfl, L22, HS162, (Own.nil _)⟩
 · have c28 : ¬ (vt19 ≠ 0) := c28
   refine wpRwI 15 (x := (vt19 != 0)) (v := false) kr (bne_eq_false_iff_eq.mpr (Decidable.of_not_not c28)) ?_
   refine condF kr ?_
   refine wp_skip ?_
   refine hK16 _ _ ?_
   refine wp_seq_k (fun K31 hK32 => ?_)
   refine wp_seq_k fun K33 hK34 => rl ?_
   refine seqK rfl (does_run (run_loadN (n := 5) rfl Tryz.underlying51 rfl kr (kv (.pointer (some ⟨b11, 0, none⟩))) (cs := [.slice A6 q5.Cones.length c7, .int .i64 q5.From, .int .i64 q5.To, .int .i64 q5.Least, .int .i64 q5.Ban]) rfl (HS24.cells 0 5 _ rfl)) ?_)
   have hq_ := bind_some h; clear h; obtain ⟨vt35, hc36, h⟩ := hq_
   refine seqK rfl (does_call (f := 43) (args := #[.agg #[.slice A6 q5.Cones.length c7, .int .i64 q5.From, .int .i64 q5.To, .int .i64 q5.Least, .int .i64 q5.Ban]]) kr (query_CheckAsk.calls k A6 c7 q5 HS24 (HR8.mono L22) vt35 hc36) ?_)
   rintro _ W39 ⟨f37, rfl, L38, HS40⟩
   refine ⟨_, rfl, ?_⟩
   refine seqL1 kr ?_
   refine nl (hK34 _ _ ?_)
   refine wp_seq_k fun K41 hK42 => rl ?_
   refine seqL2 kr ?_
   refine nl (hK42 _ _ ?_)
   have hq_ := ite_some h; clear h; rcases hq_ with ⟨c44, h⟩ | ⟨c44, h⟩
   · have c44 : vt35 ≠ 0 := c44
     refine wpRwI 20 kr (bne_iff_ne.mpr c44) ?_
     refine condT kr ?_
     refine wp_seq_k fun K45 hK46 => rl ?_
     refine seqL3 kr ?_
     refine nl (hK46 _ _ ?_)
     refine wp_ret ?_
     refine hret _ _ ?_
     have HS163 := HS40.cons_nil
     refine ends_still (v := Value.tuple #[.slice none 0 0, .int .i64 vt35]) kr kr ?_
     have HS165 := HS163.u1
     have HS166 := HS165.drop
     injection h with h
     injection h with h0_ h
     subst h0_ h
     exact ⟨f37, none, 0, [], rfl, (L22.trans L38), HS166, (Own.nil _)⟩
   · have c44 : ¬ (vt35 ≠ 0) := c44
     refine wpRwI 20 (x := (vt35 != 0)) (v := false) kr (bne_eq_false_iff_eq.mpr (Decidable.of_not_not c44)) ?_
     refine condF kr ?_
     refine wp_skip ?_
     refine hK32 _ _ ?_
     refine wp_seq_k fun K47 hK48 => rl ?_
     refine seqL1 kr ?_
     refine nl (hK48 _ _ ?_)
     refine wp_seq_k (fun K49 hK50 => ?_)
     refine wp_seq_k fun K51 hK52 => rl ?_
     refine seqL3 kr ?_
     refine nl (hK52 _ _ ?_)
     refine blockK (fun B53 hx54 hn55 hr56 ho57 hp58 => ?_)
     have hq_ := bind_some h; clear h; obtain ⟨o59, hv144, h⟩ := hq_
     have J145 : ∀ (f133 : FM) (A139 : Option Addr) (c140 : Nat) (s141 : Seg) (out138 : List S_Answer) (j137 : Nat → Value) (W135 : World) (a_ : Act), FM.le f37 f133 → some (out138) = some o59 → St t W135 f133 (s141 :: [(b11, .cells #[.slice A6 q5.Cones.length c7, .int .i64 q5.From, .int .i64 q5.To, .int .i64 q5.Least, .int .i64 q5.Ban] 51 (0, 0))] :: H) → Own ty_Answer 62 f133 A139 c140 s141 out138 → a_ = ⟨#[.slice A2 rows1.length c3, (ag_Ask q5 A6 c7), uV, pV b11 0, .slice none 0 0, iV 0, iV vt19, iV vt35, .slice A139 out138.length c140, uV, (j137 0), (j137 1), .slice A2 rows1.length c3, iV vt19, iV vt19, fV, uV, (ag_Ask q5 A6 c7), iV vt35, iV vt35, fV, uV, .slice A2 rows1.length c3, iV (rows1.length : Int), (j137 2), (j137 3), (j137 4), (j137 5), (j137 6), (j137 7), (j137 8), (j137 9), (j137 10), (j137 11), (j137 12), (j137 13), (j137 14), (j137 15), (j137 16), (j137 17), (j137 18), uV], []⟩ → K49 a_ W135 := by
      intro f133 A139 c140 s141 out138 j137 W135 a_ L134 hj146 HS136 HO142 hfr_; subst hfr_
      injection hj146 with hj146; subst hj146; try dsimp only at h
      refine hK50 _ _ ?_
      refine wp_seq_k fun K157 hK158 => rl ?_
      refine seqL3 kr ?_
      refine nl (hK158 _ _ ?_)
      refine wp_ret ?_
      refine hret _ _ ?_
      refine ends_still (v := Value.tuple #[.slice A139 out138.length c140, .int .i64 0]) kr kr ?_
      have HS167 := HS136.u1
      have HS168 := HS167.drop
      injection h with h
      injection h with h0_ h
      subst h0_ h
      exact ⟨f133, A139, c140, s141, rfl, (L22.trans (L38.trans L134)), HS168, HO142⟩
     clear h; have h := hv144; clear hv144
     have HS147 := HS40.cons_nil
     refine loopK (fun n_ a_ w_ => ∃ (f63 : FM) (A69 : Option Addr) (c70 : Nat) (s71 : Seg) (out68 : List S_Answer) (x74 : Int) (j67 : Nat → Value), FM.le f37 f63 ∧ St t w_ f63 (s71 :: [(b11, .cells #[.slice A6 q5.Cones.length c7, .int .i64 q5.From, .int .i64 q5.To, .int .i64 q5.Least, .int .i64 q5.Ban] 51 (0, 0))] :: H) ∧ Own ty_Answer 62 f63 A69 c70 s71 out68 ∧ query_Scan.l0 k rows1 q5 n_ out68 x74 = some o59 ∧ a_ = ⟨#[.slice A2 rows1.length c3, (ag_Ask q5 A6 c7), uV, pV b11 0, .slice none 0 0, iV 0, iV vt19, iV vt35, .slice A69 out68.length c70, uV, (j67 0), (j67 1), .slice A2 rows1.length c3, iV vt19, iV vt19, fV, uV, (ag_Ask q5 A6 c7), iV vt35, iV vt35, fV, uV, .slice A2 rows1.length c3, iV (rows1.length : Int), iV x74, (j67 2), (j67 3), (j67 4), (j67 5), (j67 6), (j67 7), (j67 8), (j67 9), (j67 10), (j67 11), (j67 12), (j67 13), (j67 14), (j67 15), (j67 16), (j67 17), uV], []⟩) k ⟨f37, none, 0, [], ([] : List S_Answer), 0, (jL []), fL, HS147, (Own.nil _), h, kr⟩ ?_
     clear h
     rintro n62 _ W65 ⟨f63, A69, c70, s71, out68, x74, j67, L64, HS66, HO72, h, rfl⟩ K60 hK61
     obtain _ | n62 := n62
     · exact nomatch h
     simp only [query_Scan.l0] at h
     refine wp_seq_k fun K75 hK76 => rl ?_
     refine seqL1 kr ?_
     refine nl (hK76 _ _ ?_)
     refine wp_seq_k (fun K77 hK78 => ?_)
     have hq_ := ite_some h; clear h; rcases hq_ with ⟨c80, h⟩ | ⟨c80, h⟩
     · have c80 : x74 < (rows1.length : Int) := c80
       refine wpRwI 25 kr (decide_eq_true c80) ?_
       refine condT kr ?_
       refine wp_skip ?_
       refine hK78 _ _ ?_
       refine wp_seq_k (fun K81 hK82 => ?_)
       refine blockK (fun B83 hx84 hn85 hr86 ho87 hp88 => ?_)
       refine wp_seq_k fun K90 hK91 => rl ?_
       have hq_ := guard_some h; clear h; obtain ⟨c92, h⟩ := hq_
       have c92 : 0 ≤ x74 := c92
       obtain ⟨b96, of97, cs93, hA98, hr94, hc95⟩ := (HR4.mono (L22.trans (L38.trans L64))).at (i := x74) c92 c80
       obtain ⟨A99, c99, rfl, HR99⟩ := hr94
       refine seqK rfl (does_run (run_indexE hA98 (sz := 18) rfl Tryz.underlying45 kr (kv (.slice A2 rows1.length c3)) (kv (.int .i64 x74)) c92 c80 W65) ?_)
       refine seqK rfl (does_run (run_loadN (n := 18) rfl Tryz.underlying99 rfl kr (kv (.pointer (some ⟨b96, of97 + (x74 : Int).toNat * 18, none⟩))) (cs := [.int .i64 ((rd rows1 x74).ID), .int .i64 ((((rd rows1 x74).Box).X).Lo), .int .i64 ((((rd rows1 x74).Box).X).Hi), .bool ((((rd rows1 x74).Box).X).Unknown), .int .i64 ((((rd rows1 x74).Box).Y).Lo), .int .i64 ((((rd rows1 x74).Box).Y).Hi), .bool ((((rd rows1 x74).Box).Y).Unknown), .int .i64 ((((rd rows1 x74).Box).Z).Lo), .int .i64 ((((rd rows1 x74).Box).Z).Hi), .bool ((((rd rows1 x74).Box).Z).Unknown), .int .i64 (((rd rows1 x74).Flux).Lo), .int .i64 (((rd rows1 x74).Flux).Hi), .bool (((rd rows1 x74).Flux).Unknown), .int .i64 (((rd rows1 x74).When).Lo), .int .i64 (((rd rows1 x74).When).Hi), .bool (((rd rows1 x74).When).Unknown), .slice A99 ((rd rows1 x74).Frames).length c99, .int .i64 ((rd rows1 x74).Marks)]) rfl (fun j_ hj_ => ((hc95 fL HS66) j_ hj_))) ?_)
       refine seqK rfl (does_alloc (z := Value.agg #[.int .i64 0, .int .i64 0, .int .i64 0, .bool false, .int .i64 0, .int .i64 0, .bool false, .int .i64 0, .int .i64 0, .bool false, .int .i64 0, .int .i64 0, .bool false, .int .i64 0, .int .i64 0, .bool false, .slice none 0 0, .int .i64 0]) (cs := #[.int .i64 0, .int .i64 0, .int .i64 0, .bool false, .int .i64 0, .int .i64 0, .bool false, .int .i64 0, .int .i64 0, .bool false, .int .i64 0, .int .i64 0, .bool false, .int .i64 0, .int .i64 0, .bool false, .slice none 0 0, .int .i64 0]) rfl kr rfl HS66 ?_)
       intro b100 W101 HS102
       refine seqK rfl (does_storeA (vs := [.int .i64 ((rd rows1 x74).ID), .int .i64 ((((rd rows1 x74).Box).X).Lo), .int .i64 ((((rd rows1 x74).Box).X).Hi), .bool ((((rd rows1 x74).Box).X).Unknown), .int .i64 ((((rd rows1 x74).Box).Y).Lo), .int .i64 ((((rd rows1 x74).Box).Y).Hi), .bool ((((rd rows1 x74).Box).Y).Unknown), .int .i64 ((((rd rows1 x74).Box).Z).Lo), .int .i64 ((((rd rows1 x74).Box).Z).Hi), .bool ((((rd rows1 x74).Box).Z).Unknown), .int .i64 (((rd rows1 x74).Flux).Lo), .int .i64 (((rd rows1 x74).Flux).Hi), .bool (((rd rows1 x74).Flux).Unknown), .int .i64 (((rd rows1 x74).When).Lo), .int .i64 (((rd rows1 x74).When).Hi), .bool (((rd rows1 x74).When).Unknown), .slice A99 ((rd rows1 x74).Frames).length c99, .int .i64 ((rd rows1 x74).Marks)]) rfl kr kr kr rfl (ones rfl) HS102 kr ?_)
       intro W104 HS105
       refine nl (hK91 _ _ ?_)
       refine wp_seq_k fun K106 hK107 => rl ?_
       refine seqK rfl (does_run (run_loadN (n := 18) rfl Tryz.underlying99 rfl kr (kv (.pointer (some ⟨b100, 0, none⟩))) (cs := [.int .i64 ((rd rows1 x74).ID), .int .i64 ((((rd rows1 x74).Box).X).Lo), .int .i64 ((((rd rows1 x74).Box).X).Hi), .bool ((((rd rows1 x74).Box).X).Unknown), .int .i64 ((((rd rows1 x74).Box).Y).Lo), .int .i64 ((((rd rows1 x74).Box).Y).Hi), .bool ((((rd rows1 x74).Box).Y).Unknown), .int .i64 ((((rd rows1 x74).Box).Z).Lo), .int .i64 ((((rd rows1 x74).Box).Z).Hi), .bool ((((rd rows1 x74).Box).Z).Unknown), .int .i64 (((rd rows1 x74).Flux).Lo), .int .i64 (((rd rows1 x74).Flux).Hi), .bool (((rd rows1 x74).Flux).Unknown), .int .i64 (((rd rows1 x74).When).Lo), .int .i64 (((rd rows1 x74).When).Hi), .bool (((rd rows1 x74).When).Unknown), .slice A99 ((rd rows1 x74).Frames).length c99, .int .i64 ((rd rows1 x74).Marks)]) rfl (HS105.cells 0 18 _ rfl)) ?_)
       refine seqK rfl (does_run (run_loadN (n := 5) rfl Tryz.underlying51 rfl kr (kv (.pointer (some ⟨b11, 0, none⟩))) (cs := [.slice A6 q5.Cones.length c7, .int .i64 q5.From, .int .i64 q5.To, .int .i64 q5.Least, .int .i64 q5.Ban]) rfl (HS105.u2.cells 0 5 _ rfl)) ?_)
       have hq_ := bind_some h; clear h; obtain ⟨vt108, hc109, h⟩ := hq_
       refine seqK rfl (does_call (f := 44) (args := #[.agg #[.int .i64 ((rd rows1 x74).ID), .int .i64 ((((rd rows1 x74).Box).X).Lo), .int .i64 ((((rd rows1 x74).Box).X).Hi), .bool ((((rd rows1 x74).Box).X).Unknown), .int .i64 ((((rd rows1 x74).Box).Y).Lo), .int .i64 ((((rd rows1 x74).Box).Y).Hi), .bool ((((rd rows1 x74).Box).Y).Unknown), .int .i64 ((((rd rows1 x74).Box).Z).Lo), .int .i64 ((((rd rows1 x74).Box).Z).Hi), .bool ((((rd rows1 x74).Box).Z).Unknown), .int .i64 (((rd rows1 x74).Flux).Lo), .int .i64 (((rd rows1 x74).Flux).Hi), .bool (((rd rows1 x74).Flux).Unknown), .int .i64 (((rd rows1 x74).When).Lo), .int .i64 (((rd rows1 x74).When).Hi), .bool (((rd rows1 x74).When).Unknown), .slice A99 ((rd rows1 x74).Frames).length c99, .int .i64 ((rd rows1 x74).Marks)], .agg #[.slice A6 q5.Cones.length c7, .int .i64 q5.From, .int .i64 q5.To, .int .i64 q5.Least, .int .i64 q5.Ban]]) kr (query_grade.calls k A99 c99 A6 c7 (rd rows1 x74) q5 HS105 HR99 (HR8.mono (L22.trans (L38.trans L64))) vt108 hc109) ?_)
       rintro _ W112 ⟨f110, rfl, L111, HS113⟩
       refine ⟨_, rfl, ?_⟩
       refine seqL1 kr ?_
       refine nl (hK107 _ _ ?_)
       refine wp_seq_k fun K114 hK115 => rl ?_
       refine seqL2 kr ?_
       refine nl (hK115 _ _ ?_)
       have hq_ := ite_some h; clear h; rcases hq_ with ⟨c117, h⟩ | ⟨c117, h⟩
       · have c117 : vt108 ≠ 0 := c117
         refine wpRwI 32 kr (bne_iff_ne.mpr c117) ?_
         refine condT kr ?_
         refine rl ?_
         refine seqL2 kr ?_
         refine seqK rfl (does_run (run_load rfl Tryz.underlying3 rfl (kv (.pointer (some ⟨b100, 0, none⟩))) (HS113.cell 0)) ?_)
         refine seqL2 kr ?_
         refine seqK rfl (does_lit (e := ty_Answer) (E := 62) (vs := #[(0, Value.agg #[.int .i64 ((rd rows1 x74).ID), .int .i64 vt108])]) (cs := #[.int .i64 ((rd rows1 x74).ID), .int .i64 vt108]) (xs := ([(⟨(rd rows1 x74).ID, vt108⟩ : S_Answer)] : List S_Answer)) rfl Tryz.underlying57 kr kr ⟨[.int .i64 ((rd rows1 x74).ID), .int .i64 vt108], _, rfl, rfl, rfl⟩ rfl HS113 ?_ (by decide))
         intro b118 W119 s120 HS121 _ HO122
         have hq_ := guard_some h; clear h; obtain ⟨c124, h⟩ := hq_
         have c124 : (out68.length + 1) * 16 ≤ 140737488355328 := c124
         have HS126 := HS121.u2.u1
         refine seqK rfl (does_append1 (e := ty_Answer) (E := 62) (xs := out68) (ys := ([(⟨(rd rows1 x74).ID, vt108⟩ : S_Answer)] : List S_Answer)) rfl (kv (.slice A69 out68.length c70)) (kv (.slice (some ⟨b118, 0, none⟩) ([(⟨(rd rows1 x74).ID, vt108⟩ : S_Answer)] : List S_Answer).length 1)) Tryz.underlying57 inf62 (HO72.mono L111) HO122 HS126 c124 (lim63 c124 (by decide)) ?_)
         intro A127 c128 s129 W130 HS131 HO132
         refine seqL1 kr ?_
         refine nl ?_
         refine hn85 _ _ ?_
         refine hK82 _ _ ?_
         refine rl ?_
         refine seqL2 kr ?_
         refine nl ?_
         refine hK61 n62 _ _ (Nat.lt_succ_self _) ?_
         have HS151 := HS131.u2.u1.u2
         have HS152 := HS151.drop
         exact ⟨f110, A127, c128, s129, (out68 ++ ([(⟨(rd rows1 x74).ID, vt108⟩ : S_Answer)] : List S_Answer)), (w64 (x74 + 1)), (jL [.pointer (some ⟨b100, 0, none⟩), iV vt108, tV, .pointer (some ⟨b96, of97 + (x74 : Int).toNat * 18, none⟩), (ag_Row (rd rows1 x74) A99 c99), (ag_Row (rd rows1 x74) A99 c99), (ag_Ask q5 A6 c7), iV vt108, iV vt108, tV, .slice A69 out68.length c70, .pointer (some ⟨b100, 0, none⟩), iV ((rd rows1 x74).ID), iV vt108, .agg #[.int .i64 ((rd rows1 x74).ID), .int .i64 vt108], .slice (some ⟨b118, 0, none⟩) ([(⟨(rd rows1 x74).ID, vt108⟩ : S_Answer)] : List S_Answer).length 1, .slice A127 (out68 ++ ([(⟨(rd rows1 x74).ID, vt108⟩ : S_Answer)] : List S_Answer)).length c128, iV (w64 (x74 + 1))]), (L64.trans L111), HS152, HO132, h, kr⟩
       · have c117 : ¬ (vt108 ≠ 0) := c117
         refine wpRwI 32 (x := (vt108 != 0)) (v := false) kr (bne_eq_false_iff_eq.mpr (Decidable.of_not_not c117)) ?_
         refine condF kr ?_
         refine wp_skip ?_
         refine hn85 _ _ ?_
         refine hK82 _ _ ?_
         refine rl ?_
         refine seqL2 kr ?_
         refine nl ?_
         refine hK61 n62 _ _ (Nat.lt_succ_self _) ?_
         have HS155 := HS113.u2.u2.u2
         have HS156 := HS155.drop
         exact ⟨f110, A69, c70, s71, out68, (w64 (x74 + 1)), (jL [.pointer (some ⟨b100, 0, none⟩), iV vt108, tV, .pointer (some ⟨b96, of97 + (x74 : Int).toNat * 18, none⟩), (ag_Row (rd rows1 x74) A99 c99), (ag_Row (rd rows1 x74) A99 c99), (ag_Ask q5 A6 c7), iV vt108, iV vt108, fV, (j67 10), (j67 11), (j67 12), (j67 13), (j67 14), (j67 15), (j67 16), iV (w64 (x74 + 1))]), (L64.trans L111), HS156, (HO72.mono L111), h, kr⟩
     · have c80 : ¬ (x74 < (rows1.length : Int)) := c80
       refine wpRwI 25 kr (decide_eq_false c80) ?_
       refine condF kr ?_
       refine wp_exit ?_
       refine hx54 _ _ ?_
       exact J145 f63 A69 c70 s71 out68 (jL [(j67 0), (j67 1), iV x74, fV, (j67 3), (j67 4), (j67 5), (j67 6), (j67 7), (j67 8), (j67 9), (j67 10), (j67 11), (j67 12), (j67 13), (j67 14), (j67 15), (j67 16), (j67 17)]) W65 _ L64 h HS66 HO72 kr

set_option maxRecDepth 100000 in
set_option maxHeartbeats 4000000 in
theorem spykeep3_single.calls (k : Nat)  (vid1 : Int) {t w : World} {f : FM} {H : List Seg} (HS : St t w f (H)) (rr1 : S_Row) (h : spykeep3_single k vid1 = some rr1) :
    Calls Tryz.prog 38 #[.int .i64 vid1] w (fun e w' => ∃ (g : FM) (A20 : Option Addr) (c21 : Nat) (s22 : Seg), e = .returned (Value.agg #[.int .i64 rr1.ID, .int .i64 rr1.Box.X.Lo, .int .i64 rr1.Box.X.Hi, .bool rr1.Box.X.Unknown, .int .i64 rr1.Box.Y.Lo, .int .i64 rr1.Box.Y.Hi, .bool rr1.Box.Y.Unknown, .int .i64 rr1.Box.Z.Lo, .int .i64 rr1.Box.Z.Hi, .bool rr1.Box.Z.Unknown, .int .i64 rr1.Flux.Lo, .int .i64 rr1.Flux.Hi, .bool rr1.Flux.Unknown, .int .i64 rr1.When.Lo, .int .i64 rr1.When.Hi, .bool rr1.When.Unknown, .slice A20 rr1.Frames.length c21, .int .i64 rr1.Marks]) ∧ FM.le f g ∧ St t w' g (s22 :: H) ∧ Own (tInt .i64) 3 g A20 c21 s22 rr1.Frames) := by
 unfold spykeep3_single at h
 refine enter Tryz.func38 rfl (tm := #[iV vid1, uV, uV, uV, uV, uV]) kr ?_
 intro B hret hnor hnp
 refine wp_seq_k fun K2 hK3 => rl ?_
 refine seqK rfl (does_alloc (z := Value.agg #[.int .i64 0, .int .i64 0, .int .i64 0, .bool false, .int .i64 0, .int .i64 0, .bool false, .int .i64 0, .int .i64 0, .bool false, .int .i64 0, .int .i64 0, .bool false, .int .i64 0, .int .i64 0, .bool false, .slice none 0 0, .int .i64 0]) (cs := #[.int .i64 0, .int .i64 0, .int .i64 0, .bool false, .int .i64 0, .int .i64 0, .bool false, .int .i64 0, .int .i64 0, .bool false, .int .i64 0, .int .i64 0, .bool false, .int .i64 0, .int .i64 0, .bool false, .slice none 0 0, .int .i64 0]) rfl kr rfl HS ?_)
 intro b4 W5 HS6
 refine nl (hK3 _ _ ?_)
 refine wp_seq_k fun K8 hK9 => rl ?_
 refine seqL1 kr ?_
 refine seqK rfl (does_lit (e := (tInt .i64)) (E := 3) (vs := #[(0, Value.int .i64 1)]) (cs := #[.int .i64 1]) (xs := ([1] : List Int)) rfl Tryz.underlying22 kr kr ⟨[.int .i64 1], _, rfl, rfl, rfl⟩ rfl HS6 ?_ (by decide))
 intro b10 W11 s12 HS13 _ HO14
 have HS16 := HS13.u1
 refine seqL1 kr ?_
 refine seqK rfl (does_storeA (vs := [.int .i64 vid1, .int .i64 0, .int .i64 0, .bool false, .int .i64 0, .int .i64 0, .bool false, .int .i64 0, .int .i64 0, .bool false, .int .i64 0, .int .i64 0, .bool false, .int .i64 0, .int .i64 0, .bool false, .slice (some ⟨b10, 0, none⟩) ([1] : List Int).length 1, .int .i64 0]) rfl kr kr kr rfl (ones rfl) HS16 kr ?_)
 intro W17 HS18
 refine nl (hK9 _ _ ?_)
 refine wp_ret ?_
 refine hret _ _ ?_
 refine ends (v := Value.agg #[.int .i64 vid1, .int .i64 0, .int .i64 0, .bool false, .int .i64 0, .int .i64 0, .bool false, .int .i64 0, .int .i64 0, .bool false, .int .i64 0, .int .i64 0, .bool false, .int .i64 0, .int .i64 0, .bool false, .slice (some ⟨b10, 0, none⟩) ([1] : List Int).length 1, .int .i64 0]) (results1 (q1 := .cell 2 99) kr (resN (n := 18) (cs := [.int .i64 vid1, .int .i64 0, .int .i64 0, .bool false, .int .i64 0, .int .i64 0, .bool false, .int .i64 0, .int .i64 0, .bool false, .int .i64 0, .int .i64 0, .bool false, .int .i64 0, .int .i64 0, .bool false, .slice (some ⟨b10, 0, none⟩) ([1] : List Int).length 1, .int .i64 0]) (kv (.pointer (some ⟨b4, 0, none⟩))) Tryz.underlying99 rfl kr rfl (HS18.cells 0 18 _ rfl))) kr ?_
 have HS19 := HS18.drop
 injection h with h
 subst h
 exact ⟨f, (some ⟨b10, 0, none⟩), 1, s12, rfl, FM.le.refl _, HS19, HO14⟩

set_option maxRecDepth 100000 in
set_option maxHeartbeats 4000000 in
theorem slices_Clone_Row.calls (k : Nat) (A2 : Option Addr) (c3 : Nat) (s1 : List S_Row) {t w : World} {f : FM} {H : List Seg} (HS : St t w f (H)) (HR4 : SlR ty_Row f A2 c3 s1) (rr1 : List S_Row) (h : slices_Clone_Row k s1 = some rr1) :
    Calls Tryz.prog 75 #[.slice A2 s1.length c3] w (fun e w' => ∃ (g : FM) (A31 : Option Addr) (c32 : Nat) (s33 : Seg), e = .returned (Value.slice A31 rr1.length c32) ∧ FM.le f g ∧ St t w' g (s33 :: H) ∧ Own ty_Row 99 g A31 c32 s33 rr1) := by
 unfold slices_Clone_Row at h
 refine enter Tryz.func75 rfl (tm := #[.slice A2 s1.length c3, uV, uV, uV, uV, uV, uV, uV]) kr ?_
 intro B hret hnor hnp
 refine wp_seq_k fun K5 hK6 => rl ?_
 refine seqL1 kr ?_
 refine nl (hK6 _ _ ?_)
 refine wp_seq_k (fun K7 hK8 => ?_)
 refine wp_seq_k fun K9 hK10 => rl ?_
 refine seqL1 kr ?_
 obtain _ | ad11 := A2
 · obtain rfl := HR4.nil_eq
   have hq_ := guard_some h; clear h; obtain ⟨_, h⟩ := hq_
   refine seqL1 kr ?_
   refine nl (hK10 _ _ ?_)
   refine condT kr ?_
   refine wp_seq_k fun K27 hK28 => rl ?_
   refine seqL1 kr ?_
   refine nl (hK28 _ _ ?_)
   refine wp_ret ?_
   refine hret _ _ ?_
   have HS29 := HS.cons_nil
   refine ends_still (v := Value.slice none 0 0) kr kr ?_
   injection h with h
   subst h
   exact ⟨f, none, 0, [], rfl, FM.le.refl _, HS29, (Own.nil _)⟩
 · refine seqL1 kr ?_
   refine nl (hK10 _ _ ?_)
   refine condF kr ?_
   refine wp_skip ?_
   refine hK8 _ _ ?_
   refine wp_seq_k fun K12 hK13 => rl ?_
   refine seqK rfl (does_lit (e := ty_Row) (E := 99) (vs := #[]) (cs := #[]) (xs := ([] : List S_Row)) rfl Tryz.underlying45 kr kr rfl rfl HS ?_ (by decide))
   intro b14 W15 s16 HS17 _ HO18
   have hq_ := guard_some h; clear h; obtain ⟨c20, h⟩ := hq_
   have c20 : (([] : List S_Row).length + s1.length) * 160 ≤ 140737488355328 := c20
   refine seqL1 kr ?_
   refine seqK rfl (does_append (e := ty_Row) (E := 99) (xs := ([] : List S_Row)) (ys := s1) rfl (kv (.slice (some ⟨b14, 0, none⟩) ([] : List S_Row).length 0)) (kv (.slice (some ad11) s1.length c3)) Tryz.underlying45 inf99 HO18 HS17 (HR4.rc HS17) c20 (lim63 c20 (by decide)) ?_)
   intro A21 c22 s23 W24 HS25 HO26
   refine seqL1 kr ?_
   refine nl (hK13 _ _ ?_)
   refine wp_ret ?_
   refine hret _ _ ?_
   refine ends_still (v := Value.slice A21 (([] : List S_Row) ++ s1).length c22) kr kr ?_
   injection h with h
   subst h
   exact ⟨f, A21, c22, s23, rfl, FM.le.refl _, HS25, HO26⟩

set_option maxRecDepth 100000 in
set_option maxHeartbeats 4000000 in
theorem slices_Clone_int.calls (k : Nat) (A2 : Option Addr) (c3 : Nat) (s1 : List Int) {t w : World} {f : FM} {H : List Seg} (HS : St t w f (H)) (HR4 : SlR (tInt .i64) f A2 c3 s1) (rr1 : List Int) (h : slices_Clone_int k s1 = some rr1) :
    Calls Tryz.prog 76 #[.slice A2 s1.length c3] w (fun e w' => ∃ (g : FM) (A31 : Option Addr) (c32 : Nat) (s33 : Seg), e = .returned (Value.slice A31 rr1.length c32) ∧ FM.le f g ∧ St t w' g (s33 :: H) ∧ Own (tInt .i64) 3 g A31 c32 s33 rr1) := by
 unfold slices_Clone_int at h
 refine enter Tryz.func76 rfl (tm := #[.slice A2 s1.length c3, uV, uV, uV, uV, uV, uV, uV]) kr ?_
 intro B hret hnor hnp
 refine wp_seq_k fun K5 hK6 => rl ?_
 refine seqL1 kr ?_
 refine nl (hK6 _ _ ?_)
 refine wp_seq_k (fun K7 hK8 => ?_)
 refine wp_seq_k fun K9 hK10 => rl ?_
 refine seqL1 kr ?_
 obtain _ | ad11 := A2
 · obtain rfl := HR4.nil_eq
   have hq_ := guard_some h; clear h; obtain ⟨_, h⟩ := hq_
   refine seqL1 kr ?_
   refine nl (hK10 _ _ ?_)
   refine condT kr ?_
   refine wp_seq_k fun K27 hK28 => rl ?_
   refine seqL1 kr ?_
   refine nl (hK28 _ _ ?_)
   refine wp_ret ?_
   refine hret _ _ ?_
   have HS29 := HS.cons_nil
   refine ends_still (v := Value.slice none 0 0) kr kr ?_
   injection h with h
   subst h
   exact ⟨f, none, 0, [], rfl, FM.le.refl _, HS29, (Own.nil _)⟩
 · refine seqL1 kr ?_
   refine nl (hK10 _ _ ?_)
   refine condF kr ?_
   refine wp_skip ?_
   refine hK8 _ _ ?_
   refine wp_seq_k fun K12 hK13 => rl ?_
   refine seqK rfl (does_lit (e := (tInt .i64)) (E := 3) (vs := #[]) (cs := #[]) (xs := ([] : List Int)) rfl Tryz.underlying22 kr kr rfl rfl HS ?_ (by decide))
   intro b14 W15 s16 HS17 _ HO18
   have hq_ := guard_some h; clear h; obtain ⟨c20, h⟩ := hq_
   have c20 : (([] : List Int).length + s1.length) * 8 ≤ 140737488355328 := c20
   refine seqL1 kr ?_
   refine seqK rfl (does_append (e := (tInt .i64)) (E := 3) (xs := ([] : List Int)) (ys := s1) rfl (kv (.slice (some ⟨b14, 0, none⟩) ([] : List Int).length 0)) (kv (.slice (some ad11) s1.length c3)) Tryz.underlying22 inf3 HO18 HS17 (HR4.rc HS17) c20 (lim63 c20 (by decide)) ?_)
   intro A21 c22 s23 W24 HS25 HO26
   refine seqL1 kr ?_
   refine nl (hK13 _ _ ?_)
   refine wp_ret ?_
   refine hret _ _ ?_
   refine ends_still (v := Value.slice A21 (([] : List Int) ++ s1).length c22) kr kr ?_
   injection h with h
   subst h
   exact ⟨f, A21, c22, s23, rfl, FM.le.refl _, HS25, HO26⟩

set_option maxRecDepth 100000 in
set_option maxHeartbeats 4000000 in
theorem catalog_Copy.calls (k : Nat) (A2 : Option Addr) (c3 : Nat) (l1 : List S_Row) {t w : World} {f : FM} {H : List Seg} (HS : St t w f (H)) (HR4 : SlR ty_Row f A2 c3 l1) (rr1 : List S_Row) (h : catalog_Copy k l1 = some rr1) :
    Calls Tryz.prog 45 #[.slice A2 l1.length c3] w (fun e w' => ∃ (g : FM) (A157 : Option Addr) (c158 : Nat) (s159 : Seg), e = .returned (Value.slice A157 rr1.length c158) ∧ FM.le f g ∧ St t w' g (s159 :: H) ∧ Own ty_Row 99 g A157 c158 s159 rr1) := by
 unfold catalog_Copy at h
 refine enter Tryz.func45 rfl (tm := #[.slice A2 l1.length c3, uV, uV, uV, uV, uV, uV, uV, uV, uV, uV, uV, uV, uV, uV, uV, uV, uV, uV, uV, uV, uV, uV, uV]) kr ?_
 intro B hret hnor hnp
 refine wp_seq_k fun K5 hK6 => rl ?_
 refine seqL1 kr ?_
 refine nl (hK6 _ _ ?_)
 refine wp_seq_k fun K7 hK8 => rl ?_
 have hq_ := bind_some h; clear h; obtain ⟨vt9, hc10, h⟩ := hq_
 refine seqL1 kr ?_
 refine seqK rfl (does_call (f := 75) (args := #[.slice A2 l1.length c3]) kr (slices_Clone_Row.calls k A2 c3 l1 HS HR4 vt9 hc10) ?_)
 rintro _ W13 ⟨f11, A15, c16, s17, rfl, L12, HS14, HO18⟩
 refine ⟨_, rfl, ?_⟩
 refine seqL1 kr ?_
 refine nl (hK8 _ _ ?_)
 refine wp_seq_k (fun K20 hK21 => ?_)
 refine wp_seq_k fun K22 hK23 => rl ?_
 refine seqL3 kr ?_
 refine nl (hK23 _ _ ?_)
 refine blockK (fun B24 hx25 hn26 hr27 ho28 hp29 => ?_)
 have hq_ := bind_some h; clear h; obtain ⟨o84, hv152, h⟩ := hq_
 have J153 : ∀ (f143 : FM) (s149 : Seg) (out148 : List S_Row) (j147 : Nat → Value) (W145 : World) (a_ : Act), FM.le f11 f143 → some (out148) = some o84 → St t W145 f143 (s149 :: H) → Own ty_Row 99 f143 A15 c16 s149 out148 → out148.length = vt9.length → a_ = ⟨#[.slice A2 l1.length c3, uV, .slice none 0 0, .slice A15 out148.length c16, (j147 0), .slice A2 l1.length c3, (j147 1), (j147 2), iV (vt9.length : Int), (j147 3), (j147 4), (j147 5), (j147 6), (j147 7), (j147 8), (j147 9), (j147 10), (j147 11), (j147 12), (j147 13), (j147 14), (j147 15), (j147 16), uV], []⟩ → K20 a_ W145 := by
  intro f143 s149 out148 j147 W145 a_ L144 hj154 HS146 HO150 HL151 hfr_; subst hfr_
  injection hj154 with hj154; subst hj154; try dsimp only at h
  refine hK21 _ _ ?_
  refine wp_seq_k fun K155 hK156 => rl ?_
  refine seqL2 kr ?_
  refine nl (hK156 _ _ ?_)
  refine wp_ret ?_
  refine hret _ _ ?_
  refine ends_still (v := Value.slice A15 out148.length c16) kr kr ?_
  injection h with h
  subst h
  exact ⟨f143, A15, c16, s149, rfl, (L12.trans L144), HS146, HO150⟩
 clear h; have h := hv152; clear hv152
 refine loopK (fun n_ a_ w_ => ∃ (f88 : FM) (s94 : Seg) (out93 : List S_Row) (x97 : Int) (j92 : Nat → Value), FM.le f11 f88 ∧ St t w_ f88 (s94 :: H) ∧ Own ty_Row 99 f88 A15 c16 s94 out93 ∧ out93.length = vt9.length ∧ catalog_Copy.l0 k vt9 n_ out93 x97 = some o84 ∧ a_ = ⟨#[.slice A2 l1.length c3, uV, .slice none 0 0, .slice A15 out93.length c16, (j92 0), .slice A2 l1.length c3, .slice A15 vt9.length c16, .slice A15 vt9.length c16, iV (vt9.length : Int), iV x97, (j92 1), (j92 2), (j92 3), (j92 4), (j92 5), (j92 6), (j92 7), (j92 8), (j92 9), (j92 10), (j92 11), (j92 12), (j92 13), uV], []⟩) k ⟨f11, s17, vt9, 0, (jL []), fL, HS14, HO18, rfl, h, kr⟩ ?_
 clear h
 rintro n87 _ W90 ⟨f88, s94, out93, x97, j92, L89, HS91, HO95, HL96, h, rfl⟩ K85 hK86
 obtain _ | n87 := n87
 · exact nomatch h
 simp only [catalog_Copy.l0] at h
 refine wp_seq_k fun K98 hK99 => rl ?_
 refine seqL1 kr ?_
 refine nl (hK99 _ _ ?_)
 refine wp_seq_k (fun K100 hK101 => ?_)
 have hq_ := ite_some h; clear h; rcases hq_ with ⟨c103, h⟩ | ⟨c103, h⟩
 · have c103 : x97 < (vt9.length : Int) := c103
   refine wpRwI 10 kr (decide_eq_true c103) ?_
   refine condT kr ?_
   refine wp_skip ?_
   refine hK101 _ _ ?_
   refine wp_seq_k (fun K104 hK105 => ?_)
   refine blockK (fun B106 hx107 hn108 hr109 ho110 hp111 => ?_)
   refine wp_seq_k fun K113 hK114 => rl ?_
   refine seqL2 kr ?_
   refine nl (hK114 _ _ ?_)
   refine rl ?_
   have hq_ := guard_some h; clear h; obtain ⟨c115, h⟩ := hq_
   have c115 : 0 ≤ x97 := c115
   have hq_ := guard_some h; clear h; obtain ⟨c116, h⟩ := hq_
   have c116 : x97 < (out93.length : Int) := c116
   obtain ⟨b120, of121, cs117, hA122, hr118, hc119⟩ := HO95.at (i := x97) c115 c116
   obtain ⟨A123, c123, rfl, HR123⟩ := hr118
   refine seqL4 kr ?_
   refine seqK rfl (does_run (run_indexE hA122 (sz := 18) rfl Tryz.underlying45 kr (kv (.slice A15 out93.length c16)) (kv (.int .i64 x97)) c115 c116 W90) ?_)
   refine seqL1 kr ?_
   refine seqK rfl (does_run (run_load rfl Tryz.underlying22 rfl (kv (.pointer (some ⟨b120, of121 + (x97 : Int).toNat * 18 + 16, none⟩))) ((hc119 HS91) 16 (by decide))) ?_)
   have hq_ := bind_some h; clear h; obtain ⟨vt124, hc125, h⟩ := hq_
   refine seqK rfl (does_call (f := 76) (args := #[.slice A123 ((rd out93 x97).Frames).length c123]) kr (slices_Clone_int.calls k A123 c123 ((rd out93 x97).Frames) HS91 HR123 vt124 hc125) ?_)
   rintro _ W128 ⟨f126, A130, c131, s132, rfl, L127, HS129, HO133⟩
   refine ⟨_, rfl, ?_⟩
   refine seqK rfl (does_run (run_indexE hA122 (sz := 18) rfl Tryz.underlying45 kr (kv (.slice A15 out93.length c16)) (kv (.int .i64 x97)) c115 c116 W128) ?_)
   obtain ⟨f135, L136, HS137, HR138⟩ := HO133.freeze HS129
   refine seqL1 kr ?_
   refine seqK rfl (does_putP (e := ty_Row) (E := 99) (fo := 16) (vs := [.slice A130 vt124.length c131]) (u := (⟨(rd out93 x97).ID, ((rd out93 x97).Box), ((rd out93 x97).Flux), ((rd out93 x97).When), vt124, (rd out93 x97).Marks⟩ : S_Row)) (i := x97) rfl kr (HO95.mono (L127.trans L136)) HS137 hA122 (kv (.pointer (some ⟨b120, of121 + (x97 : Int).toNat * 18 + 16, none⟩))) (kv (.slice A130 vt124.length c131)) rfl rfl (ones rfl) (u0 := (rd out93 x97)) ⟨A123, c123, rfl, (HR123.mono (L127.trans L136))⟩ rfl ⟨A130, c131, rfl, HR138⟩ (Nat.le_of_ble_eq_true rfl) (hc119 HS137) c115 c116 ?_)
   intro W139 s140 HS141 HO142
   refine seqRwS 3 (A := A15) (m := out93.length) (n := (out93.set (x97).toNat (⟨(rd out93 x97).ID, ((rd out93 x97).Box), ((rd out93 x97).Flux), ((rd out93 x97).When), vt124, (rd out93 x97).Marks⟩ : S_Row)).length) (c := c16) kr (List.length_set).symm ?_
   refine seqRwS 12 (A := A15) (m := out93.length) (n := (out93.set (x97).toNat (⟨(rd out93 x97).ID, ((rd out93 x97).Box), ((rd out93 x97).Flux), ((rd out93 x97).When), vt124, (rd out93 x97).Marks⟩ : S_Row)).length) (c := c16) kr (List.length_set).symm ?_
   refine seqRwS 14 (A := A15) (m := out93.length) (n := (out93.set (x97).toNat (⟨(rd out93 x97).ID, ((rd out93 x97).Box), ((rd out93 x97).Flux), ((rd out93 x97).When), vt124, (rd out93 x97).Marks⟩ : S_Row)).length) (c := c16) kr (List.length_set).symm ?_
   refine nl ?_
   refine hn108 _ _ ?_
   refine hK105 _ _ ?_
   refine rl ?_
   refine seqL2 kr ?_
   refine nl ?_
   refine hK86 n87 _ _ (Nat.lt_succ_self _) ?_
   exact ⟨f135, s140, (out93.set (x97).toNat (⟨(rd out93 x97).ID, ((rd out93 x97).Box), ((rd out93 x97).Flux), ((rd out93 x97).When), vt124, (rd out93 x97).Marks⟩ : S_Row)), (w64 (x97 + 1)), (jL [iV x97, tV, iV x97, .slice A15 (out93.set (x97).toNat (⟨(rd out93 x97).ID, ((rd out93 x97).Box), ((rd out93 x97).Flux), ((rd out93 x97).When), vt124, (rd out93 x97).Marks⟩ : S_Row)).length c16, iV x97, .slice A15 (out93.set (x97).toNat (⟨(rd out93 x97).ID, ((rd out93 x97).Box), ((rd out93 x97).Flux), ((rd out93 x97).When), vt124, (rd out93 x97).Marks⟩ : S_Row)).length c16, iV x97, .pointer (some ⟨b120, of121 + (x97 : Int).toNat * 18, none⟩), .pointer (some ⟨b120, of121 + (x97 : Int).toNat * 18 + 16, none⟩), .slice A123 ((rd out93 x97).Frames).length c123, .slice A130 vt124.length c131, .pointer (some ⟨b120, of121 + (x97 : Int).toNat * 18, none⟩), .pointer (some ⟨b120, of121 + (x97 : Int).toNat * 18 + 16, none⟩), iV (w64 (x97 + 1))]), (L89.trans (L127.trans L136)), HS141, HO142, (List.length_set.trans HL96), h, kr⟩
 · have c103 : ¬ (x97 < (vt9.length : Int)) := c103
   refine wpRwI 10 kr (decide_eq_false c103) ?_
   refine condF kr ?_
   refine wp_exit ?_
   refine hx25 _ _ ?_
   exact J153 f88 s94 out93 (jL [(j92 0), .slice A15 vt9.length c16, .slice A15 vt9.length c16, iV x97, fV, (j92 2), (j92 3), (j92 4), (j92 5), (j92 6), (j92 7), (j92 8), (j92 9), (j92 10), (j92 11), (j92 12), (j92 13)]) W90 _ L89 h HS91 HO95 HL96 kr

set_option maxRecDepth 100000 in
set_option maxHeartbeats 4000000 in
theorem query_middle_1.calls (k : Nat)  (x1 : S_Bound) {t w : World} {f : FM} {H : List Seg} (HS : St t w f (H)) (rr1 : Int) (h : query_middle_1 k x1 = some rr1) :
    Calls Tryz.prog 77 #[.agg #[.int .i64 x1.Lo, .int .i64 x1.Hi, .bool x1.Unknown]] w (fun e w' => ∃ (g : FM), e = .returned (Value.int .i64 rr1) ∧ FM.le f g ∧ St t w' g (H)) := by
 unfold query_middle_1 at h
 refine enter Tryz.func77 rfl (tm := #[(ag_Bound x1), uV, uV, uV, uV, uV, uV, uV, uV, uV, uV, uV]) kr ?_
 intro B hret hnor hnp
 refine wp_seq_k fun K2 hK3 => rl ?_
 refine seqK rfl (does_box (cs := #[.int .i64 x1.Lo, .int .i64 x1.Hi, .bool x1.Unknown]) rfl (kv (.agg #[.int .i64 x1.Lo, .int .i64 x1.Hi, .bool x1.Unknown])) rfl HS ?_)
 intro b4 W5 HS6
 refine seqL1 kr ?_
 refine nl (hK3 _ _ ?_)
 refine wp_seq_k fun K8 hK9 => rl ?_
 refine seqL1 kr ?_
 refine seqK rfl (does_run (run_load rfl Tryz.underlying27 rfl (kv (.pointer (some ⟨b4, 0, none⟩))) (HS6.cell 0)) ?_)
 refine seqL1 kr ?_
 refine seqK rfl (does_run (run_load rfl Tryz.underlying27 rfl (kv (.pointer (some ⟨b4, 1, none⟩))) (HS6.cell 1)) ?_)
 refine seqL1 kr ?_
 refine seqK rfl (does_run (run_load rfl Tryz.underlying27 rfl (kv (.pointer (some ⟨b4, 0, none⟩))) (HS6.cell 0)) ?_)
 refine seqL4 kr ?_
 refine nl (hK9 _ _ ?_)
 refine wp_ret ?_
 refine hret _ _ ?_
 refine ends_still (v := Value.int .i64 (w64 (x1.Lo + (w64 (Int.tdiv (w64 (x1.Hi - x1.Lo)) 2))))) kr kr ?_
 have HS10 := HS6.drop
 injection h with h
 subst h
 exact ⟨f, rfl, FM.le.refl _, HS10⟩

set_option maxRecDepth 100000 in
set_option maxHeartbeats 4000000 in
theorem query_middle.calls (k : Nat)  (b1 : S_Box) {t w : World} {f : FM} {H : List Seg} (HS : St t w f (H)) (rr1 : S_Vec) (rr2 : Bool) (h : query_middle k b1 = some (rr1, rr2)) :
    Calls Tryz.prog 46 #[.agg #[.int .i64 b1.X.Lo, .int .i64 b1.X.Hi, .bool b1.X.Unknown, .int .i64 b1.Y.Lo, .int .i64 b1.Y.Hi, .bool b1.Y.Unknown, .int .i64 b1.Z.Lo, .int .i64 b1.Z.Hi, .bool b1.Z.Unknown]] w (fun e w' => ∃ (g : FM), e = .returned (Value.tuple #[.agg #[.int .i64 rr1.X, .int .i64 rr1.Y, .int .i64 rr1.Z], .bool rr2]) ∧ FM.le f g ∧ St t w' g (H)) := by
 unfold query_middle at h
 refine enter Tryz.func46 rfl (tm := #[(ag_Box b1), uV, uV, uV, uV, uV, uV, uV, uV, uV, uV, uV, uV, uV, uV, uV, uV, uV, uV, uV, uV, uV, uV, uV, uV, uV, uV, uV, uV, uV, uV, uV, uV, uV, uV, uV, uV, uV, uV, uV, uV, uV, uV, uV, uV, uV, uV, uV, uV, uV, uV, uV, uV, uV, uV, uV, uV, uV, uV, uV, uV]) kr ?_
 intro B hret hnor hnp
 refine wp_seq_k fun K2 hK3 => rl ?_
 refine seqK rfl (does_box (cs := #[.int .i64 b1.X.Lo, .int .i64 b1.X.Hi, .bool b1.X.Unknown, .int .i64 b1.Y.Lo, .int .i64 b1.Y.Hi, .bool b1.Y.Unknown, .int .i64 b1.Z.Lo, .int .i64 b1.Z.Hi, .bool b1.Z.Unknown]) rfl (kv (.agg #[.int .i64 b1.X.Lo, .int .i64 b1.X.Hi, .bool b1.X.Unknown, .int .i64 b1.Y.Lo, .int .i64 b1.Y.Hi, .bool b1.Y.Unknown, .int .i64 b1.Z.Lo, .int .i64 b1.Z.Hi, .bool b1.Z.Unknown])) rfl HS ?_)
 intro b4 W5 HS6
 refine seqK rfl (does_alloc (z := Value.agg #[.int .i64 0, .int .i64 0, .int .i64 0]) (cs := #[.int .i64 0, .int .i64 0, .int .i64 0]) rfl kr rfl HS6 ?_)
 intro b8 W9 HS10
 refine seqL1 kr ?_
 refine nl (hK3 _ _ ?_)
 refine wp_seq_k (fun K12 hK13 => ?_)
 refine wp_seq_k fun K14 hK15 => rl ?_
 refine seqK rfl (does_run (run_loadN (n := 9) rfl Tryz.underlying31 rfl kr (kv (.pointer (some ⟨b4, 0, none⟩))) (cs := [.int .i64 b1.X.Lo, .int .i64 b1.X.Hi, .bool b1.X.Unknown, .int .i64 b1.Y.Lo, .int .i64 b1.Y.Hi, .bool b1.Y.Unknown, .int .i64 b1.Z.Lo, .int .i64 b1.Z.Hi, .bool b1.Z.Unknown]) rfl (HS10.u1.cells 0 9 _ rfl)) ?_)
 have hq_ := bind_some h; clear h; obtain ⟨⟨vt16, vt17⟩, hc18, h⟩ := hq_
 refine seqK rfl (does_call (f := 31) (args := #[.agg #[.int .i64 b1.X.Lo, .int .i64 b1.X.Hi, .bool b1.X.Unknown, .int .i64 b1.Y.Lo, .int .i64 b1.Y.Hi, .bool b1.Y.Unknown, .int .i64 b1.Z.Lo, .int .i64 b1.Z.Hi, .bool b1.Z.Unknown]]) kr (query_sides.calls k b1 HS10 vt16 vt17 hc18) ?_)
 rintro _ W21 ⟨f19, rfl, L20, HS22⟩
 refine ⟨_, rfl, ?_⟩
 refine seqL3 kr ?_
 refine seqK rfl (does_alloc (z := Value.agg #[.int .i64 0, .int .i64 0, .bool false, .int .i64 0, .int .i64 0, .bool false, .int .i64 0, .int .i64 0, .bool false]) (cs := #[.int .i64 0, .int .i64 0, .bool false, .int .i64 0, .int .i64 0, .bool false, .int .i64 0, .int .i64 0, .bool false]) rfl kr rfl HS22 ?_)
 intro b23 W24 HS25
 refine seqK rfl (does_storeA (vs := [.int .i64 ((vt16.getD 0 default).Lo), .int .i64 ((vt16.getD 0 default).Hi), .bool ((vt16.getD 0 default).Unknown), .int .i64 ((vt16.getD 1 default).Lo), .int .i64 ((vt16.getD 1 default).Hi), .bool ((vt16.getD 1 default).Unknown), .int .i64 ((vt16.getD 2 default).Lo), .int .i64 ((vt16.getD 2 default).Hi), .bool ((vt16.getD 2 default).Unknown)]) rfl kr kr kr rfl (ones rfl) HS25 kr ?_)
 intro W27 HS28
 refine seqL1 kr ?_
 refine nl (hK15 _ _ ?_)
 refine wp_seq_k fun K29 hK30 => rl ?_
 refine seqL2 kr ?_
 refine nl (hK30 _ _ ?_)
 have hq_ := ite_some h; clear h; rcases hq_ with ⟨c32, h⟩ | ⟨c32, h⟩
 · have c32 : ¬ (vt17 = true) := c32
   refine wpRwI 14 kr (congrArg (fun b_ => !b_) (show vt17 = false from (Bool.eq_false_iff.mpr c32)) : (!vt17) = true) ?_
   refine condT kr ?_
   refine wp_seq_k fun K33 hK34 => rl ?_
   have HS35 := HS28.u1
   refine seqL1 kr ?_
   refine seqK rfl (does_storeA (vs := [.int .i64 0, .int .i64 0, .int .i64 0]) rfl kr kr kr rfl (ones rfl) HS35 kr ?_)
   intro W36 HS37
   refine seqL1 kr ?_
   refine nl (hK34 _ _ ?_)
   refine wp_ret ?_
   refine hret _ _ ?_
   refine ends (v := Value.tuple #[.agg #[.int .i64 0, .int .i64 0, .int .i64 0], .bool false]) (results2 (q1 := .cell 2 39) (q2 := .tmp 3) kr (resN (n := 3) (cs := [.int .i64 0, .int .i64 0, .int .i64 0]) (kv (.pointer (some ⟨b8, 0, none⟩))) Tryz.underlying39 rfl kr rfl (HS37.cells 0 3 _ rfl)) (resT (kv (.bool false)))) kr ?_
   have HS234 := HS37.drop
   have HS235 := HS234.drop
   have HS236 := HS235.drop
   injection h with h
   injection h with h0_ h
   subst h0_ h
   exact ⟨f19, rfl, L20, HS236⟩
 · have c32 : ¬ (¬ (vt17 = true)) := c32
   refine wpRwI 14 (x := (!vt17)) (v := false) kr (congrArg (fun b_ => !b_) (show vt17 = true from (Decidable.of_not_not c32)) : (!vt17) = false) ?_
   refine condF kr ?_
   refine wp_skip ?_
   refine hK13 _ _ ?_
   refine wp_seq_k fun K38 hK39 => rl ?_
   refine seqL1 kr ?_
   refine nl (hK39 _ _ ?_)
   refine wp_seq_k (fun K40 hK41 => ?_)
   refine heldG (S := Sg t f19 ([(b23, .cells #[.int .i64 ((vt16.getD 0 default).Lo), .int .i64 ((vt16.getD 0 default).Hi), .bool ((vt16.getD 0 default).Unknown), .int .i64 ((vt16.getD 1 default).Lo), .int .i64 ((vt16.getD 1 default).Hi), .bool ((vt16.getD 1 default).Unknown), .int .i64 ((vt16.getD 2 default).Lo), .int .i64 ((vt16.getD 2 default).Hi), .bool ((vt16.getD 2 default).Unknown)] 81 (0, 0))] :: [(b8, .cells #[.int .i64 0, .int .i64 0, .int .i64 0] 39 (0, 0))] :: [(b4, .cells #[.int .i64 b1.X.Lo, .int .i64 b1.X.Hi, .bool b1.X.Unknown, .int .i64 b1.Y.Lo, .int .i64 b1.Y.Hi, .bool b1.Y.Unknown, .int .i64 b1.Z.Lo, .int .i64 b1.Z.Hi, .bool b1.Z.Unknown] 31 (0, 0))] :: H) []) (n := 15) kr rfl HS28 ?_
   intro W42 HS43
   refine takeGL [0, 1] (n := 15) (fuel := 13) #[true, true, false, false, false, false, false, false, false, false, false, false, false, false, false] rfl kr kr kr hnp (Sg.g0 (Sx.of [] fL HS43)) ?_
   refine takeGQ 2 [] rfl kr kr kr kr kr kr hnp (Sg.g0 (Sx.of [] fL HS43)) (fun w_ hw_ => by obtain ⟨g_, hl_, hS_⟩ := hw_.st; exact run_loadN (n := 3) rfl Tryz.underlying29 rfl kr (kv (.pointer (some ⟨b4, 0, none⟩))) (cs := [.int .i64 b1.X.Lo, .int .i64 b1.X.Hi, .bool b1.X.Unknown]) rfl (hS_.u2.cells 0 3 _ rfl)) ?_
   refine takeGL [4, 5] (n := 12) (fuel := 10) #[true, true, true, false, true, true, false, false, false, false, false, false, false, false, false] rfl kr kr kr hnp (Sg.g0 (Sx.of [] fL HS43)) ?_
   refine takeGQ 6 [] rfl kr kr kr kr kr kr hnp (Sg.g0 (Sx.of [] fL HS43)) (fun w_ hw_ => by obtain ⟨g_, hl_, hS_⟩ := hw_.st; exact run_loadN (n := 3) rfl Tryz.underlying29 rfl kr (kv (.pointer (some ⟨b4, 3, none⟩))) (cs := [.int .i64 b1.Y.Lo, .int .i64 b1.Y.Hi, .bool b1.Y.Unknown]) rfl (hS_.u2.cells 3 3 _ rfl)) ?_
   refine takeGL [8, 9] (n := 9) (fuel := 7) #[true, true, true, false, true, true, true, false, true, true, false, false, false, false, false] rfl kr kr kr hnp (Sg.g0 (Sx.of [] fL HS43)) ?_
   refine takeGQ 10 [] rfl kr kr kr kr kr kr hnp (Sg.g0 (Sx.of [] fL HS43)) (fun w_ hw_ => by obtain ⟨g_, hl_, hS_⟩ := hw_.st; exact run_loadN (n := 3) rfl Tryz.underlying29 rfl kr (kv (.pointer (some ⟨b4, 6, none⟩))) (cs := [.int .i64 b1.Z.Lo, .int .i64 b1.Z.Hi, .bool b1.Z.Unknown]) rfl (hS_.u2.cells 6 3 _ rfl)) ?_
   have hq_ := bind_some h; clear h; obtain ⟨vt44, hc45, h⟩ := hq_
   have hq_ := bind_some h; clear h; obtain ⟨vt50, hc51, h⟩ := hq_
   have hq_ := bind_some h; clear h; obtain ⟨vt56, hc57, h⟩ := hq_
   refine withR #[true, true, true, true, true, true, true, true, true, true, true, true, true, true, true] ?_
   intro R68 hR69 hR70
   have J71 : ∀ (f46 : FM) (f52 : FM) (f58 : FM) (b62 : Nat) (W72 : World) (a_ : Act), FM.le f19 f46 → FM.le f46 f52 → FM.le f52 f58 → St t W72 f58 ([(b62, .cells #[.int .i64 vt44, .int .i64 vt50, .int .i64 vt56] 39 (0, 0))] :: [(b23, .cells #[.int .i64 ((vt16.getD 0 default).Lo), .int .i64 ((vt16.getD 0 default).Hi), .bool ((vt16.getD 0 default).Unknown), .int .i64 ((vt16.getD 1 default).Lo), .int .i64 ((vt16.getD 1 default).Hi), .bool ((vt16.getD 1 default).Unknown), .int .i64 ((vt16.getD 2 default).Lo), .int .i64 ((vt16.getD 2 default).Hi), .bool ((vt16.getD 2 default).Unknown)] 81 (0, 0))] :: [(b8, .cells #[.int .i64 0, .int .i64 0, .int .i64 0] 39 (0, 0))] :: [(b4, .cells #[.int .i64 b1.X.Lo, .int .i64 b1.X.Hi, .bool b1.X.Unknown, .int .i64 b1.Y.Lo, .int .i64 b1.Y.Hi, .bool b1.Y.Unknown, .int .i64 b1.Z.Lo, .int .i64 b1.Z.Hi, .bool b1.Z.Unknown] 31 (0, 0))] :: H) → a_ = ⟨#[(ag_Box b1), pV b4 0, pV b8 0, fV, pV b23 0, .bool vt17, .func (.func 77) #[] #[], pV b62 0, .tuple #[.agg #[iV ((vt16.getD 0 default).Lo), iV ((vt16.getD 0 default).Hi), .bool ((vt16.getD 0 default).Unknown), iV ((vt16.getD 1 default).Lo), iV ((vt16.getD 1 default).Hi), .bool ((vt16.getD 1 default).Unknown), iV ((vt16.getD 2 default).Lo), iV ((vt16.getD 2 default).Hi), .bool ((vt16.getD 2 default).Unknown)], .bool vt17], (ag_Box b1), .tuple #[.agg #[iV ((vt16.getD 0 default).Lo), iV ((vt16.getD 0 default).Hi), .bool ((vt16.getD 0 default).Unknown), iV ((vt16.getD 1 default).Lo), iV ((vt16.getD 1 default).Hi), .bool ((vt16.getD 1 default).Unknown), iV ((vt16.getD 2 default).Lo), iV ((vt16.getD 2 default).Hi), .bool ((vt16.getD 2 default).Unknown)], .bool vt17], .agg #[iV ((vt16.getD 0 default).Lo), iV ((vt16.getD 0 default).Hi), .bool ((vt16.getD 0 default).Unknown), iV ((vt16.getD 1 default).Lo), iV ((vt16.getD 1 default).Hi), .bool ((vt16.getD 1 default).Unknown), iV ((vt16.getD 2 default).Lo), iV ((vt16.getD 2 default).Hi), .bool ((vt16.getD 2 default).Unknown)], .bool vt17, .bool vt17, fV, uV, .func (.func 77) #[] #[], pV b4 0, (ag_Bound b1.X), iV vt44, .func (.func 77) #[] #[], pV b4 3, (ag_Bound b1.Y), iV vt50, .func (.func 77) #[] #[], pV b4 6, (ag_Bound b1.Z), iV vt56, .agg #[iV vt44, iV vt50, iV vt56], uV, uV, uV, uV, uV, uV, uV, uV, uV, uV, uV, uV, uV, uV, uV, uV, uV, uV, uV, uV, uV, uV, uV, uV, uV, uV, uV, uV, uV, uV, uV, uV], []⟩ → R68 a_ W72 := by
    intro f46 f52 f58 b62 W72 a_ L47 L53 L59 HS73 hfr_; subst hfr_
    refine hR69 _ _ ?_
    refine doneG kr ?_ _
    refine hK41 _ _ ?_
    refine wp_seq_k (fun K134 hK135 => ?_)
    refine blockK (fun B136 hx137 hn138 hr139 ho140 hp141 => ?_)
    have hq_ := bind_some h; clear h; obtain ⟨o176, hv221, h⟩ := hq_
    have J222 : ∀ (f213 : FM) (x218 : Int) (x219 : Int) (x220 : Int) (j217 : Nat → Value) (W215 : World) (a_ : Act), FM.le f58 f213 → some ((x218, x219, x220)) = some o176 → St t W215 f213 ([(b62, .cells #[.int .i64 x218, .int .i64 x219, .int .i64 x220] 39 (0, 0))] :: [(b23, .cells #[.int .i64 ((vt16.getD 0 default).Lo), .int .i64 ((vt16.getD 0 default).Hi), .bool ((vt16.getD 0 default).Unknown), .int .i64 ((vt16.getD 1 default).Lo), .int .i64 ((vt16.getD 1 default).Hi), .bool ((vt16.getD 1 default).Unknown), .int .i64 ((vt16.getD 2 default).Lo), .int .i64 ((vt16.getD 2 default).Hi), .bool ((vt16.getD 2 default).Unknown)] 81 (0, 0))] :: [(b8, .cells #[.int .i64 0, .int .i64 0, .int .i64 0] 39 (0, 0))] :: [(b4, .cells #[.int .i64 b1.X.Lo, .int .i64 b1.X.Hi, .bool b1.X.Unknown, .int .i64 b1.Y.Lo, .int .i64 b1.Y.Hi, .bool b1.Y.Unknown, .int .i64 b1.Z.Lo, .int .i64 b1.Z.Hi, .bool b1.Z.Unknown] 31 (0, 0))] :: H) → a_ = ⟨#[(ag_Box b1), pV b4 0, pV b8 0, fV, pV b23 0, .bool vt17, .func (.func 77) #[] #[], pV b62 0, .tuple #[.agg #[iV ((vt16.getD 0 default).Lo), iV ((vt16.getD 0 default).Hi), .bool ((vt16.getD 0 default).Unknown), iV ((vt16.getD 1 default).Lo), iV ((vt16.getD 1 default).Hi), .bool ((vt16.getD 1 default).Unknown), iV ((vt16.getD 2 default).Lo), iV ((vt16.getD 2 default).Hi), .bool ((vt16.getD 2 default).Unknown)], .bool vt17], (ag_Box b1), .tuple #[.agg #[iV ((vt16.getD 0 default).Lo), iV ((vt16.getD 0 default).Hi), .bool ((vt16.getD 0 default).Unknown), iV ((vt16.getD 1 default).Lo), iV ((vt16.getD 1 default).Hi), .bool ((vt16.getD 1 default).Unknown), iV ((vt16.getD 2 default).Lo), iV ((vt16.getD 2 default).Hi), .bool ((vt16.getD 2 default).Unknown)], .bool vt17], .agg #[iV ((vt16.getD 0 default).Lo), iV ((vt16.getD 0 default).Hi), .bool ((vt16.getD 0 default).Unknown), iV ((vt16.getD 1 default).Lo), iV ((vt16.getD 1 default).Hi), .bool ((vt16.getD 1 default).Unknown), iV ((vt16.getD 2 default).Lo), iV ((vt16.getD 2 default).Hi), .bool ((vt16.getD 2 default).Unknown)], .bool vt17, .bool vt17, fV, uV, .func (.func 77) #[] #[], pV b4 0, (ag_Bound b1.X), iV vt44, .func (.func 77) #[] #[], pV b4 3, (ag_Bound b1.Y), iV vt50, .func (.func 77) #[] #[], pV b4 6, (ag_Bound b1.Z), iV vt56, .agg #[iV vt44, iV vt50, iV vt56], (j217 0), (j217 1), (j217 2), (j217 3), (j217 4), (j217 5), (j217 6), (j217 7), (j217 8), (j217 9), (j217 10), (j217 11), (j217 12), (j217 13), (j217 14), (j217 15), (j217 16), (j217 17), (j217 18), (j217 19), (j217 20), (j217 21), (j217 22), (j217 23), (j217 24), (j217 25), (j217 26), (j217 27), uV, uV, uV, uV], []⟩ → K134 a_ W215 := by
     intro f213 x218 x219 x220 j217 W215 a_ L214 hj223 HS216  hfr_; subst hfr_
     injection hj223 with hj223; subst hj223; try dsimp only at h
     refine hK135 _ _ ?_
     refine wp_seq_k (fun K224 hK225 => ?_)
     have HS229 := HS216.u3.u2.u2.u3
     refine heldG (S := Sg t f213 ([(b62, .cells #[.int .i64 x218, .int .i64 x219, .int .i64 x220] 39 (0, 0))] :: [(b23, .cells #[.int .i64 ((vt16.getD 0 default).Lo), .int .i64 ((vt16.getD 0 default).Hi), .bool ((vt16.getD 0 default).Unknown), .int .i64 ((vt16.getD 1 default).Lo), .int .i64 ((vt16.getD 1 default).Hi), .bool ((vt16.getD 1 default).Unknown), .int .i64 ((vt16.getD 2 default).Lo), .int .i64 ((vt16.getD 2 default).Hi), .bool ((vt16.getD 2 default).Unknown)] 81 (0, 0))] :: [(b4, .cells #[.int .i64 b1.X.Lo, .int .i64 b1.X.Hi, .bool b1.X.Unknown, .int .i64 b1.Y.Lo, .int .i64 b1.Y.Hi, .bool b1.Y.Unknown, .int .i64 b1.Z.Lo, .int .i64 b1.Z.Hi, .bool b1.Z.Unknown] 31 (0, 0))] :: H) [(4, [(b8, .cells #[.int .i64 0, .int .i64 0, .int .i64 0] 39 (0, 0))])]) (n := 6) kr rfl HS229 ?_
     intro W230 HS231
     refine takeGQ 0 [] rfl kr kr kr kr kr kr hnp (Sg.g1 (Sx.of [[(b8, .cells #[.int .i64 0, .int .i64 0, .int .i64 0] 39 (0, 0))]] fL HS231) (fun _ => St.only [] HS231 fL)) (fun w_ hw_ => by obtain ⟨g_, hl_, hS_⟩ := hw_.st; exact run_loadN (n := 3) rfl Tryz.underlying39 rfl kr (kv (.pointer (some ⟨b62, 0, none⟩))) (cs := [.int .i64 x218, .int .i64 x219, .int .i64 x220]) rfl (hS_.cells 0 3 _ rfl)) ?_
     refine takeGQ 1 [] rfl kr kr kr kr kr kr hnp (Sg.g1 (Sx.of [[(b8, .cells #[.int .i64 0, .int .i64 0, .int .i64 0] 39 (0, 0))]] fL HS231) (fun _ => St.only [] HS231 fL)) (fun w_ hw_ => by obtain ⟨g_, hl_, hS_⟩ := hw_.st; exact run_loadN (n := 3) rfl Tryz.underlying39 rfl kr (kv (.pointer (some ⟨b62, 0, none⟩))) (cs := [.int .i64 x218, .int .i64 x219, .int .i64 x220]) rfl (hS_.cells 0 3 _ rfl)) ?_
     refine takeGL [2] (n := 4) (fuel := 3) #[true, true, true, false, false, false] rfl kr kr kr hnp (Sg.g1 (Sx.of [[(b8, .cells #[.int .i64 0, .int .i64 0, .int .i64 0] 39 (0, 0))]] fL HS231) (fun _ => St.only [] HS231 fL)) ?_
     refine takeGQ 3 [] rfl kr kr kr kr kr kr hnp (Sg.g1 (Sx.of [[(b8, .cells #[.int .i64 0, .int .i64 0, .int .i64 0] 39 (0, 0))]] fL HS231) (fun _ => St.only [] HS231 fL)) (fun w_ hw_ => by obtain ⟨g_, hl_, hS_⟩ := hw_.st; exact run_neS (b := ((x218 == 0) && ((x219 == 0) && ((x220 == 0) && true)))) rfl (kv (.agg #[.int .i64 x218, .int .i64 x219, .int .i64 x220])) (kv (.agg #[.int .i64 0, .int .i64 0, .int .i64 0])) kr kr w_) ?_
     refine takeGE 4 kr rfl kr (does_storeA (vs := [.int .i64 x218, .int .i64 x219, .int .i64 x220]) rfl kr kr kr rfl (ones rfl) HS231 kr ?_)
     intro W232 HS233
     refine ⟨(Sg.g1 (Sx.of [[(b8, .cells #[.int .i64 x218, .int .i64 x219, .int .i64 x220] 39 (0, 0))]] fL HS233) (fun hl_ => Bool.noConfusion (show true = false from hl_))), ?_⟩
     refine takeGL [5] (n := 1) (fuel := 0) #[true, true, true, true, true, true] rfl kr kr kr hnp (Sg.g1 (Sx.of [[(b8, .cells #[.int .i64 x218, .int .i64 x219, .int .i64 x220] 39 (0, 0))]] fL HS233) (fun hl_ => Bool.noConfusion (show true = false from hl_))) ?_
     refine doneG kr ?_ _
     refine hK225 _ _ ?_
     refine wp_ret ?_
     refine hret _ _ ?_
     refine ends (v := Value.tuple #[.agg #[.int .i64 x218, .int .i64 x219, .int .i64 x220], .bool (!((x218 == 0) && ((x219 == 0) && ((x220 == 0) && true))))]) (results2 (q1 := .cell 2 39) (q2 := .tmp 3) kr (resN (n := 3) (cs := [.int .i64 x218, .int .i64 x219, .int .i64 x220]) (kv (.pointer (some ⟨b8, 0, none⟩))) Tryz.underlying39 rfl kr rfl (HS233.cells 0 3 _ rfl)) (resT (kv (.bool (!((x218 == 0) && ((x219 == 0) && ((x220 == 0) && true)))))))) kr ?_
     have HS237 := HS233.drop
     have HS238 := HS237.drop
     have HS239 := HS238.drop
     have HS240 := HS239.drop
     injection h with h
     injection h with h0_ h
     subst h0_ h
     exact ⟨f213, rfl, (L20.trans (L47.trans (L53.trans (L59.trans L214)))), HS240⟩
    clear h; have h := hv221; clear hv221
    refine loopK (fun n_ a_ w_ => ∃ (f180 : FM) (x185 : Int) (x186 : Int) (x187 : Int) (j184 : Nat → Value), FM.le f58 f180 ∧ St t w_ f180 ([(b62, .cells #[.int .i64 x185, .int .i64 x186, .int .i64 x187] 39 (0, 0))] :: [(b23, .cells #[.int .i64 ((vt16.getD 0 default).Lo), .int .i64 ((vt16.getD 0 default).Hi), .bool ((vt16.getD 0 default).Unknown), .int .i64 ((vt16.getD 1 default).Lo), .int .i64 ((vt16.getD 1 default).Hi), .bool ((vt16.getD 1 default).Unknown), .int .i64 ((vt16.getD 2 default).Lo), .int .i64 ((vt16.getD 2 default).Hi), .bool ((vt16.getD 2 default).Unknown)] 81 (0, 0))] :: [(b8, .cells #[.int .i64 0, .int .i64 0, .int .i64 0] 39 (0, 0))] :: [(b4, .cells #[.int .i64 b1.X.Lo, .int .i64 b1.X.Hi, .bool b1.X.Unknown, .int .i64 b1.Y.Lo, .int .i64 b1.Y.Hi, .bool b1.Y.Unknown, .int .i64 b1.Z.Lo, .int .i64 b1.Z.Hi, .bool b1.Z.Unknown] 31 (0, 0))] :: H) ∧ query_middle.l0 k n_ x185 x186 x187 = some o176 ∧ a_ = ⟨#[(ag_Box b1), pV b4 0, pV b8 0, fV, pV b23 0, .bool vt17, .func (.func 77) #[] #[], pV b62 0, .tuple #[.agg #[iV ((vt16.getD 0 default).Lo), iV ((vt16.getD 0 default).Hi), .bool ((vt16.getD 0 default).Unknown), iV ((vt16.getD 1 default).Lo), iV ((vt16.getD 1 default).Hi), .bool ((vt16.getD 1 default).Unknown), iV ((vt16.getD 2 default).Lo), iV ((vt16.getD 2 default).Hi), .bool ((vt16.getD 2 default).Unknown)], .bool vt17], (ag_Box b1), .tuple #[.agg #[iV ((vt16.getD 0 default).Lo), iV ((vt16.getD 0 default).Hi), .bool ((vt16.getD 0 default).Unknown), iV ((vt16.getD 1 default).Lo), iV ((vt16.getD 1 default).Hi), .bool ((vt16.getD 1 default).Unknown), iV ((vt16.getD 2 default).Lo), iV ((vt16.getD 2 default).Hi), .bool ((vt16.getD 2 default).Unknown)], .bool vt17], .agg #[iV ((vt16.getD 0 default).Lo), iV ((vt16.getD 0 default).Hi), .bool ((vt16.getD 0 default).Unknown), iV ((vt16.getD 1 default).Lo), iV ((vt16.getD 1 default).Hi), .bool ((vt16.getD 1 default).Unknown), iV ((vt16.getD 2 default).Lo), iV ((vt16.getD 2 default).Hi), .bool ((vt16.getD 2 default).Unknown)], .bool vt17, .bool vt17, fV, uV, .func (.func 77) #[] #[], pV b4 0, (ag_Bound b1.X), iV vt44, .func (.func 77) #[] #[], pV b4 3, (ag_Bound b1.Y), iV vt50, .func (.func 77) #[] #[], pV b4 6, (ag_Bound b1.Z), iV vt56, .agg #[iV vt44, iV vt50, iV vt56], (j184 0), (j184 1), (j184 2), (j184 3), (j184 4), (j184 5), (j184 6), (j184 7), (j184 8), (j184 9), (j184 10), (j184 11), (j184 12), (j184 13), (j184 14), (j184 15), (j184 16), (j184 17), (j184 18), (j184 19), (j184 20), (j184 21), (j184 22), (j184 23), (j184 24), (j184 25), (j184 26), (j184 27), uV, uV, uV, uV], []⟩) k ⟨f58, vt44, vt50, vt56, (jL []), fL, HS73, h, kr⟩ ?_
    clear h
    rintro n179 _ W182 ⟨f180, x185, x186, x187, j184, L181, HS183, h, rfl⟩ K177 hK178
    obtain _ | n179 := n179
    · exact nomatch h
    simp only [query_middle.l0] at h
    refine wp_seq_k (fun K188 hK189 => ?_)
    refine wp_seq_k fun K190 hK191 => rl ?_
    refine seqL1 kr ?_
    refine seqK rfl (does_run (run_load rfl Tryz.underlying2 rfl (kv (.pointer (some ⟨b62, 0, none⟩))) (HS183.cell 0)) ?_)
    refine seqL1 kr ?_
    refine seqK rfl (does_run (run_load rfl Tryz.underlying2 rfl (kv (.pointer (some ⟨b62, 1, none⟩))) (HS183.cell 1)) ?_)
    refine seqL1 kr ?_
    refine seqK rfl (does_run (run_load rfl Tryz.underlying2 rfl (kv (.pointer (some ⟨b62, 2, none⟩))) (HS183.cell 2)) ?_)
    refine seqL3 kr ?_
    have hq_ := ite_some h; clear h; rcases hq_ with ⟨c192, h⟩ | ⟨c192, h⟩
    · have c192 : (mx (mx x185 x186) x187) > 1048576 := c192
      refine seqRwI 36 kr (decide_eq_true c192) ?_
      refine seqRwI 37 kr (decide_eq_true c192) ?_
      refine seqL9 kr ?_
      refine nl (hK191 _ _ ?_)
      refine condT kr ?_
      refine wp_skip ?_
      refine hK189 _ _ ?_
      refine blockK (fun B193 hx194 hn195 hr196 ho197 hp198 => ?_)
      refine rl ?_
      refine seqL1 kr ?_
      refine seqK rfl (does_run (run_load rfl Tryz.underlying2 rfl (kv (.pointer (some ⟨b62, 0, none⟩))) (HS183.cell 0)) ?_)
      refine seqL2 kr ?_
      refine seqK rfl (does_run (run_load rfl Tryz.underlying2 rfl (kv (.pointer (some ⟨b62, 1, none⟩))) (HS183.cell 1)) ?_)
      refine seqL2 kr ?_
      refine seqK rfl (does_run (run_load rfl Tryz.underlying2 rfl (kv (.pointer (some ⟨b62, 2, none⟩))) (HS183.cell 2)) ?_)
      refine seqL2 kr ?_
      refine seqK rfl (does_storeA (vs := [.int .i64 (w64 (Int.tdiv x185 2)), .int .i64 (w64 (Int.tdiv x186 2)), .int .i64 (w64 (Int.tdiv x187 2))]) rfl kr kr kr rfl (ones rfl) HS183 kr ?_)
      intro W200 HS201
      refine nl ?_
      refine hn195 _ _ ?_
      refine hK178 n179 _ _ (Nat.lt_succ_self _) ?_
      exact ⟨f180, (w64 (Int.tdiv x185 2)), (w64 (Int.tdiv x186 2)), (w64 (Int.tdiv x187 2)), (jL [.pointer (some ⟨b62, 0, none⟩), iV x185, .pointer (some ⟨b62, 1, none⟩), iV x186, .pointer (some ⟨b62, 2, none⟩), iV x187, iV (mx (mx x185 x186) x187), tV, tV, uV, uV, uV, uV, uV, uV, uV, uV, tV, .pointer (some ⟨b62, 0, none⟩), iV x185, iV (w64 (Int.tdiv x185 2)), .pointer (some ⟨b62, 1, none⟩), iV x186, iV (w64 (Int.tdiv x186 2)), .pointer (some ⟨b62, 2, none⟩), iV x187, iV (w64 (Int.tdiv x187 2)), .agg #[.int .i64 (w64 (Int.tdiv x185 2)), .int .i64 (w64 (Int.tdiv x186 2)), .int .i64 (w64 (Int.tdiv x187 2))]]), L181, HS201, h, kr⟩
    · have c192 : ¬ ((mx (mx x185 x186) x187) > 1048576) := c192
      refine seqRwI 36 kr (decide_eq_false c192) ?_
      refine seqRwI 37 kr (decide_eq_false c192) ?_
      refine seqL1 kr ?_
      refine seqG kr (does_run (run_load rfl Tryz.underlying2 rfl (kv (.pointer (some ⟨b62, 0, none⟩))) (HS183.cell 0)) ?_)
      refine seqL1 kr ?_
      refine seqG kr (does_run (run_load rfl Tryz.underlying2 rfl (kv (.pointer (some ⟨b62, 1, none⟩))) (HS183.cell 1)) ?_)
      refine seqL1 kr ?_
      refine seqG kr (does_run (run_load rfl Tryz.underlying2 rfl (kv (.pointer (some ⟨b62, 2, none⟩))) (HS183.cell 2)) ?_)
      refine seqL3 kr ?_
      refine nl (hK191 _ _ ?_)
      have hq_ := ite_some h; clear h; rcases hq_ with ⟨c203, h⟩ | ⟨c203, h⟩
      · have c203 : (mn (mn x185 x186) x187) < (-1048576) := c203
        refine wpRwI 45 kr (decide_eq_true c203) ?_
        refine wpRwI 46 kr (decide_eq_true c203) ?_
        refine condT kr ?_
        refine wp_skip ?_
        refine hK189 _ _ ?_
        refine blockK (fun B204 hx205 hn206 hr207 ho208 hp209 => ?_)
        refine rl ?_
        refine seqL1 kr ?_
        refine seqK rfl (does_run (run_load rfl Tryz.underlying2 rfl (kv (.pointer (some ⟨b62, 0, none⟩))) (HS183.cell 0)) ?_)
        refine seqL2 kr ?_
        refine seqK rfl (does_run (run_load rfl Tryz.underlying2 rfl (kv (.pointer (some ⟨b62, 1, none⟩))) (HS183.cell 1)) ?_)
        refine seqL2 kr ?_
        refine seqK rfl (does_run (run_load rfl Tryz.underlying2 rfl (kv (.pointer (some ⟨b62, 2, none⟩))) (HS183.cell 2)) ?_)
        refine seqL2 kr ?_
        refine seqK rfl (does_storeA (vs := [.int .i64 (w64 (Int.tdiv x185 2)), .int .i64 (w64 (Int.tdiv x186 2)), .int .i64 (w64 (Int.tdiv x187 2))]) rfl kr kr kr rfl (ones rfl) HS183 kr ?_)
        intro W211 HS212
        refine nl ?_
        refine hn206 _ _ ?_
        refine hK178 n179 _ _ (Nat.lt_succ_self _) ?_
        exact ⟨f180, (w64 (Int.tdiv x185 2)), (w64 (Int.tdiv x186 2)), (w64 (Int.tdiv x187 2)), (jL [.pointer (some ⟨b62, 0, none⟩), iV x185, .pointer (some ⟨b62, 1, none⟩), iV x186, .pointer (some ⟨b62, 2, none⟩), iV x187, iV (mx (mx x185 x186) x187), fV, fV, .pointer (some ⟨b62, 0, none⟩), iV x185, .pointer (some ⟨b62, 1, none⟩), iV x186, .pointer (some ⟨b62, 2, none⟩), iV x187, iV (mn (mn x185 x186) x187), tV, tV, .pointer (some ⟨b62, 0, none⟩), iV x185, iV (w64 (Int.tdiv x185 2)), .pointer (some ⟨b62, 1, none⟩), iV x186, iV (w64 (Int.tdiv x186 2)), .pointer (some ⟨b62, 2, none⟩), iV x187, iV (w64 (Int.tdiv x187 2)), .agg #[.int .i64 (w64 (Int.tdiv x185 2)), .int .i64 (w64 (Int.tdiv x186 2)), .int .i64 (w64 (Int.tdiv x187 2))]]), L181, HS212, h, kr⟩
      · have c203 : ¬ ((mn (mn x185 x186) x187) < (-1048576)) := c203
        refine wpRwI 45 kr (decide_eq_false c203) ?_
        refine wpRwI 46 kr (decide_eq_false c203) ?_
        refine condF kr ?_
        refine wp_exit ?_
        refine hx137 _ _ ?_
        exact J222 f180 x185 x186 x187 (jL [.pointer (some ⟨b62, 0, none⟩), iV x185, .pointer (some ⟨b62, 1, none⟩), iV x186, .pointer (some ⟨b62, 2, none⟩), iV x187, iV (mx (mx x185 x186) x187), fV, fV, .pointer (some ⟨b62, 0, none⟩), iV x185, .pointer (some ⟨b62, 1, none⟩), iV x186, .pointer (some ⟨b62, 2, none⟩), iV x187, iV (mn (mn x185 x186) x187), fV, fV, (j184 18), (j184 19), (j184 20), (j184 21), (j184 22), (j184 23), (j184 24), (j184 25), (j184 26), (j184 27)]) W182 _ L181 h HS183 kr
   refine takeEither 3 13 kr rfl rfl rfl rfl ?_ ?_
   · refine does_call (f := 77) (args := #[.agg #[.int .i64 b1.X.Lo, .int .i64 b1.X.Hi, .bool b1.X.Unknown]]) kr (query_middle_1.calls k b1.X HS43 vt44 hc45) ?_
     rintro _ W76 ⟨f74, rfl, L75, HS77⟩
     refine ⟨_, rfl, ?_⟩
     refine ⟨(Sg.g0 (Sx.of [] L75 HS77)), ?_⟩
     refine takeEither 7 13 kr rfl rfl rfl rfl ?_ ?_
     · refine does_call (f := 77) (args := #[.agg #[.int .i64 b1.Y.Lo, .int .i64 b1.Y.Hi, .bool b1.Y.Unknown]]) kr (query_middle_1.calls k b1.Y HS77 vt50 hc51) ?_
       rintro _ W80 ⟨f78, rfl, L79, HS81⟩
       refine ⟨_, rfl, ?_⟩
       refine ⟨(Sg.g0 (Sx.of [] (L75.trans L79) HS81)), ?_⟩
       refine takeEither 11 13 kr rfl rfl rfl rfl ?_ ?_
       · refine does_call (f := 77) (args := #[.agg #[.int .i64 b1.Z.Lo, .int .i64 b1.Z.Hi, .bool b1.Z.Unknown]]) kr (query_middle_1.calls k b1.Z HS81 vt56 hc57) ?_
         rintro _ W84 ⟨f82, rfl, L83, HS85⟩
         refine ⟨_, rfl, ?_⟩
         refine ⟨(Sg.g0 (Sx.of [] (L75.trans (L79.trans L83)) HS85)), ?_⟩
         refine takeGL [12] (n := 3) (fuel := 2) #[true, true, true, true, true, true, true, true, true, true, true, true, true, false, false] rfl kr kr kr hnp (Sg.g0 (Sx.of [] (L75.trans (L79.trans L83)) HS85)) ?_
         refine takeGE 13 kr rfl kr (does_alloc (z := Value.agg #[.int .i64 0, .int .i64 0, .int .i64 0]) (cs := #[.int .i64 0, .int .i64 0, .int .i64 0]) rfl kr rfl HS85 ?_)
         intro b86 W87 HS88
         refine ⟨(Sg.g0 (Sx.of [[(b86, .cells #[.int .i64 0, .int .i64 0, .int .i64 0] 39 (0, 0))]] (L75.trans (L79.trans L83)) HS88)), ?_⟩
         refine takeGE 14 kr rfl kr (does_storeA (vs := [.int .i64 vt44, .int .i64 vt50, .int .i64 vt56]) rfl kr kr kr rfl (ones rfl) HS88 kr ?_)
         intro W90 HS91
         refine ⟨(Sg.g0 (Sx.of [[(b86, .cells #[.int .i64 vt44, .int .i64 vt50, .int .i64 vt56] 39 (0, 0))]] (L75.trans (L79.trans L83)) HS91)), ?_⟩
         refine hR70 _ _ ?_
         exact J71 f74 f78 f82 b86 W90 _ L75 L79 L83 HS91 kr
       · refine does_alloc (z := Value.agg #[.int .i64 0, .int .i64 0, .int .i64 0]) (cs := #[.int .i64 0, .int .i64 0, .int .i64 0]) rfl kr rfl HS81 ?_
         intro b92 W93 HS94
         refine ⟨(Sg.g0 (Sx.of [[(b92, .cells #[.int .i64 0, .int .i64 0, .int .i64 0] 39 (0, 0))]] (L75.trans L79) HS94)), ?_⟩
         refine takeGE 11 kr rfl kr (does_call (f := 77) (args := #[.agg #[.int .i64 b1.Z.Lo, .int .i64 b1.Z.Hi, .bool b1.Z.Unknown]]) kr (query_middle_1.calls k b1.Z HS94 vt56 hc57) ?_)
         rintro _ W98 ⟨f96, rfl, L97, HS99⟩
         refine ⟨_, rfl, ?_⟩
         refine ⟨(Sg.g0 (Sx.of [[(b92, .cells #[.int .i64 0, .int .i64 0, .int .i64 0] 39 (0, 0))]] (L75.trans (L79.trans L97)) HS99)), ?_⟩
         refine takeGL [12] (n := 2) (fuel := 1) #[true, true, true, true, true, true, true, true, true, true, true, true, true, true, false] rfl kr kr kr hnp (Sg.g0 (Sx.of [[(b92, .cells #[.int .i64 0, .int .i64 0, .int .i64 0] 39 (0, 0))]] (L75.trans (L79.trans L97)) HS99)) ?_
         refine takeGE 14 kr rfl kr (does_storeA (vs := [.int .i64 vt44, .int .i64 vt50, .int .i64 vt56]) rfl kr kr kr rfl (ones rfl) HS99 kr ?_)
         intro W100 HS101
         refine ⟨(Sg.g0 (Sx.of [[(b92, .cells #[.int .i64 vt44, .int .i64 vt50, .int .i64 vt56] 39 (0, 0))]] (L75.trans (L79.trans L97)) HS101)), ?_⟩
         refine hR70 _ _ ?_
         exact J71 f74 f78 f96 b92 W100 _ L75 L79 L97 HS101 kr
     · refine does_alloc (z := Value.agg #[.int .i64 0, .int .i64 0, .int .i64 0]) (cs := #[.int .i64 0, .int .i64 0, .int .i64 0]) rfl kr rfl HS77 ?_
       intro b102 W103 HS104
       refine ⟨(Sg.g0 (Sx.of [[(b102, .cells #[.int .i64 0, .int .i64 0, .int .i64 0] 39 (0, 0))]] L75 HS104)), ?_⟩
       refine takeGE 7 kr rfl kr (does_call (f := 77) (args := #[.agg #[.int .i64 b1.Y.Lo, .int .i64 b1.Y.Hi, .bool b1.Y.Unknown]]) kr (query_middle_1.calls k b1.Y HS104 vt50 hc51) ?_)
       rintro _ W108 ⟨f106, rfl, L107, HS109⟩
       refine ⟨_, rfl, ?_⟩
       refine ⟨(Sg.g0 (Sx.of [[(b102, .cells #[.int .i64 0, .int .i64 0, .int .i64 0] 39 (0, 0))]] (L75.trans L107) HS109)), ?_⟩
       refine takeGE 11 kr rfl kr (does_call (f := 77) (args := #[.agg #[.int .i64 b1.Z.Lo, .int .i64 b1.Z.Hi, .bool b1.Z.Unknown]]) kr (query_middle_1.calls k b1.Z HS109 vt56 hc57) ?_)
       rintro _ W112 ⟨f110, rfl, L111, HS113⟩
       refine ⟨_, rfl, ?_⟩
       refine ⟨(Sg.g0 (Sx.of [[(b102, .cells #[.int .i64 0, .int .i64 0, .int .i64 0] 39 (0, 0))]] (L75.trans (L107.trans L111)) HS113)), ?_⟩
       refine takeGL [12] (n := 2) (fuel := 1) #[true, true, true, true, true, true, true, true, true, true, true, true, true, true, false] rfl kr kr kr hnp (Sg.g0 (Sx.of [[(b102, .cells #[.int .i64 0, .int .i64 0, .int .i64 0] 39 (0, 0))]] (L75.trans (L107.trans L111)) HS113)) ?_
       refine takeGE 14 kr rfl kr (does_storeA (vs := [.int .i64 vt44, .int .i64 vt50, .int .i64 vt56]) rfl kr kr kr rfl (ones rfl) HS113 kr ?_)
       intro W114 HS115
       refine ⟨(Sg.g0 (Sx.of [[(b102, .cells #[.int .i64 vt44, .int .i64 vt50, .int .i64 vt56] 39 (0, 0))]] (L75.trans (L107.trans L111)) HS115)), ?_⟩
       refine hR70 _ _ ?_
       exact J71 f74 f106 f110 b102 W114 _ L75 L107 L111 HS115 kr
   · refine does_alloc (z := Value.agg #[.int .i64 0, .int .i64 0, .int .i64 0]) (cs := #[.int .i64 0, .int .i64 0, .int .i64 0]) rfl kr rfl HS43 ?_
     intro b116 W117 HS118
     refine ⟨(Sg.g0 (Sx.of [[(b116, .cells #[.int .i64 0, .int .i64 0, .int .i64 0] 39 (0, 0))]] fL HS118)), ?_⟩
     refine takeGE 3 kr rfl kr (does_call (f := 77) (args := #[.agg #[.int .i64 b1.X.Lo, .int .i64 b1.X.Hi, .bool b1.X.Unknown]]) kr (query_middle_1.calls k b1.X HS118 vt44 hc45) ?_)
     rintro _ W122 ⟨f120, rfl, L121, HS123⟩
     refine ⟨_, rfl, ?_⟩
     refine ⟨(Sg.g0 (Sx.of [[(b116, .cells #[.int .i64 0, .int .i64 0, .int .i64 0] 39 (0, 0))]] L121 HS123)), ?_⟩
     refine takeGE 7 kr rfl kr (does_call (f := 77) (args := #[.agg #[.int .i64 b1.Y.Lo, .int .i64 b1.Y.Hi, .bool b1.Y.Unknown]]) kr (query_middle_1.calls k b1.Y HS123 vt50 hc51) ?_)
     rintro _ W126 ⟨f124, rfl, L125, HS127⟩
     refine ⟨_, rfl, ?_⟩
     refine ⟨(Sg.g0 (Sx.of [[(b116, .cells #[.int .i64 0, .int .i64 0, .int .i64 0] 39 (0, 0))]] (L121.trans L125) HS127)), ?_⟩
     refine takeGE 11 kr rfl kr (does_call (f := 77) (args := #[.agg #[.int .i64 b1.Z.Lo, .int .i64 b1.Z.Hi, .bool b1.Z.Unknown]]) kr (query_middle_1.calls k b1.Z HS127 vt56 hc57) ?_)
     rintro _ W130 ⟨f128, rfl, L129, HS131⟩
     refine ⟨_, rfl, ?_⟩
     refine ⟨(Sg.g0 (Sx.of [[(b116, .cells #[.int .i64 0, .int .i64 0, .int .i64 0] 39 (0, 0))]] (L121.trans (L125.trans L129)) HS131)), ?_⟩
     refine takeGL [12] (n := 2) (fuel := 1) #[true, true, true, true, true, true, true, true, true, true, true, true, true, true, false] rfl kr kr kr hnp (Sg.g0 (Sx.of [[(b116, .cells #[.int .i64 0, .int .i64 0, .int .i64 0] 39 (0, 0))]] (L121.trans (L125.trans L129)) HS131)) ?_
     refine takeGE 14 kr rfl kr (does_storeA (vs := [.int .i64 vt44, .int .i64 vt50, .int .i64 vt56]) rfl kr kr kr rfl (ones rfl) HS131 kr ?_)
     intro W132 HS133
     refine ⟨(Sg.g0 (Sx.of [[(b116, .cells #[.int .i64 vt44, .int .i64 vt50, .int .i64 vt56] 39 (0, 0))]] (L121.trans (L125.trans L129)) HS133)), ?_⟩
     refine hR70 _ _ ?_
     exact J71 f120 f124 f128 b116 W132 _ L121 L125 L129 HS133 kr

end Go.Sp.Q5
