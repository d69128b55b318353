import Derived.Test.YtiibkbligihgoaaGreatProg
import Derived.Test.YtiibkbligihgoaaGreatSpCopy
import Derived.Test.YtiibkbligihgoaaGreatFQ3
import Derived.Test.YtiibkbligihgoaaGreatShelf
import Derived.Test.YtiibkbligihgoaaGreatSpMapR
import Derived.Test.YtiibkbligihgoaaGreatSpKeys
import Derived.Test.YtiibkbligihgoaaGreatSpRound
import Derived.Test.YtiibkbligihgoaaGreatKQ3n0
import Derived.Test.YtiibkbligihgoaaGreatKQ3n1
import Derived.Test.YtiibkbligihgoaaGreatKQ3n2
import Derived.Test.YtiibkbligihgoaaGreatKQ3n3
namespace Go.Sp.Q3
open Go Go.Sp Go.Proofs
set_option linter.unusedVariables false
attribute [local irreducible] wpList AnyL Code.wp Calls Does Code.wpIn wpListIn CallsIn bodyPostM LeavesInM
set_option maxRecDepth 100000 in
set_option maxHeartbeats 4000000 in
theorem query_point.calls (k : Nat)  (v1 : S_Vec) {t w : World} {f : FM} {H : List Seg} (HS : St t w f (H)) (rr1 : S_Box) (h : query_point k v1 = some rr1) :
    Calls Tryz.prog 55 #[.agg #[.int .i64 v1.X, .int .i64 v1.Y, .int .i64 v1.Z]] w (fun e w' => ∃ (g : FM), e = .returned (Value.agg #[.int .i64 rr1.X.Lo, .int .i64 rr1.X.Hi, .bool rr1.X.Unknown, .int .i64 rr1.Y.Lo, .int .i64 rr1.Y.Hi, .bool rr1.Y.Unknown, .int .i64 rr1.Z.Lo, .int .i64 rr1.Z.Hi, .bool rr1.Z.Unknown]) ∧ FM.le f g ∧ St t w' g (H)) := by
 unfold query_point at h
 refine enter Tryz.func55 rfl (tm := #[(ag_Vec v1), uV, uV, uV, uV, uV, uV, uV, uV, uV, uV, uV, uV, uV, uV, uV, uV]) kr ?_
 intro B hret hnor hnp
 refine wp_seq_k fun K2 hK3 => rl ?_
 refine seqK rfl (does_box (cs := #[.int .i64 v1.X, .int .i64 v1.Y, .int .i64 v1.Z]) rfl (kv (.agg #[.int .i64 v1.X, .int .i64 v1.Y, .int .i64 v1.Z])) rfl HS ?_)
 intro b4 W5 HS6
 refine seqK rfl (does_alloc (z := Value.agg #[.int .i64 0, .int .i64 0, .bool false, .int .i64 0, .int .i64 0, .bool false, .int .i64 0, .int .i64 0, .bool false]) (cs := #[.int .i64 0, .int .i64 0, .bool false, .int .i64 0, .int .i64 0, .bool false, .int .i64 0, .int .i64 0, .bool false]) rfl kr rfl HS6 ?_)
 intro b8 W9 HS10
 refine nl (hK3 _ _ ?_)
 refine wp_seq_k fun K12 hK13 => rl ?_
 refine seqL1 kr ?_
 refine nl (hK13 _ _ ?_)
 refine wp_seq_k (fun K14 hK15 => ?_)
 have HS17 := HS10.u1.u1
 refine heldG (S := Sg t f ([(b4, .cells #[.int .i64 v1.X, .int .i64 v1.Y, .int .i64 v1.Z] 39 (0, 0))] :: H) [(13, [(b8, .cells #[.int .i64 0, .int .i64 0, .bool false, .int .i64 0, .int .i64 0, .bool false, .int .i64 0, .int .i64 0, .bool false] 31 (0, 0))])]) (n := 14) kr rfl HS17 ?_
 intro W18 HS19
 refine takeGL [0, 1] (n := 14) (fuel := 12) #[true, true, false, false, false, false, false, false, false, false, false, false, false, false] rfl kr kr kr hnp (Sg.g1 (Sx.of [[(b8, .cells #[.int .i64 0, .int .i64 0, .bool false, .int .i64 0, .int .i64 0, .bool false, .int .i64 0, .int .i64 0, .bool false] 31 (0, 0))]] fL HS19) (fun _ => St.only [] HS19 fL)) ?_
 refine takeGQ 2 [] rfl kr kr kr kr kr kr hnp (Sg.g1 (Sx.of [[(b8, .cells #[.int .i64 0, .int .i64 0, .bool false, .int .i64 0, .int .i64 0, .bool false, .int .i64 0, .int .i64 0, .bool false] 31 (0, 0))]] fL HS19) (fun _ => St.only [] HS19 fL)) (fun w_ hw_ => by obtain ⟨g_, hl_, hS_⟩ := hw_.st; exact run_load rfl Tryz.underlying2 rfl (kv (.pointer (some ⟨b4, 0, none⟩))) (hS_.cell 0)) ?_
 refine takeGL [4, 5] (n := 11) (fuel := 9) #[true, true, true, false, true, true, false, false, false, false, false, false, false, false] rfl kr kr kr hnp (Sg.g1 (Sx.of [[(b8, .cells #[.int .i64 0, .int .i64 0, .bool false, .int .i64 0, .int .i64 0, .bool false, .int .i64 0, .int .i64 0, .bool false] 31 (0, 0))]] fL HS19) (fun _ => St.only [] HS19 fL)) ?_
 refine takeGQ 6 [] rfl kr kr kr kr kr kr hnp (Sg.g1 (Sx.of [[(b8, .cells #[.int .i64 0, .int .i64 0, .bool false, .int .i64 0, .int .i64 0, .bool false, .int .i64 0, .int .i64 0, .bool false] 31 (0, 0))]] fL HS19) (fun _ => St.only [] HS19 fL)) (fun w_ hw_ => by obtain ⟨g_, hl_, hS_⟩ := hw_.st; exact run_load rfl Tryz.underlying2 rfl (kv (.pointer (some ⟨b4, 1, none⟩))) (hS_.cell 1)) ?_
 refine takeGL [8, 9] (n := 8) (fuel := 6) #[true, true, true, false, true, true, true, false, true, true, false, false, false, false] rfl kr kr kr hnp (Sg.g1 (Sx.of [[(b8, .cells #[.int .i64 0, .int .i64 0, .bool false, .int .i64 0, .int .i64 0, .bool false, .int .i64 0, .int .i64 0, .bool false] 31 (0, 0))]] fL HS19) (fun _ => St.only [] HS19 fL)) ?_
 refine takeGQ 10 [] rfl kr kr kr kr kr kr hnp (Sg.g1 (Sx.of [[(b8, .cells #[.int .i64 0, .int .i64 0, .bool false, .int .i64 0, .int .i64 0, .bool false, .int .i64 0, .int .i64 0, .bool false] 31 (0, 0))]] fL HS19) (fun _ => St.only [] HS19 fL)) (fun w_ hw_ => by obtain ⟨g_, hl_, hS_⟩ := hw_.st; exact run_load rfl Tryz.underlying2 rfl (kv (.pointer (some ⟨b4, 2, none⟩))) (hS_.cell 2)) ?_
 have hq_ := bind_some h; clear h; obtain ⟨vt20, hc21, h⟩ := hq_
 refine takeGE 3 kr rfl kr (does_call (f := 87) (args := #[.int .i64 v1.X]) kr (query_point_1.calls k v1.X HS19 vt20 hc21) ?_)
 rintro _ W24 ⟨f22, rfl, L23, HS25⟩
 refine ⟨_, rfl, ?_⟩
 refine ⟨(Sg.g1 (Sx.of [[(b8, .cells #[.int .i64 0, .int .i64 0, .bool false, .int .i64 0, .int .i64 0, .bool false, .int .i64 0, .int .i64 0, .bool false] 31 (0, 0))]] L23 HS25) (fun _ => St.only [] HS25 L23)), ?_⟩
 have hq_ := bind_some h; clear h; obtain ⟨vt26, hc27, h⟩ := hq_
 refine takeGE 7 kr rfl kr (does_call (f := 87) (args := #[.int .i64 v1.Y]) kr (query_point_1.calls k v1.Y HS25 vt26 hc27) ?_)
 rintro _ W30 ⟨f28, rfl, L29, HS31⟩
 refine ⟨_, rfl, ?_⟩
 refine ⟨(Sg.g1 (Sx.of [[(b8, .cells #[.int .i64 0, .int .i64 0, .bool false, .int .i64 0, .int .i64 0, .bool false, .int .i64 0, .int .i64 0, .bool false] 31 (0, 0))]] (L23.trans L29) HS31) (fun _ => St.only [] HS31 (L23.trans L29))), ?_⟩
 have hq_ := bind_some h; clear h; obtain ⟨vt32, hc33, h⟩ := hq_
 refine takeGE 11 kr rfl kr (does_call (f := 87) (args := #[.int .i64 v1.Z]) kr (query_point_1.calls k v1.Z HS31 vt32 hc33) ?_)
 rintro _ W36 ⟨f34, rfl, L35, HS37⟩
 refine ⟨_, rfl, ?_⟩
 refine ⟨(Sg.g1 (Sx.of [[(b8, .cells #[.int .i64 0, .int .i64 0, .bool false, .int .i64 0, .int .i64 0, .bool false, .int .i64 0, .int .i64 0, .bool false] 31 (0, 0))]] (L23.trans (L29.trans L35)) HS37) (fun _ => St.only [] HS37 (L23.trans (L29.trans L35)))), ?_⟩
 refine takeGL [12] (n := 2) (fuel := 1) #[true, true, true, true, true, true, true, true, true, true, true, true, true, false] rfl kr kr kr hnp (Sg.g1 (Sx.of [[(b8, .cells #[.int .i64 0, .int .i64 0, .bool false, .int .i64 0, .int .i64 0, .bool false, .int .i64 0, .int .i64 0, .bool false] 31 (0, 0))]] (L23.trans (L29.trans L35)) HS37) (fun _ => St.only [] HS37 (L23.trans (L29.trans L35)))) ?_
 refine takeGE 13 kr rfl kr (does_storeA (vs := [.int .i64 vt20.Lo, .int .i64 vt20.Hi, .bool vt20.Unknown, .int .i64 vt26.Lo, .int .i64 vt26.Hi, .bool vt26.Unknown, .int .i64 vt32.Lo, .int .i64 vt32.Hi, .bool vt32.Unknown]) rfl kr kr kr rfl (ones rfl) HS37 kr ?_)
 intro W38 HS39
 refine ⟨(Sg.g1 (Sx.of [[(b8, .cells #[.int .i64 vt20.Lo, .int .i64 vt20.Hi, .bool vt20.Unknown, .int .i64 vt26.Lo, .int .i64 vt26.Hi, .bool vt26.Unknown, .int .i64 vt32.Lo, .int .i64 vt32.Hi, .bool vt32.Unknown] 31 (0, 0))]] (L23.trans (L29.trans L35)) HS39) (fun hl_ => Bool.noConfusion (show true = false from hl_))), ?_⟩
 refine doneG kr ?_ _
 refine hK15 _ _ ?_
 refine wp_ret ?_
 refine hret _ _ ?_
 refine ends (v := Value.agg #[.int .i64 vt20.Lo, .int .i64 vt20.Hi, .bool vt20.Unknown, .int .i64 vt26.Lo, .int .i64 vt26.Hi, .bool vt26.Unknown, .int .i64 vt32.Lo, .int .i64 vt32.Hi, .bool vt32.Unknown]) (results1 (q1 := .cell 2 31) kr (resN (n := 9) (cs := [.int .i64 vt20.Lo, .int .i64 vt20.Hi, .bool vt20.Unknown, .int .i64 vt26.Lo, .int .i64 vt26.Hi, .bool vt26.Unknown, .int .i64 vt32.Lo, .int .i64 vt32.Hi, .bool vt32.Unknown]) (kv (.pointer (some ⟨b8, 0, none⟩))) Tryz.underlying31 rfl kr rfl (HS39.cells 0 9 _ rfl))) kr ?_
 have HS40 := HS39.drop
 have HS41 := HS40.drop
 injection h with h
 subst h
 exact ⟨f34, rfl, (L23.trans (L29.trans L35)), HS41⟩

set_option maxRecDepth 100000 in
set_option maxHeartbeats 4000000 in
theorem query_grade.calls (k : Nat) (A2 : Option Addr) (c3 : Nat) (A6 : Option Addr) (c7 : Nat) (r1 : S_Row) (q5 : S_Ask) {t w : World} {f : FM} {H : List Seg} (HS : St t w f (H)) (HR4 : SlR (tInt .i64) f A2 c3 r1.Frames) (HR8 : SlR ty_Cone f A6 c7 q5.Cones) (rr1 : Int) (h : query_grade k r1 q5 = some rr1) :
    Calls Tryz.prog 44 #[.agg #[.int .i64 r1.ID, .int .i64 r1.Box.X.Lo, .int .i64 r1.Box.X.Hi, .bool r1.Box.X.Unknown, .int .i64 r1.Box.Y.Lo, .int .i64 r1.Box.Y.Hi, .bool r1.Box.Y.Unknown, .int .i64 r1.Box.Z.Lo, .int .i64 r1.Box.Z.Hi, .bool r1.Box.Z.Unknown, .int .i64 r1.Flux.Lo, .int .i64 r1.Flux.Hi, .bool r1.Flux.Unknown, .int .i64 r1.When.Lo, .int .i64 r1.When.Hi, .bool r1.When.Unknown, .slice A2 r1.Frames.length c3, .int .i64 r1.Marks], .agg #[.slice A6 q5.Cones.length c7, .int .i64 q5.From, .int .i64 q5.To, .int .i64 q5.Least, .int .i64 q5.Ban]] w (fun e w' => ∃ (g : FM), e = .returned (Value.int .i64 rr1) ∧ FM.le f g ∧ St t w' g (H)) := by
 unfold query_grade at h
 refine enter Tryz.func44 rfl (tm := #[(ag_Row r1 A2 c3), (ag_Ask q5 A6 c7), uV, uV, uV, uV, uV, uV, uV, uV, uV, uV, uV, uV, uV, uV, uV, uV, uV, uV, uV, uV, uV, uV, uV, uV, uV, uV, uV, uV, uV, uV, uV, uV, uV, uV, uV, uV, uV, uV, uV, uV, uV, uV, uV, uV]) kr ?_
 intro B hret hnor hnp
 refine wp_seq_k fun K9 hK10 => rl ?_
 refine seqK rfl (does_box (cs := #[.int .i64 r1.ID, .int .i64 r1.Box.X.Lo, .int .i64 r1.Box.X.Hi, .bool r1.Box.X.Unknown, .int .i64 r1.Box.Y.Lo, .int .i64 r1.Box.Y.Hi, .bool r1.Box.Y.Unknown, .int .i64 r1.Box.Z.Lo, .int .i64 r1.Box.Z.Hi, .bool r1.Box.Z.Unknown, .int .i64 r1.Flux.Lo, .int .i64 r1.Flux.Hi, .bool r1.Flux.Unknown, .int .i64 r1.When.Lo, .int .i64 r1.When.Hi, .bool r1.When.Unknown, .slice A2 r1.Frames.length c3, .int .i64 r1.Marks]) rfl (kv (.agg #[.int .i64 r1.ID, .int .i64 r1.Box.X.Lo, .int .i64 r1.Box.X.Hi, .bool r1.Box.X.Unknown, .int .i64 r1.Box.Y.Lo, .int .i64 r1.Box.Y.Hi, .bool r1.Box.Y.Unknown, .int .i64 r1.Box.Z.Lo, .int .i64 r1.Box.Z.Hi, .bool r1.Box.Z.Unknown, .int .i64 r1.Flux.Lo, .int .i64 r1.Flux.Hi, .bool r1.Flux.Unknown, .int .i64 r1.When.Lo, .int .i64 r1.When.Hi, .bool r1.When.Unknown, .slice A2 r1.Frames.length c3, .int .i64 r1.Marks])) rfl HS ?_)
 intro b11 W12 HS13
 refine seqK rfl (does_box (cs := #[.slice A6 q5.Cones.length c7, .int .i64 q5.From, .int .i64 q5.To, .int .i64 q5.Least, .int .i64 q5.Ban]) rfl (kv (.agg #[.slice A6 q5.Cones.length c7, .int .i64 q5.From, .int .i64 q5.To, .int .i64 q5.Least, .int .i64 q5.Ban])) rfl HS13 ?_)
 intro b15 W16 HS17
 refine seqL1 kr ?_
 refine nl (hK10 _ _ ?_)
 refine wp_seq_k (fun K19 hK20 => ?_)
 refine heldG (S := Sg t f ([(b15, .cells #[.slice A6 q5.Cones.length c7, .int .i64 q5.From, .int .i64 q5.To, .int .i64 q5.Least, .int .i64 q5.Ban] 51 (0, 0))] :: [(b11, .cells #[.int .i64 r1.ID, .int .i64 r1.Box.X.Lo, .int .i64 r1.Box.X.Hi, .bool r1.Box.X.Unknown, .int .i64 r1.Box.Y.Lo, .int .i64 r1.Box.Y.Hi, .bool r1.Box.Y.Unknown, .int .i64 r1.Box.Z.Lo, .int .i64 r1.Box.Z.Hi, .bool r1.Box.Z.Unknown, .int .i64 r1.Flux.Lo, .int .i64 r1.Flux.Hi, .bool r1.Flux.Unknown, .int .i64 r1.When.Lo, .int .i64 r1.When.Hi, .bool r1.When.Unknown, .slice A2 r1.Frames.length c3, .int .i64 r1.Marks] 99 (0, 0))] :: H) []) (n := 14) kr rfl HS17 ?_
 intro W21 HS22
 refine takeGL [0] (n := 14) (fuel := 13) #[true, false, false, false, false, false, false, false, false, false, false, false, false, false] rfl kr kr kr hnp (Sg.g0 (Sx.of [] fL HS22)) ?_
 refine takeGQ 1 [] rfl kr kr kr kr kr kr hnp (Sg.g0 (Sx.of [] fL HS22)) (fun w_ hw_ => by obtain ⟨g_, hl_, hS_⟩ := hw_.st; exact run_loadN (n := 3) rfl Tryz.underlying97 rfl kr (kv (.pointer (some ⟨b11, 13, none⟩))) (cs := [.int .i64 r1.When.Lo, .int .i64 r1.When.Hi, .bool r1.When.Unknown]) rfl (hS_.u1.cells 13 3 _ rfl)) ?_
 refine takeGL [2] (n := 12) (fuel := 11) #[true, true, true, false, false, false, false, false, false, false, false, false, false, false] rfl kr kr kr hnp (Sg.g0 (Sx.of [] fL HS22)) ?_
 refine takeGQ 3 [] rfl kr kr kr kr kr kr hnp (Sg.g0 (Sx.of [] fL HS22)) (fun w_ hw_ => by obtain ⟨g_, hl_, hS_⟩ := hw_.st; exact run_load rfl Tryz.underlying48 rfl (kv (.pointer (some ⟨b15, 1, none⟩))) (hS_.cell 1)) ?_
 refine takeGL [4] (n := 10) (fuel := 9) #[true, true, true, true, true, false, false, false, false, false, false, false, false, false] rfl kr kr kr hnp (Sg.g0 (Sx.of [] fL HS22)) ?_
 refine takeGQ 5 [] rfl kr kr kr kr kr kr hnp (Sg.g0 (Sx.of [] fL HS22)) (fun w_ hw_ => by obtain ⟨g_, hl_, hS_⟩ := hw_.st; exact run_load rfl Tryz.underlying48 rfl (kv (.pointer (some ⟨b15, 2, none⟩))) (hS_.cell 2)) ?_
 refine takeGL [7] (n := 8) (fuel := 7) #[true, true, true, true, true, true, false, true, false, false, false, false, false, false] rfl kr kr kr hnp (Sg.g0 (Sx.of [] fL HS22)) ?_
 refine takeGQ 8 [] rfl kr kr kr kr kr kr hnp (Sg.g0 (Sx.of [] fL HS22)) (fun w_ hw_ => by obtain ⟨g_, hl_, hS_⟩ := hw_.st; exact run_loadN (n := 3) rfl Tryz.underlying95 rfl kr (kv (.pointer (some ⟨b11, 10, none⟩))) (cs := [.int .i64 r1.Flux.Lo, .int .i64 r1.Flux.Hi, .bool r1.Flux.Unknown]) rfl (hS_.u1.cells 10 3 _ rfl)) ?_
 refine takeGL [9] (n := 6) (fuel := 5) #[true, true, true, true, true, true, false, true, true, true, false, false, false, false] rfl kr kr kr hnp (Sg.g0 (Sx.of [] fL HS22)) ?_
 refine takeGQ 10 [] rfl kr kr kr kr kr kr hnp (Sg.g0 (Sx.of [] fL HS22)) (fun w_ hw_ => by obtain ⟨g_, hl_, hS_⟩ := hw_.st; exact run_load rfl Tryz.underlying49 rfl (kv (.pointer (some ⟨b15, 3, none⟩))) (hS_.cell 3)) ?_
 have hq_ := bind_some h; clear h; obtain ⟨vt23, hc24, h⟩ := hq_
 refine takeGE 6 kr rfl kr (does_call (f := 54) (args := #[.agg #[.int .i64 r1.When.Lo, .int .i64 r1.When.Hi, .bool r1.When.Unknown], .int .i64 q5.From, .int .i64 q5.To]) kr (query_between_Tick.calls k r1.When q5.From q5.To HS22 vt23 hc24) ?_)
 rintro _ W27 ⟨f25, rfl, L26, HS28⟩
 refine ⟨_, rfl, ?_⟩
 refine ⟨(Sg.g0 (Sx.of [] L26 HS28)), ?_⟩
 have hq_ := bind_some h; clear h; obtain ⟨vt29, hc30, h⟩ := hq_
 refine takeGE 11 kr rfl kr (does_call (f := 74) (args := #[.agg #[.int .i64 r1.Flux.Lo, .int .i64 r1.Flux.Hi, .bool r1.Flux.Unknown], .int .i64 q5.Least, .int .i64 1125899906842624]) kr (query_between_Quanta.calls k r1.Flux q5.Least 1125899906842624 HS28 vt29 hc30) ?_)
 rintro _ W33 ⟨f31, rfl, L32, HS34⟩
 refine ⟨_, rfl, ?_⟩
 refine ⟨(Sg.g0 (Sx.of [] (L26.trans L32) HS34)), ?_⟩
 refine takeGL [12, 13] (n := 2) (fuel := 0) #[true, true, true, true, true, true, true, true, true, true, true, true, true, true] rfl kr kr kr hnp (Sg.g0 (Sx.of [] (L26.trans L32) HS34)) ?_
 refine doneG kr ?_ _
 refine hK20 _ _ ?_
 refine wp_seq_k (fun K35 hK36 => ?_)
 refine wp_seq_k fun K37 hK38 => rl ?_
 refine seqL1 kr ?_
 refine seqK rfl (does_run (run_load rfl Tryz.underlying3 rfl (kv (.pointer (some ⟨b11, 17, none⟩))) (HS34.u1.cell 17)) ?_)
 refine seqL1 kr ?_
 refine seqK rfl (does_run (run_load rfl Tryz.underlying3 rfl (kv (.pointer (some ⟨b15, 4, none⟩))) (HS34.cell 4)) ?_)
 refine seqL2 kr ?_
 refine nl (hK38 _ _ ?_)
 have hq_ := bind_some h; clear h; obtain ⟨v39, hv47, h⟩ := hq_
 have J48 : ∀ (f41 : FM) (vg46 : Int) (W43 : World) (a_ : Act), FM.le f31 f41 → some (vg46) = some v39 → St t W43 f41 ([(b15, .cells #[.slice A6 q5.Cones.length c7, .int .i64 q5.From, .int .i64 q5.To, .int .i64 q5.Least, .int .i64 q5.Ban] 51 (0, 0))] :: [(b11, .cells #[.int .i64 r1.ID, .int .i64 r1.Box.X.Lo, .int .i64 r1.Box.X.Hi, .bool r1.Box.X.Unknown, .int .i64 r1.Box.Y.Lo, .int .i64 r1.Box.Y.Hi, .bool r1.Box.Y.Unknown, .int .i64 r1.Box.Z.Lo, .int .i64 r1.Box.Z.Hi, .bool r1.Box.Z.Unknown, .int .i64 r1.Flux.Lo, .int .i64 r1.Flux.Hi, .bool r1.Flux.Unknown, .int .i64 r1.When.Lo, .int .i64 r1.When.Hi, .bool r1.When.Unknown, .slice A2 r1.Frames.length c3, .int .i64 r1.Marks] 99 (0, 0))] :: H) → a_ = ⟨#[(ag_Row r1 A2 c3), (ag_Ask q5 A6 c7), pV b11 0, pV b15 0, iV 0, iV vg46, uV, uV, pV b11 13, (ag_Bound r1.When), pV b15 1, iV q5.From, pV b15 2, iV q5.To, iV vt23, pV b11 10, (ag_Bound r1.Flux), pV b15 3, iV q5.Least, iV vt29, iV (mn vt23 vt29), pV b11 17, iV r1.Marks, pV b15 4, iV q5.Ban, iV (Go.bits .and .i64 r1.Marks q5.Ban), .bool ((Go.bits .and .i64 r1.Marks q5.Ban) != 0), uV, uV, uV, uV, uV, uV, uV, uV, uV, uV, uV, uV, uV, uV, uV, uV, uV, uV, uV], []⟩ → K35 a_ W43 := by
  intro f41 vg46 W43 a_ L42 hj49 HS44  hfr_; subst hfr_
  injection hj49 with hj49; subst hj49; try dsimp only at h
  refine hK36 _ _ ?_
  refine wp_seq_k (fun K50 hK51 => ?_)
  refine wp_seq_k fun K52 hK53 => rl ?_
  refine seqL1 kr ?_
  refine seqK rfl (does_run (run_load rfl Tryz.underlying47 rfl (kv (.pointer (some ⟨b15, 0, none⟩))) (HS44.cell 0)) ?_)
  refine seqL2 kr ?_
  refine nl (hK53 _ _ ?_)
  refine blockK (fun B54 hx55 hn56 hr57 ho58 hp59 => ?_)
  have hq_ := bind_some h; clear h; obtain ⟨o60, hv121, h⟩ := hq_
  have J122 : ∀ (f115 : FM) (vg120 : Int) (j119 : Nat → Value) (W117 : World) (a_ : Act), FM.le f41 f115 → some (vg120) = some o60 → St t W117 f115 ([(b15, .cells #[.slice A6 q5.Cones.length c7, .int .i64 q5.From, .int .i64 q5.To, .int .i64 q5.Least, .int .i64 q5.Ban] 51 (0, 0))] :: [(b11, .cells #[.int .i64 r1.ID, .int .i64 r1.Box.X.Lo, .int .i64 r1.Box.X.Hi, .bool r1.Box.X.Unknown, .int .i64 r1.Box.Y.Lo, .int .i64 r1.Box.Y.Hi, .bool r1.Box.Y.Unknown, .int .i64 r1.Box.Z.Lo, .int .i64 r1.Box.Z.Hi, .bool r1.Box.Z.Unknown, .int .i64 r1.Flux.Lo, .int .i64 r1.Flux.Hi, .bool r1.Flux.Unknown, .int .i64 r1.When.Lo, .int .i64 r1.When.Hi, .bool r1.When.Unknown, .slice A2 r1.Frames.length c3, .int .i64 r1.Marks] 99 (0, 0))] :: H) → a_ = ⟨#[(ag_Row r1 A2 c3), (ag_Ask q5 A6 c7), pV b11 0, pV b15 0, iV 0, iV vg120, uV, (j119 0), pV b11 13, (ag_Bound r1.When), pV b15 1, iV q5.From, pV b15 2, iV q5.To, iV vt23, pV b11 10, (ag_Bound r1.Flux), pV b15 3, iV q5.Least, iV vt29, iV (mn vt23 vt29), pV b11 17, iV r1.Marks, pV b15 4, iV q5.Ban, iV (Go.bits .and .i64 r1.Marks q5.Ban), .bool ((Go.bits .and .i64 r1.Marks q5.Ban) != 0), pV b15 0, .slice A6 q5.Cones.length c7, iV (q5.Cones.length : Int), (j119 1), (j119 2), (j119 3), (j119 4), (j119 5), (j119 6), (j119 7), (j119 8), (j119 9), (j119 10), (j119 11), (j119 12), (j119 13), (j119 14), (j119 15), uV], []⟩ → K50 a_ W117 := by
   intro f115 vg120 j119 W117 a_ L116 hj123 HS118  hfr_; subst hfr_
   injection hj123 with hj123; subst hj123; try dsimp only at h
   refine hK51 _ _ ?_
   refine wp_seq_k fun K128 hK129 => rl ?_
   refine seqL2 kr ?_
   refine nl (hK129 _ _ ?_)
   refine wp_ret ?_
   refine hret _ _ ?_
   refine ends_still (v := Value.int .i64 vg120) kr kr ?_
   have HS130 := HS118.drop
   have HS131 := HS130.drop
   injection h with h
   subst h
   exact ⟨f115, rfl, (L26.trans (L32.trans (L42.trans L116))), HS131⟩
  clear h; have h := hv121; clear hv121
  refine loopK (fun n_ a_ w_ => ∃ (f64 : FM) (vg69 : Int) (x70 : Int) (j68 : Nat → Value), FM.le f41 f64 ∧ St t w_ f64 ([(b15, .cells #[.slice A6 q5.Cones.length c7, .int .i64 q5.From, .int .i64 q5.To, .int .i64 q5.Least, .int .i64 q5.Ban] 51 (0, 0))] :: [(b11, .cells #[.int .i64 r1.ID, .int .i64 r1.Box.X.Lo, .int .i64 r1.Box.X.Hi, .bool r1.Box.X.Unknown, .int .i64 r1.Box.Y.Lo, .int .i64 r1.Box.Y.Hi, .bool r1.Box.Y.Unknown, .int .i64 r1.Box.Z.Lo, .int .i64 r1.Box.Z.Hi, .bool r1.Box.Z.Unknown, .int .i64 r1.Flux.Lo, .int .i64 r1.Flux.Hi, .bool r1.Flux.Unknown, .int .i64 r1.When.Lo, .int .i64 r1.When.Hi, .bool r1.When.Unknown, .slice A2 r1.Frames.length c3, .int .i64 r1.Marks] 99 (0, 0))] :: H) ∧ query_grade.l0 k q5 r1 n_ vg69 x70 = some o60 ∧ a_ = ⟨#[(ag_Row r1 A2 c3), (ag_Ask q5 A6 c7), pV b11 0, pV b15 0, iV 0, iV vg69, uV, (j68 0), pV b11 13, (ag_Bound r1.When), pV b15 1, iV q5.From, pV b15 2, iV q5.To, iV vt23, pV b11 10, (ag_Bound r1.Flux), pV b15 3, iV q5.Least, iV vt29, iV (mn vt23 vt29), pV b11 17, iV r1.Marks, pV b15 4, iV q5.Ban, iV (Go.bits .and .i64 r1.Marks q5.Ban), .bool ((Go.bits .and .i64 r1.Marks q5.Ban) != 0), pV b15 0, .slice A6 q5.Cones.length c7, iV (q5.Cones.length : Int), iV x70, (j68 1), (j68 2), (j68 3), (j68 4), (j68 5), (j68 6), (j68 7), (j68 8), (j68 9), (j68 10), (j68 11), (j68 12), (j68 13), (j68 14), uV], []⟩) k ⟨f41, vg46, 0, (jL []), fL, HS44, h, kr⟩ ?_
  clear h
  rintro n63 _ W66 ⟨f64, vg69, x70, j68, L65, HS67, h, rfl⟩ K61 hK62
  obtain _ | n63 := n63
  · exact nomatch h
  simp only [query_grade.l0] at h
  refine wp_seq_k fun K71 hK72 => rl ?_
  refine seqL1 kr ?_
  refine nl (hK72 _ _ ?_)
  refine wp_seq_k (fun K73 hK74 => ?_)
  have hq_ := ite_some h; clear h; rcases hq_ with ⟨c76, h⟩ | ⟨c76, h⟩
  · have c76 : x70 < (q5.Cones.length : Int) := c76
    refine wpRwI 31 kr (decide_eq_true c76) ?_
    refine condT kr ?_
    refine wp_skip ?_
    refine hK74 _ _ ?_
    refine wp_seq_k (fun K77 hK78 => ?_)
    refine blockK (fun B79 hx80 hn81 hr82 ho83 hp84 => ?_)
    refine wp_seq_k fun K86 hK87 => rl ?_
    have hq_ := guard_some h; clear h; obtain ⟨c88, h⟩ := hq_
    have c88 : 0 ≤ x70 := c88
    obtain ⟨b92, of93, cs89, hA94, hr90, hc91⟩ := (HR8.mono (L26.trans (L32.trans (L42.trans L65)))).at (i := x70) c88 c76
    obtain rfl := hr90
    refine seqK rfl (does_run (run_indexE hA94 (sz := 4) rfl Tryz.underlying47 kr (kv (.slice A6 q5.Cones.length c7)) (kv (.int .i64 x70)) c88 c76 W66) ?_)
    refine seqK rfl (does_run (run_loadN (n := 4) rfl Tryz.underlying55 rfl kr (kv (.pointer (some ⟨b92, of93 + (x70 : Int).toNat * 4, none⟩))) (cs := [.int .i64 (((rd q5.Cones x70).At).X), .int .i64 (((rd q5.Cones x70).At).Y), .int .i64 (((rd q5.Cones x70).At).Z), .int .i64 ((rd q5.Cones x70).Cos)]) rfl (fun j_ hj_ => ((hc91 fL HS67) j_ hj_))) ?_)
    refine seqK rfl (does_alloc (z := Value.agg #[.int .i64 0, .int .i64 0, .int .i64 0, .int .i64 0]) (cs := #[.int .i64 0, .int .i64 0, .int .i64 0, .int .i64 0]) rfl kr rfl HS67 ?_)
    intro b95 W96 HS97
    refine seqK rfl (does_storeA (vs := [.int .i64 (((rd q5.Cones x70).At).X), .int .i64 (((rd q5.Cones x70).At).Y), .int .i64 (((rd q5.Cones x70).At).Z), .int .i64 ((rd q5.Cones x70).Cos)]) rfl kr kr kr rfl (ones rfl) HS97 kr ?_)
    intro W99 HS100
    refine nl (hK87 _ _ ?_)
    refine heldG (S := Sg t f64 ([(b95, .cells #[.int .i64 (((rd q5.Cones x70).At).X), .int .i64 (((rd q5.Cones x70).At).Y), .int .i64 (((rd q5.Cones x70).At).Z), .int .i64 ((rd q5.Cones x70).Cos)] 55 (0, 0))] :: [(b15, .cells #[.slice A6 q5.Cones.length c7, .int .i64 q5.From, .int .i64 q5.To, .int .i64 q5.Least, .int .i64 q5.Ban] 51 (0, 0))] :: [(b11, .cells #[.int .i64 r1.ID, .int .i64 r1.Box.X.Lo, .int .i64 r1.Box.X.Hi, .bool r1.Box.X.Unknown, .int .i64 r1.Box.Y.Lo, .int .i64 r1.Box.Y.Hi, .bool r1.Box.Y.Unknown, .int .i64 r1.Box.Z.Lo, .int .i64 r1.Box.Z.Hi, .bool r1.Box.Z.Unknown, .int .i64 r1.Flux.Lo, .int .i64 r1.Flux.Hi, .bool r1.Flux.Unknown, .int .i64 r1.When.Lo, .int .i64 r1.When.Hi, .bool r1.When.Unknown, .slice A2 r1.Frames.length c3, .int .i64 r1.Marks] 99 (0, 0))] :: H) []) (n := 11) kr rfl HS100 ?_
    intro W101 HS102
    refine takeGL [0, 1] (n := 11) (fuel := 9) #[true, true, false, false, false, false, false, false, false, false, false] rfl kr kr kr (fun ch_ a_ w_ q_ => (fun ch_ a_ w_ q_ => hnp ch_ a_ w_ (hp59 ch_ a_ w_ q_)) ch_ a_ w_ (hp84 ch_ a_ w_ q_)) (Sg.g0 (Sx.of [] fL HS102)) ?_
    refine takeGQ 2 [] rfl kr kr kr kr kr kr (fun ch_ a_ w_ q_ => (fun ch_ a_ w_ q_ => hnp ch_ a_ w_ (hp59 ch_ a_ w_ q_)) ch_ a_ w_ (hp84 ch_ a_ w_ q_)) (Sg.g0 (Sx.of [] fL HS102)) (fun w_ hw_ => by obtain ⟨g_, hl_, hS_⟩ := hw_.st; exact run_loadN (n := 9) rfl Tryz.underlying31 rfl kr (kv (.pointer (some ⟨b11, 1, none⟩))) (cs := [.int .i64 r1.Box.X.Lo, .int .i64 r1.Box.X.Hi, .bool r1.Box.X.Unknown, .int .i64 r1.Box.Y.Lo, .int .i64 r1.Box.Y.Hi, .bool r1.Box.Y.Unknown, .int .i64 r1.Box.Z.Lo, .int .i64 r1.Box.Z.Hi, .bool r1.Box.Z.Unknown]) rfl (hS_.u2.cells 1 9 _ rfl)) ?_
    refine takeGL [3] (n := 8) (fuel := 7) #[true, true, true, true, false, false, false, false, false, false, false] rfl kr kr kr (fun ch_ a_ w_ q_ => (fun ch_ a_ w_ q_ => hnp ch_ a_ w_ (hp59 ch_ a_ w_ q_)) ch_ a_ w_ (hp84 ch_ a_ w_ q_)) (Sg.g0 (Sx.of [] fL HS102)) ?_
    refine takeGQ 4 [] rfl kr kr kr kr kr kr (fun ch_ a_ w_ q_ => (fun ch_ a_ w_ q_ => hnp ch_ a_ w_ (hp59 ch_ a_ w_ q_)) ch_ a_ w_ (hp84 ch_ a_ w_ q_)) (Sg.g0 (Sx.of [] fL HS102)) (fun w_ hw_ => by obtain ⟨g_, hl_, hS_⟩ := hw_.st; exact run_loadN (n := 3) rfl Tryz.underlying39 rfl kr (kv (.pointer (some ⟨b95, 0, none⟩))) (cs := [.int .i64 (((rd q5.Cones x70).At).X), .int .i64 (((rd q5.Cones x70).At).Y), .int .i64 (((rd q5.Cones x70).At).Z)]) rfl (hS_.cells 0 3 _ rfl)) ?_
    refine takeGL [6] (n := 6) (fuel := 5) #[true, true, true, true, true, false, true, false, false, false, false] rfl kr kr kr (fun ch_ a_ w_ q_ => (fun ch_ a_ w_ q_ => hnp ch_ a_ w_ (hp59 ch_ a_ w_ q_)) ch_ a_ w_ (hp84 ch_ a_ w_ q_)) (Sg.g0 (Sx.of [] fL HS102)) ?_
    refine takeGQ 7 [] rfl kr kr kr kr kr kr (fun ch_ a_ w_ q_ => (fun ch_ a_ w_ q_ => hnp ch_ a_ w_ (hp59 ch_ a_ w_ q_)) ch_ a_ w_ (hp84 ch_ a_ w_ q_)) (Sg.g0 (Sx.of [] fL HS102)) (fun w_ hw_ => by obtain ⟨g_, hl_, hS_⟩ := hw_.st; exact run_load rfl Tryz.underlying23 rfl (kv (.pointer (some ⟨b95, 3, none⟩))) (hS_.cell 3)) ?_
    have hq_ := bind_some h; clear h; obtain ⟨vt103, hc104, h⟩ := hq_
    refine takeGE 5 kr rfl kr (does_call (f := 55) (args := #[.agg #[.int .i64 (((rd q5.Cones x70).At).X), .int .i64 (((rd q5.Cones x70).At).Y), .int .i64 (((rd q5.Cones x70).At).Z)]]) kr (query_point.calls k ((rd q5.Cones x70).At) HS102 vt103 hc104) ?_)
    rintro _ W107 ⟨f105, rfl, L106, HS108⟩
    refine ⟨_, rfl, ?_⟩
    refine ⟨(Sg.g0 (Sx.of [] L106 HS108)), ?_⟩
    have hq_ := bind_some h; clear h; obtain ⟨vt109, hc110, h⟩ := hq_
    refine takeGE 8 kr rfl kr (does_call (f := 10) (args := #[.agg #[.int .i64 r1.Box.X.Lo, .int .i64 r1.Box.X.Hi, .bool r1.Box.X.Unknown, .int .i64 r1.Box.Y.Lo, .int .i64 r1.Box.Y.Hi, .bool r1.Box.Y.Unknown, .int .i64 r1.Box.Z.Lo, .int .i64 r1.Box.Z.Hi, .bool r1.Box.Z.Unknown], .agg #[.int .i64 vt103.X.Lo, .int .i64 vt103.X.Hi, .bool vt103.X.Unknown, .int .i64 vt103.Y.Lo, .int .i64 vt103.Y.Hi, .bool vt103.Y.Unknown, .int .i64 vt103.Z.Lo, .int .i64 vt103.Z.Hi, .bool vt103.Z.Unknown], .int .i64 ((rd q5.Cones x70).Cos)]) kr (query_Near.calls k r1.Box vt103 ((rd q5.Cones x70).Cos) HS108 vt109 hc110) ?_)
    rintro _ W113 ⟨f111, rfl, L112, HS114⟩
    refine ⟨_, rfl, ?_⟩
    refine ⟨(Sg.g0 (Sx.of [] (L106.trans L112) HS114)), ?_⟩
    refine takeGL [9, 10] (n := 2) (fuel := 0) #[true, true, true, true, true, true, true, true, true, true, true] rfl kr kr kr (fun ch_ a_ w_ q_ => (fun ch_ a_ w_ q_ => hnp ch_ a_ w_ (hp59 ch_ a_ w_ q_)) ch_ a_ w_ (hp84 ch_ a_ w_ q_)) (Sg.g0 (Sx.of [] (L106.trans L112) HS114)) ?_
    refine doneG kr ?_ _
    refine hn81 _ _ ?_
    refine hK78 _ _ ?_
    refine rl ?_
    refine seqL2 kr ?_
    refine nl ?_
    refine hK62 n63 _ _ (Nat.lt_succ_self _) ?_
    have HS126 := HS114.u2.u2.u2
    have HS127 := HS126.drop
    exact ⟨f111, (mn vg69 vt109), (w64 (x70 + 1)), (jL [.pointer (some ⟨b95, 0, none⟩), tV, .pointer (some ⟨b92, of93 + (x70 : Int).toNat * 4, none⟩), (ag_Cone (rd q5.Cones x70)), iV vg69, .pointer (some ⟨b11, 1, none⟩), (ag_Box r1.Box), .pointer (some ⟨b95, 0, none⟩), (ag_Vec ((rd q5.Cones x70).At)), (ag_Box vt103), .pointer (some ⟨b95, 3, none⟩), iV ((rd q5.Cones x70).Cos), iV vt109, iV (mn vg69 vt109), iV (w64 (x70 + 1))]), (L65.trans (L106.trans L112)), HS127, h, kr⟩
  · have c76 : ¬ (x70 < (q5.Cones.length : Int)) := c76
    refine wpRwI 31 kr (decide_eq_false c76) ?_
    refine condF kr ?_
    refine wp_exit ?_
    refine hx55 _ _ ?_
    exact J122 f64 vg69 (jL [(j68 0), iV x70, fV, (j68 2), (j68 3), (j68 4), (j68 5), (j68 6), (j68 7), (j68 8), (j68 9), (j68 10), (j68 11), (j68 12), (j68 13), (j68 14)]) W66 _ L65 h HS67 kr
 clear h; have h := hv47; clear hv47
 have hq_ := ite_some h; clear h; rcases hq_ with ⟨c40, h⟩ | ⟨c40, h⟩
 · have c40 : (Go.bits .and .i64 r1.Marks q5.Ban) ≠ 0 := c40
   refine wpRwI 26 kr (bne_iff_ne.mpr c40) ?_
   refine condT kr ?_
   refine rl ?_
   refine seqL1 kr ?_
   refine nl ?_
   refine fnRwI (F := K35) 26 (x := true) (v := ((Go.bits .and .i64 r1.Marks q5.Ban) != 0)) kr (Eq.symm (bne_iff_ne.mpr c40)) ?_
   exact J48 f31 0 W33 _ fL h HS34 kr
 · have c40 : ¬ ((Go.bits .and .i64 r1.Marks q5.Ban) ≠ 0) := c40
   refine wpRwI 26 (x := ((Go.bits .and .i64 r1.Marks q5.Ban) != 0)) (v := false) kr (bne_eq_false_iff_eq.mpr (Decidable.of_not_not c40)) ?_
   refine condF kr ?_
   refine wp_skip ?_
   refine fnRwI (F := K35) 26 (x := false) (v := ((Go.bits .and .i64 r1.Marks q5.Ban) != 0)) kr (Eq.symm (bne_eq_false_iff_eq.mpr (Decidable.of_not_not c40))) ?_
   exact J48 f31 (mn vt23 vt29) W33 _ fL h HS34 kr

set_option maxRecDepth 100000 in
set_option maxHeartbeats 4000000 in
theorem query_Index_Run_1.calls (k : Nat) (b1 : Nat) (b3 : Nat) (A10 : Option Addr) (c11 : Nat) (A13 : Option Addr) (c14 : Nat) (A16 : Option Addr) (c17 : Nat) (b5 : Nat) (A20 : Option Addr) (c21 : Nat) (b7 : Nat) (A24 : Option Addr) (c25 : Nat) (s26 : Seg) (v9 : S_Index) (v19 : S_Ask) (v23 : List S_Answer) (i29 : Int) {t w : World} {f : FM} {H : List Seg} (HS : St t w f ([(b1, .cells #[.pointer (some ⟨b3, 0, none⟩)] 66 (0, 0))] :: [(b3, .cells #[.slice A10 v9.rows.length c11, .int .i64 v9.level, .slice A13 v9.roots.length c14, .slice A16 v9.loose.length c17] 109 (0, 0))] :: [(b5, .cells #[.slice A20 v19.Cones.length c21, .int .i64 v19.From, .int .i64 v19.To, .int .i64 v19.Least, .int .i64 v19.Ban] 51 (0, 0))] :: [(b7, .cells #[.slice A24 v23.length c25] 57 (0, 0))] :: s26 :: H)) (HR12 : SlR ty_Row f A10 c11 v9.rows) (HR15 : SlR tNone f A13 c14 v9.roots) (HR18 : SlR (tInt .i64) f A16 c17 v9.loose) (HR22 : SlR ty_Cone f A20 c21 v19.Cones) (HO27 : Own ty_Answer 62 f A24 c25 s26 v23) (rr1 : List S_Answer) (h : query_Index_Run_1 k v9 v19 v23 i29 = some rr1) :
    Calls Tryz.prog 51 #[.int .i64 i29, .pointer (some ⟨b1, 0, none⟩), .pointer (some ⟨b5, 0, none⟩), .pointer (some ⟨b7, 0, none⟩)] w (fun e w' => ∃ (g : FM) (A87 : Option Addr) (c88 : Nat) (s89 : Seg), e = .returned (Value.tuple #[]) ∧ FM.le f g ∧ St t w' g (s89 :: [(b1, .cells #[.pointer (some ⟨b3, 0, none⟩)] 66 (0, 0))] :: [(b3, .cells #[.slice A10 v9.rows.length c11, .int .i64 v9.level, .slice A13 v9.roots.length c14, .slice A16 v9.loose.length c17] 109 (0, 0))] :: [(b5, .cells #[.slice A20 v19.Cones.length c21, .int .i64 v19.From, .int .i64 v19.To, .int .i64 v19.Least, .int .i64 v19.Ban] 51 (0, 0))] :: [(b7, .cells #[.slice A87 rr1.length c88] 57 (0, 0))] :: H) ∧ Own ty_Answer 62 g A87 c88 s89 rr1) := by
 unfold query_Index_Run_1 at h
 refine enter Tryz.func51 rfl (tm := #[iV i29, pV b1 0, pV b5 0, pV b7 0, uV, uV, uV, uV, uV, uV, uV, uV, uV, uV, uV, uV, uV, uV, uV, uV, uV, uV, uV, uV, uV, uV, uV, uV, uV, uV]) kr ?_
 intro B hret hnor hnp
 refine wp_seq_k (fun K30 hK31 => ?_)
 refine heldG (S := Sg t f ([(b1, .cells #[.pointer (some ⟨b3, 0, none⟩)] 66 (0, 0))] :: [(b3, .cells #[.slice A10 v9.rows.length c11, .int .i64 v9.level, .slice A13 v9.roots.length c14, .slice A16 v9.loose.length c17] 109 (0, 0))] :: [(b5, .cells #[.slice A20 v19.Cones.length c21, .int .i64 v19.From, .int .i64 v19.To, .int .i64 v19.Least, .int .i64 v19.Ban] 51 (0, 0))] :: [(b7, .cells #[.slice A24 v23.length c25] 57 (0, 0))] :: s26 :: H) []) (n := 10) kr rfl HS ?_
 intro W32 HS33
 refine takeGQ 0 [] rfl kr kr kr kr kr kr hnp (Sg.g0 (Sx.of [] fL HS33)) (fun w_ hw_ => by obtain ⟨g_, hl_, hS_⟩ := hw_.st; exact run_load rfl Tryz.underlying66 rfl (kv (.pointer (some ⟨b1, 0, none⟩))) (hS_.cell 0)) ?_
 refine takeGL [1, 2] (n := 9) (fuel := 7) #[true, true, true, false, false, false, false, false, false, false] rfl kr kr kr hnp (Sg.g0 (Sx.of [] fL HS33)) ?_
 refine takeGQ 3 [] rfl kr kr kr kr kr kr hnp (Sg.g0 (Sx.of [] fL HS33)) (fun w_ hw_ => by obtain ⟨g_, hl_, hS_⟩ := hw_.st; exact run_load rfl Tryz.underlying45 rfl (kv (.pointer (some ⟨b3, 0, none⟩))) (hS_.u1.cell 0)) ?_
 have hq_ := guard_some h; clear h; obtain ⟨c34, h⟩ := hq_
 have c34 : 0 ≤ i29 := c34
 have hq_ := guard_some h; clear h; obtain ⟨c35, h⟩ := hq_
 have c35 : i29 < (v9.rows.length : Int) := c35
 obtain ⟨b39, of40, cs36, hA41, hr37, hc38⟩ := HR12.at (i := i29) c34 c35
 obtain ⟨A42, c42, rfl, HR42⟩ := hr37
 refine takeGL [4] (n := 6) (fuel := 5) #[true, true, true, true, true, false, false, false, false, false] rfl kr kr kr hnp (Sg.g0 (Sx.of [] fL HS33)) ?_
 refine takeGQ 5 [] rfl kr kr kr kr kr kr hnp (Sg.g0 (Sx.of [] fL HS33)) (fun w_ hw_ => by obtain ⟨g_, hl_, hS_⟩ := hw_.st; exact run_indexE hA41 (sz := 18) rfl Tryz.underlying45 kr (kv (.slice A10 v9.rows.length c11)) (kv (.int .i64 i29)) c34 c35 w_) ?_
 refine takeGQ 6 [] rfl kr kr kr kr kr kr hnp (Sg.g0 (Sx.of [] fL HS33)) (fun w_ hw_ => by obtain ⟨g_, hl_, hS_⟩ := hw_.st; exact run_loadN (n := 18) rfl Tryz.underlying99 rfl kr (kv (.pointer (some ⟨b39, of40 + (i29 : Int).toNat * 18, none⟩))) (cs := [.int .i64 ((rd v9.rows i29).ID), .int .i64 ((((rd v9.rows i29).Box).X).Lo), .int .i64 ((((rd v9.rows i29).Box).X).Hi), .bool ((((rd v9.rows i29).Box).X).Unknown), .int .i64 ((((rd v9.rows i29).Box).Y).Lo), .int .i64 ((((rd v9.rows i29).Box).Y).Hi), .bool ((((rd v9.rows i29).Box).Y).Unknown), .int .i64 ((((rd v9.rows i29).Box).Z).Lo), .int .i64 ((((rd v9.rows i29).Box).Z).Hi), .bool ((((rd v9.rows i29).Box).Z).Unknown), .int .i64 (((rd v9.rows i29).Flux).Lo), .int .i64 (((rd v9.rows i29).Flux).Hi), .bool (((rd v9.rows i29).Flux).Unknown), .int .i64 (((rd v9.rows i29).When).Lo), .int .i64 (((rd v9.rows i29).When).Hi), .bool (((rd v9.rows i29).When).Unknown), .slice A42 ((rd v9.rows i29).Frames).length c42, .int .i64 ((rd v9.rows i29).Marks)]) rfl (fun j_ hj_ => ((hc38 hl_ hS_) j_ hj_))) ?_
 refine takeGQ 7 [] rfl kr kr kr kr kr kr hnp (Sg.g0 (Sx.of [] fL HS33)) (fun w_ hw_ => by obtain ⟨g_, hl_, hS_⟩ := hw_.st; exact run_loadN (n := 5) rfl Tryz.underlying51 rfl kr (kv (.pointer (some ⟨b5, 0, none⟩))) (cs := [.slice A20 v19.Cones.length c21, .int .i64 v19.From, .int .i64 v19.To, .int .i64 v19.Least, .int .i64 v19.Ban]) rfl (hS_.u2.cells 0 5 _ rfl)) ?_
 have hq_ := bind_some h; clear h; obtain ⟨vt43, hc44, h⟩ := hq_
 refine takeGE 8 kr rfl kr (does_call (f := 44) (args := #[.agg #[.int .i64 ((rd v9.rows i29).ID), .int .i64 ((((rd v9.rows i29).Box).X).Lo), .int .i64 ((((rd v9.rows i29).Box).X).Hi), .bool ((((rd v9.rows i29).Box).X).Unknown), .int .i64 ((((rd v9.rows i29).Box).Y).Lo), .int .i64 ((((rd v9.rows i29).Box).Y).Hi), .bool ((((rd v9.rows i29).Box).Y).Unknown), .int .i64 ((((rd v9.rows i29).Box).Z).Lo), .int .i64 ((((rd v9.rows i29).Box).Z).Hi), .bool ((((rd v9.rows i29).Box).Z).Unknown), .int .i64 (((rd v9.rows i29).Flux).Lo), .int .i64 (((rd v9.rows i29).Flux).Hi), .bool (((rd v9.rows i29).Flux).Unknown), .int .i64 (((rd v9.rows i29).When).Lo), .int .i64 (((rd v9.rows i29).When).Hi), .bool (((rd v9.rows i29).When).Unknown), .slice A42 ((rd v9.rows i29).Frames).length c42, .int .i64 ((rd v9.rows i29).Marks)], .agg #[.slice A20 v19.Cones.length c21, .int .i64 v19.From, .int .i64 v19.To, .int .i64 v19.Least, .int .i64 v19.Ban]]) kr (query_grade.calls k A42 c42 A20 c21 (rd v9.rows i29) v19 HS33 HR42 HR22 vt43 hc44) ?_)
 rintro _ W47 ⟨f45, rfl, L46, HS48⟩
 refine ⟨_, rfl, ?_⟩
 refine ⟨(Sg.g0 (Sx.of [] L46 HS48)), ?_⟩
 refine takeGL [9] (n := 1) (fuel := 0) #[true, true, true, true, true, true, true, true, true, true] rfl kr kr kr hnp (Sg.g0 (Sx.of [] L46 HS48)) ?_
 refine doneG kr ?_ _
 refine hK31 _ _ ?_
 refine wp_seq_k fun K49 hK50 => rl ?_
 refine seqL2 kr ?_
 refine nl (hK50 _ _ ?_)
 have hq_ := ite_some h; clear h; rcases hq_ with ⟨c52, h⟩ | ⟨c52, h⟩
 · have c52 : vt43 ≠ 0 := c52
   refine wpRwI 16 kr (bne_iff_ne.mpr c52) ?_
   refine condT kr ?_
   have HS57 := HS48.u2.u2.u2.u4.u4
   refine heldG (S := Sg t f45 ([(b1, .cells #[.pointer (some ⟨b3, 0, none⟩)] 66 (0, 0))] :: [(b3, .cells #[.slice A10 v9.rows.length c11, .int .i64 v9.level, .slice A13 v9.roots.length c14, .slice A16 v9.loose.length c17] 109 (0, 0))] :: [(b5, .cells #[.slice A20 v19.Cones.length c21, .int .i64 v19.From, .int .i64 v19.To, .int .i64 v19.Least, .int .i64 v19.Ban] 51 (0, 0))] :: H) [(12, [(b7, .cells #[.slice A24 v23.length c25] 57 (0, 0))]), (12, s26)]) (n := 14) kr rfl HS57 ?_
   intro W58 HS59
   refine takeGQ 0 [12] rfl kr kr kr kr kr kr hnp (Sg.g2 (Sx.of [[(b7, .cells #[.slice A24 v23.length c25] 57 (0, 0))], s26] fL HS59) (fun _ => St.only [] HS59 fL) (fun _ => St.only [[(b7, .cells #[.slice A24 v23.length c25] 57 (0, 0))]] HS59 fL)) (fun w_ hw_ => by obtain ⟨g_, hl_, hS_⟩ := hw_.seg (j := 12) (s := [(b7, .cells #[.slice A24 v23.length c25] 57 (0, 0))]) (by simp) (by simp); exact run_load rfl Tryz.underlying57 rfl (kv (.pointer (some ⟨b7, 0, none⟩))) (hS_.cell 0)) ?_
   refine takeGQ 1 [] rfl kr kr kr kr kr kr hnp (Sg.g2 (Sx.of [[(b7, .cells #[.slice A24 v23.length c25] 57 (0, 0))], s26] fL HS59) (fun _ => St.only [] HS59 fL) (fun _ => St.only [[(b7, .cells #[.slice A24 v23.length c25] 57 (0, 0))]] HS59 fL)) (fun w_ hw_ => by obtain ⟨g_, hl_, hS_⟩ := hw_.st; exact run_load rfl Tryz.underlying66 rfl (kv (.pointer (some ⟨b1, 0, none⟩))) (hS_.cell 0)) ?_
   refine takeGL [2, 3] (n := 12) (fuel := 10) #[true, true, true, true, false, false, false, false, false, false, false, false, false, false] rfl kr kr kr hnp (Sg.g2 (Sx.of [[(b7, .cells #[.slice A24 v23.length c25] 57 (0, 0))], s26] fL HS59) (fun _ => St.only [] HS59 fL) (fun _ => St.only [[(b7, .cells #[.slice A24 v23.length c25] 57 (0, 0))]] HS59 fL)) ?_
   refine takeGQ 4 [] rfl kr kr kr kr kr kr hnp (Sg.g2 (Sx.of [[(b7, .cells #[.slice A24 v23.length c25] 57 (0, 0))], s26] fL HS59) (fun _ => St.only [] HS59 fL) (fun _ => St.only [[(b7, .cells #[.slice A24 v23.length c25] 57 (0, 0))]] HS59 fL)) (fun w_ hw_ => by obtain ⟨g_, hl_, hS_⟩ := hw_.st; exact run_load rfl Tryz.underlying45 rfl (kv (.pointer (some ⟨b3, 0, none⟩))) (hS_.u1.cell 0)) ?_
   refine takeGL [5] (n := 9) (fuel := 8) #[true, true, true, true, true, true, false, false, false, false, false, false, false, false] rfl kr kr kr hnp (Sg.g2 (Sx.of [[(b7, .cells #[.slice A24 v23.length c25] 57 (0, 0))], s26] fL HS59) (fun _ => St.only [] HS59 fL) (fun _ => St.only [[(b7, .cells #[.slice A24 v23.length c25] 57 (0, 0))]] HS59 fL)) ?_
   refine takeGQ 6 [] rfl kr kr kr kr kr kr hnp (Sg.g2 (Sx.of [[(b7, .cells #[.slice A24 v23.length c25] 57 (0, 0))], s26] fL HS59) (fun _ => St.only [] HS59 fL) (fun _ => St.only [[(b7, .cells #[.slice A24 v23.length c25] 57 (0, 0))]] HS59 fL)) (fun w_ hw_ => by obtain ⟨g_, hl_, hS_⟩ := hw_.st; exact run_indexE hA41 (sz := 18) rfl Tryz.underlying45 kr (kv (.slice A10 v9.rows.length c11)) (kv (.int .i64 i29)) c34 c35 w_) ?_
   refine takeGL [7] (n := 7) (fuel := 6) #[true, true, true, true, true, true, true, true, false, false, false, false, false, false] rfl kr kr kr hnp (Sg.g2 (Sx.of [[(b7, .cells #[.slice A24 v23.length c25] 57 (0, 0))], s26] fL HS59) (fun _ => St.only [] HS59 fL) (fun _ => St.only [[(b7, .cells #[.slice A24 v23.length c25] 57 (0, 0))]] HS59 fL)) ?_
   refine takeGQ 8 [] rfl kr kr kr kr kr kr hnp (Sg.g2 (Sx.of [[(b7, .cells #[.slice A24 v23.length c25] 57 (0, 0))], s26] fL HS59) (fun _ => St.only [] HS59 fL) (fun _ => St.only [[(b7, .cells #[.slice A24 v23.length c25] 57 (0, 0))]] HS59 fL)) (fun w_ hw_ => by obtain ⟨g_, hl_, hS_⟩ := hw_.st; exact run_load rfl Tryz.underlying3 rfl (kv (.pointer (some ⟨b39, of40 + (i29 : Int).toNat * 18, none⟩))) ((hc38 (L46.trans hl_) hS_) 0 (by decide))) ?_
   refine takeGL [9, 10] (n := 5) (fuel := 3) #[true, true, true, true, true, true, true, true, true, true, true, false, false, false] rfl kr kr kr hnp (Sg.g2 (Sx.of [[(b7, .cells #[.slice A24 v23.length c25] 57 (0, 0))], s26] fL HS59) (fun _ => St.only [] HS59 fL) (fun _ => St.only [[(b7, .cells #[.slice A24 v23.length c25] 57 (0, 0))]] HS59 fL)) ?_
   refine takeGE 11 kr rfl kr (does_lit (e := ty_Answer) (E := 62) (vs := #[(0, Value.agg #[.int .i64 ((rd v9.rows i29).ID), .int .i64 vt43])]) (cs := #[.int .i64 ((rd v9.rows i29).ID), .int .i64 vt43]) (xs := ([(⟨(rd v9.rows i29).ID, vt43⟩ : S_Answer)] : List S_Answer)) rfl Tryz.underlying57 kr kr ⟨[.int .i64 ((rd v9.rows i29).ID), .int .i64 vt43], _, rfl, rfl, rfl⟩ rfl HS59 ?_ (by decide))
   intro b60 W61 s62 HS63 _ HO64
   refine ⟨(Sg.g2 (Sx.of [s62, [(b7, .cells #[.slice A24 v23.length c25] 57 (0, 0))], s26] fL HS63) (fun _ => St.only [s62] HS63 fL) (fun _ => St.only [s62, [(b7, .cells #[.slice A24 v23.length c25] 57 (0, 0))]] HS63 fL)), ?_⟩
   have hq_ := guard_some h; clear h; obtain ⟨c66, h⟩ := hq_
   have c66 : (v23.length + 1) * 16 ≤ 140737488355328 := c66
   have HS68 := HS63.u2.u1
   refine takeGE 12 kr rfl kr (does_append1 (e := ty_Answer) (E := 62) (xs := v23) (ys := ([(⟨(rd v9.rows i29).ID, vt43⟩ : S_Answer)] : List S_Answer)) rfl (kv (.slice A24 v23.length c25)) (kv (.slice (some ⟨b60, 0, none⟩) ([(⟨(rd v9.rows i29).ID, vt43⟩ : S_Answer)] : List S_Answer).length 1)) Tryz.underlying57 inf62 (HO27.mono L46) HO64 HS68 c66 (lim63 c66 (by decide)) ?_)
   intro A69 c70 s71 W72 HS73 HO74
   refine ⟨(Sg.g2 (Sx.of [s71, [(b7, .cells #[.slice A24 v23.length c25] 57 (0, 0))]] fL HS73) (fun hl_ => Bool.noConfusion (show true = false from hl_)) (fun hl_ => Bool.noConfusion (show true = false from hl_))), ?_⟩
   have HS75 := HS73.u1
   refine takeGE 13 kr rfl kr (does_store (n := 1) (vs := [.slice A69 (v23 ++ ([(⟨(rd v9.rows i29).ID, vt43⟩ : S_Answer)] : List S_Answer)).length c70]) (cs' := #[.slice A69 (v23 ++ ([(⟨(rd v9.rows i29).ID, vt43⟩ : S_Answer)] : List S_Answer)).length c70]) rfl kr (kv (.pointer (some ⟨b7, 0, none⟩))) (kv (.slice A69 (v23 ++ ([(⟨(rd v9.rows i29).ID, vt43⟩ : S_Answer)] : List S_Answer)).length c70)) rfl rfl (ones rfl) HS75 (Nat.le_of_ble_eq_true rfl) kr ?_)
   intro W76 HS77
   refine ⟨(Sg.g2 (Sx.of [[(b7, .cells #[.slice A69 (v23 ++ ([(⟨(rd v9.rows i29).ID, vt43⟩ : S_Answer)] : List S_Answer)).length c70] 57 (0, 0))], s71] fL HS77) (fun hl_ => Bool.noConfusion (show true = false from hl_)) (fun hl_ => Bool.noConfusion (show true = false from hl_))), ?_⟩
   refine doneG kr ?_ _
   refine hnor _ _ ?_
   refine ends_still (v := Value.tuple #[]) kr kr ?_
   have HS81 := HS77.u4.u4.u4.u4
   injection h with h
   subst h
   exact ⟨f45, A69, c70, s71, rfl, L46, HS81, HO74⟩
 · have c52 : ¬ (vt43 ≠ 0) := c52
   refine wpRwI 16 (x := (vt43 != 0)) (v := false) kr (bne_eq_false_iff_eq.mpr (Decidable.of_not_not c52)) ?_
   refine condF kr ?_
   refine wp_skip ?_
   refine hnor _ _ ?_
   refine ends_still (v := Value.tuple #[]) kr kr ?_
   have HS86 := HS48.u3.u3.u3.u3.u4
   injection h with h
   subst h
   exact ⟨f45, A24, c25, s26, rfl, L46, HS86, (HO27.mono L46)⟩

set_option maxRecDepth 100000 in
set_option maxHeartbeats 4000000 in
theorem query_walk__query_Index_Run_2__query_Index_Run_1.calls (k : Nat) (b1 : Nat) (A10 : Option Addr) (c11 : Nat) (b3 : Nat) (b5 : Nat) (A14 : Option Addr) (c15 : Nat) (A17 : Option Addr) (c18 : Nat) (A20 : Option Addr) (c21 : Nat) (b7 : Nat) (A24 : Option Addr) (c25 : Nat) (s26 : Seg) (A30 : Option Addr) (c31 : Nat) (v9 : S_Ask) (v13 : S_Index) (v23 : List S_Answer) (l29 : List Unit) {t w : World} {f : FM} {H : List Seg} (HS : St t w f ([(b1, .cells #[.slice A10 v9.Cones.length c11, .int .i64 v9.From, .int .i64 v9.To, .int .i64 v9.Least, .int .i64 v9.Ban] 51 (0, 0))] :: [(b3, .cells #[.pointer (some ⟨b5, 0, none⟩)] 66 (0, 0))] :: [(b5, .cells #[.slice A14 v13.rows.length c15, .int .i64 v13.level, .slice A17 v13.roots.length c18, .slice A20 v13.loose.length c21] 109 (0, 0))] :: [(b7, .cells #[.slice A24 v23.length c25] 57 (0, 0))] :: s26 :: H)) (HR12 : SlR ty_Cone f A10 c11 v9.Cones) (HR16 : SlR ty_Row f A14 c15 v13.rows) (HR19 : SlR tNone f A17 c18 v13.roots) (HR22 : SlR (tInt .i64) f A20 c21 v13.loose) (HO27 : Own ty_Answer 62 f A24 c25 s26 v23) (HR32 : SlR tNone f A30 c31 l29) (rr1 : Int) (rr2 : List S_Answer) (h : query_walk__query_Index_Run_2__query_Index_Run_1 k v9 v13 v23 l29 = some (rr1, rr2)) :
    Calls Tryz.prog 52 #[.slice A30 l29.length c31, .func (.func 53) #[] #[.pointer (some ⟨b1, 0, none⟩)], .func (.func 51) #[] #[.pointer (some ⟨b3, 0, none⟩), .pointer (some ⟨b1, 0, none⟩), .pointer (some ⟨b7, 0, none⟩)]] w (fun e w' => ∃ (g : FM) (A91 : Option Addr) (c92 : Nat) (s93 : Seg), e = .returned (Value.int .i64 rr1) ∧ FM.le f g ∧ St t w' g (s93 :: [(b1, .cells #[.slice A10 v9.Cones.length c11, .int .i64 v9.From, .int .i64 v9.To, .int .i64 v9.Least, .int .i64 v9.Ban] 51 (0, 0))] :: [(b3, .cells #[.pointer (some ⟨b5, 0, none⟩)] 66 (0, 0))] :: [(b5, .cells #[.slice A14 v13.rows.length c15, .int .i64 v13.level, .slice A17 v13.roots.length c18, .slice A20 v13.loose.length c21] 109 (0, 0))] :: [(b7, .cells #[.slice A91 rr2.length c92] 57 (0, 0))] :: H) ∧ Own ty_Answer 62 g A91 c92 s93 rr2) := by
 unfold query_walk__query_Index_Run_2__query_Index_Run_1 at h
 refine enter Tryz.func52 rfl (tm := #[.slice A30 l29.length c31, .func (.func 53) #[] #[pV b1 0], .func (.func 51) #[] #[pV b3 0, pV b1 0, pV b7 0], uV, uV, uV, uV, uV, uV, uV, uV, uV, uV, uV, uV, uV, uV, uV, uV, uV, uV, uV, uV, uV, uV, uV, uV, uV, uV, uV, uV, uV, uV, uV, uV, uV, uV, uV, uV, uV, uV, uV, uV, uV, uV, uV, uV, uV, uV, uV, uV, uV, uV, uV]) kr ?_
 intro B hret hnor hnp
 refine wp_seq_k fun K33 hK34 => rl ?_
 refine seqL1 kr ?_
 refine nl (hK34 _ _ ?_)
 refine wp_seq_k fun K35 hK36 => rl ?_
 refine seqL3 kr ?_
 refine nl (hK36 _ _ ?_)
 refine wp_seq_k (fun K37 hK38 => ?_)
 refine wp_seq_k fun K39 hK40 => rl ?_
 refine seqL3 kr ?_
 refine nl (hK40 _ _ ?_)
 refine blockK (fun B41 hx42 hn43 hr44 ho45 hp46 => ?_)
 have hq_ := bind_some h; clear h; obtain ⟨o47, hv81, h⟩ := hq_
 have J82 : ∀ (f75 : FM) (cost80 : Int) (j79 : Nat → Value) (W77 : World) (a_ : Act), FM.le f f75 → some (cost80) = some o47 → St t W77 f75 ([(b1, .cells #[.slice A10 v9.Cones.length c11, .int .i64 v9.From, .int .i64 v9.To, .int .i64 v9.Least, .int .i64 v9.Ban] 51 (0, 0))] :: [(b3, .cells #[.pointer (some ⟨b5, 0, none⟩)] 66 (0, 0))] :: [(b5, .cells #[.slice A14 v13.rows.length c15, .int .i64 v13.level, .slice A17 v13.roots.length c18, .slice A20 v13.loose.length c21] 109 (0, 0))] :: [(b7, .cells #[.slice A24 v23.length c25] 57 (0, 0))] :: s26 :: H) → a_ = ⟨#[.slice A30 l29.length c31, .func (.func 53) #[] #[pV b1 0], .func (.func 51) #[] #[pV b3 0, pV b1 0, pV b7 0], uV, uV, uV, iV 0, iV cost80, uV, (j79 0), uV, (j79 1), .slice A30 l29.length c31, iV (l29.length : Int), .slice A30 l29.length c31, iV (l29.length : Int), (j79 2), (j79 3), (j79 4), (j79 5), (j79 6), (j79 7), (j79 8), (j79 9), (j79 10), (j79 11), (j79 12), (j79 13), (j79 14), (j79 15), (j79 16), (j79 17), (j79 18), (j79 19), (j79 20), (j79 21), (j79 22), (j79 23), (j79 24), (j79 25), (j79 26), (j79 27), (j79 28), (j79 29), (j79 30), (j79 31), (j79 32), (j79 33), (j79 34), (j79 35), (j79 36), (j79 37), (j79 38), uV], []⟩ → K37 a_ W77 := by
  intro f75 cost80 j79 W77 a_ L76 hj83 HS78  hfr_; subst hfr_
  injection hj83 with hj83; subst hj83; try dsimp only at h
  refine hK38 _ _ ?_
  refine wp_seq_k fun K84 hK85 => rl ?_
  refine seqL2 kr ?_
  refine nl (hK85 _ _ ?_)
  refine wp_ret ?_
  refine hret _ _ ?_
  refine ends_still (v := Value.int .i64 cost80) kr kr ?_
  have HS90 := HS78.u3.u3.u3.u3.u4
  injection h with h
  injection h with h0_ h
  subst h0_ h
  exact ⟨f75, A24, c25, s26, rfl, L76, HS90, (HO27.mono L76)⟩
 clear h; have h := hv81; clear hv81
 refine loopK (fun n_ a_ w_ => ∃ (f51 : FM) (cost56 : Int) (x57 : Int) (j55 : Nat → Value), FM.le f f51 ∧ St t w_ f51 ([(b1, .cells #[.slice A10 v9.Cones.length c11, .int .i64 v9.From, .int .i64 v9.To, .int .i64 v9.Least, .int .i64 v9.Ban] 51 (0, 0))] :: [(b3, .cells #[.pointer (some ⟨b5, 0, none⟩)] 66 (0, 0))] :: [(b5, .cells #[.slice A14 v13.rows.length c15, .int .i64 v13.level, .slice A17 v13.roots.length c18, .slice A20 v13.loose.length c21] 109 (0, 0))] :: [(b7, .cells #[.slice A24 v23.length c25] 57 (0, 0))] :: s26 :: H) ∧ query_walk__query_Index_Run_2__query_Index_Run_1.l0 k l29 n_ cost56 x57 = some o47 ∧ a_ = ⟨#[.slice A30 l29.length c31, .func (.func 53) #[] #[pV b1 0], .func (.func 51) #[] #[pV b3 0, pV b1 0, pV b7 0], uV, uV, uV, iV 0, iV cost56, uV, (j55 0), uV, (j55 1), .slice A30 l29.length c31, iV (l29.length : Int), .slice A30 l29.length c31, iV (l29.length : Int), iV x57, (j55 2), (j55 3), (j55 4), (j55 5), (j55 6), (j55 7), (j55 8), (j55 9), (j55 10), (j55 11), (j55 12), (j55 13), (j55 14), (j55 15), (j55 16), (j55 17), (j55 18), (j55 19), (j55 20), (j55 21), (j55 22), (j55 23), (j55 24), (j55 25), (j55 26), (j55 27), (j55 28), (j55 29), (j55 30), (j55 31), (j55 32), (j55 33), (j55 34), (j55 35), (j55 36), (j55 37), uV], []⟩) k ⟨f, (l29.length : Int), 0, (jL []), fL, HS, h, kr⟩ ?_
 clear h
 rintro n50 _ W53 ⟨f51, cost56, x57, j55, L52, HS54, h, rfl⟩ K48 hK49
 obtain _ | n50 := n50
 · exact nomatch h
 simp only [query_walk__query_Index_Run_2__query_Index_Run_1.l0] at h
 refine wp_seq_k fun K58 hK59 => rl ?_
 refine seqL1 kr ?_
 refine nl (hK59 _ _ ?_)
 refine wp_seq_k (fun K60 hK61 => ?_)
 have hq_ := ite_some h; clear h; rcases hq_ with ⟨c63, h⟩ | ⟨c63, h⟩
 · have c63 : x57 < (l29.length : Int) := c63
   refine wpRwI 17 kr (decide_eq_true c63) ?_
   refine condT kr ?_
   refine wp_skip ?_
   refine hK61 _ _ ?_
   refine wp_seq_k (fun K64 hK65 => ?_)
   refine blockK (fun B66 hx67 hn68 hr69 ho70 hp71 => ?_)
   refine wp_seq_k (fun K73 hK74 => ?_)
   exact nomatch h
 · have c63 : ¬ (x57 < (l29.length : Int)) := c63
   refine wpRwI 17 kr (decide_eq_false c63) ?_
   refine condF kr ?_
   refine wp_exit ?_
   refine hx42 _ _ ?_
   exact J82 f51 cost56 (jL [(j55 0), (j55 1), iV x57, fV, (j55 3), (j55 4), (j55 5), (j55 6), (j55 7), (j55 8), (j55 9), (j55 10), (j55 11), (j55 12), (j55 13), (j55 14), (j55 15), (j55 16), (j55 17), (j55 18), (j55 19), (j55 20), (j55 21), (j55 22), (j55 23), (j55 24), (j55 25), (j55 26), (j55 27), (j55 28), (j55 29), (j55 30), (j55 31), (j55 32), (j55 33), (j55 34), (j55 35), (j55 36), (j55 37)]) W53 _ L52 h HS54 kr

set_option maxRecDepth 100000 in
set_option maxHeartbeats 4000000 in
theorem bits_Len64.calls (k : Nat)  (x1 : Int) {t w : World} {f : FM} {H : List Seg} (HS : St t w f (H)) (rr1 : Int) (h : bits_Len64 k x1 = some rr1) :
    Calls Tryz.prog 111 #[.int .u64 x1] w (fun e w' => ∃ (g : FM), e = .returned (Value.int .i64 rr1) ∧ FM.le f g ∧ St t w' g (H)) := by
 unfold bits_Len64 at h
 refine enter Tryz.func111 rfl (tm := #[.int .u64 x1, uV, uV, uV, uV, uV, uV, uV, uV, uV, uV, uV, uV, uV, uV, uV, uV, uV, uV, uV, uV, uV, uV, uV, uV]) kr ?_
 intro B hret hnor hnp
 refine wp_seq_k fun K2 hK3 => rl ?_
 refine seqL1 kr ?_
 refine nl (hK3 _ _ ?_)
 refine wp_seq_k (fun K4 hK5 => ?_)
 refine wp_seq_k fun K6 hK7 => rl ?_
 refine seqL2 kr ?_
 refine nl (hK7 _ _ ?_)
 have hq_ := bind_some h; clear h; obtain ⟨v8, hv19, h⟩ := hq_
 have J20 : ∀ (f12 : FM) (x17 : Int) (n18 : Int) (j16 : Nat → Value) (W14 : World) (a_ : Act), FM.le f f12 → some ((x17, n18)) = some v8 → St t W14 f12 (H) → a_ = ⟨#[.int .u64 x17, uV, iV n18, .int .u64 x1, .bool (decide (x1 ≥ 4294967296)), (j16 0), (j16 1), uV, uV, uV, uV, uV, uV, uV, uV, uV, uV, uV, uV, uV, uV, uV, uV, uV, uV], []⟩ → K4 a_ W14 := by
  intro f12 x17 n18 j16 W14 a_ L13 hj21 HS15  hfr_; subst hfr_
  injection hj21 with hj21; subst hj21; try dsimp only at h
  refine hK5 _ _ ?_
  refine wp_seq_k (fun K22 hK23 => ?_)
  refine wp_seq_k fun K24 hK25 => rl ?_
  refine seqL2 kr ?_
  refine nl (hK25 _ _ ?_)
  have hq_ := bind_some h; clear h; obtain ⟨v26, hv37, h⟩ := hq_
  have J38 : ∀ (f30 : FM) (x35 : Int) (n36 : Int) (j34 : Nat → Value) (W32 : World) (a_ : Act), FM.le f12 f30 → some ((x35, n36)) = some v26 → St t W32 f30 (H) → a_ = ⟨#[.int .u64 x35, uV, iV n36, .int .u64 x1, .bool (decide (x1 ≥ 4294967296)), (j16 0), (j16 1), .int .u64 x17, .bool (decide (x17 ≥ 65536)), (j34 0), (j34 1), (j34 2), (j34 3), uV, uV, uV, uV, uV, uV, uV, uV, uV, uV, uV, uV], []⟩ → K22 a_ W32 := by
   intro f30 x35 n36 j34 W32 a_ L31 hj39 HS33  hfr_; subst hfr_
   injection hj39 with hj39; subst hj39; try dsimp only at h
   refine hK23 _ _ ?_
   refine wp_seq_k (fun K40 hK41 => ?_)
   refine wp_seq_k fun K42 hK43 => rl ?_
   refine seqL2 kr ?_
   refine nl (hK43 _ _ ?_)
   have hq_ := ite_some h; clear h; rcases hq_ with ⟨c45, h⟩ | ⟨c45, h⟩
   · have c45 : x35 ≥ 256 := c45
     refine wpRwI 14 kr (decide_eq_true c45) ?_
     refine condT kr ?_
     refine wp_seq_k fun K46 hK47 => rl ?_
     refine seqL3 kr ?_
     refine nl (hK47 _ _ ?_)
     refine rl ?_
     refine seqL3 kr ?_
     refine nl (hK41 _ _ ?_)
     refine wp_seq_k fun K48 hK49 => rl ?_
     have hq_ := guard_some h; clear h; obtain ⟨c50, h⟩ := hq_
     have c50 : 0 ≤ (u8 (shr x35 8)) := c50
     have hq_ := guard_some h; clear h; obtain ⟨c51, h⟩ := hq_
     have c51 : (u8 (shr x35 8)) < (str0.size : Int) := c51
     refine seqL3 kr ?_
     refine seqK rfl (does_run (run_byte rfl Tryz.underlying9 (kv (.string str0)) (kv (.int .u8 (u8 (shr x35 8)))) c50 c51 W32) ?_)
     refine seqL3 kr ?_
     refine nl (hK49 _ _ ?_)
     refine wp_ret ?_
     refine hret _ _ ?_
     refine ends_still (v := Value.int .i64 (w64 ((w64 (n36 + 8)) + (w64 ((bt str0 (u8 (shr x35 8)))))))) kr kr ?_
     injection h with h
     subst h
     exact ⟨f30, rfl, (L13.trans L31), HS33⟩
   · have c45 : ¬ (x35 ≥ 256) := c45
     refine wpRwI 14 kr (decide_eq_false c45) ?_
     refine condF kr ?_
     refine wp_skip ?_
     refine hK41 _ _ ?_
     refine wp_seq_k fun K52 hK53 => rl ?_
     have hq_ := guard_some h; clear h; obtain ⟨c54, h⟩ := hq_
     have c54 : 0 ≤ (u8 (x35)) := c54
     have hq_ := guard_some h; clear h; obtain ⟨c55, h⟩ := hq_
     have c55 : (u8 (x35)) < (str0.size : Int) := c55
     refine seqL3 kr ?_
     refine seqK rfl (does_run (run_byte rfl Tryz.underlying9 (kv (.string str0)) (kv (.int .u8 (u8 (x35)))) c54 c55 W32) ?_)
     refine seqL3 kr ?_
     refine nl (hK53 _ _ ?_)
     refine wp_ret ?_
     refine hret _ _ ?_
     refine ends_still (v := Value.int .i64 (w64 (n36 + (w64 ((bt str0 (u8 (x35)))))))) kr kr ?_
     injection h with h
     subst h
     exact ⟨f30, rfl, (L13.trans L31), HS33⟩
  clear h; have h := hv37; clear hv37
  have hq_ := ite_some h; clear h; rcases hq_ with ⟨c27, h⟩ | ⟨c27, h⟩
  · have c27 : x17 ≥ 65536 := c27
    refine wpRwI 8 kr (decide_eq_true c27) ?_
    refine condT kr ?_
    refine wp_seq_k fun K28 hK29 => rl ?_
    refine seqL3 kr ?_
    refine nl (hK29 _ _ ?_)
    refine rl ?_
    refine seqL3 kr ?_
    refine nl ?_
    refine fnRwI (F := K22) 8 (x := true) (v := (decide (x17 ≥ 65536))) kr (Eq.symm (decide_eq_true c27)) ?_
    exact J38 f12 (shr x17 16) (w64 (n18 + 16)) (jL [.int .u64 x17, .int .u64 (shr x17 16), iV n18, iV (w64 (n18 + 16))]) W14 _ fL h HS15 kr
  · have c27 : ¬ (x17 ≥ 65536) := c27
    refine wpRwI 8 kr (decide_eq_false c27) ?_
    refine condF kr ?_
    refine wp_skip ?_
    refine fnRwI (F := K22) 8 (x := false) (v := (decide (x17 ≥ 65536))) kr (Eq.symm (decide_eq_false c27)) ?_
    exact J38 f12 x17 n18 (jL []) W14 _ fL h HS15 kr
 clear h; have h := hv19; clear hv19
 have hq_ := ite_some h; clear h; rcases hq_ with ⟨c9, h⟩ | ⟨c9, h⟩
 · have c9 : x1 ≥ 4294967296 := c9
   refine wpRwI 4 kr (decide_eq_true c9) ?_
   refine condT kr ?_
   refine wp_seq_k fun K10 hK11 => rl ?_
   refine seqL3 kr ?_
   refine nl (hK11 _ _ ?_)
   refine rl ?_
   refine seqL1 kr ?_
   refine nl ?_
   refine fnRwI (F := K4) 4 (x := true) (v := (decide (x1 ≥ 4294967296))) kr (Eq.symm (decide_eq_true c9)) ?_
   exact J20 f (shr x1 32) 32 (jL [.int .u64 x1, .int .u64 (shr x1 32)]) w _ fL h HS kr
 · have c9 : ¬ (x1 ≥ 4294967296) := c9
   refine wpRwI 4 kr (decide_eq_false c9) ?_
   refine condF kr ?_
   refine wp_skip ?_
   refine fnRwI (F := K4) 4 (x := false) (v := (decide (x1 ≥ 4294967296))) kr (Eq.symm (decide_eq_false c9)) ?_
   exact J20 f x1 0 (jL []) w _ fL h HS kr

set_option maxRecDepth 100000 in
set_option maxHeartbeats 4000000 in
theorem bits_Len.calls (k : Nat)  (x1 : Int) {t w : World} {f : FM} {H : List Seg} (HS : St t w f (H)) (rr1 : Int) (h : bits_Len k x1 = some rr1) :
    Calls Tryz.prog 89 #[.int .u64 x1] w (fun e w' => ∃ (g : FM), e = .returned (Value.int .i64 rr1) ∧ FM.le f g ∧ St t w' g (H)) := by
 unfold bits_Len at h
 refine enter Tryz.func89 rfl (tm := #[.int .u64 x1, uV, uV, uV, uV, uV, uV, uV]) kr ?_
 intro B hret hnor hnp
 refine wp_seq_k fun K2 hK3 => rl ?_
 refine seqL1 kr ?_
 refine nl (hK3 _ _ ?_)
 refine wp_seq_k (fun K4 hK5 => ?_)
 refine condF kr ?_
 refine wp_skip ?_
 refine hK5 _ _ ?_
 refine wp_seq_k fun K6 hK7 => rl ?_
 have hq_ := bind_some h; clear h; obtain ⟨vt8, hc9, h⟩ := hq_
 refine seqL1 kr ?_
 refine seqK rfl (does_call (f := 111) (args := #[.int .u64 x1]) kr (bits_Len64.calls k x1 HS vt8 hc9) ?_)
 rintro _ W12 ⟨f10, rfl, L11, HS13⟩
 refine ⟨_, rfl, ?_⟩
 refine seqL1 kr ?_
 refine nl (hK7 _ _ ?_)
 refine wp_ret ?_
 refine hret _ _ ?_
 refine ends_still (v := Value.int .i64 vt8) kr kr ?_
 injection h with h
 subst h
 exact ⟨f10, rfl, L11, HS13⟩

set_option maxRecDepth 100000 in
set_option maxHeartbeats 4000000 in
theorem query_Index_Run_3.calls (k : Nat)  (a1 : S_Answer) (b2 : S_Answer) {t w : World} {f : FM} {H : List Seg} (HS : St t w f (H)) (rr1 : Int) (h : query_Index_Run_3 k a1 b2 = some rr1) :
    Calls Tryz.prog 57 #[.agg #[.int .i64 a1.ID, .int .i64 a1.Grade], .agg #[.int .i64 b2.ID, .int .i64 b2.Grade]] w (fun e w' => ∃ (g : FM), e = .returned (Value.int .i64 rr1) ∧ FM.le f g ∧ St t w' g (H)) := by
 unfold query_Index_Run_3 at h
 refine enter Tryz.func57 rfl (tm := #[.agg #[iV a1.ID, iV a1.Grade], .agg #[iV b2.ID, iV b2.Grade], uV, uV, uV, uV, uV, uV, uV, uV]) kr ?_
 intro B hret hnor hnp
 refine wp_seq_k fun K3 hK4 => rl ?_
 refine seqK rfl (does_box (cs := #[.int .i64 a1.ID, .int .i64 a1.Grade]) rfl (kv (.agg #[.int .i64 a1.ID, .int .i64 a1.Grade])) rfl HS ?_)
 intro b5 W6 HS7
 refine seqK rfl (does_box (cs := #[.int .i64 b2.ID, .int .i64 b2.Grade]) rfl (kv (.agg #[.int .i64 b2.ID, .int .i64 b2.Grade])) rfl HS7 ?_)
 intro b9 W10 HS11
 refine seqL1 kr ?_
 refine nl (hK4 _ _ ?_)
 refine wp_seq_k fun K13 hK14 => rl ?_
 refine seqL1 kr ?_
 refine seqK rfl (does_run (run_load rfl Tryz.underlying3 rfl (kv (.pointer (some ⟨b5, 0, none⟩))) (HS11.u1.cell 0)) ?_)
 refine seqL1 kr ?_
 refine seqK rfl (does_run (run_load rfl Tryz.underlying3 rfl (kv (.pointer (some ⟨b9, 0, none⟩))) (HS11.cell 0)) ?_)
 refine seqL2 kr ?_
 refine nl (hK14 _ _ ?_)
 refine wp_ret ?_
 refine hret _ _ ?_
 refine ends_still (v := Value.int .i64 (w64 (a1.ID - b2.ID))) kr kr ?_
 have HS15 := HS11.drop
 have HS16 := HS15.drop
 injection h with h
 subst h
 exact ⟨f, rfl, FM.le.refl _, HS16⟩

set_option maxRecDepth 100000 in
set_option maxHeartbeats 4000000 in
theorem slices_insertionSortCmpFunc_Answer__query_Index_Run_3.calls (k : Nat) (A1 : Option Addr) (c2 : Nat) (s3 : Seg) (data5 : List S_Answer) (a7 : Int) (b8 : Int) {t w : World} {f : FM} {H : List Seg} (HS : St t w f (s3 :: H)) (HO4 : Own ty_Answer 62 f A1 c2 s3 data5) (rr1 : List S_Answer) (h : slices_insertionSortCmpFunc_Answer__query_Index_Run_3 k data5 a7 b8 = some rr1) :
    Calls Tryz.prog 102 #[.slice A1 data5.length c2, .int .i64 a7, .int .i64 b8, .func (.func 57) #[] #[]] w (fun e w' => ∃ (g : FM) (s399 : Seg), e = .returned (Value.tuple #[]) ∧ FM.le f g ∧ St t w' g (s399 :: H) ∧ Own ty_Answer 62 g A1 c2 s399 rr1 ∧ rr1.length = data5.length) := by
 unfold slices_insertionSortCmpFunc_Answer__query_Index_Run_3 at h
 refine enter Tryz.func102 rfl (tm := #[.slice A1 data5.length c2, iV a7, iV b8, .func (.func 57) #[] #[], uV, uV, uV, uV, uV, uV, uV, uV, uV, uV, uV, uV, uV, uV, uV, uV, uV, uV, uV, uV, uV, uV, uV, uV, uV, uV, uV, uV, uV, uV, uV, uV, uV, uV, uV, uV, uV, uV, uV, uV, uV, uV, uV, uV, uV, uV, uV, uV, uV]) kr ?_
 intro B hret hnor hnp
 refine wp_seq_k fun K9 hK10 => rl ?_
 refine seqL3 kr ?_
 refine nl (hK10 _ _ ?_)
 refine blockK (fun B11 hx12 hn13 hr14 ho15 hp16 => ?_)
 have hq_ := bind_some h; clear h; obtain ⟨o200, hv396, h⟩ := hq_
 have J397 : ∀ (f387 : FM) (s393 : Seg) (data392 : List S_Answer) (j391 : Nat → Value) (W389 : World) (a_ : Act), FM.le f f387 → some (data392) = some o200 → St t W389 f387 (s393 :: H) → Own ty_Answer 62 f387 A1 c2 s393 data392 → data392.length = data5.length → a_ = ⟨#[.slice A1 data392.length c2, iV a7, iV b8, .func (.func 57) #[] #[], uV, uV, uV, uV, (j391 0), (j391 1), iV a7, iV (w64 (a7 + 1)), (j391 2), (j391 3), (j391 4), (j391 5), (j391 6), (j391 7), (j391 8), (j391 9), (j391 10), (j391 11), (j391 12), (j391 13), (j391 14), (j391 15), (j391 16), (j391 17), (j391 18), (j391 19), (j391 20), (j391 21), (j391 22), (j391 23), (j391 24), (j391 25), (j391 26), (j391 27), (j391 28), (j391 29), (j391 30), (j391 31), (j391 32), (j391 33), (j391 34), (j391 35), (j391 36), (j391 37), (j391 38), (j391 39), (j391 40), (j391 41), (j391 42)], []⟩ → B Exit.normal a_ W389 := by
  intro f387 s393 data392 j391 W389 a_ L388 hj398 HS390 HO394 HL395 hfr_; subst hfr_
  injection hj398 with hj398; subst hj398; try dsimp only at h
  refine hnor _ _ ?_
  refine ends_still (v := Value.tuple #[]) kr kr ?_
  injection h with h
  subst h
  exact ⟨f387, s393, rfl, L388, HS390, HO394, HL395⟩
 clear h; have h := hv396; clear hv396
 refine loopK (fun n_ a_ w_ => ∃ (f204 : FM) (s210 : Seg) (data209 : List S_Answer) (i213 : Int) (j208 : Nat → Value), FM.le f f204 ∧ St t w_ f204 (s210 :: H) ∧ Own ty_Answer 62 f204 A1 c2 s210 data209 ∧ data209.length = data5.length ∧ slices_insertionSortCmpFunc_Answer__query_Index_Run_3.l0 k b8 a7 n_ data209 i213 = some o200 ∧ a_ = ⟨#[.slice A1 data209.length c2, iV a7, iV b8, .func (.func 57) #[] #[], uV, uV, uV, uV, iV i213, (j208 0), iV a7, iV (w64 (a7 + 1)), (j208 1), (j208 2), (j208 3), (j208 4), (j208 5), (j208 6), (j208 7), (j208 8), (j208 9), (j208 10), (j208 11), (j208 12), (j208 13), (j208 14), (j208 15), (j208 16), (j208 17), (j208 18), (j208 19), (j208 20), (j208 21), (j208 22), (j208 23), (j208 24), (j208 25), (j208 26), (j208 27), (j208 28), (j208 29), (j208 30), (j208 31), (j208 32), (j208 33), (j208 34), (j208 35), (j208 36), (j208 37), (j208 38), (j208 39), (j208 40), (j208 41)], []⟩) k ⟨f, s3, data5, (w64 (a7 + 1)), (jL []), fL, HS, HO4, rfl, h, kr⟩ ?_
 clear h
 rintro n203 _ W206 ⟨f204, s210, data209, i213, j208, L205, HS207, HO211, HL212, h, rfl⟩ K201 hK202
 obtain _ | n203 := n203
 · exact nomatch h
 simp only [slices_insertionSortCmpFunc_Answer__query_Index_Run_3.l0] at h
 refine wp_seq_k (fun K214 hK215 => ?_)
 refine wp_seq_k fun K216 hK217 => rl ?_
 refine seqL3 kr ?_
 refine nl (hK217 _ _ ?_)
 have hq_ := ite_some h; clear h; rcases hq_ with ⟨c219, h⟩ | ⟨c219, h⟩
 · have c219 : i213 < b8 := c219
   refine wpRwI 14 kr (decide_eq_true c219) ?_
   refine condT kr ?_
   refine wp_skip ?_
   refine hK215 _ _ ?_
   refine wp_seq_k (fun K220 hK221 => ?_)
   refine blockK (fun B222 hx223 hn224 hr225 ho226 hp227 => ?_)
   refine wp_seq_k fun K229 hK230 => rl ?_
   refine seqL2 kr ?_
   refine nl (hK230 _ _ ?_)
   refine blockK (fun B231 hx232 hn233 hr234 ho235 hp236 => ?_)
   have hq_ := bind_some h; clear h; obtain ⟨o304, hv384, h⟩ := hq_
   have J385 : ∀ (f375 : FM) (s381 : Seg) (data380 : List S_Answer) (j379 : Nat → Value) (W377 : World) (a_ : Act), FM.le f204 f375 → some (data380) = some o304 → St t W377 f375 (s381 :: H) → Own ty_Answer 62 f375 A1 c2 s381 data380 → data380.length = data209.length → a_ = ⟨#[.slice A1 data380.length c2, iV a7, iV b8, .func (.func 57) #[] #[], uV, uV, uV, uV, iV i213, (j379 0), iV a7, iV (w64 (a7 + 1)), iV i213, iV b8, tV, (j208 4), (j208 5), iV i213, (j379 1), (j379 2), (j379 3), (j379 4), (j379 5), (j379 6), (j379 7), (j379 8), (j379 9), (j379 10), (j379 11), (j379 12), (j379 13), (j379 14), (j379 15), (j379 16), (j379 17), (j379 18), (j379 19), (j379 20), (j379 21), (j379 22), (j379 23), (j379 24), (j379 25), (j379 26), (j379 27), (j379 28), (j379 29), (j379 30), (j379 31), (j379 32), (j379 33), (j379 34), (j379 35)], []⟩ → B222 Exit.normal a_ W377 := by
    intro f375 s381 data380 j379 W377 a_ L376 hj386 HS378 HO382 HL383 hfr_; subst hfr_
    injection hj386 with hj386; subst hj386; try dsimp only at h
    refine hn224 _ _ ?_
    refine hK221 _ _ ?_
    refine rl ?_
    refine seqL3 kr ?_
    refine nl ?_
    refine hK202 n203 _ _ (Nat.lt_succ_self _) ?_
    exact ⟨f375, s381, data380, (w64 (i213 + 1)), (jL [(j379 0), iV i213, iV b8, tV, iV i213, iV (w64 (i213 + 1)), iV i213, (j379 1), (j379 2), (j379 3), (j379 4), (j379 5), (j379 6), (j379 7), (j379 8), (j379 9), (j379 10), (j379 11), (j379 12), (j379 13), (j379 14), (j379 15), (j379 16), (j379 17), (j379 18), (j379 19), (j379 20), (j379 21), (j379 22), (j379 23), (j379 24), (j379 25), (j379 26), (j379 27), (j379 28), (j379 29), (j379 30), (j379 31), (j379 32), (j379 33), (j379 34), (j379 35)]), (L205.trans L376), HS378, HO382, (HL383.trans HL212), h, kr⟩
   clear h; have h := hv384; clear hv384
   refine loopK (fun n_ a_ w_ => ∃ (f308 : FM) (s314 : Seg) (data313 : List S_Answer) (j317 : Int) (j312 : Nat → Value), FM.le f204 f308 ∧ St t w_ f308 (s314 :: H) ∧ Own ty_Answer 62 f308 A1 c2 s314 data313 ∧ data313.length = data209.length ∧ slices_insertionSortCmpFunc_Answer__query_Index_Run_3.l1 k a7 n_ data313 j317 = some o304 ∧ a_ = ⟨#[.slice A1 data313.length c2, iV a7, iV b8, .func (.func 57) #[] #[], uV, uV, uV, uV, iV i213, iV j317, iV a7, iV (w64 (a7 + 1)), iV i213, iV b8, tV, (j208 4), (j208 5), iV i213, (j312 0), (j312 1), (j312 2), (j312 3), (j312 4), (j312 5), (j312 6), (j312 7), (j312 8), (j312 9), (j312 10), (j312 11), (j312 12), (j312 13), (j312 14), (j312 15), (j312 16), (j312 17), (j312 18), (j312 19), (j312 20), (j312 21), (j312 22), (j312 23), (j312 24), (j312 25), (j312 26), (j312 27), (j312 28), (j312 29), (j312 30), (j312 31), (j312 32), (j312 33), (j312 34)], []⟩) k ⟨f204, s210, data209, i213, (jL [(j208 7), (j208 8), (j208 9), (j208 10), (j208 11), (j208 12), (j208 13), (j208 14), (j208 15), (j208 16), (j208 17), (j208 18), (j208 19), (j208 20), (j208 21), (j208 22), (j208 23), (j208 24), (j208 25), (j208 26), (j208 27), (j208 28), (j208 29), (j208 30), (j208 31), (j208 32), (j208 33), (j208 34), (j208 35), (j208 36), (j208 37), (j208 38), (j208 39), (j208 40), (j208 41)]), fL, HS207, HO211, rfl, h, kr⟩ ?_
   clear h
   rintro n307 _ W310 ⟨f308, s314, data313, j317, j312, L309, HS311, HO315, HL316, h, rfl⟩ K305 hK306
   obtain _ | n307 := n307
   · exact nomatch h
   simp only [slices_insertionSortCmpFunc_Answer__query_Index_Run_3.l1] at h
   refine wp_seq_k (fun K318 hK319 => ?_)
   refine wp_seq_k (fun K320 hK321 => ?_)
   refine heldG (S := Sg t f308 (s314 :: H) []) (n := 17) kr rfl HS311 ?_
   intro W322 HS323
   refine takeGL [0, 1, 2, 3] (n := 17) (fuel := 13) #[true, true, true, true, false, false, false, false, false, false, false, false, false, false, false, false, false] rfl kr kr kr (fun ch_ a_ w_ q_ => (fun ch_ a_ w_ q_ => (fun ch_ a_ w_ q_ => hnp ch_ a_ w_ (hp16 ch_ a_ w_ q_)) ch_ a_ w_ (hp227 ch_ a_ w_ q_)) ch_ a_ w_ (hp236 ch_ a_ w_ q_)) (Sg.g0 (Sx.of [] fL HS323)) ?_
   have hq_ := ite_some h; clear h; rcases hq_ with ⟨c324, h⟩ | ⟨c324, h⟩
   · have c324 : j317 > a7 := c324
     refine gateRwI 20 (x := (decide (j317 > a7))) (v := true) kr (decide_eq_true c324) ?_
     refine gateRwI 21 (x := (decide (j317 > a7))) (v := true) kr (decide_eq_true c324) ?_
     have hq_ := guard_some h; clear h; obtain ⟨c325, h⟩ := hq_
     have c325 : 0 ≤ j317 := c325
     have hq_ := guard_some h; clear h; obtain ⟨c326, h⟩ := hq_
     have c326 : j317 < (data313.length : Int) := c326
     obtain ⟨b330, of331, cs327, hA332, hr328, hc329⟩ := HO315.at (i := j317) c325 c326
     obtain rfl := hr328
     refine takeGL [4, 5, 6] (n := 13) (fuel := 10) #[true, true, true, true, true, true, true, false, false, false, false, false, false, false, false, false, false] rfl kr kr kr (fun ch_ a_ w_ q_ => (fun ch_ a_ w_ q_ => (fun ch_ a_ w_ q_ => hnp ch_ a_ w_ (hp16 ch_ a_ w_ q_)) ch_ a_ w_ (hp227 ch_ a_ w_ q_)) ch_ a_ w_ (hp236 ch_ a_ w_ q_)) (Sg.g0 (Sx.of [] fL HS323)) ?_
     refine takeGQ 7 [] rfl kr kr kr kr kr kr (fun ch_ a_ w_ q_ => (fun ch_ a_ w_ q_ => (fun ch_ a_ w_ q_ => hnp ch_ a_ w_ (hp16 ch_ a_ w_ q_)) ch_ a_ w_ (hp227 ch_ a_ w_ q_)) ch_ a_ w_ (hp236 ch_ a_ w_ q_)) (Sg.g0 (Sx.of [] fL HS323)) (fun w_ hw_ => by obtain ⟨g_, hl_, hS_⟩ := hw_.st; exact run_indexE hA332 (sz := 2) rfl Tryz.underlying57 kr (kv (.slice A1 data313.length c2)) (kv (.int .i64 j317)) c325 c326 w_) ?_
     refine takeGQ 8 [] rfl kr kr kr kr kr kr (fun ch_ a_ w_ q_ => (fun ch_ a_ w_ q_ => (fun ch_ a_ w_ q_ => hnp ch_ a_ w_ (hp16 ch_ a_ w_ q_)) ch_ a_ w_ (hp227 ch_ a_ w_ q_)) ch_ a_ w_ (hp236 ch_ a_ w_ q_)) (Sg.g0 (Sx.of [] fL HS323)) (fun w_ hw_ => by obtain ⟨g_, hl_, hS_⟩ := hw_.st; exact run_loadN (n := 2) rfl Tryz.underlying62 rfl kr (kv (.pointer (some ⟨b330, of331 + (j317 : Int).toNat * 2, none⟩))) (cs := [.int .i64 ((rd data313 j317).ID), .int .i64 ((rd data313 j317).Grade)]) rfl (fun j_ hj_ => ((hc329 hS_) j_ hj_))) ?_
     have hq_ := guard_some h; clear h; obtain ⟨c333, h⟩ := hq_
     have c333 : 0 ≤ (w64 (j317 - 1)) := c333
     have hq_ := guard_some h; clear h; obtain ⟨c334, h⟩ := hq_
     have c334 : (w64 (j317 - 1)) < (data313.length : Int) := c334
     obtain ⟨b338, of339, cs335, hA340, hr336, hc337⟩ := HO315.at (i := w64 (j317 - 1)) c333 c334
     obtain rfl := hr336
     refine takeGL [9, 10, 11] (n := 8) (fuel := 5) #[true, true, true, true, true, true, true, true, true, true, true, true, false, false, false, false, false] rfl kr kr kr (fun ch_ a_ w_ q_ => (fun ch_ a_ w_ q_ => (fun ch_ a_ w_ q_ => hnp ch_ a_ w_ (hp16 ch_ a_ w_ q_)) ch_ a_ w_ (hp227 ch_ a_ w_ q_)) ch_ a_ w_ (hp236 ch_ a_ w_ q_)) (Sg.g0 (Sx.of [] fL HS323)) ?_
     refine takeGQ 12 [] rfl kr kr kr kr kr kr (fun ch_ a_ w_ q_ => (fun ch_ a_ w_ q_ => (fun ch_ a_ w_ q_ => hnp ch_ a_ w_ (hp16 ch_ a_ w_ q_)) ch_ a_ w_ (hp227 ch_ a_ w_ q_)) ch_ a_ w_ (hp236 ch_ a_ w_ q_)) (Sg.g0 (Sx.of [] fL HS323)) (fun w_ hw_ => by obtain ⟨g_, hl_, hS_⟩ := hw_.st; exact run_indexE hA340 (sz := 2) rfl Tryz.underlying57 kr (kv (.slice A1 data313.length c2)) (kv (.int .i64 (w64 (j317 - 1)))) c333 c334 w_) ?_
     refine takeGQ 13 [] rfl kr kr kr kr kr kr (fun ch_ a_ w_ q_ => (fun ch_ a_ w_ q_ => (fun ch_ a_ w_ q_ => hnp ch_ a_ w_ (hp16 ch_ a_ w_ q_)) ch_ a_ w_ (hp227 ch_ a_ w_ q_)) ch_ a_ w_ (hp236 ch_ a_ w_ q_)) (Sg.g0 (Sx.of [] fL HS323)) (fun w_ hw_ => by obtain ⟨g_, hl_, hS_⟩ := hw_.st; exact run_loadN (n := 2) rfl Tryz.underlying62 rfl kr (kv (.pointer (some ⟨b338, of339 + (w64 (j317 - 1) : Int).toNat * 2, none⟩))) (cs := [.int .i64 ((rd data313 (w64 (j317 - 1))).ID), .int .i64 ((rd data313 (w64 (j317 - 1))).Grade)]) rfl (fun j_ hj_ => ((hc337 hS_) j_ hj_))) ?_
     have hq_ := bind_some h; clear h; obtain ⟨vt341, hc342, h⟩ := hq_
     refine takeGE 14 kr rfl kr (does_call (f := 57) (args := #[.agg #[.int .i64 ((rd data313 j317).ID), .int .i64 ((rd data313 j317).Grade)], .agg #[.int .i64 ((rd data313 (w64 (j317 - 1))).ID), .int .i64 ((rd data313 (w64 (j317 - 1))).Grade)]]) kr (query_Index_Run_3.calls k (rd data313 j317) (rd data313 (w64 (j317 - 1))) HS323 vt341 hc342) ?_)
     rintro _ W345 ⟨f343, rfl, L344, HS346⟩
     refine ⟨_, rfl, ?_⟩
     refine ⟨(Sg.g0 (Sx.of [] L344 HS346)), ?_⟩
     refine takeGL [15, 16] (n := 2) (fuel := 0) #[true, true, true, true, true, true, true, true, true, true, true, true, true, true, true, true, true] rfl kr kr kr (fun ch_ a_ w_ q_ => (fun ch_ a_ w_ q_ => (fun ch_ a_ w_ q_ => hnp ch_ a_ w_ (hp16 ch_ a_ w_ q_)) ch_ a_ w_ (hp227 ch_ a_ w_ q_)) ch_ a_ w_ (hp236 ch_ a_ w_ q_)) (Sg.g0 (Sx.of [] L344 HS346)) ?_
     refine doneG kr ?_ _
     refine hK321 _ _ ?_
     have hq_ := ite_some h; clear h; rcases hq_ with ⟨c348, h⟩ | ⟨c348, h⟩
     · have c348 : vt341 < 0 := c348
       refine wpRwI 33 kr (decide_eq_true c348) ?_
       refine wpRwI 34 kr (decide_eq_true c348) ?_
       refine condT kr ?_
       refine wp_skip ?_
       refine hK319 _ _ ?_
       refine wp_seq_k (fun K349 hK350 => ?_)
       refine blockK (fun B351 hx352 hn353 hr354 ho355 hp356 => ?_)
       refine heldG (S := Sg t f343 (H) [(15, s314)]) (n := 18) kr rfl HS346 ?_
       intro W358 HS359
       refine takeGL [0, 1, 2, 3, 4, 5, 6, 7] (n := 18) (fuel := 10) #[true, true, true, true, true, true, true, true, false, false, false, false, false, false, false, false, false, false] rfl kr kr kr (fun ch_ a_ w_ q_ => (fun ch_ a_ w_ q_ => (fun ch_ a_ w_ q_ => (fun ch_ a_ w_ q_ => hnp ch_ a_ w_ (hp16 ch_ a_ w_ q_)) ch_ a_ w_ (hp227 ch_ a_ w_ q_)) ch_ a_ w_ (hp236 ch_ a_ w_ q_)) ch_ a_ w_ (hp356 ch_ a_ w_ q_)) (Sg.g1 (Sx.of [s314] fL HS359) (fun _ => St.only [] HS359 fL)) ?_
       refine takeGQ 8 [] rfl kr kr kr kr kr kr (fun ch_ a_ w_ q_ => (fun ch_ a_ w_ q_ => (fun ch_ a_ w_ q_ => (fun ch_ a_ w_ q_ => hnp ch_ a_ w_ (hp16 ch_ a_ w_ q_)) ch_ a_ w_ (hp227 ch_ a_ w_ q_)) ch_ a_ w_ (hp236 ch_ a_ w_ q_)) ch_ a_ w_ (hp356 ch_ a_ w_ q_)) (Sg.g1 (Sx.of [s314] fL HS359) (fun _ => St.only [] HS359 fL)) (fun w_ hw_ => by obtain ⟨g_, hl_, hS_⟩ := hw_.st; exact run_indexE hA340 (sz := 2) rfl Tryz.underlying57 kr (kv (.slice A1 data313.length c2)) (kv (.int .i64 (w64 (j317 - 1)))) c333 c334 w_) ?_
       refine takeGQ 9 [15] rfl kr kr kr kr kr kr (fun ch_ a_ w_ q_ => (fun ch_ a_ w_ q_ => (fun ch_ a_ w_ q_ => (fun ch_ a_ w_ q_ => hnp ch_ a_ w_ (hp16 ch_ a_ w_ q_)) ch_ a_ w_ (hp227 ch_ a_ w_ q_)) ch_ a_ w_ (hp236 ch_ a_ w_ q_)) ch_ a_ w_ (hp356 ch_ a_ w_ q_)) (Sg.g1 (Sx.of [s314] fL HS359) (fun _ => St.only [] HS359 fL)) (fun w_ hw_ => by obtain ⟨g_, hl_, hS_⟩ := hw_.seg (j := 15) (s := s314) (by simp) (by simp); exact run_loadN (n := 2) rfl Tryz.underlying62 rfl kr (kv (.pointer (some ⟨b338, of339 + (w64 (j317 - 1) : Int).toNat * 2, none⟩))) (cs := [.int .i64 ((rd data313 (w64 (j317 - 1))).ID), .int .i64 ((rd data313 (w64 (j317 - 1))).Grade)]) rfl (fun j_ hj_ => ((hc337 hS_) j_ hj_))) ?_
       refine takeGL [10, 11] (n := 8) (fuel := 6) #[true, true, true, true, true, true, true, true, true, true, true, true, false, false, false, false, false, false] rfl kr kr kr (fun ch_ a_ w_ q_ => (fun ch_ a_ w_ q_ => (fun ch_ a_ w_ q_ => (fun ch_ a_ w_ q_ => hnp ch_ a_ w_ (hp16 ch_ a_ w_ q_)) ch_ a_ w_ (hp227 ch_ a_ w_ q_)) ch_ a_ w_ (hp236 ch_ a_ w_ q_)) ch_ a_ w_ (hp356 ch_ a_ w_ q_)) (Sg.g1 (Sx.of [s314] fL HS359) (fun _ => St.only [] HS359 fL)) ?_
       refine takeGQ 12 [] rfl kr kr kr kr kr kr (fun ch_ a_ w_ q_ => (fun ch_ a_ w_ q_ => (fun ch_ a_ w_ q_ => (fun ch_ a_ w_ q_ => hnp ch_ a_ w_ (hp16 ch_ a_ w_ q_)) ch_ a_ w_ (hp227 ch_ a_ w_ q_)) ch_ a_ w_ (hp236 ch_ a_ w_ q_)) ch_ a_ w_ (hp356 ch_ a_ w_ q_)) (Sg.g1 (Sx.of [s314] fL HS359) (fun _ => St.only [] HS359 fL)) (fun w_ hw_ => by obtain ⟨g_, hl_, hS_⟩ := hw_.st; exact run_indexE hA332 (sz := 2) rfl Tryz.underlying57 kr (kv (.slice A1 data313.length c2)) (kv (.int .i64 j317)) c325 c326 w_) ?_
       refine takeGQ 13 [15] rfl kr kr kr kr kr kr (fun ch_ a_ w_ q_ => (fun ch_ a_ w_ q_ => (fun ch_ a_ w_ q_ => (fun ch_ a_ w_ q_ => hnp ch_ a_ w_ (hp16 ch_ a_ w_ q_)) ch_ a_ w_ (hp227 ch_ a_ w_ q_)) ch_ a_ w_ (hp236 ch_ a_ w_ q_)) ch_ a_ w_ (hp356 ch_ a_ w_ q_)) (Sg.g1 (Sx.of [s314] fL HS359) (fun _ => St.only [] HS359 fL)) (fun w_ hw_ => by obtain ⟨g_, hl_, hS_⟩ := hw_.seg (j := 15) (s := s314) (by simp) (by simp); exact run_loadN (n := 2) rfl Tryz.underlying62 rfl kr (kv (.pointer (some ⟨b330, of331 + (j317 : Int).toNat * 2, none⟩))) (cs := [.int .i64 ((rd data313 j317).ID), .int .i64 ((rd data313 j317).Grade)]) rfl (fun j_ hj_ => ((hc329 hS_) j_ hj_))) ?_
       refine takeGQ 14 [] rfl kr kr kr kr kr kr (fun ch_ a_ w_ q_ => (fun ch_ a_ w_ q_ => (fun ch_ a_ w_ q_ => (fun ch_ a_ w_ q_ => hnp ch_ a_ w_ (hp16 ch_ a_ w_ q_)) ch_ a_ w_ (hp227 ch_ a_ w_ q_)) ch_ a_ w_ (hp236 ch_ a_ w_ q_)) ch_ a_ w_ (hp356 ch_ a_ w_ q_)) (Sg.g1 (Sx.of [s314] fL HS359) (fun _ => St.only [] HS359 fL)) (fun w_ hw_ => by obtain ⟨g_, hl_, hS_⟩ := hw_.st; exact run_indexE hA332 (sz := 2) rfl Tryz.underlying57 kr (kv (.slice A1 data313.length c2)) (kv (.int .i64 j317)) c325 c326 w_) ?_
       refine takeGE 15 kr rfl kr (does_put (e := ty_Answer) (E := 62) (vs := [.int .i64 ((rd data313 (w64 (j317 - 1))).ID), .int .i64 ((rd data313 (w64 (j317 - 1))).Grade)]) (u := (rd data313 (w64 (j317 - 1)))) (i := j317) rfl kr (HO315.mono L344) HS359 hA332 (kv (.pointer (some ⟨b330, of331 + (j317 : Int).toNat * 2, none⟩))) (kv (.agg #[.int .i64 ((rd data313 (w64 (j317 - 1))).ID), .int .i64 ((rd data313 (w64 (j317 - 1))).Grade)])) rfl rfl c325 c326 ?_)
       intro W360 s361 HS362 HO363
       refine ⟨(Sg.g1 (Sx.of [s361] fL HS362) (fun hl_ => Bool.noConfusion (show true = false from hl_))), ?_⟩
       refine gateRwS 0 (A := A1) (m := data313.length) (n := (data313.set (j317).toNat (rd data313 (w64 (j317 - 1)))).length) (c := c2) kr (List.length_set).symm ?_
       refine gateRwS 23 (A := A1) (m := data313.length) (n := (data313.set (j317).toNat (rd data313 (w64 (j317 - 1)))).length) (c := c2) kr (List.length_set).symm ?_
       refine gateRwS 27 (A := A1) (m := data313.length) (n := (data313.set (j317).toNat (rd data313 (w64 (j317 - 1)))).length) (c := c2) kr (List.length_set).symm ?_
       refine gateRwS 37 (A := A1) (m := data313.length) (n := (data313.set (j317).toNat (rd data313 (w64 (j317 - 1)))).length) (c := c2) kr (List.length_set).symm ?_
       refine gateRwS 39 (A := A1) (m := data313.length) (n := (data313.set (j317).toNat (rd data313 (w64 (j317 - 1)))).length) (c := c2) kr (List.length_set).symm ?_
       refine gateRwS 42 (A := A1) (m := data313.length) (n := (data313.set (j317).toNat (rd data313 (w64 (j317 - 1)))).length) (c := c2) kr (List.length_set).symm ?_
       refine gateRwS 47 (A := A1) (m := data313.length) (n := (data313.set (j317).toNat (rd data313 (w64 (j317 - 1)))).length) (c := c2) kr (List.length_set).symm ?_
       have hq_ := guard_some h; clear h; obtain ⟨c364, h⟩ := hq_
       have c364 : (w64 (j317 - 1)) < ((data313.set (j317).toNat (rd data313 (w64 (j317 - 1)))).length : Int) := c364
       obtain ⟨b368, of369, cs365, hA370, hr366, hc367⟩ := HO363.at (i := w64 (j317 - 1)) c333 c364
       obtain rfl := hr366
       refine takeGQ 16 [] rfl kr kr kr kr kr kr (fun ch_ a_ w_ q_ => (fun ch_ a_ w_ q_ => (fun ch_ a_ w_ q_ => (fun ch_ a_ w_ q_ => hnp ch_ a_ w_ (hp16 ch_ a_ w_ q_)) ch_ a_ w_ (hp227 ch_ a_ w_ q_)) ch_ a_ w_ (hp236 ch_ a_ w_ q_)) ch_ a_ w_ (hp356 ch_ a_ w_ q_)) (Sg.g1 (Sx.of [s361] fL HS362) (fun hl_ => Bool.noConfusion (show true = false from hl_))) (fun w_ hw_ => by obtain ⟨g_, hl_, hS_⟩ := hw_.st; exact run_indexE hA370 (sz := 2) rfl Tryz.underlying57 kr (kv (.slice A1 (data313.set (j317).toNat (rd data313 (w64 (j317 - 1)))).length c2)) (kv (.int .i64 (w64 (j317 - 1)))) c333 c364 w_) ?_
       refine takeGE 17 kr rfl kr (does_put (e := ty_Answer) (E := 62) (vs := [.int .i64 ((rd data313 j317).ID), .int .i64 ((rd data313 j317).Grade)]) (u := (rd data313 j317)) (i := w64 (j317 - 1)) rfl kr HO363 HS362 hA370 (kv (.pointer (some ⟨b368, of369 + (w64 (j317 - 1) : Int).toNat * 2, none⟩))) (kv (.agg #[.int .i64 ((rd data313 j317).ID), .int .i64 ((rd data313 j317).Grade)])) rfl rfl c333 c364 ?_)
       intro W371 s372 HS373 HO374
       refine ⟨(Sg.g1 (Sx.of [s372] fL HS373) (fun hl_ => Bool.noConfusion (show true = false from hl_))), ?_⟩
       refine gateRwS 0 (A := A1) (m := (data313.set (j317).toNat (rd data313 (w64 (j317 - 1)))).length) (n := ((data313.set (j317).toNat (rd data313 (w64 (j317 - 1)))).set (w64 (j317 - 1)).toNat (rd data313 j317)).length) (c := c2) kr (List.length_set).symm ?_
       refine gateRwS 23 (A := A1) (m := (data313.set (j317).toNat (rd data313 (w64 (j317 - 1)))).length) (n := ((data313.set (j317).toNat (rd data313 (w64 (j317 - 1)))).set (w64 (j317 - 1)).toNat (rd data313 j317)).length) (c := c2) kr (List.length_set).symm ?_
       refine gateRwS 27 (A := A1) (m := (data313.set (j317).toNat (rd data313 (w64 (j317 - 1)))).length) (n := ((data313.set (j317).toNat (rd data313 (w64 (j317 - 1)))).set (w64 (j317 - 1)).toNat (rd data313 j317)).length) (c := c2) kr (List.length_set).symm ?_
       refine gateRwS 37 (A := A1) (m := (data313.set (j317).toNat (rd data313 (w64 (j317 - 1)))).length) (n := ((data313.set (j317).toNat (rd data313 (w64 (j317 - 1)))).set (w64 (j317 - 1)).toNat (rd data313 j317)).length) (c := c2) kr (List.length_set).symm ?_
       refine gateRwS 39 (A := A1) (m := (data313.set (j317).toNat (rd data313 (w64 (j317 - 1)))).length) (n := ((data313.set (j317).toNat (rd data313 (w64 (j317 - 1)))).set (w64 (j317 - 1)).toNat (rd data313 j317)).length) (c := c2) kr (List.length_set).symm ?_
       refine gateRwS 42 (A := A1) (m := (data313.set (j317).toNat (rd data313 (w64 (j317 - 1)))).length) (n := ((data313.set (j317).toNat (rd data313 (w64 (j317 - 1)))).set (w64 (j317 - 1)).toNat (rd data313 j317)).length) (c := c2) kr (List.length_set).symm ?_
       refine gateRwS 47 (A := A1) (m := (data313.set (j317).toNat (rd data313 (w64 (j317 - 1)))).length) (n := ((data313.set (j317).toNat (rd data313 (w64 (j317 - 1)))).set (w64 (j317 - 1)).toNat (rd data313 j317)).length) (c := c2) kr (List.length_set).symm ?_
       refine doneG kr ?_ _
       refine hn353 _ _ ?_
       refine hK350 _ _ ?_
       refine rl ?_
       refine seqL3 kr ?_
       refine nl ?_
       refine hK306 n307 _ _ (Nat.lt_succ_self _) ?_
       exact ⟨f343, s372, ((data313.set (j317).toNat (rd data313 (w64 (j317 - 1)))).set (w64 (j317 - 1)).toNat (rd data313 j317)), (w64 (j317 - 1)), (jL [iV j317, iV a7, tV, tV, .func (.func 57) #[] #[], .slice A1 ((data313.set (j317).toNat (rd data313 (w64 (j317 - 1)))).set (w64 (j317 - 1)).toNat (rd data313 j317)).length c2, iV j317, .pointer (some ⟨b330, of331 + (j317 : Int).toNat * 2, none⟩), .agg #[.int .i64 ((rd data313 j317).ID), .int .i64 ((rd data313 j317).Grade)], .slice A1 ((data313.set (j317).toNat (rd data313 (w64 (j317 - 1)))).set (w64 (j317 - 1)).toNat (rd data313 j317)).length c2, iV j317, iV (w64 (j317 - 1)), .pointer (some ⟨b338, of339 + (w64 (j317 - 1) : Int).toNat * 2, none⟩), .agg #[.int .i64 ((rd data313 (w64 (j317 - 1))).ID), .int .i64 ((rd data313 (w64 (j317 - 1))).Grade)], iV vt341, tV, tV, iV j317, iV (w64 (j317 - 1)), .slice A1 ((data313.set (j317).toNat (rd data313 (w64 (j317 - 1)))).set (w64 (j317 - 1)).toNat (rd data313 j317)).length c2, iV j317, .slice A1 ((data313.set (j317).toNat (rd data313 (w64 (j317 - 1)))).set (w64 (j317 - 1)).toNat (rd data313 j317)).length c2, iV j317, iV (w64 (j317 - 1)), .slice A1 ((data313.set (j317).toNat (rd data313 (w64 (j317 - 1)))).set (w64 (j317 - 1)).toNat (rd data313 j317)).length c2, iV j317, iV (w64 (j317 - 1)), .pointer (some ⟨b338, of339 + (w64 (j317 - 1) : Int).toNat * 2, none⟩), .agg #[.int .i64 ((rd data313 (w64 (j317 - 1))).ID), .int .i64 ((rd data313 (w64 (j317 - 1))).Grade)], .slice A1 ((data313.set (j317).toNat (rd data313 (w64 (j317 - 1)))).set (w64 (j317 - 1)).toNat (rd data313 j317)).length c2, iV j317, .pointer (some ⟨b330, of331 + (j317 : Int).toNat * 2, none⟩), .agg #[.int .i64 ((rd data313 j317).ID), .int .i64 ((rd data313 j317).Grade)], .pointer (some ⟨b330, of331 + (j317 : Int).toNat * 2, none⟩), .pointer (some ⟨b368, of369 + (w64 (j317 - 1) : Int).toNat * 2, none⟩)]), (L309.trans L344), HS373, HO374, (List.length_set.trans (List.length_set.trans HL316)), h, kr⟩
     · have c348 : ¬ (vt341 < 0) := c348
       refine wpRwI 33 kr (decide_eq_false c348) ?_
       refine wpRwI 34 kr (decide_eq_false c348) ?_
       refine condF kr ?_
       refine wp_exit ?_
       refine hx232 _ _ ?_
       exact J385 f343 s314 data313 (jL [iV j317, iV j317, iV a7, tV, tV, .func (.func 57) #[] #[], .slice A1 data313.length c2, iV j317, .pointer (some ⟨b330, of331 + (j317 : Int).toNat * 2, none⟩), .agg #[.int .i64 ((rd data313 j317).ID), .int .i64 ((rd data313 j317).Grade)], .slice A1 data313.length c2, iV j317, iV (w64 (j317 - 1)), .pointer (some ⟨b338, of339 + (w64 (j317 - 1) : Int).toNat * 2, none⟩), .agg #[.int .i64 ((rd data313 (w64 (j317 - 1))).ID), .int .i64 ((rd data313 (w64 (j317 - 1))).Grade)], iV vt341, fV, fV, (j312 17), (j312 18), (j312 19), (j312 20), (j312 21), (j312 22), (j312 23), (j312 24), (j312 25), (j312 26), (j312 27), (j312 28), (j312 29), (j312 30), (j312 31), (j312 32), (j312 33), (j312 34)]) W345 _ (L309.trans L344) h HS346 (HO315.mono L344) HL316 kr
   · have c324 : ¬ (j317 > a7) := c324
     refine gateRwI 20 (x := (decide (j317 > a7))) (v := false) kr (decide_eq_false c324) ?_
     refine gateRwI 21 (x := (decide (j317 > a7))) (v := false) kr (decide_eq_false c324) ?_
     refine takeGL [4, 5, 6, 7, 8, 9, 10, 11, 12, 13, 14, 15, 16] (n := 13) (fuel := 0) #[true, true, true, true, true, true, true, true, true, true, true, true, true, true, true, true, true] rfl kr kr kr (fun ch_ a_ w_ q_ => (fun ch_ a_ w_ q_ => (fun ch_ a_ w_ q_ => hnp ch_ a_ w_ (hp16 ch_ a_ w_ q_)) ch_ a_ w_ (hp227 ch_ a_ w_ q_)) ch_ a_ w_ (hp236 ch_ a_ w_ q_)) (Sg.g0 (Sx.of [] fL HS323)) ?_
     refine doneG kr ?_ _
     refine hK321 _ _ ?_
     refine condF kr ?_
     refine wp_exit ?_
     refine hx232 _ _ ?_
     exact J385 f308 s314 data313 (jL [iV j317, iV j317, iV a7, fV, fV, uV, uV, uV, uV, uV, uV, uV, uV, uV, uV, uV, uV, fV, (j312 17), (j312 18), (j312 19), (j312 20), (j312 21), (j312 22), (j312 23), (j312 24), (j312 25), (j312 26), (j312 27), (j312 28), (j312 29), (j312 30), (j312 31), (j312 32), (j312 33), (j312 34)]) W322 _ L309 h HS323 HO315 HL316 kr
 · have c219 : ¬ (i213 < b8) := c219
   refine wpRwI 14 kr (decide_eq_false c219) ?_
   refine condF kr ?_
   refine wp_exit ?_
   refine hx12 _ _ ?_
   exact J397 f204 s210 data209 (jL [iV i213, (j208 0), iV i213, iV b8, fV, (j208 4), (j208 5), (j208 6), (j208 7), (j208 8), (j208 9), (j208 10), (j208 11), (j208 12), (j208 13), (j208 14), (j208 15), (j208 16), (j208 17), (j208 18), (j208 19), (j208 20), (j208 21), (j208 22), (j208 23), (j208 24), (j208 25), (j208 26), (j208 27), (j208 28), (j208 29), (j208 30), (j208 31), (j208 32), (j208 33), (j208 34), (j208 35), (j208 36), (j208 37), (j208 38), (j208 39), (j208 40), (j208 41)]) W206 _ L205 h HS207 HO211 HL212 kr

set_option maxRecDepth 100000 in
set_option maxHeartbeats 4000000 in
theorem slices_pdqsortCmpFunc_Answer__query_Index_Run_3.calls (k : Nat) (A1 : Option Addr) (c2 : Nat) (s3 : Seg) (data5 : List S_Answer) (a7 : Int) (b8 : Int) (limit9 : Int) {t w : World} {f : FM} {H : List Seg} (HS : St t w f (s3 :: H)) (HO4 : Own ty_Answer 62 f A1 c2 s3 data5) (rr1 : List S_Answer) (h : slices_pdqsortCmpFunc_Answer__query_Index_Run_3 k data5 a7 b8 limit9 = some rr1) :
    Calls Tryz.prog 88 #[.slice A1 data5.length c2, .int .i64 a7, .int .i64 b8, .int .i64 limit9, .func (.func 57) #[] #[]] w (fun e w' => ∃ (g : FM) (s66 : Seg), e = .returned (Value.tuple #[]) ∧ FM.le f g ∧ St t w' g (s66 :: H) ∧ Own ty_Answer 62 g A1 c2 s66 rr1 ∧ rr1.length = data5.length) := by
 unfold slices_pdqsortCmpFunc_Answer__query_Index_Run_3 at h
 refine enter Tryz.func88 rfl (tm := #[.slice A1 data5.length c2, iV a7, iV b8, iV limit9, .func (.func 57) #[] #[], uV, uV, uV, uV, uV, uV, uV, uV, uV, uV, uV, uV, uV, uV, uV, uV, uV, uV, uV, uV, uV, uV, uV, uV, uV, uV, uV, uV, uV, uV, uV, uV, uV, uV, uV, uV, uV, uV, uV, uV, uV, uV, uV, uV, uV, uV, uV, uV, uV, uV, uV, uV, uV, uV, uV, uV, uV, uV, uV, uV, uV, uV, uV, uV, uV, uV, uV, uV, uV, uV, uV, uV, uV, uV, uV, uV, uV, uV, uV, uV, uV, uV, uV, uV, uV, uV, uV, uV, uV, uV, uV, uV, uV, uV, uV, uV, uV, uV, uV, uV, uV, uV, uV, uV, uV, uV, uV, uV, uV, uV, uV, uV, uV, uV, uV, uV, uV, uV, uV, uV, uV, uV, uV, uV, uV, uV, uV, uV, uV, uV, uV, uV, uV, uV, uV, uV, uV, uV, uV, uV, uV, uV, uV]) kr ?_
 intro B hret hnor hnp
 refine wp_seq_k fun K10 hK11 => rl ?_
 refine seqL1 kr ?_
 refine nl (hK11 _ _ ?_)
 refine wp_seq_k fun K12 hK13 => rl ?_
 refine seqL1 kr ?_
 refine nl (hK13 _ _ ?_)
 refine blockK (fun B14 hx15 hn16 hr17 ho18 hp19 => ?_)
 have hq_ := bind_some h; clear h; obtain ⟨o20, hv64, h⟩ := hq_
 have JR65 : ∀ z_, some (Sum.inl z_) = some o20 → some z_ = some rr1 := by
  intro z_ e_; injection e_ with e_; subst e_; exact h
 clear h; have h := hv64; clear hv64
 refine loopK (fun n_ a_ w_ => ∃ (f24 : FM) (a29 : Int) (b30 : Int) (limit31 : Int) (wasBalanced32 : Bool) (wasPartitioned33 : Bool) (j28 : Nat → Value), FM.le f f24 ∧ St t w_ f24 (s3 :: H) ∧ slices_pdqsortCmpFunc_Answer__query_Index_Run_3.l0 k data5 n_ a29 b30 limit31 wasBalanced32 wasPartitioned33 = some o20 ∧ a_ = ⟨#[.slice A1 data5.length c2, iV a29, iV b30, iV limit31, .func (.func 57) #[] #[], uV, uV, uV, uV, uV, .bool wasBalanced32, .bool wasPartitioned33, (j28 0), (j28 1), (j28 2), (j28 3), (j28 4), (j28 5), (j28 6), (j28 7), (j28 8), (j28 9), (j28 10), (j28 11), (j28 12), (j28 13), (j28 14), (j28 15), (j28 16), (j28 17), (j28 18), (j28 19), (j28 20), (j28 21), (j28 22), (j28 23), (j28 24), (j28 25), (j28 26), (j28 27), (j28 28), (j28 29), (j28 30), (j28 31), (j28 32), (j28 33), (j28 34), (j28 35), (j28 36), (j28 37), (j28 38), (j28 39), (j28 40), (j28 41), (j28 42), (j28 43), (j28 44), (j28 45), (j28 46), (j28 47), (j28 48), (j28 49), (j28 50), (j28 51), (j28 52), (j28 53), (j28 54), (j28 55), (j28 56), (j28 57), (j28 58), (j28 59), (j28 60), (j28 61), (j28 62), (j28 63), (j28 64), (j28 65), (j28 66), (j28 67), (j28 68), (j28 69), (j28 70), (j28 71), (j28 72), (j28 73), (j28 74), (j28 75), (j28 76), (j28 77), (j28 78), (j28 79), (j28 80), (j28 81), (j28 82), (j28 83), (j28 84), (j28 85), (j28 86), (j28 87), (j28 88), (j28 89), (j28 90), (j28 91), (j28 92), (j28 93), (j28 94), (j28 95), (j28 96), (j28 97), (j28 98), (j28 99), (j28 100), (j28 101), (j28 102), (j28 103), (j28 104), (j28 105), (j28 106), (j28 107), (j28 108), (j28 109), (j28 110), (j28 111), (j28 112), (j28 113), (j28 114), (j28 115), (j28 116), (j28 117), (j28 118), (j28 119), (j28 120), (j28 121), (j28 122), (j28 123), (j28 124), (j28 125), (j28 126), (j28 127), (j28 128), (j28 129), (j28 130), (j28 131), (j28 132), (j28 133), (j28 134), (j28 135)], []⟩) k ⟨f, a7, b8, limit9, true, true, (jL []), fL, HS, h, kr⟩ ?_
 clear h
 rintro n23 _ W26 ⟨f24, a29, b30, limit31, wasBalanced32, wasPartitioned33, j28, L25, HS27, h, rfl⟩ K21 hK22
 obtain _ | n23 := n23
 · exact nomatch h
 simp only [slices_pdqsortCmpFunc_Answer__query_Index_Run_3.l0] at h
 refine blockK (fun B34 hx35 hn36 hr37 ho38 hp39 => ?_)
 refine wp_seq_k fun K41 hK42 => rl ?_
 refine seqL4 kr ?_
 refine nl (hK42 _ _ ?_)
 refine wp_seq_k (fun K43 hK44 => ?_)
 refine wp_seq_k fun K45 hK46 => rl ?_
 refine seqL2 kr ?_
 refine nl (hK46 _ _ ?_)
 have hq_ := ite_some h; clear h; rcases hq_ with ⟨c48, h⟩ | ⟨c48, h⟩
 · have c48 : (w64 (b30 - a29)) ≤ 12 := c48
   refine wpRwI 25 kr (decide_eq_true c48) ?_
   refine condT kr ?_
   refine wp_seq_k fun K49 hK50 => rl ?_
   have hq_ := bind_some h; clear h; obtain ⟨vt51, hc52, h⟩ := hq_
   refine seqL4 kr ?_
   refine seqK rfl (does_call (f := 102) (args := #[.slice A1 data5.length c2, .int .i64 a29, .int .i64 b30, .func (.func 57) #[] #[]]) kr (slices_insertionSortCmpFunc_Answer__query_Index_Run_3.calls k A1 c2 s3 data5 a29 b30 HS27 (HO4.mono L25) vt51 hc52) ?_)
   rintro _ W55 ⟨f53, s57, rfl, L54, HS56, HO58, HL59⟩
   refine ⟨_, rfl, ?_⟩
   refine seqRwS 0 (A := A1) (m := data5.length) (n := vt51.length) (c := c2) kr (HL59).symm ?_
   refine seqRwS 26 (A := A1) (m := data5.length) (n := vt51.length) (c := c2) kr (HL59).symm ?_
   refine nl (hK50 _ _ ?_)
   refine wp_ret ?_
   refine hr37 _ _ ?_
   refine hr17 _ _ ?_
   refine hret _ _ ?_
   refine ends_still (v := Value.tuple #[]) kr kr ?_
   replace h := JR65 _ h
   injection h with h
   subst h
   exact ⟨f53, s57, rfl, (L25.trans L54), HS56, HO58, HL59⟩
 · have c48 : ¬ ((w64 (b30 - a29)) ≤ 12) := c48
   refine wpRwI 25 kr (decide_eq_false c48) ?_
   refine condF kr ?_
   refine wp_skip ?_
   refine hK44 _ _ ?_
   refine wp_seq_k (fun K60 hK61 => ?_)
   refine wp_seq_k (fun K62 hK63 => ?_)
   exact nomatch h

set_option maxRecDepth 100000 in
set_option maxHeartbeats 4000000 in
theorem slices_SortFunc_Answer__query_Index_Run_3.calls (k : Nat) (A1 : Option Addr) (c2 : Nat) (s3 : Seg) (x5 : List S_Answer) {t w : World} {f : FM} {H : List Seg} (HS : St t w f (s3 :: H)) (HO4 : Own ty_Answer 62 f A1 c2 s3 x5) (rr1 : List S_Answer) (h : slices_SortFunc_Answer__query_Index_Run_3 k x5 = some rr1) :
    Calls Tryz.prog 56 #[.slice A1 x5.length c2, .func (.func 57) #[] #[]] w (fun e w' => ∃ (g : FM) (s24 : Seg), e = .returned (Value.tuple #[]) ∧ FM.le f g ∧ St t w' g (s24 :: H) ∧ Own ty_Answer 62 g A1 c2 s24 rr1 ∧ rr1.length = x5.length) := by
 unfold slices_SortFunc_Answer__query_Index_Run_3 at h
 refine enter Tryz.func56 rfl (tm := #[.slice A1 x5.length c2, .func (.func 57) #[] #[], uV, uV, uV, uV, uV, uV, uV, uV, uV, uV, uV, uV]) kr ?_
 intro B hret hnor hnp
 refine wp_seq_k fun K7 hK8 => rl ?_
 refine seqL3 kr ?_
 refine nl (hK8 _ _ ?_)
 refine rl ?_
 have hq_ := bind_some h; clear h; obtain ⟨vt9, hc10, h⟩ := hq_
 refine seqL4 kr ?_
 refine seqK rfl (does_call (f := 89) (args := #[.int .u64 (u64 ((x5.length : Int)))]) kr (bits_Len.calls k (u64 ((x5.length : Int))) HS vt9 hc10) ?_)
 rintro _ W13 ⟨f11, rfl, L12, HS14⟩
 refine ⟨_, rfl, ?_⟩
 have hq_ := bind_some h; clear h; obtain ⟨vt15, hc16, h⟩ := hq_
 refine seqL1 kr ?_
 refine seqK rfl (does_call (f := 88) (args := #[.slice A1 x5.length c2, .int .i64 0, .int .i64 (x5.length : Int), .int .i64 vt9, .func (.func 57) #[] #[]]) kr (slices_pdqsortCmpFunc_Answer__query_Index_Run_3.calls k A1 c2 s3 x5 0 (x5.length : Int) vt9 HS14 (HO4.mono L12) vt15 hc16) ?_)
 rintro _ W19 ⟨f17, s21, rfl, L18, HS20, HO22, HL23⟩
 refine ⟨_, rfl, ?_⟩
 refine seqRwS 0 (A := A1) (m := x5.length) (n := vt15.length) (c := c2) kr (HL23).symm ?_
 refine seqRwS 5 (A := A1) (m := x5.length) (n := vt15.length) (c := c2) kr (HL23).symm ?_
 refine seqRwS 7 (A := A1) (m := x5.length) (n := vt15.length) (c := c2) kr (HL23).symm ?_
 refine nl ?_
 refine hnor _ _ ?_
 refine ends_still (v := Value.tuple #[]) kr kr ?_
 injection h with h
 subst h
 exact ⟨f17, s21, rfl, (L12.trans L18), HS20, HO22, HL23⟩

end Go.Sp.Q3
