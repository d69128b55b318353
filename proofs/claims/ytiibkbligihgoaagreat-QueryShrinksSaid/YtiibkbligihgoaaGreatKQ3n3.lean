import Derived.Test.YtiibkbligihgoaaGreatProg
import Derived.Test.YtiibkbligihgoaaGreatSpCopy
import Derived.Test.YtiibkbligihgoaaGreatFQ3
import Derived.Test.YtiibkbligihgoaaGreatShelf
import Derived.Test.YtiibkbligihgoaaGreatSpMapR
import Derived.Test.YtiibkbligihgoaaGreatSpKeys
import Derived.Test.YtiibkbligihgoaaGreatSpRound
import Derived.Test.YtiibkbligihgoaaGreatKQ3n0
import Derived.Test.YtiibkbligihgoaaGreatKQ3n1
import Derived.Test.YtiibkbligihgoaaGreatKQ3n2
namespace Go.Sp.Q3
open Go Go.Sp Go.Proofs
set_option linter.unusedVariables false
attribute [local irreducible] wpList AnyL Code.wp Calls Does Code.wpIn wpListIn CallsIn bodyPostM LeavesInM
set_option maxRecDepth 100000 in
set_option maxHeartbeats 4000000 in
theorem query_middle.calls (k : Nat)  (b1 : S_Box) {t w : World} {f : FM} {H : List Seg} (HS : St t w f (H)) (rr1 : S_Vec) (rr2 : Bool) (h : query_middle k b1 = some (rr1, rr2)) :
    Calls Tryz.prog 46 #[.agg #[.int .i64 b1.X.Lo, .int .i64 b1.X.Hi, .bool b1.X.Unknown, .int .i64 b1.Y.Lo, .int .i64 b1.Y.Hi, .bool b1.Y.Unknown, .int .i64 b1.Z.Lo, .int .i64 b1.Z.Hi, .bool b1.Z.Unknown]] w (fun e w' => ∃ (g : FM), e = .returned (Value.tuple #[.agg #[.int .i64 rr1.X, .int .i64 rr1.Y, .int .i64 rr1.Z], .bool rr2]) ∧ FM.le f g ∧ St t w' g (H)) := by
 unfold query_middle at h
 refine enter Tryz.func46 rfl (tm := #[(ag_Box b1), uV, uV, uV, uV, uV, uV, uV, uV, uV, uV, uV, uV, uV, uV, uV, uV, uV, uV, uV, uV, uV, uV, uV, uV, uV, uV, uV, uV, uV, uV, uV, uV, uV, uV, uV, uV, uV, uV, uV, uV, uV, uV, uV, uV, uV, uV, uV, uV, uV, uV, uV, uV, uV, uV, uV, uV, uV, uV, uV, uV]) kr ?_
 intro B hret hnor hnp
 refine wp_seq_k fun K2 hK3 => rl ?_
 refine seqK rfl (does_box (cs := #[.int .i64 b1.X.Lo, .int .i64 b1.X.Hi, .bool b1.X.Unknown, .int .i64 b1.Y.Lo, .int .i64 b1.Y.Hi, .bool b1.Y.Unknown, .int .i64 b1.Z.Lo, .int .i64 b1.Z.Hi, .bool b1.Z.Unknown]) rfl (kv (.agg #[.int .i64 b1.X.Lo, .int .i64 b1.X.Hi, .bool b1.X.Unknown, .int .i64 b1.Y.Lo, .int .i64 b1.Y.Hi, .bool b1.Y.Unknown, .int .i64 b1.Z.Lo, .int .i64 b1.Z.Hi, .bool b1.Z.Unknown])) rfl HS ?_)
 intro b4 W5 HS6
 refine seqK rfl (does_alloc (z := Value.agg #[.int .i64 0, .int .i64 0, .int .i64 0]) (cs := #[.int .i64 0, .int .i64 0, .int .i64 0]) rfl kr rfl HS6 ?_)
 intro b8 W9 HS10
 refine seqL1 kr ?_
 refine nl (hK3 _ _ ?_)
 refine wp_seq_k (fun K12 hK13 => ?_)
 refine wp_seq_k fun K14 hK15 => rl ?_
 refine seqK rfl (does_run (run_loadN (n := 9) rfl Tryz.underlying31 rfl kr (kv (.pointer (some ⟨b4, 0, none⟩))) (cs := [.int .i64 b1.X.Lo, .int .i64 b1.X.Hi, .bool b1.X.Unknown, .int .i64 b1.Y.Lo, .int .i64 b1.Y.Hi, .bool b1.Y.Unknown, .int .i64 b1.Z.Lo, .int .i64 b1.Z.Hi, .bool b1.Z.Unknown]) rfl (HS10.u1.cells 0 9 _ rfl)) ?_)
 have hq_ := bind_some h; clear h; obtain ⟨⟨vt16, vt17⟩, hc18, h⟩ := hq_
 refine seqK rfl (does_call (f := 31) (args := #[.agg #[.int .i64 b1.X.Lo, .int .i64 b1.X.Hi, .bool b1.X.Unknown, .int .i64 b1.Y.Lo, .int .i64 b1.Y.Hi, .bool b1.Y.Unknown, .int .i64 b1.Z.Lo, .int .i64 b1.Z.Hi, .bool b1.Z.Unknown]]) kr (query_sides.calls k b1 HS10 vt16 vt17 hc18) ?_)
 rintro _ W21 ⟨f19, rfl, L20, HS22⟩
 refine ⟨_, rfl, ?_⟩
 refine seqL3 kr ?_
 refine seqK rfl (does_alloc (z := Value.agg #[.int .i64 0, .int .i64 0, .bool false, .int .i64 0, .int .i64 0, .bool false, .int .i64 0, .int .i64 0, .bool false]) (cs := #[.int .i64 0, .int .i64 0, .bool false, .int .i64 0, .int .i64 0, .bool false, .int .i64 0, .int .i64 0, .bool false]) rfl kr rfl HS22 ?_)
 intro b23 W24 HS25
 refine seqK rfl (does_storeA (vs := [.int .i64 ((vt16.getD 0 default).Lo), .int .i64 ((vt16.getD 0 default).Hi), .bool ((vt16.getD 0 default).Unknown), .int .i64 ((vt16.getD 1 default).Lo), .int .i64 ((vt16.getD 1 default).Hi), .bool ((vt16.getD 1 default).Unknown), .int .i64 ((vt16.getD 2 default).Lo), .int .i64 ((vt16.getD 2 default).Hi), .bool ((vt16.getD 2 default).Unknown)]) rfl kr kr kr rfl (ones rfl) HS25 kr ?_)
 intro W27 HS28
 refine seqL1 kr ?_
 refine nl (hK15 _ _ ?_)
 refine wp_seq_k fun K29 hK30 => rl ?_
 refine seqL2 kr ?_
 refine nl (hK30 _ _ ?_)
 have hq_ := ite_some h; clear h; rcases hq_ with ⟨c32, h⟩ | ⟨c32, h⟩
 · have c32 : ¬ (vt17 = true) := c32
   refine wpRwI 14 kr (congrArg (fun b_ => !b_) (show vt17 = false from (Bool.eq_false_iff.mpr c32)) : (!vt17) = true) ?_
   refine condT kr ?_
   refine wp_seq_k fun K33 hK34 => rl ?_
   have HS35 := HS28.u1
   refine seqL1 kr ?_
   refine seqK rfl (does_storeA (vs := [.int .i64 0, .int .i64 0, .int .i64 0]) rfl kr kr kr rfl (ones rfl) HS35 kr ?_)
   intro W36 HS37
   refine seqL1 kr ?_
   refine nl (hK34 _ _ ?_)
   refine wp_ret ?_
   refine hret _ _ ?_
   refine ends (v := Value.tuple #[.agg #[.int .i64 0, .int .i64 0, .int .i64 0], .bool false]) (results2 (q1 := .cell 2 39) (q2 := .tmp 3) kr (resN (n := 3) (cs := [.int .i64 0, .int .i64 0, .int .i64 0]) (kv (.pointer (some ⟨b8, 0, none⟩))) Tryz.underlying39 rfl kr rfl (HS37.cells 0 3 _ rfl)) (resT (kv (.bool false)))) kr ?_
   have HS234 := HS37.drop
   have HS235 := HS234.drop
   have HS236 := HS235.drop
   injection h with h
   injection h with h0_ h
   subst h0_ h
   exact ⟨f19, rfl, L20, HS236⟩
 · have c32 : ¬ (¬ (vt17 = true)) := c32
   refine wpRwI 14 (x := (!vt17)) (v := false) kr (congrArg (fun b_ => !b_) (show vt17 = true from (Decidable.of_not_not c32)) : (!vt17) = false) ?_
   refine condF kr ?_
   refine wp_skip ?_
   refine hK13 _ _ ?_
   refine wp_seq_k fun K38 hK39 => rl ?_
   refine seqL1 kr ?_
   refine nl (hK39 _ _ ?_)
   refine wp_seq_k (fun K40 hK41 => ?_)
   refine heldG (S := Sg t f19 ([(b23, .cells #[.int .i64 ((vt16.getD 0 default).Lo), .int .i64 ((vt16.getD 0 default).Hi), .bool ((vt16.getD 0 default).Unknown), .int .i64 ((vt16.getD 1 default).Lo), .int .i64 ((vt16.getD 1 default).Hi), .bool ((vt16.getD 1 default).Unknown), .int .i64 ((vt16.getD 2 default).Lo), .int .i64 ((vt16.getD 2 default).Hi), .bool ((vt16.getD 2 default).Unknown)] 81 (0, 0))] :: [(b8, .cells #[.int .i64 0, .int .i64 0, .int .i64 0] 39 (0, 0))] :: [(b4, .cells #[.int .i64 b1.X.Lo, .int .i64 b1.X.Hi, .bool b1.X.Unknown, .int .i64 b1.Y.Lo, .int .i64 b1.Y.Hi, .bool b1.Y.Unknown, .int .i64 b1.Z.Lo, .int .i64 b1.Z.Hi, .bool b1.Z.Unknown] 31 (0, 0))] :: H) []) (n := 15) kr rfl HS28 ?_
   intro W42 HS43
   refine takeGL [0, 1] (n := 15) (fuel := 13) #[true, true, false, false, false, false, false, false, false, false, false, false, false, false, false] rfl kr kr kr hnp (Sg.g0 (Sx.of [] fL HS43)) ?_
   refine takeGQ 2 [] rfl kr kr kr kr kr kr hnp (Sg.g0 (Sx.of [] fL HS43)) (fun w_ hw_ => by obtain ⟨g_, hl_, hS_⟩ := hw_.st; exact run_loadN (n := 3) rfl Tryz.underlying29 rfl kr (kv (.pointer (some ⟨b4, 0, none⟩))) (cs := [.int .i64 b1.X.Lo, .int .i64 b1.X.Hi, .bool b1.X.Unknown]) rfl (hS_.u2.cells 0 3 _ rfl)) ?_
   refine takeGL [4, 5] (n := 12) (fuel := 10) #[true, true, true, false, true, true, false, false, false, false, false, false, false, false, false] rfl kr kr kr hnp (Sg.g0 (Sx.of [] fL HS43)) ?_
   refine takeGQ 6 [] rfl kr kr kr kr kr kr hnp (Sg.g0 (Sx.of [] fL HS43)) (fun w_ hw_ => by obtain ⟨g_, hl_, hS_⟩ := hw_.st; exact run_loadN (n := 3) rfl Tryz.underlying29 rfl kr (kv (.pointer (some ⟨b4, 3, none⟩))) (cs := [.int .i64 b1.Y.Lo, .int .i64 b1.Y.Hi, .bool b1.Y.Unknown]) rfl (hS_.u2.cells 3 3 _ rfl)) ?_
   refine takeGL [8, 9] (n := 9) (fuel := 7) #[true, true, true, false, true, true, true, false, true, true, false, false, false, false, false] rfl kr kr kr hnp (Sg.g0 (Sx.of [] fL HS43)) ?_
   refine takeGQ 10 [] rfl kr kr kr kr kr kr hnp (Sg.g0 (Sx.of [] fL HS43)) (fun w_ hw_ => by obtain ⟨g_, hl_, hS_⟩ := hw_.st; exact run_loadN (n := 3) rfl Tryz.underlying29 rfl kr (kv (.pointer (some ⟨b4, 6, none⟩))) (cs := [.int .i64 b1.Z.Lo, .int .i64 b1.Z.Hi, .bool b1.Z.Unknown]) rfl (hS_.u2.cells 6 3 _ rfl)) ?_
   have hq_ := bind_some h; clear h; obtain ⟨vt44, hc45, h⟩ := hq_
   have hq_ := bind_some h; clear h; obtain ⟨vt50, hc51, h⟩ := hq_
   have hq_ := bind_some h; clear h; obtain ⟨vt56, hc57, h⟩ := hq_
   refine withR #[true, true, true, true, true, true, true, true, true, true, true, true, true, true, true] ?_
   intro R68 hR69 hR70
   have J71 : ∀ (f46 : FM) (f52 : FM) (f58 : FM) (b62 : Nat) (W72 : World) (a_ : Act), FM.le f19 f46 → FM.le f46 f52 → FM.le f52 f58 → St t W72 f58 ([(b62, .cells #[.int .i64 vt44, .int .i64 vt50, .int .i64 vt56] 39 (0, 0))] :: [(b23, .cells #[.int .i64 ((vt16.getD 0 default).Lo), .int .i64 ((vt16.getD 0 default).Hi), .bool ((vt16.getD 0 default).Unknown), .int .i64 ((vt16.getD 1 default).Lo), .int .i64 ((vt16.getD 1 default).Hi), .bool ((vt16.getD 1 default).Unknown), .int .i64 ((vt16.getD 2 default).Lo), .int .i64 ((vt16.getD 2 default).Hi), .bool ((vt16.getD 2 default).Unknown)] 81 (0, 0))] :: [(b8, .cells #[.int .i64 0, .int .i64 0, .int .i64 0] 39 (0, 0))] :: [(b4, .cells #[.int .i64 b1.X.Lo, .int .i64 b1.X.Hi, .bool b1.X.Unknown, .int .i64 b1.Y.Lo, .int .i64 b1.Y.Hi, .bool b1.Y.Unknown, .int .i64 b1.Z.Lo, .int .i64 b1.Z.Hi, .bool b1.Z.Unknown] 31 (0, 0))] :: H) → a_ = ⟨#[(ag_Box b1), pV b4 0, pV b8 0, fV, pV b23 0, .bool vt17, .func (.func 77) #[] #[], pV b62 0, .tuple #[.agg #[iV ((vt16.getD 0 default).Lo), iV ((vt16.getD 0 default).Hi), .bool ((vt16.getD 0 default).Unknown), iV ((vt16.getD 1 default).Lo), iV ((vt16.getD 1 default).Hi), .bool ((vt16.getD 1 default).Unknown), iV ((vt16.getD 2 default).Lo), iV ((vt16.getD 2 default).Hi), .bool ((vt16.getD 2 default).Unknown)], .bool vt17], (ag_Box b1), .tuple #[.agg #[iV ((vt16.getD 0 default).Lo), iV ((vt16.getD 0 default).Hi), .bool ((vt16.getD 0 default).Unknown), iV ((vt16.getD 1 default).Lo), iV ((vt16.getD 1 default).Hi), .bool ((vt16.getD 1 default).Unknown), iV ((vt16.getD 2 default).Lo), iV ((vt16.getD 2 default).Hi), .bool ((vt16.getD 2 default).Unknown)], .bool vt17], .agg #[iV ((vt16.getD 0 default).Lo), iV ((vt16.getD 0 default).Hi), .bool ((vt16.getD 0 default).Unknown), iV ((vt16.getD 1 default).Lo), iV ((vt16.getD 1 default).Hi), .bool ((vt16.getD 1 default).Unknown), iV ((vt16.getD 2 default).Lo), iV ((vt16.getD 2 default).Hi), .bool ((vt16.getD 2 default).Unknown)], .bool vt17, .bool vt17, fV, uV, .func (.func 77) #[] #[], pV b4 0, (ag_Bound b1.X), iV vt44, .func (.func 77) #[] #[], pV b4 3, (ag_Bound b1.Y), iV vt50, .func (.func 77) #[] #[], pV b4 6, (ag_Bound b1.Z), iV vt56, .agg #[iV vt44, iV vt50, iV vt56], uV, uV, uV, uV, uV, uV, uV, uV, uV, uV, uV, uV, uV, uV, uV, uV, uV, uV, uV, uV, uV, uV, uV, uV, uV, uV, uV, uV, uV, uV, uV, uV], []⟩ → R68 a_ W72 := by
    intro f46 f52 f58 b62 W72 a_ L47 L53 L59 HS73 hfr_; subst hfr_
    refine hR69 _ _ ?_
    refine doneG kr ?_ _
    refine hK41 _ _ ?_
    refine wp_seq_k (fun K134 hK135 => ?_)
    refine blockK (fun B136 hx137 hn138 hr139 ho140 hp141 => ?_)
    have hq_ := bind_some h; clear h; obtain ⟨o176, hv221, h⟩ := hq_
    have J222 : ∀ (f213 : FM) (x218 : Int) (x219 : Int) (x220 : Int) (j217 : Nat → Value) (W215 : World) (a_ : Act), FM.le f58 f213 → some ((x218, x219, x220)) = some o176 → St t W215 f213 ([(b62, .cells #[.int .i64 x218, .int .i64 x219, .int .i64 x220] 39 (0, 0))] :: [(b23, .cells #[.int .i64 ((vt16.getD 0 default).Lo), .int .i64 ((vt16.getD 0 default).Hi), .bool ((vt16.getD 0 default).Unknown), .int .i64 ((vt16.getD 1 default).Lo), .int .i64 ((vt16.getD 1 default).Hi), .bool ((vt16.getD 1 default).Unknown), .int .i64 ((vt16.getD 2 default).Lo), .int .i64 ((vt16.getD 2 default).Hi), .bool ((vt16.getD 2 default).Unknown)] 81 (0, 0))] :: [(b8, .cells #[.int .i64 0, .int .i64 0, .int .i64 0] 39 (0, 0))] :: [(b4, .cells #[.int .i64 b1.X.Lo, .int .i64 b1.X.Hi, .bool b1.X.Unknown, .int .i64 b1.Y.Lo, .int .i64 b1.Y.Hi, .bool b1.Y.Unknown, .int .i64 b1.Z.Lo, .int .i64 b1.Z.Hi, .bool b1.Z.Unknown] 31 (0, 0))] :: H) → a_ = ⟨#[(ag_Box b1), pV b4 0, pV b8 0, fV, pV b23 0, .bool vt17, .func (.func 77) #[] #[], pV b62 0, .tuple #[.agg #[iV ((vt16.getD 0 default).Lo), iV ((vt16.getD 0 default).Hi), .bool ((vt16.getD 0 default).Unknown), iV ((vt16.getD 1 default).Lo), iV ((vt16.getD 1 default).Hi), .bool ((vt16.getD 1 default).Unknown), iV ((vt16.getD 2 default).Lo), iV ((vt16.getD 2 default).Hi), .bool ((vt16.getD 2 default).Unknown)], .bool vt17], (ag_Box b1), .tuple #[.agg #[iV ((vt16.getD 0 default).Lo), iV ((vt16.getD 0 default).Hi), .bool ((vt16.getD 0 default).Unknown), iV ((vt16.getD 1 default).Lo), iV ((vt16.getD 1 default).Hi), .bool ((vt16.getD 1 default).Unknown), iV ((vt16.getD 2 default).Lo), iV ((vt16.getD 2 default).Hi), .bool ((vt16.getD 2 default).Unknown)], .bool vt17], .agg #[iV ((vt16.getD 0 default).Lo), iV ((vt16.getD 0 default).Hi), .bool ((vt16.getD 0 default).Unknown), iV ((vt16.getD 1 default).Lo), iV ((vt16.getD 1 default).Hi), .bool ((vt16.getD 1 default).Unknown), iV ((vt16.getD 2 default).Lo), iV ((vt16.getD 2 default).Hi), .bool ((vt16.getD 2 default).Unknown)], .bool vt17, .bool vt17, fV, uV, .func (.func 77) #[] #[], pV b4 0, (ag_Bound b1.X), iV vt44, .func (.func 77) #[] #[], pV b4 3, (ag_Bound b1.Y), iV vt50, .func (.func 77) #[] #[], pV b4 6, (ag_Bound b1.Z), iV vt56, .agg #[iV vt44, iV vt50, iV vt56], (j217 0), (j217 1), (j217 2), (j217 3), (j217 4), (j217 5), (j217 6), (j217 7), (j217 8), (j217 9), (j217 10), (j217 11), (j217 12), (j217 13), (j217 14), (j217 15), (j217 16), (j217 17), (j217 18), (j217 19), (j217 20), (j217 21), (j217 22), (j217 23), (j217 24), (j217 25), (j217 26), (j217 27), uV, uV, uV, uV], []⟩ → K134 a_ W215 := by
     intro f213 x218 x219 x220 j217 W215 a_ L214 hj223 HS216  hfr_; subst hfr_
     injection hj223 with hj223; subst hj223; try dsimp only at h
     refine hK135 _ _ ?_
     refine wp_seq_k (fun K224 hK225 => ?_)
     have HS229 := HS216.u3.u2.u2.u3
     refine heldG (S := Sg t f213 ([(b62, .cells #[.int .i64 x218, .int .i64 x219, .int .i64 x220] 39 (0, 0))] :: [(b23, .cells #[.int .i64 ((vt16.getD 0 default).Lo), .int .i64 ((vt16.getD 0 default).Hi), .bool ((vt16.getD 0 default).Unknown), .int .i64 ((vt16.getD 1 default).Lo), .int .i64 ((vt16.getD 1 default).Hi), .bool ((vt16.getD 1 default).Unknown), .int .i64 ((vt16.getD 2 default).Lo), .int .i64 ((vt16.getD 2 default).Hi), .bool ((vt16.getD 2 default).Unknown)] 81 (0, 0))] :: [(b4, .cells #[.int .i64 b1.X.Lo, .int .i64 b1.X.Hi, .bool b1.X.Unknown, .int .i64 b1.Y.Lo, .int .i64 b1.Y.Hi, .bool b1.Y.Unknown, .int .i64 b1.Z.Lo, .int .i64 b1.Z.Hi, .bool b1.Z.Unknown] 31 (0, 0))] :: H) [(4, [(b8, .cells #[.int .i64 0, .int .i64 0, .int .i64 0] 39 (0, 0))])]) (n := 6) kr rfl HS229 ?_
     intro W230 HS231
     refine takeGQ 0 [] rfl kr kr kr kr kr kr hnp (Sg.g1 (Sx.of [[(b8, .cells #[.int .i64 0, .int .i64 0, .int .i64 0] 39 (0, 0))]] fL HS231) (fun _ => St.only [] HS231 fL)) (fun w_ hw_ => by obtain ⟨g_, hl_, hS_⟩ := hw_.st; exact run_loadN (n := 3) rfl Tryz.underlying39 rfl kr (kv (.pointer (some ⟨b62, 0, none⟩))) (cs := [.int .i64 x218, .int .i64 x219, .int .i64 x220]) rfl (hS_.cells 0 3 _ rfl)) ?_
     refine takeGQ 1 [] rfl kr kr kr kr kr kr hnp (Sg.g1 (Sx.of [[(b8, .cells #[.int .i64 0, .int .i64 0, .int .i64 0] 39 (0, 0))]] fL HS231) (fun _ => St.only [] HS231 fL)) (fun w_ hw_ => by obtain ⟨g_, hl_, hS_⟩ := hw_.st; exact run_loadN (n := 3) rfl Tryz.underlying39 rfl kr (kv (.pointer (some ⟨b62, 0, none⟩))) (cs := [.int .i64 x218, .int .i64 x219, .int .i64 x220]) rfl (hS_.cells 0 3 _ rfl)) ?_
     refine takeGL [2] (n := 4) (fuel := 3) #[true, true, true, false, false, false] rfl kr kr kr hnp (Sg.g1 (Sx.of [[(b8, .cells #[.int .i64 0, .int .i64 0, .int .i64 0] 39 (0, 0))]] fL HS231) (fun _ => St.only [] HS231 fL)) ?_
     refine takeGQ 3 [] rfl kr kr kr kr kr kr hnp (Sg.g1 (Sx.of [[(b8, .cells #[.int .i64 0, .int .i64 0, .int .i64 0] 39 (0, 0))]] fL HS231) (fun _ => St.only [] HS231 fL)) (fun w_ hw_ => by obtain ⟨g_, hl_, hS_⟩ := hw_.st; exact run_neS (b := ((x218 == 0) && ((x219 == 0) && ((x220 == 0) && true)))) rfl (kv (.agg #[.int .i64 x218, .int .i64 x219, .int .i64 x220])) (kv (.agg #[.int .i64 0, .int .i64 0, .int .i64 0])) kr kr w_) ?_
     refine takeGE 4 kr rfl kr (does_storeA (vs := [.int .i64 x218, .int .i64 x219, .int .i64 x220]) rfl kr kr kr rfl (ones rfl) HS231 kr ?_)
     intro W232 HS233
     refine ⟨(Sg.g1 (Sx.of [[(b8, .cells #[.int .i64 x218, .int .i64 x219, .int .i64 x220] 39 (0, 0))]] fL HS233) (fun hl_ => Bool.noConfusion (show true = false from hl_))), ?_⟩
     refine takeGL [5] (n := 1) (fuel := 0) #[true, true, true, true, true, true] rfl kr kr kr hnp (Sg.g1 (Sx.of [[(b8, .cells #[.int .i64 x218, .int .i64 x219, .int .i64 x220] 39 (0, 0))]] fL HS233) (fun hl_ => Bool.noConfusion (show true = false from hl_))) ?_
     refine doneG kr ?_ _
     refine hK225 _ _ ?_
     refine wp_ret ?_
     refine hret _ _ ?_
     refine ends (v := Value.tuple #[.agg #[.int .i64 x218, .int .i64 x219, .int .i64 x220], .bool (!((x218 == 0) && ((x219 == 0) && ((x220 == 0) && true))))]) (results2 (q1 := .cell 2 39) (q2 := .tmp 3) kr (resN (n := 3) (cs := [.int .i64 x218, .int .i64 x219, .int .i64 x220]) (kv (.pointer (some ⟨b8, 0, none⟩))) Tryz.underlying39 rfl kr rfl (HS233.cells 0 3 _ rfl)) (resT (kv (.bool (!((x218 == 0) && ((x219 == 0) && ((x220 == 0) && true)))))))) kr ?_
     have HS237 := HS233.drop
     have HS238 := HS237.drop
     have HS239 := HS238.drop
     have HS240 := HS239.drop
     injection h with h
     injection h with h0_ h
     subst h0_ h
     exact ⟨f213, rfl, (L20.trans (L47.trans (L53.trans (L59.trans L214)))), HS240⟩
    clear h; have h := hv221; clear hv221
    refine loopK (fun n_ a_ w_ => ∃ (f180 : FM) (x185 : Int) (x186 : Int) (x187 : Int) (j184 : Nat → Value), FM.le f58 f180 ∧ St t w_ f180 ([(b62, .cells #[.int .i64 x185, .int .i64 x186, .int .i64 x187] 39 (0, 0))] :: [(b23, .cells #[.int .i64 ((vt16.getD 0 default).Lo), .int .i64 ((vt16.getD 0 default).Hi), .bool ((vt16.getD 0 default).Unknown), .int .i64 ((vt16.getD 1 default).Lo), .int .i64 ((vt16.getD 1 default).Hi), .bool ((vt16.getD 1 default).Unknown), .int .i64 ((vt16.getD 2 default).Lo), .int .i64 ((vt16.getD 2 default).Hi), .bool ((vt16.getD 2 default).Unknown)] 81 (0, 0))] :: [(b8, .cells #[.int .i64 0, .int .i64 0, .int .i64 0] 39 (0, 0))] :: [(b4, .cells #[.int .i64 b1.X.Lo, .int .i64 b1.X.Hi, .bool b1.X.Unknown, .int .i64 b1.Y.Lo, .int .i64 b1.Y.Hi, .bool b1.Y.Unknown, .int .i64 b1.Z.Lo, .int .i64 b1.Z.Hi, .bool b1.Z.Unknown] 31 (0, 0))] :: H) ∧ query_middle.l0 k n_ x185 x186 x187 = some o176 ∧ a_ = ⟨#[(ag_Box b1), pV b4 0, pV b8 0, fV, pV b23 0, .bool vt17, .func (.func 77) #[] #[], pV b62 0, .tuple #[.agg #[iV ((vt16.getD 0 default).Lo), iV ((vt16.getD 0 default).Hi), .bool ((vt16.getD 0 default).Unknown), iV ((vt16.getD 1 default).Lo), iV ((vt16.getD 1 default).Hi), .bool ((vt16.getD 1 default).Unknown), iV ((vt16.getD 2 default).Lo), iV ((vt16.getD 2 default).Hi), .bool ((vt16.getD 2 default).Unknown)], .bool vt17], (ag_Box b1), .tuple #[.agg #[iV ((vt16.getD 0 default).Lo), iV ((vt16.getD 0 default).Hi), .bool ((vt16.getD 0 default).Unknown), iV ((vt16.getD 1 default).Lo), iV ((vt16.getD 1 default).Hi), .bool ((vt16.getD 1 default).Unknown), iV ((vt16.getD 2 default).Lo), iV ((vt16.getD 2 default).Hi), .bool ((vt16.getD 2 default).Unknown)], .bool vt17], .agg #[iV ((vt16.getD 0 default).Lo), iV ((vt16.getD 0 default).Hi), .bool ((vt16.getD 0 default).Unknown), iV ((vt16.getD 1 default).Lo), iV ((vt16.getD 1 default).Hi), .bool ((vt16.getD 1 default).Unknown), iV ((vt16.getD 2 default).Lo), iV ((vt16.getD 2 default).Hi), .bool ((vt16.getD 2 default).Unknown)], .bool vt17, .bool vt17, fV, uV, .func (.func 77) #[] #[], pV b4 0, (ag_Bound b1.X), iV vt44, .func (.func 77) #[] #[], pV b4 3, (ag_Bound b1.Y), iV vt50, .func (.func 77) #[] #[], pV b4 6, (ag_Bound b1.Z), iV vt56, .agg #[iV vt44, iV vt50, iV vt56], (j184 0), (j184 1), (j184 2), (j184 3), (j184 4), (j184 5), (j184 6), (j184 7), (j184 8), (j184 9), (j184 10), (j184 11), (j184 12), (j184 13), (j184 14), (j184 15), (j184 16), (j184 17), (j184 18), (j184 19), (j184 20), (j184 21), (j184 22), (j184 23), (j184 24), (j184 25), (j184 26), (j184 27), uV, uV, uV, uV], []⟩) k ⟨f58, vt44, vt50, vt56, (jL []), fL, HS73, h, kr⟩ ?_
    clear h
    rintro n179 _ W182 ⟨f180, x185, x186, x187, j184, L181, HS183, h, rfl⟩ K177 hK178
    obtain _ | n179 := n179
    · exact nomatch h
    simp only [query_middle.l0] at h
    refine wp_seq_k (fun K188 hK189 => ?_)
    refine wp_seq_k fun K190 hK191 => rl ?_
    refine seqL1 kr ?_
    refine seqK rfl (does_run (run_load rfl Tryz.underlying2 rfl (kv (.pointer (some ⟨b62, 0, none⟩))) (HS183.cell 0)) ?_)
    refine seqL1 kr ?_
    refine seqK rfl (does_run (run_load rfl Tryz.underlying2 rfl (kv (.pointer (some ⟨b62, 1, none⟩))) (HS183.cell 1)) ?_)
    refine seqL1 kr ?_
    refine seqK rfl (does_run (run_load rfl Tryz.underlying2 rfl (kv (.pointer (some ⟨b62, 2, none⟩))) (HS183.cell 2)) ?_)
    refine seqL3 kr ?_
    have hq_ := ite_some h; clear h; rcases hq_ with ⟨c192, h⟩ | ⟨c192, h⟩
    · have c192 : (mx (mx x185 x186) x187) > 1048576 := c192
      refine seqRwI 36 kr (decide_eq_true c192) ?_
      refine seqRwI 37 kr (decide_eq_true c192) ?_
      refine seqL9 kr ?_
      refine nl (hK191 _ _ ?_)
      refine condT kr ?_
      refine wp_skip ?_
      refine hK189 _ _ ?_
      refine blockK (fun B193 hx194 hn195 hr196 ho197 hp198 => ?_)
      refine rl ?_
      refine seqL1 kr ?_
      refine seqK rfl (does_run (run_load rfl Tryz.underlying2 rfl (kv (.pointer (some ⟨b62, 0, none⟩))) (HS183.cell 0)) ?_)
      refine seqL2 kr ?_
      refine seqK rfl (does_run (run_load rfl Tryz.underlying2 rfl (kv (.pointer (some ⟨b62, 1, none⟩))) (HS183.cell 1)) ?_)
      refine seqL2 kr ?_
      refine seqK rfl (does_run (run_load rfl Tryz.underlying2 rfl (kv (.pointer (some ⟨b62, 2, none⟩))) (HS183.cell 2)) ?_)
      refine seqL2 kr ?_
      refine seqK rfl (does_storeA (vs := [.int .i64 (w64 (Int.tdiv x185 2)), .int .i64 (w64 (Int.tdiv x186 2)), .int .i64 (w64 (Int.tdiv x187 2))]) rfl kr kr kr rfl (ones rfl) HS183 kr ?_)
      intro W200 HS201
      refine nl ?_
      refine hn195 _ _ ?_
      refine hK178 n179 _ _ (Nat.lt_succ_self _) ?_
      exact ⟨f180, (w64 (Int.tdiv x185 2)), (w64 (Int.tdiv x186 2)), (w64 (Int.tdiv x187 2)), (jL [.pointer (some ⟨b62, 0, none⟩), iV x185, .pointer (some ⟨b62, 1, none⟩), iV x186, .pointer (some ⟨b62, 2, none⟩), iV x187, iV (mx (mx x185 x186) x187), tV, tV, uV, uV, uV, uV, uV, uV, uV, uV, tV, .pointer (some ⟨b62, 0, none⟩), iV x185, iV (w64 (Int.tdiv x185 2)), .pointer (some ⟨b62, 1, none⟩), iV x186, iV (w64 (Int.tdiv x186 2)), .pointer (some ⟨b62, 2, none⟩), iV x187, iV (w64 (Int.tdiv x187 2)), .agg #[.int .i64 (w64 (Int.tdiv x185 2)), .int .i64 (w64 (Int.tdiv x186 2)), .int .i64 (w64 (Int.tdiv x187 2))]]), L181, HS201, h, kr⟩
    · have c192 : ¬ ((mx (mx x185 x186) x187) > 1048576) := c192
      refine seqRwI 36 kr (decide_eq_false c192) ?_
      refine seqRwI 37 kr (decide_eq_false c192) ?_
      refine seqL1 kr ?_
      refine seqG kr (does_run (run_load rfl Tryz.underlying2 rfl (kv (.pointer (some ⟨b62, 0, none⟩))) (HS183.cell 0)) ?_)
      refine seqL1 kr ?_
      refine seqG kr (does_run (run_load rfl Tryz.underlying2 rfl (kv (.pointer (some ⟨b62, 1, none⟩))) (HS183.cell 1)) ?_)
      refine seqL1 kr ?_
      refine seqG kr (does_run (run_load rfl Tryz.underlying2 rfl (kv (.pointer (some ⟨b62, 2, none⟩))) (HS183.cell 2)) ?_)
      refine seqL3 kr ?_
      refine nl (hK191 _ _ ?_)
      have hq_ := ite_some h; clear h; rcases hq_ with ⟨c203, h⟩ | ⟨c203, h⟩
      · have c203 : (mn (mn x185 x186) x187) < (-1048576) := c203
        refine wpRwI 45 kr (decide_eq_true c203) ?_
        refine wpRwI 46 kr (decide_eq_true c203) ?_
        refine condT kr ?_
        refine wp_skip ?_
        refine hK189 _ _ ?_
        refine blockK (fun B204 hx205 hn206 hr207 ho208 hp209 => ?_)
        refine rl ?_
        refine seqL1 kr ?_
        refine seqK rfl (does_run (run_load rfl Tryz.underlying2 rfl (kv (.pointer (some ⟨b62, 0, none⟩))) (HS183.cell 0)) ?_)
        refine seqL2 kr ?_
        refine seqK rfl (does_run (run_load rfl Tryz.underlying2 rfl (kv (.pointer (some ⟨b62, 1, none⟩))) (HS183.cell 1)) ?_)
        refine seqL2 kr ?_
        refine seqK rfl (does_run (run_load rfl Tryz.underlying2 rfl (kv (.pointer (some ⟨b62, 2, none⟩))) (HS183.cell 2)) ?_)
        refine seqL2 kr ?_
        refine seqK rfl (does_storeA (vs := [.int .i64 (w64 (Int.tdiv x185 2)), .int .i64 (w64 (Int.tdiv x186 2)), .int .i64 (w64 (Int.tdiv x187 2))]) rfl kr kr kr rfl (ones rfl) HS183 kr ?_)
        intro W211 HS212
        refine nl ?_
        refine hn206 _ _ ?_
        refine hK178 n179 _ _ (Nat.lt_succ_self _) ?_
        exact ⟨f180, (w64 (Int.tdiv x185 2)), (w64 (Int.tdiv x186 2)), (w64 (Int.tdiv x187 2)), (jL [.pointer (some ⟨b62, 0, none⟩), iV x185, .pointer (some ⟨b62, 1, none⟩), iV x186, .pointer (some ⟨b62, 2, none⟩), iV x187, iV (mx (mx x185 x186) x187), fV, fV, .pointer (some ⟨b62, 0, none⟩), iV x185, .pointer (some ⟨b62, 1, none⟩), iV x186, .pointer (some ⟨b62, 2, none⟩), iV x187, iV (mn (mn x185 x186) x187), tV, tV, .pointer (some ⟨b62, 0, none⟩), iV x185, iV (w64 (Int.tdiv x185 2)), .pointer (some ⟨b62, 1, none⟩), iV x186, iV (w64 (Int.tdiv x186 2)), .pointer (some ⟨b62, 2, none⟩), iV x187, iV (w64 (Int.tdiv x187 2)), .agg #[.int .i64 (w64 (Int.tdiv x185 2)), .int .i64 (w64 (Int.tdiv x186 2)), .int .i64 (w64 (Int.tdiv x187 2))]]), L181, HS212, h, kr⟩
      · have c203 : ¬ ((mn (mn x185 x186) x187) < (-1048576)) := c203
        refine wpRwI 45 kr (decide_eq_false c203) ?_
        refine wpRwI 46 kr (decide_eq_false c203) ?_
        refine condF kr ?_
        refine wp_exit ?_
        refine hx137 _ _ ?_
        exact J222 f180 x185 x186 x187 (jL [.pointer (some ⟨b62, 0, none⟩), iV x185, .pointer (some ⟨b62, 1, none⟩), iV x186, .pointer (some ⟨b62, 2, none⟩), iV x187, iV (mx (mx x185 x186) x187), fV, fV, .pointer (some ⟨b62, 0, none⟩), iV x185, .pointer (some ⟨b62, 1, none⟩), iV x186, .pointer (some ⟨b62, 2, none⟩), iV x187, iV (mn (mn x185 x186) x187), fV, fV, (j184 18), (j184 19), (j184 20), (j184 21), (j184 22), (j184 23), (j184 24), (j184 25), (j184 26), (j184 27)]) W182 _ L181 h HS183 kr
   refine takeEither 3 13 kr rfl rfl rfl rfl ?_ ?_
   · refine does_call (f := 77) (args := #[.agg #[.int .i64 b1.X.Lo, .int .i64 b1.X.Hi, .bool b1.X.Unknown]]) kr (query_middle_1.calls k b1.X HS43 vt44 hc45) ?_
     rintro _ W76 ⟨f74, rfl, L75, HS77⟩
     refine ⟨_, rfl, ?_⟩
     refine ⟨(Sg.g0 (Sx.of [] L75 HS77)), ?_⟩
     refine takeEither 7 13 kr rfl rfl rfl rfl ?_ ?_
     · refine does_call (f := 77) (args := #[.agg #[.int .i64 b1.Y.Lo, .int .i64 b1.Y.Hi, .bool b1.Y.Unknown]]) kr (query_middle_1.calls k b1.Y HS77 vt50 hc51) ?_
       rintro _ W80 ⟨f78, rfl, L79, HS81⟩
       refine ⟨_, rfl, ?_⟩
       refine ⟨(Sg.g0 (Sx.of [] (L75.trans L79) HS81)), ?_⟩
       refine takeEither 11 13 kr rfl rfl rfl rfl ?_ ?_
       · refine does_call (f := 77) (args := #[.agg #[.int .i64 b1.Z.Lo, .int .i64 b1.Z.Hi, .bool b1.Z.Unknown]]) kr (query_middle_1.calls k b1.Z HS81 vt56 hc57) ?_
         rintro _ W84 ⟨f82, rfl, L83, HS85⟩
         refine ⟨_, rfl, ?_⟩
         refine ⟨(Sg.g0 (Sx.of [] (L75.trans (L79.trans L83)) HS85)), ?_⟩
         refine takeGL [12] (n := 3) (fuel := 2) #[true, true, true, true, true, true, true, true, true, true, true, true, true, false, false] rfl kr kr kr hnp (Sg.g0 (Sx.of [] (L75.trans (L79.trans L83)) HS85)) ?_
         refine takeGE 13 kr rfl kr (does_alloc (z := Value.agg #[.int .i64 0, .int .i64 0, .int .i64 0]) (cs := #[.int .i64 0, .int .i64 0, .int .i64 0]) rfl kr rfl HS85 ?_)
         intro b86 W87 HS88
         refine ⟨(Sg.g0 (Sx.of [[(b86, .cells #[.int .i64 0, .int .i64 0, .int .i64 0] 39 (0, 0))]] (L75.trans (L79.trans L83)) HS88)), ?_⟩
         refine takeGE 14 kr rfl kr (does_storeA (vs := [.int .i64 vt44, .int .i64 vt50, .int .i64 vt56]) rfl kr kr kr rfl (ones rfl) HS88 kr ?_)
         intro W90 HS91
         refine ⟨(Sg.g0 (Sx.of [[(b86, .cells #[.int .i64 vt44, .int .i64 vt50, .int .i64 vt56] 39 (0, 0))]] (L75.trans (L79.trans L83)) HS91)), ?_⟩
         refine hR70 _ _ ?_
         exact J71 f74 f78 f82 b86 W90 _ L75 L79 L83 HS91 kr
       · refine does_alloc (z := Value.agg #[.int .i64 0, .int .i64 0, .int .i64 0]) (cs := #[.int .i64 0, .int .i64 0, .int .i64 0]) rfl kr rfl HS81 ?_
         intro b92 W93 HS94
         refine ⟨(Sg.g0 (Sx.of [[(b92, .cells #[.int .i64 0, .int .i64 0, .int .i64 0] 39 (0, 0))]] (L75.trans L79) HS94)), ?_⟩
         refine takeGE 11 kr rfl kr (does_call (f := 77) (args := #[.agg #[.int .i64 b1.Z.Lo, .int .i64 b1.Z.Hi, .bool b1.Z.Unknown]]) kr (query_middle_1.calls k b1.Z HS94 vt56 hc57) ?_)
         rintro _ W98 ⟨f96, rfl, L97, HS99⟩
         refine ⟨_, rfl, ?_⟩
         refine ⟨(Sg.g0 (Sx.of [[(b92, .cells #[.int .i64 0, .int .i64 0, .int .i64 0] 39 (0, 0))]] (L75.trans (L79.trans L97)) HS99)), ?_⟩
         refine takeGL [12] (n := 2) (fuel := 1) #[true, true, true, true, true, true, true, true, true, true, true, true, true, true, false] rfl kr kr kr hnp (Sg.g0 (Sx.of [[(b92, .cells #[.int .i64 0, .int .i64 0, .int .i64 0] 39 (0, 0))]] (L75.trans (L79.trans L97)) HS99)) ?_
         refine takeGE 14 kr rfl kr (does_storeA (vs := [.int .i64 vt44, .int .i64 vt50, .int .i64 vt56]) rfl kr kr kr rfl (ones rfl) HS99 kr ?_)
         intro W100 HS101
         refine ⟨(Sg.g0 (Sx.of [[(b92, .cells #[.int .i64 vt44, .int .i64 vt50, .int .i64 vt56] 39 (0, 0))]] (L75.trans (L79.trans L97)) HS101)), ?_⟩
         refine hR70 _ _ ?_
         exact J71 f74 f78 f96 b92 W100 _ L75 L79 L97 HS101 kr
     · refine does_alloc (z := Value.agg #[.int .i64 0, .int .i64 0, .int .i64 0]) (cs := #[.int .i64 0, .int .i64 0, .int .i64 0]) rfl kr rfl HS77 ?_
       intro b102 W103 HS104
       refine ⟨(Sg.g0 (Sx.of [[(b102, .cells #[.int .i64 0, .int .i64 0, .int .i64 0] 39 (0, 0))]] L75 HS104)), ?_⟩
       refine takeGE 7 kr rfl kr (does_call (f := 77) (args := #[.agg #[.int .i64 b1.Y.Lo, .int .i64 b1.Y.Hi, .bool b1.Y.Unknown]]) kr (query_middle_1.calls k b1.Y HS104 vt50 hc51) ?_)
       rintro _ W108 ⟨f106, rfl, L107, HS109⟩
       refine ⟨_, rfl, ?_⟩
       refine ⟨(Sg.g0 (Sx.of [[(b102, .cells #[.int .i64 0, .int .i64 0, .int .i64 0] 39 (0, 0))]] (L75.trans L107) HS109)), ?_⟩
       refine takeGE 11 kr rfl kr (does_call (f := 77) (args := #[.agg #[.int .i64 b1.Z.Lo, .int .i64 b1.Z.Hi, .bool b1.Z.Unknown]]) kr (query_middle_1.calls k b1.Z HS109 vt56 hc57) ?_)
       rintro _ W112 ⟨f110, rfl, L111, HS113⟩
       refine ⟨_, rfl, ?_⟩
       refine ⟨(Sg.g0 (Sx.of [[(b102, .cells #[.int .i64 0, .int .i64 0, .int .i64 0] 39 (0, 0))]] (L75.trans (L107.trans L111)) HS113)), ?_⟩
       refine takeGL [12] (n := 2) (fuel := 1) #[true, true, true, true, true, true, true, true, true, true, true, true, true, true, false] rfl kr kr kr hnp (Sg.g0 (Sx.of [[(b102, .cells #[.int .i64 0, .int .i64 0, .int .i64 0] 39 (0, 0))]] (L75.trans (L107.trans L111)) HS113)) ?_
       refine takeGE 14 kr rfl kr (does_storeA (vs := [.int .i64 vt44, .int .i64 vt50, .int .i64 vt56]) rfl kr kr kr rfl (ones rfl) HS113 kr ?_)
       intro W114 HS115
       refine ⟨(Sg.g0 (Sx.of [[(b102, .cells #[.int .i64 vt44, .int .i64 vt50, .int .i64 vt56] 39 (0, 0))]] (L75.trans (L107.trans L111)) HS115)), ?_⟩
       refine hR70 _ _ ?_
       exact J71 f74 f106 f110 b102 W114 _ L75 L107 L111 HS115 kr
   · refine does_alloc (z := Value.agg #[.int .i64 0, .int .i64 0, .int .i64 0]) (cs := #[.int .i64 0, .int .i64 0, .int .i64 0]) rfl kr rfl HS43 ?_
     intro b116 W117 HS118
     refine ⟨(Sg.g0 (Sx.of [[(b116, .cells #[.int .i64 0, .int .i64 0, .int .i64 0] 39 (0, 0))]] fL HS118)), ?_⟩
     refine takeGE 3 kr rfl kr (does_call (f := 77) (args := #[.agg #[.int .i64 b1.X.Lo, .int .i64 b1.X.Hi, .bool b1.X.Unknown]]) kr (query_middle_1.calls k b1.X HS118 vt44 hc45) ?_)
     rintro _ W122 ⟨f120, rfl, L121, HS123⟩
     refine ⟨_, rfl, ?_⟩
     refine ⟨(Sg.g0 (Sx.of [[(b116, .cells #[.int .i64 0, .int .i64 0, .int .i64 0] 39 (0, 0))]] L121 HS123)), ?_⟩
     refine takeGE 7 kr rfl kr (does_call (f := 77) (args := #[.agg #[.int .i64 b1.Y.Lo, .int .i64 b1.Y.Hi, .bool b1.Y.Unknown]]) kr (query_middle_1.calls k b1.Y HS123 vt50 hc51) ?_)
     rintro _ W126 ⟨f124, rfl, L125, HS127⟩
     refine ⟨_, rfl, ?_⟩
     refine ⟨(Sg.g0 (Sx.of [[(b116, .cells #[.int .i64 0, .int .i64 0, .int .i64 0] 39 (0, 0))]] (L121.trans L125) HS127)), ?_⟩
     refine takeGE 11 kr rfl kr (does_call (f := 77) (args := #[.agg #[.int .i64 b1.Z.Lo, .int .i64 b1.Z.Hi, .bool b1.Z.Unknown]]) kr (query_middle_1.calls k b1.Z HS127 vt56 hc57) ?_)
     rintro _ W130 ⟨f128, rfl, L129, HS131⟩
     refine ⟨_, rfl, ?_⟩
     refine ⟨(Sg.g0 (Sx.of [[(b116, .cells #[.int .i64 0, .int .i64 0, .int .i64 0] 39 (0, 0))]] (L121.trans (L125.trans L129)) HS131)), ?_⟩
     refine takeGL [12] (n := 2) (fuel := 1) #[true, true, true, true, true, true, true, true, true, true, true, true, true, true, false] rfl kr kr kr hnp (Sg.g0 (Sx.of [[(b116, .cells #[.int .i64 0, .int .i64 0, .int .i64 0] 39 (0, 0))]] (L121.trans (L125.trans L129)) HS131)) ?_
     refine takeGE 14 kr rfl kr (does_storeA (vs := [.int .i64 vt44, .int .i64 vt50, .int .i64 vt56]) rfl kr kr kr rfl (ones rfl) HS131 kr ?_)
     intro W132 HS133
     refine ⟨(Sg.g0 (Sx.of [[(b116, .cells #[.int .i64 vt44, .int .i64 vt50, .int .i64 vt56] 39 (0, 0))]] (L121.trans (L125.trans L129)) HS133)), ?_⟩
     refine hR70 _ _ ?_
     exact J71 f120 f124 f128 b116 W132 _ L121 L125 L129 HS133 kr

set_option maxRecDepth 100000 in
set_option maxHeartbeats 4000000 in
theorem query_New.calls (k : Nat) (A2 : Option Addr) (c3 : Nat) (rows1 : List S_Row) (level5 : Int) {t w : World} {f : FM} {H : List Seg} (HS : St t w f (H)) (HR4 : SlR ty_Row f A2 c3 rows1) (rr1 : S_Index) (rr2 : Int) (h : query_New k rows1 level5 = some (rr1, rr2)) :
    Calls Tryz.prog 24 #[.slice A2 rows1.length c3, .int .i64 level5] w (fun e w' => ∃ (g : FM) (A624 : Option Addr) (c625 : Nat) (A626 : Option Addr) (c627 : Nat) (A628 : Option Addr) (c629 : Nat) (b630 : Nat), e = .returned (Value.tuple #[.pointer (some ⟨b630, 0, none⟩), .int .i64 rr2]) ∧ FM.le f g ∧ St t w' g ([(b630, .cells #[.slice A624 rr1.rows.length c625, .int .i64 rr1.level, .slice A626 rr1.roots.length c627, .slice A628 rr1.loose.length c629] 109 (0, 0))] :: H) ∧ SlR ty_Row g A624 c625 rr1.rows ∧ SlR tNone g A626 c627 rr1.roots ∧ SlR (tInt .i64) g A628 c629 rr1.loose) := by
 unfold query_New at h
 refine enter Tryz.func24 rfl (tm := #[.slice A2 rows1.length c3, iV level5, uV, uV, uV, uV, uV, uV, uV, uV, uV, uV, uV, uV, uV, uV, uV, uV, uV, uV, uV, uV, uV, uV, uV, uV, uV, uV, uV, uV, uV, uV, uV, uV, uV, uV, uV, uV, uV, uV, uV, uV, uV, uV, uV, uV, uV, uV, uV, uV, uV, uV, uV, uV, uV, uV, uV, uV, uV, uV, uV, uV, uV, uV, uV, uV, uV, uV, uV, uV, uV, uV, uV, uV, uV, uV, uV, uV, uV, uV, uV, uV, uV, uV, uV, uV, uV, uV, uV, uV, uV, uV, uV, uV, uV, uV, uV, uV, uV, uV, uV, uV, uV, uV, uV, uV, uV, uV, uV, uV, uV, uV, uV, uV, uV, uV, uV, uV, uV, uV, uV, uV, uV, uV, uV, uV, uV, uV, uV, uV, uV, uV, uV, uV, uV, uV, uV, uV, uV, uV, uV, uV, uV, uV, uV, uV, uV, uV, uV, uV, uV, uV, uV, uV, uV, uV, uV, uV, uV, uV, uV, uV, uV, uV, uV, uV, uV, uV, uV, uV, uV, uV, uV, uV, uV, uV, uV, uV, uV, uV, uV, uV, uV, uV, uV, uV, uV, uV, uV, uV, uV, uV]) kr ?_
 intro B hret hnor hnp
 refine wp_seq_k fun K6 hK7 => rl ?_
 refine seqL2 kr ?_
 refine nl (hK7 _ _ ?_)
 refine wp_seq_k (fun K8 hK9 => ?_)
 refine wp_seq_k fun K10 hK11 => rl ?_
 have hq_ := bind_some h; clear h; obtain ⟨vt12, hc13, h⟩ := hq_
 refine seqL1 kr ?_
 refine seqK rfl (does_call (f := 42) (args := #[.slice A2 rows1.length c3]) kr (catalog_Check.calls k A2 c3 rows1 HS HR4 vt12 hc13) ?_)
 rintro _ W16 ⟨f14, rfl, L15, HS17⟩
 refine ⟨_, rfl, ?_⟩
 refine seqL1 kr ?_
 refine nl (hK11 _ _ ?_)
 refine wp_seq_k fun K18 hK19 => rl ?_
 refine seqL2 kr ?_
 refine nl (hK19 _ _ ?_)
 have hq_ := ite_some h; clear h; rcases hq_ with ⟨c21, h⟩ | ⟨c21, h⟩
 · have c21 : vt12 ≠ 0 := c21
   refine wpRwI 26 kr (bne_iff_ne.mpr c21) ?_
   refine condT kr ?_
   refine wp_seq_k (fun K22 hK23 => ?_)
   exact nomatch h
 · have c21 : ¬ (vt12 ≠ 0) := c21
   refine wpRwI 26 (x := (vt12 != 0)) (v := false) kr (bne_eq_false_iff_eq.mpr (Decidable.of_not_not c21)) ?_
   refine condF kr ?_
   refine wp_skip ?_
   refine hK9 _ _ ?_
   refine wp_seq_k (fun K24 hK25 => ?_)
   refine wp_seq_k fun K26 hK27 => rl ?_
   refine seqL3 kr ?_
   have hq_ := ite_some h; clear h; rcases hq_ with ⟨c28, h⟩ | ⟨c28, h⟩
   · have c28 : level5 < 0 := c28
     refine seqRwI 29 kr (decide_eq_true c28) ?_
     refine seqRwI 30 kr (decide_eq_true c28) ?_
     refine seqL3 kr ?_
     refine nl (hK27 _ _ ?_)
     refine condT kr ?_
     refine wp_seq_k (fun K29 hK30 => ?_)
     exact nomatch h
   · have c28 : ¬ (level5 < 0) := c28
     refine seqRwI 29 kr (decide_eq_false c28) ?_
     refine seqRwI 30 kr (decide_eq_false c28) ?_
     refine seqL3 kr ?_
     refine nl (hK27 _ _ ?_)
     have hq_ := ite_some h; clear h; rcases hq_ with ⟨c32, h⟩ | ⟨c32, h⟩
     · have c32 : level5 > 12 := c32
       refine wpRwI 32 kr (decide_eq_true c32) ?_
       refine wpRwI 33 kr (decide_eq_true c32) ?_
       refine condT kr ?_
       refine wp_seq_k (fun K33 hK34 => ?_)
       exact nomatch h
     · have c32 : ¬ (level5 > 12) := c32
       refine wpRwI 32 kr (decide_eq_false c32) ?_
       refine wpRwI 33 kr (decide_eq_false c32) ?_
       refine condF kr ?_
       refine wp_skip ?_
       refine hK25 _ _ ?_
       refine wp_seq_k fun K35 hK36 => rl ?_
       have hq_ := bind_some h; clear h; obtain ⟨vt37, hc38, h⟩ := hq_
       refine seqL1 kr ?_
       refine seqK rfl (does_call (f := 45) (args := #[.slice A2 rows1.length c3]) kr (catalog_Copy.calls k A2 c3 rows1 HS17 (HR4.mono L15) vt37 hc38) ?_)
       rintro _ W41 ⟨f39, A43, c44, s45, rfl, L40, HS42, HO46⟩
       refine ⟨_, rfl, ?_⟩
       refine seqL2 kr ?_
       refine seqK rfl (does_box (cs := #[.slice A43 vt37.length c44, .int .i64 level5, .slice none 0 0, .slice none 0 0]) rfl (kv (.agg #[.slice A43 vt37.length c44, .int .i64 level5, .slice none 0 0, .slice none 0 0])) rfl HS42 ?_)
       intro b48 W49 HS50
       refine seqL1 kr ?_
       refine nl (hK36 _ _ ?_)
       refine wp_seq_k fun K52 hK53 => rl ?_
       refine seqK rfl (does_makeMapR (mty tNone) 100110 rfl HS50 ?_)
       intro b54 W55 s56 HS57 HO58
       refine seqL1 kr ?_
       refine nl (hK53 _ _ ?_)
       refine wp_seq_k (fun K60 hK61 => ?_)
       refine wp_seq_k fun K62 hK63 => rl ?_
       refine seqL3 kr ?_
       refine seqK rfl (does_run (run_load rfl Tryz.underlying45 rfl (kv (.pointer (some ⟨b48, 0, none⟩))) (HS57.u1.cell 0)) ?_)
       refine seqL2 kr ?_
       refine nl (hK63 _ _ ?_)
       refine blockK (fun B64 hx65 hn66 hr67 ho68 hp69 => ?_)
       have hq_ := bind_some h; clear h; obtain ⟨o179, hv301, h⟩ := hq_
       have J302 : ∀ (f290 : FM) (A296 : Option Addr) (c297 : Nat) (s298 : Seg) (x295 : List Int) (j294 : Nat → Value) (W292 : World) (a_ : Act), FM.le f39 f290 → some (x295) = some o179 → St t W292 f290 (s298 :: s56 :: [(b48, .cells #[.slice A43 vt37.length c44, .int .i64 level5, .slice none 0 0, .slice A296 x295.length c297] 109 (0, 0))] :: s45 :: H) → Own (tInt .i64) 3 f290 A296 c297 s298 x295 → a_ = ⟨#[.slice A2 rows1.length c3, iV level5, uV, uV, .pointer none, iV 0, iV vt12, pV b48 0, .map (mb (some ⟨b54, 0, none⟩)), (j294 0), (j294 1), (j294 2), (j294 3), (j294 4), (j294 5), (j294 6), uV, uV, uV, uV, uV, uV, uV, .slice A2 rows1.length c3, iV vt12, iV vt12, fV, uV, iV level5, fV, fV, iV level5, fV, fV, .slice A2 rows1.length c3, .slice A43 vt37.length c44, iV level5, .agg #[.slice A43 vt37.length c44, iV level5, .slice none 0 0, .slice none 0 0], pV b48 0, .map (mb (some ⟨b54, 0, none⟩)), pV b48 0, pV b48 0, pV b48 0, .slice A43 vt37.length c44, iV (vt37.length : Int), (j294 7), (j294 8), (j294 9), (j294 10), (j294 11), (j294 12), (j294 13), (j294 14), (j294 15), (j294 16), (j294 17), (j294 18), (j294 19), (j294 20), (j294 21), (j294 22), (j294 23), (j294 24), (j294 25), (j294 26), (j294 27), (j294 28), (j294 29), (j294 30), (j294 31), (j294 32), (j294 33), (j294 34), (j294 35), (j294 36), (j294 37), (j294 38), (j294 39), (j294 40), (j294 41), (j294 42), (j294 43), (j294 44), (j294 45), (j294 46), (j294 47), (j294 48), (j294 49), (j294 50), (j294 51), (j294 52), (j294 53), (j294 54), (j294 55), (j294 56), (j294 57), (j294 58), (j294 59), (j294 60), (j294 61), (j294 62), (j294 63), (j294 64), (j294 65), (j294 66), (j294 67), (j294 68), (j294 69), (j294 70), (j294 71), (j294 72), uV, uV, uV, uV, uV, uV, uV, uV, uV, uV, uV, uV, uV, uV, uV, uV, uV, uV, uV, uV, uV, uV, uV, uV, uV, uV, uV, uV, uV, uV, uV, uV, uV, uV, uV, uV, uV, uV, uV, uV, uV, uV, uV, uV, uV, uV, uV, uV, uV, uV, uV, uV, uV, uV, uV, uV, uV, uV, uV, uV, uV, uV, uV, uV, uV, uV, uV, uV, uV, uV, uV, uV, uV, uV, uV, uV, uV, uV, uV, uV, uV], []⟩ → K60 a_ W292 := by
        intro f290 A296 c297 s298 x295 j294 W292 a_ L291 hj303 HS293 HO299 hfr_; subst hfr_
        injection hj303 with hj303; subst hj303; try dsimp only at h
        refine hK61 _ _ ?_
        refine wp_seq_k (fun K322 hK323 => ?_)
        refine wp_seq_k fun K324 hK325 => rl ?_
        refine seqL2 kr ?_
        refine nl (hK325 _ _ ?_)
        refine blockK (fun B326 hx327 hn328 hr329 ho330 hp331 => ?_)
        have hq_ := bind_some h; clear h; obtain ⟨o428, hv536, h⟩ := hq_
        have J537 : ∀ (f526 : FM) (A532 : Option Addr) (c533 : Nat) (s534 : Seg) (vat531 : List (Int × Unit)) (j530 : Nat → Value) (W528 : World) (a_ : Act), FM.le f290 f526 → some (vat531) = some o428 → St t W528 f526 (s298 :: s534 :: [(b48, .cells #[.slice A43 vt37.length c44, .int .i64 level5, .slice none 0 0, .slice A296 x295.length c297] 109 (0, 0))] :: s45 :: H) → OwnM (mty tNone) 100110 f526 A532 c533 s534 vat531 → a_ = ⟨#[.slice A2 rows1.length c3, iV level5, uV, uV, .pointer none, iV 0, iV vt12, pV b48 0, .map (mb A532), (j294 0), (j294 1), (j294 2), (j294 3), (j294 4), (j294 5), (j294 6), (j530 0), uV, (j530 1), (j530 2), (j530 3), uV, uV, .slice A2 rows1.length c3, iV vt12, iV vt12, fV, uV, iV level5, fV, fV, iV level5, fV, fV, .slice A2 rows1.length c3, .slice A43 vt37.length c44, iV level5, .agg #[.slice A43 vt37.length c44, iV level5, .slice none 0 0, .slice none 0 0], pV b48 0, (j530 4), pV b48 0, pV b48 0, pV b48 0, .slice A43 vt37.length c44, iV (vt37.length : Int), (j294 7), (j294 8), (j294 9), (j294 10), (j294 11), (j294 12), (j294 13), (j294 14), (j294 15), (j294 16), (j294 17), (j294 18), (j294 19), (j294 20), (j294 21), (j294 22), (j294 23), (j294 24), (j294 25), (j294 26), (j294 27), (j294 28), (j294 29), (j294 30), (j294 31), (j294 32), (j294 33), (j294 34), (j294 35), (j294 36), (j294 37), (j294 38), (j294 39), (j294 40), (j294 41), (j294 42), (j294 43), (j294 44), (j294 45), (j294 46), (j294 47), (j294 48), (j294 49), (j294 50), (j294 51), (j294 52), (j294 53), (j294 54), (j294 55), (j294 56), (j294 57), (j294 58), (j294 59), (j294 60), (j294 61), (j294 62), (j294 63), (j294 64), (j294 65), (j294 66), (j294 67), (j294 68), (j294 69), (j294 70), (j294 71), (j294 72), iV level5, (j530 5), (j530 6), (j530 7), (j530 8), (j530 9), (j530 10), (j530 11), (j530 12), (j530 13), (j530 14), (j530 15), (j530 16), (j530 17), (j530 18), (j530 19), (j530 20), (j530 21), (j530 22), (j530 23), (j530 24), (j530 25), (j530 26), (j530 27), (j530 28), (j530 29), (j530 30), (j530 31), (j530 32), (j530 33), (j530 34), (j530 35), (j530 36), (j530 37), (j530 38), (j530 39), (j530 40), (j530 41), (j530 42), (j530 43), (j530 44), (j530 45), (j530 46), (j530 47), (j530 48), (j530 49), (j530 50), (j530 51), (j530 52), (j530 53), (j530 54), (j530 55), (j530 56), (j530 57), (j530 58), (j530 59), (j530 60), (j530 61), (j530 62), uV, uV, uV, uV, uV, uV, uV, uV, uV, uV, uV, uV, uV, uV, uV, uV, uV, uV, uV, uV, uV, uV], []⟩ → K322 a_ W528 := by
         intro f526 A532 c533 s534 vat531 j530 W528 a_ L527 hj538 HS529 HO535 hfr_; subst hfr_
         injection hj538 with hj538; subst hj538; try dsimp only at h
         refine hK323 _ _ ?_
         refine wp_seq_k (fun K549 hK550 => ?_)
         refine wp_seq_k fun K551 hK552 => rl ?_
         refine seqL1 kr ?_
         refine seqK rfl (does_call (f := 50) (args := #[Value.map (mb A532)]) kr (keys_calls (M := 110) (g := 86) Tryz.keys50 rfl rfl rfl HS529) ?_)
         rintro _ W554 ⟨b553, rfl, HS555⟩
         refine ⟨_, rfl, ?_⟩
         have HS558 := HS555.u2.u1
         have hq_ := bind_some h; clear h; obtain ⟨vt559, hc560, h⟩ := hq_
         refine seqK rfl (does_call (f := 49) (args := #[Value.func (.func 86) #[] #[.pointer (some ⟨b553, 0, none⟩)]]) kr (sorted_calls Tryz.keys50 Tryz.sorted49 rfl rfl rfl rfl rfl Tryz.underlying113 Tryz.slices_Sort_int Tryz.slices_Sort_int_none (Go.Proofs.enters_of Tryz.func85 kr rfl) (Go.Proofs.enters_of Tryz.func86 kr rfl) HO535 HS558 vt559 hc560) ?_)
         rintro _ W564 ⟨A561, c562, s563, rfl, HS565, HO566⟩
         refine ⟨_, rfl, ?_⟩
         refine seqL2 kr ?_
         refine nl (hK552 _ _ ?_)
         refine blockK (fun B568 hx569 hn570 hr571 ho572 hp573 => ?_)
         have hq_ := bind_some h; clear h; obtain ⟨o574, hv606, h⟩ := hq_
         have J607 : ∀ (f601 : FM) (j605 : Nat → Value) (W603 : World) (a_ : Act), FM.le f526 f601 → some (()) = some o574 → St t W603 f601 (s563 :: [(b553, .cells #[.map (mb A532)] 110 (0, 0))] :: s534 :: s298 :: [(b48, .cells #[.slice A43 vt37.length c44, .int .i64 level5, .slice none 0 0, .slice A296 x295.length c297] 109 (0, 0))] :: s45 :: H) → a_ = ⟨#[.slice A2 rows1.length c3, iV level5, uV, uV, .pointer none, iV 0, iV vt12, pV b48 0, .map (mb A532), (j294 0), (j294 1), (j294 2), (j294 3), (j294 4), (j294 5), (j294 6), (j530 0), uV, (j530 1), (j530 2), (j530 3), uV, (j605 0), .slice A2 rows1.length c3, iV vt12, iV vt12, fV, uV, iV level5, fV, fV, iV level5, fV, fV, .slice A2 rows1.length c3, .slice A43 vt37.length c44, iV level5, .agg #[.slice A43 vt37.length c44, iV level5, .slice none 0 0, .slice none 0 0], pV b48 0, (j530 4), pV b48 0, pV b48 0, pV b48 0, .slice A43 vt37.length c44, iV (vt37.length : Int), (j294 7), (j294 8), (j294 9), (j294 10), (j294 11), (j294 12), (j294 13), (j294 14), (j294 15), (j294 16), (j294 17), (j294 18), (j294 19), (j294 20), (j294 21), (j294 22), (j294 23), (j294 24), (j294 25), (j294 26), (j294 27), (j294 28), (j294 29), (j294 30), (j294 31), (j294 32), (j294 33), (j294 34), (j294 35), (j294 36), (j294 37), (j294 38), (j294 39), (j294 40), (j294 41), (j294 42), (j294 43), (j294 44), (j294 45), (j294 46), (j294 47), (j294 48), (j294 49), (j294 50), (j294 51), (j294 52), (j294 53), (j294 54), (j294 55), (j294 56), (j294 57), (j294 58), (j294 59), (j294 60), (j294 61), (j294 62), (j294 63), (j294 64), (j294 65), (j294 66), (j294 67), (j294 68), (j294 69), (j294 70), (j294 71), (j294 72), iV level5, (j530 5), (j530 6), (j530 7), (j530 8), (j530 9), (j530 10), (j530 11), (j530 12), (j530 13), (j530 14), (j530 15), (j530 16), (j530 17), (j530 18), (j530 19), (j530 20), (j530 21), (j530 22), (j530 23), (j530 24), (j530 25), (j530 26), (j530 27), (j530 28), (j530 29), (j530 30), (j530 31), (j530 32), (j530 33), (j530 34), (j530 35), (j530 36), (j530 37), (j530 38), (j530 39), (j530 40), (j530 41), (j530 42), (j530 43), (j530 44), (j530 45), (j530 46), (j530 47), (j530 48), (j530 49), (j530 50), (j530 51), (j530 52), (j530 53), (j530 54), (j530 55), (j530 56), (j530 57), (j530 58), (j530 59), (j530 60), (j530 61), (j530 62), .map (mb A532), .func (.func 86) #[] #[pV b553 0], .slice A561 vt559.length c562, iV (vt559.length : Int), (j605 1), (j605 2), (j605 3), (j605 4), (j605 5), (j605 6), (j605 7), (j605 8), (j605 9), (j605 10), (j605 11), (j605 12), (j605 13), (j605 14), (j605 15), (j605 16), (j605 17), uV], []⟩ → K549 a_ W603 := by
          intro f601 j605 W603 a_ L602 hj608 HS604  hfr_; subst hfr_
          injection hj608 with hj608; subst hj608; try dsimp only at h
          refine hK550 _ _ ?_
          refine wp_seq_k fun K609 hK610 => rl ?_
          refine seqL3 kr ?_
          refine nl (hK610 _ _ ?_)
          refine wp_ret ?_
          refine hret _ _ ?_
          have HS611 := HS604.u5
          obtain ⟨f612, L613, HS614, HR615⟩ := (HO46.mono (L291.trans (L527.trans L602))).freeze HS611
          have HS616 := HS614.u3
          obtain ⟨f617, L618, HS619, HR620⟩ := (HO299.mono (L527.trans (L602.trans L613))).freeze HS616
          refine ends_still (v := Value.tuple #[.pointer (some ⟨b48, 0, none⟩), .int .i64 0]) kr kr ?_
          have HS621 := HS619.drop
          have HS622 := HS621.drop
          have HS623 := HS622.drop
          injection h with h
          injection h with h0_ h
          subst h0_ h
          exact ⟨f617, A43, c44, none, 0, A296, c297, b48, rfl, (L15.trans (L40.trans (L291.trans (L527.trans (L602.trans (L613.trans L618)))))), HS623, (HR615.mono L618), (SlR.nil _ _), HR620⟩
         clear h; have h := hv606; clear hv606
         refine loopK (fun n_ a_ w_ => ∃ (f578 : FM) (x583 : Int) (j582 : Nat → Value), FM.le f526 f578 ∧ St t w_ f578 (s563 :: [(b553, .cells #[.map (mb A532)] 110 (0, 0))] :: s534 :: s298 :: [(b48, .cells #[.slice A43 vt37.length c44, .int .i64 level5, .slice none 0 0, .slice A296 x295.length c297] 109 (0, 0))] :: s45 :: H) ∧ query_New.l3 k vt559 n_ x583 = some o574 ∧ a_ = ⟨#[.slice A2 rows1.length c3, iV level5, uV, uV, .pointer none, iV 0, iV vt12, pV b48 0, .map (mb A532), (j294 0), (j294 1), (j294 2), (j294 3), (j294 4), (j294 5), (j294 6), (j530 0), uV, (j530 1), (j530 2), (j530 3), uV, (j582 0), .slice A2 rows1.length c3, iV vt12, iV vt12, fV, uV, iV level5, fV, fV, iV level5, fV, fV, .slice A2 rows1.length c3, .slice A43 vt37.length c44, iV level5, .agg #[.slice A43 vt37.length c44, iV level5, .slice none 0 0, .slice none 0 0], pV b48 0, (j530 4), pV b48 0, pV b48 0, pV b48 0, .slice A43 vt37.length c44, iV (vt37.length : Int), (j294 7), (j294 8), (j294 9), (j294 10), (j294 11), (j294 12), (j294 13), (j294 14), (j294 15), (j294 16), (j294 17), (j294 18), (j294 19), (j294 20), (j294 21), (j294 22), (j294 23), (j294 24), (j294 25), (j294 26), (j294 27), (j294 28), (j294 29), (j294 30), (j294 31), (j294 32), (j294 33), (j294 34), (j294 35), (j294 36), (j294 37), (j294 38), (j294 39), (j294 40), (j294 41), (j294 42), (j294 43), (j294 44), (j294 45), (j294 46), (j294 47), (j294 48), (j294 49), (j294 50), (j294 51), (j294 52), (j294 53), (j294 54), (j294 55), (j294 56), (j294 57), (j294 58), (j294 59), (j294 60), (j294 61), (j294 62), (j294 63), (j294 64), (j294 65), (j294 66), (j294 67), (j294 68), (j294 69), (j294 70), (j294 71), (j294 72), iV level5, (j530 5), (j530 6), (j530 7), (j530 8), (j530 9), (j530 10), (j530 11), (j530 12), (j530 13), (j530 14), (j530 15), (j530 16), (j530 17), (j530 18), (j530 19), (j530 20), (j530 21), (j530 22), (j530 23), (j530 24), (j530 25), (j530 26), (j530 27), (j530 28), (j530 29), (j530 30), (j530 31), (j530 32), (j530 33), (j530 34), (j530 35), (j530 36), (j530 37), (j530 38), (j530 39), (j530 40), (j530 41), (j530 42), (j530 43), (j530 44), (j530 45), (j530 46), (j530 47), (j530 48), (j530 49), (j530 50), (j530 51), (j530 52), (j530 53), (j530 54), (j530 55), (j530 56), (j530 57), (j530 58), (j530 59), (j530 60), (j530 61), (j530 62), .map (mb A532), .func (.func 86) #[] #[pV b553 0], .slice A561 vt559.length c562, iV (vt559.length : Int), iV x583, (j582 1), (j582 2), (j582 3), (j582 4), (j582 5), (j582 6), (j582 7), (j582 8), (j582 9), (j582 10), (j582 11), (j582 12), (j582 13), (j582 14), (j582 15), (j582 16), uV], []⟩) k ⟨f526, 0, (jL []), fL, HS565, h, kr⟩ ?_
         clear h
         rintro n577 _ W580 ⟨f578, x583, j582, L579, HS581, h, rfl⟩ K575 hK576
         obtain _ | n577 := n577
         · exact nomatch h
         simp only [query_New.l3] at h
         refine wp_seq_k fun K584 hK585 => rl ?_
         refine seqL1 kr ?_
         refine nl (hK585 _ _ ?_)
         refine wp_seq_k (fun K586 hK587 => ?_)
         have hq_ := ite_some h; clear h; rcases hq_ with ⟨c589, h⟩ | ⟨c589, h⟩
         · have c589 : x583 < (vt559.length : Int) := c589
           refine wpRwI 175 kr (decide_eq_true c589) ?_
           refine condT kr ?_
           refine wp_skip ?_
           refine hK587 _ _ ?_
           refine wp_seq_k (fun K590 hK591 => ?_)
           refine blockK (fun B592 hx593 hn594 hr595 ho596 hp597 => ?_)
           refine wp_seq_k (fun K599 hK600 => ?_)
           exact nomatch h
         · have c589 : ¬ (x583 < (vt559.length : Int)) := c589
           refine wpRwI 175 kr (decide_eq_false c589) ?_
           refine condF kr ?_
           refine wp_exit ?_
           refine hx569 _ _ ?_
           exact J607 f578 (jL [(j582 0), iV x583, fV, (j582 2), (j582 3), (j582 4), (j582 5), (j582 6), (j582 7), (j582 8), (j582 9), (j582 10), (j582 11), (j582 12), (j582 13), (j582 14), (j582 15), (j582 16)]) W580 _ L579 h HS581 kr
        clear h; have h := hv536; clear hv536
        refine loopK (fun n_ a_ w_ => ∃ (f432 : FM) (A438 : Option Addr) (c439 : Nat) (s440 : Seg) (vat437 : List (Int × Unit)) (x442 : Int) (j436 : Nat → Value), FM.le f290 f432 ∧ St t w_ f432 (s298 :: s440 :: [(b48, .cells #[.slice A43 vt37.length c44, .int .i64 level5, .slice none 0 0, .slice A296 x295.length c297] 109 (0, 0))] :: s45 :: H) ∧ OwnM (mty tNone) 100110 f432 A438 c439 s440 vat437 ∧ query_New.l1 k level5 n_ vat437 x442 = some o428 ∧ a_ = ⟨#[.slice A2 rows1.length c3, iV level5, uV, uV, .pointer none, iV 0, iV vt12, pV b48 0, .map (mb A438), (j294 0), (j294 1), (j294 2), (j294 3), (j294 4), (j294 5), (j294 6), (j436 0), uV, (j436 1), (j436 2), (j436 3), uV, uV, .slice A2 rows1.length c3, iV vt12, iV vt12, fV, uV, iV level5, fV, fV, iV level5, fV, fV, .slice A2 rows1.length c3, .slice A43 vt37.length c44, iV level5, .agg #[.slice A43 vt37.length c44, iV level5, .slice none 0 0, .slice none 0 0], pV b48 0, .map (mb (some ⟨b54, 0, none⟩)), pV b48 0, pV b48 0, pV b48 0, .slice A43 vt37.length c44, iV (vt37.length : Int), (j294 7), (j294 8), (j294 9), (j294 10), (j294 11), (j294 12), (j294 13), (j294 14), (j294 15), (j294 16), (j294 17), (j294 18), (j294 19), (j294 20), (j294 21), (j294 22), (j294 23), (j294 24), (j294 25), (j294 26), (j294 27), (j294 28), (j294 29), (j294 30), (j294 31), (j294 32), (j294 33), (j294 34), (j294 35), (j294 36), (j294 37), (j294 38), (j294 39), (j294 40), (j294 41), (j294 42), (j294 43), (j294 44), (j294 45), (j294 46), (j294 47), (j294 48), (j294 49), (j294 50), (j294 51), (j294 52), (j294 53), (j294 54), (j294 55), (j294 56), (j294 57), (j294 58), (j294 59), (j294 60), (j294 61), (j294 62), (j294 63), (j294 64), (j294 65), (j294 66), (j294 67), (j294 68), (j294 69), (j294 70), (j294 71), (j294 72), iV level5, iV x442, (j436 4), (j436 5), (j436 6), (j436 7), (j436 8), (j436 9), (j436 10), (j436 11), (j436 12), (j436 13), (j436 14), (j436 15), (j436 16), (j436 17), (j436 18), (j436 19), (j436 20), (j436 21), (j436 22), (j436 23), (j436 24), (j436 25), (j436 26), (j436 27), (j436 28), (j436 29), (j436 30), (j436 31), (j436 32), (j436 33), (j436 34), (j436 35), (j436 36), (j436 37), (j436 38), (j436 39), (j436 40), (j436 41), (j436 42), (j436 43), (j436 44), (j436 45), (j436 46), (j436 47), (j436 48), (j436 49), (j436 50), (j436 51), (j436 52), (j436 53), (j436 54), (j436 55), (j436 56), (j436 57), (j436 58), (j436 59), (j436 60), uV, uV, uV, uV, uV, uV, uV, uV, uV, uV, uV, uV, uV, uV, uV, uV, uV, uV, uV, uV, uV, uV], []⟩) k ⟨f290, (some ⟨b54, 0, none⟩), 0, s56, ([] : List (Int × Unit)), 0, (jL []), fL, HS293, (HO58.mono L291), h, kr⟩ ?_
        clear h
        rintro n431 _ W434 ⟨f432, A438, c439, s440, vat437, x442, j436, L433, HS435, HO441, h, rfl⟩ K429 hK430
        obtain _ | n431 := n431
        · exact nomatch h
        simp only [query_New.l1] at h
        refine wp_seq_k fun K443 hK444 => rl ?_
        refine seqL1 kr ?_
        refine nl (hK444 _ _ ?_)
        refine wp_seq_k (fun K445 hK446 => ?_)
        have hq_ := ite_some h; clear h; rcases hq_ with ⟨c448, h⟩ | ⟨c448, h⟩
        · have c448 : x442 < level5 := c448
          refine wpRwI 113 kr (decide_eq_true c448) ?_
          refine condT kr ?_
          refine wp_skip ?_
          refine hK446 _ _ ?_
          refine wp_seq_k (fun K449 hK450 => ?_)
          refine blockK (fun B451 hx452 hn453 hr454 ho455 hp456 => ?_)
          refine wp_seq_k fun K458 hK459 => rl ?_
          refine seqK rfl (does_makeMapR (mty tNone) 100110 rfl HS435 ?_)
          intro b460 W461 s462 HS463 HO464
          refine seqL1 kr ?_
          refine nl (hK459 _ _ ?_)
          refine wp_seq_k (fun K466 hK467 => ?_)
          refine wp_seq_k fun K468 hK469 => rl ?_
          refine seqL1 kr ?_
          refine seqK rfl (does_call (f := 50) (args := #[Value.map (mb A438)]) kr (keys_calls (M := 110) (g := 86) Tryz.keys50 rfl rfl rfl HS463) ?_)
          rintro _ W471 ⟨b470, rfl, HS472⟩
          refine ⟨_, rfl, ?_⟩
          have HS475 := HS472.u3.u1
          have hq_ := bind_some h; clear h; obtain ⟨vt476, hc477, h⟩ := hq_
          refine seqK rfl (does_call (f := 49) (args := #[Value.func (.func 86) #[] #[.pointer (some ⟨b470, 0, none⟩)]]) kr (sorted_calls Tryz.keys50 Tryz.sorted49 rfl rfl rfl rfl rfl Tryz.underlying113 Tryz.slices_Sort_int Tryz.slices_Sort_int_none (Go.Proofs.enters_of Tryz.func85 kr rfl) (Go.Proofs.enters_of Tryz.func86 kr rfl) HO441 HS475 vt476 hc477) ?_)
          rintro _ W481 ⟨A478, c479, s480, rfl, HS482, HO483⟩
          refine ⟨_, rfl, ?_⟩
          refine seqL2 kr ?_
          refine nl (hK469 _ _ ?_)
          refine blockK (fun B485 hx486 hn487 hr488 ho489 hp490 => ?_)
          have hq_ := bind_some h; clear h; obtain ⟨o491, hv523, h⟩ := hq_
          have J524 : ∀ (f518 : FM) (j522 : Nat → Value) (W520 : World) (a_ : Act), FM.le f432 f518 → some (()) = some o491 → St t W520 f518 (s480 :: [(b470, .cells #[.map (mb A438)] 110 (0, 0))] :: s440 :: s462 :: s298 :: [(b48, .cells #[.slice A43 vt37.length c44, .int .i64 level5, .slice none 0 0, .slice A296 x295.length c297] 109 (0, 0))] :: s45 :: H) → a_ = ⟨#[.slice A2 rows1.length c3, iV level5, uV, uV, .pointer none, iV 0, iV vt12, pV b48 0, .map (mb A438), (j294 0), (j294 1), (j294 2), (j294 3), (j294 4), (j294 5), (j294 6), .map (mb (some ⟨b460, 0, none⟩)), uV, (j522 0), (j522 1), (j522 2), uV, uV, .slice A2 rows1.length c3, iV vt12, iV vt12, fV, uV, iV level5, fV, fV, iV level5, fV, fV, .slice A2 rows1.length c3, .slice A43 vt37.length c44, iV level5, .agg #[.slice A43 vt37.length c44, iV level5, .slice none 0 0, .slice none 0 0], pV b48 0, .map (mb (some ⟨b54, 0, none⟩)), pV b48 0, pV b48 0, pV b48 0, .slice A43 vt37.length c44, iV (vt37.length : Int), (j294 7), (j294 8), (j294 9), (j294 10), (j294 11), (j294 12), (j294 13), (j294 14), (j294 15), (j294 16), (j294 17), (j294 18), (j294 19), (j294 20), (j294 21), (j294 22), (j294 23), (j294 24), (j294 25), (j294 26), (j294 27), (j294 28), (j294 29), (j294 30), (j294 31), (j294 32), (j294 33), (j294 34), (j294 35), (j294 36), (j294 37), (j294 38), (j294 39), (j294 40), (j294 41), (j294 42), (j294 43), (j294 44), (j294 45), (j294 46), (j294 47), (j294 48), (j294 49), (j294 50), (j294 51), (j294 52), (j294 53), (j294 54), (j294 55), (j294 56), (j294 57), (j294 58), (j294 59), (j294 60), (j294 61), (j294 62), (j294 63), (j294 64), (j294 65), (j294 66), (j294 67), (j294 68), (j294 69), (j294 70), (j294 71), (j294 72), iV level5, iV x442, tV, .map (mb (some ⟨b460, 0, none⟩)), .map (mb A438), .func (.func 86) #[] #[pV b470 0], .slice A478 vt476.length c479, iV (vt476.length : Int), (j522 3), (j522 4), (j522 5), (j522 6), (j522 7), (j522 8), (j522 9), (j522 10), (j522 11), (j522 12), (j522 13), (j522 14), (j522 15), (j522 16), (j522 17), (j522 18), (j522 19), (j522 20), (j522 21), (j522 22), (j522 23), (j522 24), (j522 25), (j522 26), (j522 27), (j522 28), (j522 29), (j522 30), (j522 31), (j522 32), (j522 33), (j522 34), (j522 35), (j522 36), (j522 37), (j522 38), (j522 39), (j522 40), (j522 41), (j522 42), (j522 43), (j522 44), (j522 45), (j522 46), (j522 47), (j522 48), (j522 49), (j522 50), (j522 51), (j436 59), (j436 60), uV, uV, uV, uV, uV, uV, uV, uV, uV, uV, uV, uV, uV, uV, uV, uV, uV, uV, uV, uV, uV, uV], []⟩ → K466 a_ W520 := by
           intro f518 j522 W520 a_ L519 hj525 HS521  hfr_; subst hfr_
           injection hj525 with hj525; subst hj525; try dsimp only at h
           refine hK467 _ _ ?_
           refine rl ?_
           refine seqL2 kr ?_
           refine nl ?_
           refine hn453 _ _ ?_
           refine hK450 _ _ ?_
           refine rl ?_
           refine seqL2 kr ?_
           refine nl ?_
           refine hK430 n431 _ _ (Nat.lt_succ_self _) ?_
           have HS545 := HS521.u6.u6.u5.u6.u6.u6.u6
           have HS546 := HS545.drop
           have HS547 := HS546.drop
           have HS548 := HS547.drop
           exact ⟨f518, (some ⟨b460, 0, none⟩), 0, s462, ([] : List (Int × Unit)), (w64 (x442 + 1)), (jL [.map (mb (some ⟨b460, 0, none⟩)), (j522 0), (j522 1), (j522 2), tV, .map (mb (some ⟨b460, 0, none⟩)), .map (mb A438), .func (.func 86) #[] #[.pointer (some ⟨b470, 0, none⟩)], .slice A478 vt476.length c479, iV (vt476.length : Int), (j522 3), (j522 4), (j522 5), (j522 6), (j522 7), (j522 8), (j522 9), (j522 10), (j522 11), (j522 12), (j522 13), (j522 14), (j522 15), (j522 16), (j522 17), (j522 18), (j522 19), (j522 20), (j522 21), (j522 22), (j522 23), (j522 24), (j522 25), (j522 26), (j522 27), (j522 28), (j522 29), (j522 30), (j522 31), (j522 32), (j522 33), (j522 34), (j522 35), (j522 36), (j522 37), (j522 38), (j522 39), (j522 40), (j522 41), (j522 42), (j522 43), (j522 44), (j522 45), (j522 46), (j522 47), (j522 48), (j522 49), (j522 50), (j522 51), .map (mb (some ⟨b460, 0, none⟩)), iV (w64 (x442 + 1))]), (L433.trans L519), HS548, (HO464.mono L519), h, kr⟩
          clear h; have h := hv523; clear hv523
          refine loopK (fun n_ a_ w_ => ∃ (f495 : FM) (x500 : Int) (j499 : Nat → Value), FM.le f432 f495 ∧ St t w_ f495 (s480 :: [(b470, .cells #[.map (mb A438)] 110 (0, 0))] :: s440 :: s462 :: s298 :: [(b48, .cells #[.slice A43 vt37.length c44, .int .i64 level5, .slice none 0 0, .slice A296 x295.length c297] 109 (0, 0))] :: s45 :: H) ∧ query_New.l2 k vt476 n_ x500 = some o491 ∧ a_ = ⟨#[.slice A2 rows1.length c3, iV level5, uV, uV, .pointer none, iV 0, iV vt12, pV b48 0, .map (mb A438), (j294 0), (j294 1), (j294 2), (j294 3), (j294 4), (j294 5), (j294 6), .map (mb (some ⟨b460, 0, none⟩)), uV, (j499 0), (j499 1), (j499 2), uV, uV, .slice A2 rows1.length c3, iV vt12, iV vt12, fV, uV, iV level5, fV, fV, iV level5, fV, fV, .slice A2 rows1.length c3, .slice A43 vt37.length c44, iV level5, .agg #[.slice A43 vt37.length c44, iV level5, .slice none 0 0, .slice none 0 0], pV b48 0, .map (mb (some ⟨b54, 0, none⟩)), pV b48 0, pV b48 0, pV b48 0, .slice A43 vt37.length c44, iV (vt37.length : Int), (j294 7), (j294 8), (j294 9), (j294 10), (j294 11), (j294 12), (j294 13), (j294 14), (j294 15), (j294 16), (j294 17), (j294 18), (j294 19), (j294 20), (j294 21), (j294 22), (j294 23), (j294 24), (j294 25), (j294 26), (j294 27), (j294 28), (j294 29), (j294 30), (j294 31), (j294 32), (j294 33), (j294 34), (j294 35), (j294 36), (j294 37), (j294 38), (j294 39), (j294 40), (j294 41), (j294 42), (j294 43), (j294 44), (j294 45), (j294 46), (j294 47), (j294 48), (j294 49), (j294 50), (j294 51), (j294 52), (j294 53), (j294 54), (j294 55), (j294 56), (j294 57), (j294 58), (j294 59), (j294 60), (j294 61), (j294 62), (j294 63), (j294 64), (j294 65), (j294 66), (j294 67), (j294 68), (j294 69), (j294 70), (j294 71), (j294 72), iV level5, iV x442, tV, .map (mb (some ⟨b460, 0, none⟩)), .map (mb A438), .func (.func 86) #[] #[pV b470 0], .slice A478 vt476.length c479, iV (vt476.length : Int), iV x500, (j499 3), (j499 4), (j499 5), (j499 6), (j499 7), (j499 8), (j499 9), (j499 10), (j499 11), (j499 12), (j499 13), (j499 14), (j499 15), (j499 16), (j499 17), (j499 18), (j499 19), (j499 20), (j499 21), (j499 22), (j499 23), (j499 24), (j499 25), (j499 26), (j499 27), (j499 28), (j499 29), (j499 30), (j499 31), (j499 32), (j499 33), (j499 34), (j499 35), (j499 36), (j499 37), (j499 38), (j499 39), (j499 40), (j499 41), (j499 42), (j499 43), (j499 44), (j499 45), (j499 46), (j499 47), (j499 48), (j499 49), (j499 50), (j436 59), (j436 60), uV, uV, uV, uV, uV, uV, uV, uV, uV, uV, uV, uV, uV, uV, uV, uV, uV, uV, uV, uV, uV, uV], []⟩) k ⟨f432, 0, (jL [(j436 1), (j436 2), (j436 3), (j436 11), (j436 12), (j436 13), (j436 14), (j436 15), (j436 16), (j436 17), (j436 18), (j436 19), (j436 20), (j436 21), (j436 22), (j436 23), (j436 24), (j436 25), (j436 26), (j436 27), (j436 28), (j436 29), (j436 30), (j436 31), (j436 32), (j436 33), (j436 34), (j436 35), (j436 36), (j436 37), (j436 38), (j436 39), (j436 40), (j436 41), (j436 42), (j436 43), (j436 44), (j436 45), (j436 46), (j436 47), (j436 48), (j436 49), (j436 50), (j436 51), (j436 52), (j436 53), (j436 54), (j436 55), (j436 56), (j436 57), (j436 58)]), fL, HS482, h, kr⟩ ?_
          clear h
          rintro n494 _ W497 ⟨f495, x500, j499, L496, HS498, h, rfl⟩ K492 hK493
          obtain _ | n494 := n494
          · exact nomatch h
          simp only [query_New.l2] at h
          refine wp_seq_k fun K501 hK502 => rl ?_
          refine seqL1 kr ?_
          refine nl (hK502 _ _ ?_)
          refine wp_seq_k (fun K503 hK504 => ?_)
          have hq_ := ite_some h; clear h; rcases hq_ with ⟨c506, h⟩ | ⟨c506, h⟩
          · have c506 : x500 < (vt476.length : Int) := c506
            refine wpRwI 120 kr (decide_eq_true c506) ?_
            refine condT kr ?_
            refine wp_skip ?_
            refine hK504 _ _ ?_
            refine wp_seq_k (fun K507 hK508 => ?_)
            refine blockK (fun B509 hx510 hn511 hr512 ho513 hp514 => ?_)
            refine wp_seq_k (fun K516 hK517 => ?_)
            exact nomatch h
          · have c506 : ¬ (x500 < (vt476.length : Int)) := c506
            refine wpRwI 120 kr (decide_eq_false c506) ?_
            refine condF kr ?_
            refine wp_exit ?_
            refine hx486 _ _ ?_
            exact J524 f495 (jL [(j499 0), (j499 1), (j499 2), iV x500, fV, (j499 4), (j499 5), (j499 6), (j499 7), (j499 8), (j499 9), (j499 10), (j499 11), (j499 12), (j499 13), (j499 14), (j499 15), (j499 16), (j499 17), (j499 18), (j499 19), (j499 20), (j499 21), (j499 22), (j499 23), (j499 24), (j499 25), (j499 26), (j499 27), (j499 28), (j499 29), (j499 30), (j499 31), (j499 32), (j499 33), (j499 34), (j499 35), (j499 36), (j499 37), (j499 38), (j499 39), (j499 40), (j499 41), (j499 42), (j499 43), (j499 44), (j499 45), (j499 46), (j499 47), (j499 48), (j499 49), (j499 50)]) W497 _ L496 h HS498 kr
        · have c448 : ¬ (x442 < level5) := c448
          refine wpRwI 113 kr (decide_eq_false c448) ?_
          refine condF kr ?_
          refine wp_exit ?_
          refine hx327 _ _ ?_
          exact J537 f432 A438 c439 s440 vat437 (jL [(j436 0), (j436 1), (j436 2), (j436 3), .map (mb (some ⟨b54, 0, none⟩)), iV x442, fV, (j436 5), (j436 6), (j436 7), (j436 8), (j436 9), (j436 10), (j436 11), (j436 12), (j436 13), (j436 14), (j436 15), (j436 16), (j436 17), (j436 18), (j436 19), (j436 20), (j436 21), (j436 22), (j436 23), (j436 24), (j436 25), (j436 26), (j436 27), (j436 28), (j436 29), (j436 30), (j436 31), (j436 32), (j436 33), (j436 34), (j436 35), (j436 36), (j436 37), (j436 38), (j436 39), (j436 40), (j436 41), (j436 42), (j436 43), (j436 44), (j436 45), (j436 46), (j436 47), (j436 48), (j436 49), (j436 50), (j436 51), (j436 52), (j436 53), (j436 54), (j436 55), (j436 56), (j436 57), (j436 58), (j436 59), (j436 60)]) W434 _ L433 h HS435 HO441 kr
       clear h; have h := hv301; clear hv301
       have HS304 := HS57.cons_nil
       refine loopK (fun n_ a_ w_ => ∃ (f183 : FM) (A190 : Option Addr) (c191 : Nat) (s192 : Seg) (x188 : Int) (x189 : List Int) (j187 : Nat → Value), FM.le f39 f183 ∧ St t w_ f183 (s192 :: s56 :: [(b48, .cells #[.slice A43 vt37.length c44, .int .i64 level5, .slice none 0 0, .slice A190 x189.length c191] 109 (0, 0))] :: s45 :: H) ∧ Own (tInt .i64) 3 f183 A190 c191 s192 x189 ∧ query_New.l0 k vt37 n_ x188 x189 = some o179 ∧ a_ = ⟨#[.slice A2 rows1.length c3, iV level5, uV, uV, .pointer none, iV 0, iV vt12, pV b48 0, .map (mb (some ⟨b54, 0, none⟩)), (j187 0), (j187 1), (j187 2), (j187 3), (j187 4), (j187 5), (j187 6), uV, uV, uV, uV, uV, uV, uV, .slice A2 rows1.length c3, iV vt12, iV vt12, fV, uV, iV level5, fV, fV, iV level5, fV, fV, .slice A2 rows1.length c3, .slice A43 vt37.length c44, iV level5, .agg #[.slice A43 vt37.length c44, iV level5, .slice none 0 0, .slice none 0 0], pV b48 0, .map (mb (some ⟨b54, 0, none⟩)), pV b48 0, pV b48 0, pV b48 0, .slice A43 vt37.length c44, iV (vt37.length : Int), iV x188, (j187 7), (j187 8), (j187 9), (j187 10), (j187 11), (j187 12), (j187 13), (j187 14), (j187 15), (j187 16), (j187 17), (j187 18), (j187 19), (j187 20), (j187 21), (j187 22), (j187 23), (j187 24), (j187 25), (j187 26), (j187 27), (j187 28), (j187 29), (j187 30), (j187 31), (j187 32), (j187 33), (j187 34), (j187 35), (j187 36), (j187 37), (j187 38), (j187 39), (j187 40), (j187 41), (j187 42), (j187 43), (j187 44), (j187 45), (j187 46), (j187 47), (j187 48), (j187 49), (j187 50), (j187 51), (j187 52), (j187 53), (j187 54), (j187 55), (j187 56), (j187 57), (j187 58), (j187 59), (j187 60), (j187 61), (j187 62), (j187 63), (j187 64), (j187 65), (j187 66), (j187 67), (j187 68), (j187 69), (j187 70), (j187 71), uV, uV, uV, uV, uV, uV, uV, uV, uV, uV, uV, uV, uV, uV, uV, uV, uV, uV, uV, uV, uV, uV, uV, uV, uV, uV, uV, uV, uV, uV, uV, uV, uV, uV, uV, uV, uV, uV, uV, uV, uV, uV, uV, uV, uV, uV, uV, uV, uV, uV, uV, uV, uV, uV, uV, uV, uV, uV, uV, uV, uV, uV, uV, uV, uV, uV, uV, uV, uV, uV, uV, uV, uV, uV, uV, uV, uV, uV, uV, uV, uV], []⟩) k ⟨f39, none, 0, [], 0, ([] : List Int), (jL []), fL, HS304, (Own.nil _), h, kr⟩ ?_
       clear h
       rintro n182 _ W185 ⟨f183, A190, c191, s192, x188, x189, j187, L184, HS186, HO193, h, rfl⟩ K180 hK181
       obtain _ | n182 := n182
       · exact nomatch h
       simp only [query_New.l0] at h
       refine wp_seq_k fun K195 hK196 => rl ?_
       refine seqL1 kr ?_
       refine nl (hK196 _ _ ?_)
       refine wp_seq_k (fun K197 hK198 => ?_)
       have hq_ := ite_some h; clear h; rcases hq_ with ⟨c200, h⟩ | ⟨c200, h⟩
       · have c200 : x188 < (vt37.length : Int) := c200
         refine wpRwI 46 kr (decide_eq_true c200) ?_
         refine condT kr ?_
         refine wp_skip ?_
         refine hK198 _ _ ?_
         refine wp_seq_k (fun K201 hK202 => ?_)
         refine blockK (fun B203 hx204 hn205 hr206 ho207 hp208 => ?_)
         refine wp_seq_k fun K210 hK211 => rl ?_
         have hq_ := guard_some h; clear h; obtain ⟨c212, h⟩ := hq_
         have c212 : 0 ≤ x188 := c212
         obtain ⟨b216, of217, cs213, hA218, hr214, hc215⟩ := (HO46.mono L184).at (i := x188) c212 c200
         obtain ⟨A219, c219, rfl, HR219⟩ := hr214
         refine seqL1 kr ?_
         refine seqK rfl (does_run (run_indexE hA218 (sz := 18) rfl Tryz.underlying45 kr (kv (.slice A43 vt37.length c44)) (kv (.int .i64 x188)) c212 c200 W185) ?_)
         refine seqK rfl (does_run (run_loadN (n := 18) rfl Tryz.underlying99 rfl kr (kv (.pointer (some ⟨b216, of217 + (x188 : Int).toNat * 18, none⟩))) (cs := [.int .i64 ((rd vt37 x188).ID), .int .i64 ((((rd vt37 x188).Box).X).Lo), .int .i64 ((((rd vt37 x188).Box).X).Hi), .bool ((((rd vt37 x188).Box).X).Unknown), .int .i64 ((((rd vt37 x188).Box).Y).Lo), .int .i64 ((((rd vt37 x188).Box).Y).Hi), .bool ((((rd vt37 x188).Box).Y).Unknown), .int .i64 ((((rd vt37 x188).Box).Z).Lo), .int .i64 ((((rd vt37 x188).Box).Z).Hi), .bool ((((rd vt37 x188).Box).Z).Unknown), .int .i64 (((rd vt37 x188).Flux).Lo), .int .i64 (((rd vt37 x188).Flux).Hi), .bool (((rd vt37 x188).Flux).Unknown), .int .i64 (((rd vt37 x188).When).Lo), .int .i64 (((rd vt37 x188).When).Hi), .bool (((rd vt37 x188).When).Unknown), .slice A219 ((rd vt37 x188).Frames).length c219, .int .i64 ((rd vt37 x188).Marks)]) rfl (fun j_ hj_ => ((hc215 HS186.u3) j_ hj_))) ?_)
         refine seqK rfl (does_alloc (z := Value.agg #[.int .i64 0, .int .i64 0, .int .i64 0, .bool false, .int .i64 0, .int .i64 0, .bool false, .int .i64 0, .int .i64 0, .bool false, .int .i64 0, .int .i64 0, .bool false, .int .i64 0, .int .i64 0, .bool false, .slice none 0 0, .int .i64 0]) (cs := #[.int .i64 0, .int .i64 0, .int .i64 0, .bool false, .int .i64 0, .int .i64 0, .bool false, .int .i64 0, .int .i64 0, .bool false, .int .i64 0, .int .i64 0, .bool false, .int .i64 0, .int .i64 0, .bool false, .slice none 0 0, .int .i64 0]) rfl kr rfl HS186 ?_)
         intro b220 W221 HS222
         refine seqL1 kr ?_
         refine seqK rfl (does_storeA (vs := [.int .i64 ((rd vt37 x188).ID), .int .i64 ((((rd vt37 x188).Box).X).Lo), .int .i64 ((((rd vt37 x188).Box).X).Hi), .bool ((((rd vt37 x188).Box).X).Unknown), .int .i64 ((((rd vt37 x188).Box).Y).Lo), .int .i64 ((((rd vt37 x188).Box).Y).Hi), .bool ((((rd vt37 x188).Box).Y).Unknown), .int .i64 ((((rd vt37 x188).Box).Z).Lo), .int .i64 ((((rd vt37 x188).Box).Z).Hi), .bool ((((rd vt37 x188).Box).Z).Unknown), .int .i64 (((rd vt37 x188).Flux).Lo), .int .i64 (((rd vt37 x188).Flux).Hi), .bool (((rd vt37 x188).Flux).Unknown), .int .i64 (((rd vt37 x188).When).Lo), .int .i64 (((rd vt37 x188).When).Hi), .bool (((rd vt37 x188).When).Unknown), .slice A219 ((rd vt37 x188).Frames).length c219, .int .i64 ((rd vt37 x188).Marks)]) rfl kr kr kr rfl (ones rfl) HS222 kr ?_)
         intro W224 HS225
         refine nl (hK211 _ _ ?_)
         refine wp_seq_k fun K226 hK227 => rl ?_
         refine seqL1 kr ?_
         refine seqK rfl (does_run (run_loadN (n := 9) rfl Tryz.underlying31 rfl kr (kv (.pointer (some ⟨b220, 1, none⟩))) (cs := [.int .i64 ((((rd vt37 x188).Box).X).Lo), .int .i64 ((((rd vt37 x188).Box).X).Hi), .bool ((((rd vt37 x188).Box).X).Unknown), .int .i64 ((((rd vt37 x188).Box).Y).Lo), .int .i64 ((((rd vt37 x188).Box).Y).Hi), .bool ((((rd vt37 x188).Box).Y).Unknown), .int .i64 ((((rd vt37 x188).Box).Z).Lo), .int .i64 ((((rd vt37 x188).Box).Z).Hi), .bool ((((rd vt37 x188).Box).Z).Unknown)]) rfl (HS225.cells 1 9 _ rfl)) ?_)
         have hq_ := bind_some h; clear h; obtain ⟨⟨vt228, vt229⟩, hc230, h⟩ := hq_
         refine seqK rfl (does_call (f := 46) (args := #[.agg #[.int .i64 ((((rd vt37 x188).Box).X).Lo), .int .i64 ((((rd vt37 x188).Box).X).Hi), .bool ((((rd vt37 x188).Box).X).Unknown), .int .i64 ((((rd vt37 x188).Box).Y).Lo), .int .i64 ((((rd vt37 x188).Box).Y).Hi), .bool ((((rd vt37 x188).Box).Y).Unknown), .int .i64 ((((rd vt37 x188).Box).Z).Lo), .int .i64 ((((rd vt37 x188).Box).Z).Hi), .bool ((((rd vt37 x188).Box).Z).Unknown)]]) kr (query_middle.calls k ((rd vt37 x188).Box) HS225 vt228 vt229 hc230) ?_)
         rintro _ W233 ⟨f231, rfl, L232, HS234⟩
         refine ⟨_, rfl, ?_⟩
         refine seqL3 kr ?_
         refine seqK rfl (does_alloc (z := Value.agg #[.int .i64 0, .int .i64 0, .int .i64 0]) (cs := #[.int .i64 0, .int .i64 0, .int .i64 0]) rfl kr rfl HS234 ?_)
         intro b235 W236 HS237
         refine seqK rfl (does_storeA (vs := [.int .i64 vt228.X, .int .i64 vt228.Y, .int .i64 vt228.Z]) rfl kr kr kr rfl (ones rfl) HS237 kr ?_)
         intro W239 HS240
         refine seqL1 kr ?_
         refine nl (hK227 _ _ ?_)
         refine wp_seq_k (fun K241 hK242 => ?_)
         refine wp_seq_k fun K243 hK244 => rl ?_
         refine seqL3 kr ?_
         have hq_ := ite_some h; clear h; rcases hq_ with ⟨c245, h⟩ | ⟨c245, h⟩
         · have c245 : ¬ (vt229 = true) := c245
           refine seqRwI 57 kr (congrArg (fun b_ => !b_) (show vt229 = false from (Bool.eq_false_iff.mpr c245)) : (!vt229) = true) ?_
           refine seqRwI 58 kr (congrArg (fun b_ => !b_) (show vt229 = false from (Bool.eq_false_iff.mpr c245)) : (!vt229) = true) ?_
           refine seqL4 kr ?_
           refine nl (hK244 _ _ ?_)
           refine condT kr ?_
           refine wp_seq_k fun K246 hK247 => rl ?_
           refine seqL4 kr ?_
           refine seqK rfl (does_run (run_load rfl Tryz.underlying22 rfl (kv (.pointer (some ⟨b48, 3, none⟩))) (HS240.u4.cell 3)) ?_)
           refine seqL1 kr ?_
           refine seqK rfl (does_lit (e := (tInt .i64)) (E := 3) (vs := #[(0, Value.int .i64 x188)]) (cs := #[.int .i64 x188]) (xs := ([x188] : List Int)) rfl Tryz.underlying22 kr kr ⟨[.int .i64 x188], _, rfl, rfl, rfl⟩ rfl HS240 ?_ (by decide))
           intro b248 W249 s250 HS251 _ HO252
           have hq_ := guard_some h; clear h; obtain ⟨c254, h⟩ := hq_
           have c254 : (x189.length + 1) * 8 ≤ 140737488355328 := c254
           have HS256 := HS251.u3.u1
           refine seqK rfl (does_append1 (e := (tInt .i64)) (E := 3) (xs := x189) (ys := ([x188] : List Int)) rfl (kv (.slice A190 x189.length c191)) (kv (.slice (some ⟨b248, 0, none⟩) ([x188] : List Int).length 1)) Tryz.underlying22 inf3 (HO193.mono L232) HO252 HS256 c254 (lim63 c254 (by decide)) ?_)
           intro A257 c258 s259 W260 HS261 HO262
           have HS263 := HS261.u4
           refine seqL2 kr ?_
           refine seqK rfl (does_store (n := 1) (vs := [.slice A257 (x189 ++ ([x188] : List Int)).length c258]) (cs' := #[.slice A43 vt37.length c44, .int .i64 level5, .slice none 0 0, .slice A257 (x189 ++ ([x188] : List Int)).length c258]) rfl kr (kv (.pointer (some ⟨b48, 3, none⟩))) (kv (.slice A257 (x189 ++ ([x188] : List Int)).length c258)) rfl rfl (ones rfl) HS263 (Nat.le_of_ble_eq_true rfl) kr ?_)
           intro W264 HS265
           refine nl (hK247 _ _ ?_)
           refine wp_exit ?_
           refine hx204 _ _ ?_
           refine hK202 _ _ ?_
           refine rl ?_
           refine seqL2 kr ?_
           refine nl ?_
           refine hK181 n182 _ _ (Nat.lt_succ_self _) ?_
           have HS311 := HS265.u5.u1.u5.u3.u5.u5
           have HS312 := HS311.drop
           have HS313 := HS312.drop
           exact ⟨f231, A257, c258, s259, (w64 (x188 + 1)), (x189 ++ ([x188] : List Int)), (jL [iV x188, .pointer (some ⟨b220, 0, none⟩), .pointer (some ⟨b235, 0, none⟩), .bool vt229, (j187 4), (j187 5), (j187 6), tV, iV x188, .pointer (some ⟨b216, of217 + (x188 : Int).toNat * 18, none⟩), (ag_Row (rd vt37 x188) A219 c219), .tuple #[(ag_Vec vt228), .bool vt229], .pointer (some ⟨b220, 1, none⟩), (ag_Box ((rd vt37 x188).Box)), .tuple #[(ag_Vec vt228), .bool vt229], (ag_Vec vt228), .bool vt229, .bool vt229, tV, tV, uV, uV, uV, tV, .pointer (some ⟨b48, 0, none⟩), .pointer (some ⟨b48, 0, none⟩), .pointer (some ⟨b48, 0, none⟩), .pointer (some ⟨b48, 3, none⟩), .slice A190 x189.length c191, iV x188, .slice (some ⟨b248, 0, none⟩) ([x188] : List Int).length 1, .slice A257 (x189 ++ ([x188] : List Int)).length c258, .pointer (some ⟨b48, 0, none⟩), .pointer (some ⟨b48, 3, none⟩), (j187 34), (j187 35), (j187 36), (j187 37), (j187 38), (j187 39), (j187 40), (j187 41), (j187 42), (j187 43), (j187 44), (j187 45), (j187 46), (j187 47), (j187 48), (j187 49), (j187 50), (j187 51), (j187 52), (j187 53), (j187 54), (j187 55), (j187 56), (j187 57), (j187 58), (j187 59), (j187 60), (j187 61), (j187 62), (j187 63), (j187 64), (j187 65), (j187 66), (j187 67), (j187 68), (j187 69), (j187 70), iV (w64 (x188 + 1))]), (L184.trans L232), HS313, HO262, h, kr⟩
         · have c245 : ¬ (¬ (vt229 = true)) := c245
           refine seqRwI 57 (x := (!vt229)) (v := false) kr (congrArg (fun b_ => !b_) (show vt229 = true from (Decidable.of_not_not c245)) : (!vt229) = false) ?_
           refine seqRwI 58 (x := (!vt229)) (v := false) kr (congrArg (fun b_ => !b_) (show vt229 = true from (Decidable.of_not_not c245)) : (!vt229) = false) ?_
           refine seqL2 kr ?_
           refine seqG kr (does_run (run_load rfl Tryz.underlying4 rfl (kv (.pointer (some ⟨b220, 15, none⟩))) (HS240.u1.cell 15)) ?_)
           refine seqL1 kr ?_
           refine nl (hK244 _ _ ?_)
           have hq_ := ite_some h; clear h; rcases hq_ with ⟨c267, h⟩ | ⟨c267, h⟩
           · have c267 : (((rd vt37 x188).When).Unknown) = true := c267
             refine wpRwI 61 kr c267 ?_
             refine wpRwI 62 kr c267 ?_
             refine condT kr ?_
             refine wp_seq_k fun K268 hK269 => rl ?_
             refine seqL4 kr ?_
             refine seqK rfl (does_run (run_load rfl Tryz.underlying22 rfl (kv (.pointer (some ⟨b48, 3, none⟩))) (HS240.u4.cell 3)) ?_)
             refine seqL1 kr ?_
             refine seqK rfl (does_lit (e := (tInt .i64)) (E := 3) (vs := #[(0, Value.int .i64 x188)]) (cs := #[.int .i64 x188]) (xs := ([x188] : List Int)) rfl Tryz.underlying22 kr kr ⟨[.int .i64 x188], _, rfl, rfl, rfl⟩ rfl HS240 ?_ (by decide))
             intro b270 W271 s272 HS273 _ HO274
             have hq_ := guard_some h; clear h; obtain ⟨c276, h⟩ := hq_
             have c276 : (x189.length + 1) * 8 ≤ 140737488355328 := c276
             have HS278 := HS273.u3.u1
             refine seqK rfl (does_append1 (e := (tInt .i64)) (E := 3) (xs := x189) (ys := ([x188] : List Int)) rfl (kv (.slice A190 x189.length c191)) (kv (.slice (some ⟨b270, 0, none⟩) ([x188] : List Int).length 1)) Tryz.underlying22 inf3 (HO193.mono L232) HO274 HS278 c276 (lim63 c276 (by decide)) ?_)
             intro A279 c280 s281 W282 HS283 HO284
             have HS285 := HS283.u4
             refine seqL2 kr ?_
             refine seqK rfl (does_store (n := 1) (vs := [.slice A279 (x189 ++ ([x188] : List Int)).length c280]) (cs' := #[.slice A43 vt37.length c44, .int .i64 level5, .slice none 0 0, .slice A279 (x189 ++ ([x188] : List Int)).length c280]) rfl kr (kv (.pointer (some ⟨b48, 3, none⟩))) (kv (.slice A279 (x189 ++ ([x188] : List Int)).length c280)) rfl rfl (ones rfl) HS285 (Nat.le_of_ble_eq_true rfl) kr ?_)
             intro W286 HS287
             refine nl (hK269 _ _ ?_)
             refine wp_exit ?_
             refine hx204 _ _ ?_
             refine hK202 _ _ ?_
             refine rl ?_
             refine seqL2 kr ?_
             refine nl ?_
             refine hK181 n182 _ _ (Nat.lt_succ_self _) ?_
             have HS319 := HS287.u5.u1.u5.u3.u5.u5
             have HS320 := HS319.drop
             have HS321 := HS320.drop
             exact ⟨f231, A279, c280, s281, (w64 (x188 + 1)), (x189 ++ ([x188] : List Int)), (jL [iV x188, .pointer (some ⟨b220, 0, none⟩), .pointer (some ⟨b235, 0, none⟩), .bool vt229, (j187 4), (j187 5), (j187 6), tV, iV x188, .pointer (some ⟨b216, of217 + (x188 : Int).toNat * 18, none⟩), (ag_Row (rd vt37 x188) A219 c219), .tuple #[(ag_Vec vt228), .bool vt229], .pointer (some ⟨b220, 1, none⟩), (ag_Box ((rd vt37 x188).Box)), .tuple #[(ag_Vec vt228), .bool vt229], (ag_Vec vt228), .bool vt229, .bool vt229, fV, fV, .pointer (some ⟨b220, 13, none⟩), .pointer (some ⟨b220, 15, none⟩), tV, tV, .pointer (some ⟨b48, 0, none⟩), .pointer (some ⟨b48, 0, none⟩), .pointer (some ⟨b48, 0, none⟩), .pointer (some ⟨b48, 3, none⟩), .slice A190 x189.length c191, iV x188, .slice (some ⟨b270, 0, none⟩) ([x188] : List Int).length 1, .slice A279 (x189 ++ ([x188] : List Int)).length c280, .pointer (some ⟨b48, 0, none⟩), .pointer (some ⟨b48, 3, none⟩), (j187 34), (j187 35), (j187 36), (j187 37), (j187 38), (j187 39), (j187 40), (j187 41), (j187 42), (j187 43), (j187 44), (j187 45), (j187 46), (j187 47), (j187 48), (j187 49), (j187 50), (j187 51), (j187 52), (j187 53), (j187 54), (j187 55), (j187 56), (j187 57), (j187 58), (j187 59), (j187 60), (j187 61), (j187 62), (j187 63), (j187 64), (j187 65), (j187 66), (j187 67), (j187 68), (j187 69), (j187 70), iV (w64 (x188 + 1))]), (L184.trans L232), HS321, HO284, h, kr⟩
           · have c267 : ¬ ((((rd vt37 x188).When).Unknown) = true) := c267
             refine wpRwI 61 kr (Bool.eq_false_iff.mpr c267) ?_
             refine wpRwI 62 kr (Bool.eq_false_iff.mpr c267) ?_
             refine condF kr ?_
             refine wp_skip ?_
             refine hK242 _ _ ?_
             refine wp_seq_k (fun K288 hK289 => ?_)
             exact nomatch h
       · have c200 : ¬ (x188 < (vt37.length : Int)) := c200
         refine wpRwI 46 kr (decide_eq_false c200) ?_
         refine condF kr ?_
         refine wp_exit ?_
         refine hx65 _ _ ?_
         exact J302 f183 A190 c191 s192 x189 (jL [(j187 0), (j187 1), (j187 2), (j187 3), (j187 4), (j187 5), (j187 6), iV x188, fV, (j187 8), (j187 9), (j187 10), (j187 11), (j187 12), (j187 13), (j187 14), (j187 15), (j187 16), (j187 17), (j187 18), (j187 19), (j187 20), (j187 21), (j187 22), (j187 23), (j187 24), (j187 25), (j187 26), (j187 27), (j187 28), (j187 29), (j187 30), (j187 31), (j187 32), (j187 33), (j187 34), (j187 35), (j187 36), (j187 37), (j187 38), (j187 39), (j187 40), (j187 41), (j187 42), (j187 43), (j187 44), (j187 45), (j187 46), (j187 47), (j187 48), (j187 49), (j187 50), (j187 51), (j187 52), (j187 53), (j187 54), (j187 55), (j187 56), (j187 57), (j187 58), (j187 59), (j187 60), (j187 61), (j187 62), (j187 63), (j187 64), (j187 65), (j187 66), (j187 67), (j187 68), (j187 69), (j187 70), (j187 71)]) W185 _ L184 h HS186 HO193 kr

set_option maxRecDepth 100000 in
set_option maxHeartbeats 4000000 in
theorem sphere_Check.calls (k : Nat)  (v1 : S_Vec) {t w : World} {f : FM} {H : List Seg} (HS : St t w f (H)) (rr1 : Int) (h : sphere_Check k v1 = some rr1) :
    Calls Tryz.prog 73 #[.agg #[.int .i64 v1.X, .int .i64 v1.Y, .int .i64 v1.Z]] w (fun e w' => ∃ (g : FM), e = .returned (Value.int .i64 rr1) ∧ FM.le f g ∧ St t w' g (H)) := by
 unfold sphere_Check at h
 refine enter Tryz.func73 rfl (tm := #[(ag_Vec v1), uV, uV, uV, uV, uV, uV, uV, uV, uV, uV, uV, uV, uV, uV, uV, uV, uV, uV, uV, uV, uV, uV, uV, uV, uV]) kr ?_
 intro B hret hnor hnp
 refine wp_seq_k fun K2 hK3 => rl ?_
 refine seqK rfl (does_box (cs := #[.int .i64 v1.X, .int .i64 v1.Y, .int .i64 v1.Z]) rfl (kv (.agg #[.int .i64 v1.X, .int .i64 v1.Y, .int .i64 v1.Z])) rfl HS ?_)
 intro b4 W5 HS6
 refine seqL1 kr ?_
 refine nl (hK3 _ _ ?_)
 refine wp_seq_k (fun K8 hK9 => ?_)
 refine blockK (fun B10 hx11 hn12 hr13 ho14 hp15 => ?_)
 refine wp_seq_k fun K17 hK18 => rl ?_
 refine seqL1 kr ?_
 refine seqK rfl (does_run (run_load rfl Tryz.underlying2 rfl (kv (.pointer (some ⟨b4, 0, none⟩))) (HS6.cell 0)) ?_)
 refine seqL1 kr ?_
 refine seqK rfl (does_run (run_load rfl Tryz.underlying2 rfl (kv (.pointer (some ⟨b4, 1, none⟩))) (HS6.cell 1)) ?_)
 refine seqL1 kr ?_
 refine seqK rfl (does_run (run_load rfl Tryz.underlying2 rfl (kv (.pointer (some ⟨b4, 2, none⟩))) (HS6.cell 2)) ?_)
 refine seqL3 kr ?_
 have hq_ := ite_some h; clear h; rcases hq_ with ⟨c19, h⟩ | ⟨c19, h⟩
 · have c19 : (mx (mx v1.X v1.Y) v1.Z) > 1048576 := c19
   refine seqRwI 11 kr (decide_eq_true c19) ?_
   refine seqRwI 12 kr (decide_eq_true c19) ?_
   refine seqL10 kr ?_
   refine nl (hK18 _ _ ?_)
   refine condT kr ?_
   refine wp_seq_k fun K20 hK21 => rl ?_
   refine seqL1 kr ?_
   refine nl (hK21 _ _ ?_)
   refine wp_ret ?_
   refine hr13 _ _ ?_
   refine hret _ _ ?_
   refine ends_still (v := Value.int .i64 4) kr kr ?_
   have HS34 := HS6.drop
   injection h with h
   subst h
   exact ⟨f, rfl, FM.le.refl _, HS34⟩
 · have c19 : ¬ ((mx (mx v1.X v1.Y) v1.Z) > 1048576) := c19
   refine seqRwI 11 kr (decide_eq_false c19) ?_
   refine seqRwI 12 kr (decide_eq_false c19) ?_
   refine seqL1 kr ?_
   refine seqG kr (does_run (run_load rfl Tryz.underlying2 rfl (kv (.pointer (some ⟨b4, 0, none⟩))) (HS6.cell 0)) ?_)
   refine seqL1 kr ?_
   refine seqG kr (does_run (run_load rfl Tryz.underlying2 rfl (kv (.pointer (some ⟨b4, 1, none⟩))) (HS6.cell 1)) ?_)
   refine seqL1 kr ?_
   refine seqG kr (does_run (run_load rfl Tryz.underlying2 rfl (kv (.pointer (some ⟨b4, 2, none⟩))) (HS6.cell 2)) ?_)
   refine seqL4 kr ?_
   refine nl (hK18 _ _ ?_)
   have hq_ := ite_some h; clear h; rcases hq_ with ⟨c23, h⟩ | ⟨c23, h⟩
   · have c23 : (mn (mn v1.X v1.Y) v1.Z) < (-1048576) := c23
     refine wpRwI 3 kr (decide_eq_true c23) ?_
     refine wpRwI 20 kr (decide_eq_true c23) ?_
     refine wpRwI 21 kr (decide_eq_true c23) ?_
     refine condT kr ?_
     refine wp_seq_k fun K24 hK25 => rl ?_
     refine seqL1 kr ?_
     refine nl (hK25 _ _ ?_)
     refine wp_ret ?_
     refine hr13 _ _ ?_
     refine hret _ _ ?_
     refine ends_still (v := Value.int .i64 4) kr kr ?_
     have HS35 := HS6.drop
     injection h with h
     subst h
     exact ⟨f, rfl, FM.le.refl _, HS35⟩
   · have c23 : ¬ ((mn (mn v1.X v1.Y) v1.Z) < (-1048576)) := c23
     refine wpRwI 3 kr (decide_eq_false c23) ?_
     refine wpRwI 20 kr (decide_eq_false c23) ?_
     refine wpRwI 21 kr (decide_eq_false c23) ?_
     refine condF kr ?_
     refine wp_seq_k fun K26 hK27 => rl ?_
     refine seqK rfl (does_run (run_loadN (n := 3) rfl Tryz.underlying39 rfl kr (kv (.pointer (some ⟨b4, 0, none⟩))) (cs := [.int .i64 v1.X, .int .i64 v1.Y, .int .i64 v1.Z]) rfl (HS6.cells 0 3 _ rfl)) ?_)
     refine seqL1 kr ?_
     refine seqK rfl (does_run (run_eqS (b := ((v1.X == 0) && ((v1.Y == 0) && ((v1.Z == 0) && true)))) rfl (kv (.agg #[.int .i64 v1.X, .int .i64 v1.Y, .int .i64 v1.Z])) (kv (.agg #[.int .i64 0, .int .i64 0, .int .i64 0])) kr kr W5) ?_)
     refine seqL1 kr ?_
     refine nl (hK27 _ _ ?_)
     have hq_ := ite_some h; clear h; rcases hq_ with ⟨c29, h⟩ | ⟨c29, h⟩
     · have c29 : ((v1.X == 0) && ((v1.Y == 0) && ((v1.Z == 0) && true))) = true := c29
       refine wpRwI 22 kr c29 ?_
       refine wpRwI 25 kr c29 ?_
       refine condT kr ?_
       refine wp_seq_k fun K30 hK31 => rl ?_
       refine seqL1 kr ?_
       refine nl (hK31 _ _ ?_)
       refine wp_ret ?_
       refine hr13 _ _ ?_
       refine hret _ _ ?_
       refine ends_still (v := Value.int .i64 8) kr kr ?_
       have HS36 := HS6.drop
       injection h with h
       subst h
       exact ⟨f, rfl, FM.le.refl _, HS36⟩
     · have c29 : ¬ (((v1.X == 0) && ((v1.Y == 0) && ((v1.Z == 0) && true))) = true) := c29
       refine wpRwI 22 kr (Bool.eq_false_iff.mpr c29) ?_
       refine wpRwI 25 kr (Bool.eq_false_iff.mpr c29) ?_
       refine condF kr ?_
       refine wp_skip ?_
       refine hn12 _ _ ?_
       refine hK9 _ _ ?_
       refine wp_seq_k fun K32 hK33 => rl ?_
       refine seqL1 kr ?_
       refine nl (hK33 _ _ ?_)
       refine wp_ret ?_
       refine hret _ _ ?_
       refine ends_still (v := Value.int .i64 0) kr kr ?_
       have HS37 := HS6.drop
       injection h with h
       subst h
       exact ⟨f, rfl, FM.le.refl _, HS37⟩

set_option maxRecDepth 100000 in
set_option maxHeartbeats 4000000 in
theorem query_CheckAsk.calls (k : Nat) (A2 : Option Addr) (c3 : Nat) (q1 : S_Ask) {t w : World} {f : FM} {H : List Seg} (HS : St t w f (H)) (HR4 : SlR ty_Cone f A2 c3 q1.Cones) (rr1 : Int) (h : query_CheckAsk k q1 = some rr1) :
    Calls Tryz.prog 43 #[.agg #[.slice A2 q1.Cones.length c3, .int .i64 q1.From, .int .i64 q1.To, .int .i64 q1.Least, .int .i64 q1.Ban]] w (fun e w' => ∃ (g : FM), e = .returned (Value.int .i64 rr1) ∧ FM.le f g ∧ St t w' g (H)) := by
 unfold query_CheckAsk at h
 refine enter Tryz.func43 rfl (tm := #[(ag_Ask q1 A2 c3), uV, uV, uV, uV, uV, uV, uV, uV, uV, uV, uV, uV, uV, uV, uV, uV, uV, uV, uV, uV, uV, uV, uV, uV, uV, uV, uV, uV, uV, uV, uV, uV, uV, uV, uV, uV, uV, uV, uV, uV, uV, uV, uV, uV, uV, uV, uV, uV, uV, uV, uV, uV, uV, uV, uV, uV, uV, uV, uV, uV, uV, uV, uV, uV, uV, uV, uV, uV, uV, uV, uV]) kr ?_
 intro B hret hnor hnp
 refine wp_seq_k fun K5 hK6 => rl ?_
 refine seqK rfl (does_box (cs := #[.slice A2 q1.Cones.length c3, .int .i64 q1.From, .int .i64 q1.To, .int .i64 q1.Least, .int .i64 q1.Ban]) rfl (kv (.agg #[.slice A2 q1.Cones.length c3, .int .i64 q1.From, .int .i64 q1.To, .int .i64 q1.Least, .int .i64 q1.Ban])) rfl HS ?_)
 intro b7 W8 HS9
 refine seqL1 kr ?_
 refine nl (hK6 _ _ ?_)
 refine wp_seq_k (fun K11 hK12 => ?_)
 refine wp_seq_k fun K13 hK14 => rl ?_
 refine seqL1 kr ?_
 refine seqK rfl (does_run (run_load rfl Tryz.underlying47 rfl (kv (.pointer (some ⟨b7, 0, none⟩))) (HS9.cell 0)) ?_)
 refine seqL2 kr ?_
 refine nl (hK14 _ _ ?_)
 have hq_ := ite_some h; clear h; rcases hq_ with ⟨c16, h⟩ | ⟨c16, h⟩
 · have c16 : (q1.Cones.length : Int) > 4 := c16
   refine wpRwI 9 kr (decide_eq_true c16) ?_
   refine condT kr ?_
   refine wp_seq_k fun K17 hK18 => rl ?_
   refine seqL1 kr ?_
   refine nl (hK18 _ _ ?_)
   refine wp_ret ?_
   refine hret _ _ ?_
   refine ends_still (v := Value.int .i64 2) kr kr ?_
   have HS147 := HS9.drop
   injection h with h
   subst h
   exact ⟨f, rfl, FM.le.refl _, HS147⟩
 · have c16 : ¬ ((q1.Cones.length : Int) > 4) := c16
   refine wpRwI 9 kr (decide_eq_false c16) ?_
   refine condF kr ?_
   refine wp_skip ?_
   refine hK12 _ _ ?_
   refine wp_seq_k (fun K19 hK20 => ?_)
   refine wp_seq_k fun K21 hK22 => rl ?_
   refine seqL1 kr ?_
   refine seqK rfl (does_run (run_load rfl Tryz.underlying47 rfl (kv (.pointer (some ⟨b7, 0, none⟩))) (HS9.cell 0)) ?_)
   refine seqL2 kr ?_
   refine nl (hK22 _ _ ?_)
   refine blockK (fun B23 hx24 hn25 hr26 ho27 hp28 => ?_)
   have hq_ := bind_some h; clear h; obtain ⟨o29, hv99, h⟩ := hq_
   have JR101 : ∀ z_, some (Sum.inl z_) = some o29 → some z_ = some rr1 := by
    intro z_ e_; injection e_ with e_; subst e_; exact h
   have J100 : ∀ (f94 : FM) (j98 : Nat → Value) (W96 : World) (a_ : Act), FM.le f f94 → some (Sum.inr ()) = some o29 → St t W96 f94 ([(b7, .cells #[.slice A2 q1.Cones.length c3, .int .i64 q1.From, .int .i64 q1.To, .int .i64 q1.Least, .int .i64 q1.Ban] 51 (0, 0))] :: H) → a_ = ⟨#[(ag_Ask q1 A2 c3), pV b7 0, (j98 0), uV, (j98 1), (j98 2), pV b7 0, .slice A2 q1.Cones.length c3, iV (q1.Cones.length : Int), fV, pV b7 0, .slice A2 q1.Cones.length c3, iV (q1.Cones.length : Int), (j98 3), (j98 4), (j98 5), (j98 6), (j98 7), (j98 8), (j98 9), (j98 10), (j98 11), (j98 12), (j98 13), (j98 14), (j98 15), (j98 16), (j98 17), (j98 18), (j98 19), (j98 20), (j98 21), uV, uV, uV, uV, uV, uV, uV, uV, uV, uV, uV, uV, uV, uV, uV, uV, uV, uV, uV, uV, uV, uV, uV, uV, uV, uV, uV, uV, uV, uV, uV, uV, uV, uV, uV, uV, uV, uV, uV, uV], []⟩ → K19 a_ W96 := by
    intro f94 j98 W96 a_ L95 hj102 HS97  hfr_; subst hfr_
    injection hj102 with hj102; subst hj102; try dsimp only at h
    simp only [Sum.elim_inr] at h
    refine hK20 _ _ ?_
    refine wp_seq_k (fun K106 hK107 => ?_)
    refine blockK (fun B108 hx109 hn110 hr111 ho112 hp113 => ?_)
    refine wp_seq_k fun K115 hK116 => rl ?_
    refine seqL1 kr ?_
    refine seqK rfl (does_run (run_load rfl Tryz.underlying48 rfl (kv (.pointer (some ⟨b7, 1, none⟩))) (HS97.cell 1)) ?_)
    refine seqL1 kr ?_
    refine seqK rfl (does_run (run_load rfl Tryz.underlying48 rfl (kv (.pointer (some ⟨b7, 2, none⟩))) (HS97.cell 2)) ?_)
    refine seqL3 kr ?_
    have hq_ := ite_some h; clear h; rcases hq_ with ⟨c117, h⟩ | ⟨c117, h⟩
    · have c117 : (mn q1.From q1.To) < (-17592186044416) := c117
      refine seqRwI 38 kr (decide_eq_true c117) ?_
      refine seqRwI 39 kr (decide_eq_true c117) ?_
      refine seqL8 kr ?_
      refine nl (hK116 _ _ ?_)
      refine condT kr ?_
      refine wp_seq_k fun K118 hK119 => rl ?_
      refine seqL1 kr ?_
      refine nl (hK119 _ _ ?_)
      refine wp_ret ?_
      refine hr111 _ _ ?_
      refine hret _ _ ?_
      refine ends_still (v := Value.int .i64 4) kr kr ?_
      have HS154 := HS97.drop
      injection h with h
      subst h
      exact ⟨f94, rfl, L95, HS154⟩
    · have c117 : ¬ ((mn q1.From q1.To) < (-17592186044416)) := c117
      refine seqRwI 38 kr (decide_eq_false c117) ?_
      refine seqRwI 39 kr (decide_eq_false c117) ?_
      refine seqL1 kr ?_
      refine seqG kr (does_run (run_load rfl Tryz.underlying48 rfl (kv (.pointer (some ⟨b7, 1, none⟩))) (HS97.cell 1)) ?_)
      refine seqL1 kr ?_
      refine seqG kr (does_run (run_load rfl Tryz.underlying48 rfl (kv (.pointer (some ⟨b7, 2, none⟩))) (HS97.cell 2)) ?_)
      refine seqL4 kr ?_
      refine nl (hK116 _ _ ?_)
      have hq_ := ite_some h; clear h; rcases hq_ with ⟨c121, h⟩ | ⟨c121, h⟩
      · have c121 : (mx q1.From q1.To) > 17592186044416 := c121
        refine wpRwI 32 kr (decide_eq_true c121) ?_
        refine wpRwI 45 kr (decide_eq_true c121) ?_
        refine wpRwI 46 kr (decide_eq_true c121) ?_
        refine condT kr ?_
        refine wp_seq_k fun K122 hK123 => rl ?_
        refine seqL1 kr ?_
        refine nl (hK123 _ _ ?_)
        refine wp_ret ?_
        refine hr111 _ _ ?_
        refine hret _ _ ?_
        refine ends_still (v := Value.int .i64 4) kr kr ?_
        have HS155 := HS97.drop
        injection h with h
        subst h
        exact ⟨f94, rfl, L95, HS155⟩
      · have c121 : ¬ ((mx q1.From q1.To) > 17592186044416) := c121
        refine wpRwI 32 kr (decide_eq_false c121) ?_
        refine wpRwI 45 kr (decide_eq_false c121) ?_
        refine wpRwI 46 kr (decide_eq_false c121) ?_
        refine condF kr ?_
        refine wp_seq_k fun K124 hK125 => rl ?_
        refine seqL1 kr ?_
        refine seqK rfl (does_run (run_load rfl Tryz.underlying48 rfl (kv (.pointer (some ⟨b7, 1, none⟩))) (HS97.cell 1)) ?_)
        refine seqL1 kr ?_
        refine seqK rfl (does_run (run_load rfl Tryz.underlying48 rfl (kv (.pointer (some ⟨b7, 2, none⟩))) (HS97.cell 2)) ?_)
        refine seqL2 kr ?_
        refine nl (hK125 _ _ ?_)
        have hq_ := ite_some h; clear h; rcases hq_ with ⟨c127, h⟩ | ⟨c127, h⟩
        · have c127 : q1.From > q1.To := c127
          refine wpRwI 47 kr (decide_eq_true c127) ?_
          refine wpRwI 52 kr (decide_eq_true c127) ?_
          refine condT kr ?_
          refine wp_seq_k fun K128 hK129 => rl ?_
          refine seqL1 kr ?_
          refine nl (hK129 _ _ ?_)
          refine wp_ret ?_
          refine hr111 _ _ ?_
          refine hret _ _ ?_
          refine ends_still (v := Value.int .i64 11) kr kr ?_
          have HS156 := HS97.drop
          injection h with h
          subst h
          exact ⟨f94, rfl, L95, HS156⟩
        · have c127 : ¬ (q1.From > q1.To) := c127
          refine wpRwI 47 kr (decide_eq_false c127) ?_
          refine wpRwI 52 kr (decide_eq_false c127) ?_
          refine condF kr ?_
          refine wp_seq_k fun K130 hK131 => rl ?_
          refine seqL1 kr ?_
          refine seqK rfl (does_run (run_load rfl Tryz.underlying49 rfl (kv (.pointer (some ⟨b7, 3, none⟩))) (HS97.cell 3)) ?_)
          refine seqL2 kr ?_
          have hq_ := ite_some h; clear h; rcases hq_ with ⟨c132, h⟩ | ⟨c132, h⟩
          · have c132 : q1.Least < 0 := c132
            refine seqRwI 56 kr (decide_eq_true c132) ?_
            refine seqRwI 57 kr (decide_eq_true c132) ?_
            refine seqL15 kr ?_
            refine nl (hK131 _ _ ?_)
            refine condT kr ?_
            refine wp_seq_k fun K133 hK134 => rl ?_
            refine seqL1 kr ?_
            refine nl (hK134 _ _ ?_)
            refine wp_ret ?_
            refine hr111 _ _ ?_
            refine hret _ _ ?_
            refine ends_still (v := Value.int .i64 4) kr kr ?_
            have HS157 := HS97.drop
            injection h with h
            subst h
            exact ⟨f94, rfl, L95, HS157⟩
          · have c132 : ¬ (q1.Least < 0) := c132
            refine seqRwI 56 kr (decide_eq_false c132) ?_
            refine seqRwI 57 kr (decide_eq_false c132) ?_
            refine seqL1 kr ?_
            refine seqG kr (does_run (run_load rfl Tryz.underlying49 rfl (kv (.pointer (some ⟨b7, 3, none⟩))) (HS97.cell 3)) ?_)
            refine seqL3 kr ?_
            have hq_ := ite_some h; clear h; rcases hq_ with ⟨c135, h⟩ | ⟨c135, h⟩
            · have c135 : q1.Least > 1125899906842624 := c135
              refine seqRwI 60 kr (decide_eq_true c135) ?_
              refine seqRwI 61 kr (decide_eq_true c135) ?_
              refine seqRwI 62 kr (decide_eq_true c135) ?_
              refine seqL10 kr ?_
              refine nl (hK131 _ _ ?_)
              refine condT kr ?_
              refine wp_seq_k fun K136 hK137 => rl ?_
              refine seqL1 kr ?_
              refine nl (hK137 _ _ ?_)
              refine wp_ret ?_
              refine hr111 _ _ ?_
              refine hret _ _ ?_
              refine ends_still (v := Value.int .i64 4) kr kr ?_
              have HS158 := HS97.drop
              injection h with h
              subst h
              exact ⟨f94, rfl, L95, HS158⟩
            · have c135 : ¬ (q1.Least > 1125899906842624) := c135
              refine seqRwI 60 kr (decide_eq_false c135) ?_
              refine seqRwI 61 kr (decide_eq_false c135) ?_
              refine seqRwI 62 kr (decide_eq_false c135) ?_
              refine seqL1 kr ?_
              refine seqG kr (does_run (run_load rfl Tryz.underlying3 rfl (kv (.pointer (some ⟨b7, 4, none⟩))) (HS97.cell 4)) ?_)
              refine seqL3 kr ?_
              have hq_ := ite_some h; clear h; rcases hq_ with ⟨c138, h⟩ | ⟨c138, h⟩
              · have c138 : q1.Ban < 0 := c138
                refine seqRwI 65 kr (decide_eq_true c138) ?_
                refine seqRwI 66 kr (decide_eq_true c138) ?_
                refine seqRwI 67 kr (decide_eq_true c138) ?_
                refine seqL5 kr ?_
                refine nl (hK131 _ _ ?_)
                refine condT kr ?_
                refine wp_seq_k fun K139 hK140 => rl ?_
                refine seqL1 kr ?_
                refine nl (hK140 _ _ ?_)
                refine wp_ret ?_
                refine hr111 _ _ ?_
                refine hret _ _ ?_
                refine ends_still (v := Value.int .i64 4) kr kr ?_
                have HS159 := HS97.drop
                injection h with h
                subst h
                exact ⟨f94, rfl, L95, HS159⟩
              · have c138 : ¬ (q1.Ban < 0) := c138
                refine seqRwI 65 kr (decide_eq_false c138) ?_
                refine seqRwI 66 kr (decide_eq_false c138) ?_
                refine seqRwI 67 kr (decide_eq_false c138) ?_
                refine seqL1 kr ?_
                refine seqG kr (does_run (run_load rfl Tryz.underlying3 rfl (kv (.pointer (some ⟨b7, 4, none⟩))) (HS97.cell 4)) ?_)
                refine seqL3 kr ?_
                refine nl (hK131 _ _ ?_)
                have hq_ := ite_some h; clear h; rcases hq_ with ⟨c142, h⟩ | ⟨c142, h⟩
                · have c142 : q1.Ban > 3 := c142
                  refine wpRwI 53 kr (decide_eq_true c142) ?_
                  refine wpRwI 70 kr (decide_eq_true c142) ?_
                  refine wpRwI 71 kr (decide_eq_true c142) ?_
                  refine condT kr ?_
                  refine wp_seq_k fun K143 hK144 => rl ?_
                  refine seqL1 kr ?_
                  refine nl (hK144 _ _ ?_)
                  refine wp_ret ?_
                  refine hr111 _ _ ?_
                  refine hret _ _ ?_
                  refine ends_still (v := Value.int .i64 4) kr kr ?_
                  have HS160 := HS97.drop
                  injection h with h
                  subst h
                  exact ⟨f94, rfl, L95, HS160⟩
                · have c142 : ¬ (q1.Ban > 3) := c142
                  refine wpRwI 53 kr (decide_eq_false c142) ?_
                  refine wpRwI 70 kr (decide_eq_false c142) ?_
                  refine wpRwI 71 kr (decide_eq_false c142) ?_
                  refine condF kr ?_
                  refine wp_skip ?_
                  refine hn110 _ _ ?_
                  refine hK107 _ _ ?_
                  refine wp_seq_k fun K145 hK146 => rl ?_
                  refine seqL1 kr ?_
                  refine nl (hK146 _ _ ?_)
                  refine wp_ret ?_
                  refine hret _ _ ?_
                  refine ends_still (v := Value.int .i64 0) kr kr ?_
                  have HS161 := HS97.drop
                  injection h with h
                  subst h
                  exact ⟨f94, rfl, L95, HS161⟩
   clear h; have h := hv99; clear hv99
   refine loopK (fun n_ a_ w_ => ∃ (f33 : FM) (x38 : Int) (j37 : Nat → Value), FM.le f f33 ∧ St t w_ f33 ([(b7, .cells #[.slice A2 q1.Cones.length c3, .int .i64 q1.From, .int .i64 q1.To, .int .i64 q1.Least, .int .i64 q1.Ban] 51 (0, 0))] :: H) ∧ query_CheckAsk.l0 k q1 n_ x38 = some o29 ∧ a_ = ⟨#[(ag_Ask q1 A2 c3), pV b7 0, (j37 0), uV, (j37 1), (j37 2), pV b7 0, .slice A2 q1.Cones.length c3, iV (q1.Cones.length : Int), fV, pV b7 0, .slice A2 q1.Cones.length c3, iV (q1.Cones.length : Int), iV x38, (j37 3), (j37 4), (j37 5), (j37 6), (j37 7), (j37 8), (j37 9), (j37 10), (j37 11), (j37 12), (j37 13), (j37 14), (j37 15), (j37 16), (j37 17), (j37 18), (j37 19), (j37 20), uV, uV, uV, uV, uV, uV, uV, uV, uV, uV, uV, uV, uV, uV, uV, uV, uV, uV, uV, uV, uV, uV, uV, uV, uV, uV, uV, uV, uV, uV, uV, uV, uV, uV, uV, uV, uV, uV, uV, uV], []⟩) k ⟨f, 0, (jL [iV 0]), fL, HS9, h, kr⟩ ?_
   clear h
   rintro n32 _ W35 ⟨f33, x38, j37, L34, HS36, h, rfl⟩ K30 hK31
   obtain _ | n32 := n32
   · exact nomatch h
   simp only [query_CheckAsk.l0] at h
   refine wp_seq_k fun K39 hK40 => rl ?_
   refine seqL1 kr ?_
   refine nl (hK40 _ _ ?_)
   refine wp_seq_k (fun K41 hK42 => ?_)
   have hq_ := ite_some h; clear h; rcases hq_ with ⟨c44, h⟩ | ⟨c44, h⟩
   · have c44 : x38 < (q1.Cones.length : Int) := c44
     refine wpRwI 14 kr (decide_eq_true c44) ?_
     refine condT kr ?_
     refine wp_skip ?_
     refine hK42 _ _ ?_
     refine wp_seq_k (fun K45 hK46 => ?_)
     refine blockK (fun B47 hx48 hn49 hr50 ho51 hp52 => ?_)
     refine wp_seq_k fun K54 hK55 => rl ?_
     have hq_ := guard_some h; clear h; obtain ⟨c56, h⟩ := hq_
     have c56 : 0 ≤ x38 := c56
     obtain ⟨b60, of61, cs57, hA62, hr58, hc59⟩ := (HR4.mono L34).at (i := x38) c56 c44
     obtain rfl := hr58
     refine seqK rfl (does_run (run_indexE hA62 (sz := 4) rfl Tryz.underlying47 kr (kv (.slice A2 q1.Cones.length c3)) (kv (.int .i64 x38)) c56 c44 W35) ?_)
     refine seqK rfl (does_run (run_loadN (n := 4) rfl Tryz.underlying55 rfl kr (kv (.pointer (some ⟨b60, of61 + (x38 : Int).toNat * 4, none⟩))) (cs := [.int .i64 (((rd q1.Cones x38).At).X), .int .i64 (((rd q1.Cones x38).At).Y), .int .i64 (((rd q1.Cones x38).At).Z), .int .i64 ((rd q1.Cones x38).Cos)]) rfl (fun j_ hj_ => ((hc59 fL HS36) j_ hj_))) ?_)
     refine seqK rfl (does_alloc (z := Value.agg #[.int .i64 0, .int .i64 0, .int .i64 0, .int .i64 0]) (cs := #[.int .i64 0, .int .i64 0, .int .i64 0, .int .i64 0]) rfl kr rfl HS36 ?_)
     intro b63 W64 HS65
     refine seqK rfl (does_storeA (vs := [.int .i64 (((rd q1.Cones x38).At).X), .int .i64 (((rd q1.Cones x38).At).Y), .int .i64 (((rd q1.Cones x38).At).Z), .int .i64 ((rd q1.Cones x38).Cos)]) rfl kr kr kr rfl (ones rfl) HS65 kr ?_)
     intro W67 HS68
     refine nl (hK55 _ _ ?_)
     refine wp_seq_k (fun K69 hK70 => ?_)
     refine wp_seq_k fun K71 hK72 => rl ?_
     refine seqL1 kr ?_
     refine seqK rfl (does_run (run_loadN (n := 3) rfl Tryz.underlying39 rfl kr (kv (.pointer (some ⟨b63, 0, none⟩))) (cs := [.int .i64 (((rd q1.Cones x38).At).X), .int .i64 (((rd q1.Cones x38).At).Y), .int .i64 (((rd q1.Cones x38).At).Z)]) rfl (HS68.cells 0 3 _ rfl)) ?_)
     have hq_ := bind_some h; clear h; obtain ⟨vt73, hc74, h⟩ := hq_
     refine seqK rfl (does_call (f := 73) (args := #[.agg #[.int .i64 (((rd q1.Cones x38).At).X), .int .i64 (((rd q1.Cones x38).At).Y), .int .i64 (((rd q1.Cones x38).At).Z)]]) kr (sphere_Check.calls k ((rd q1.Cones x38).At) HS68 vt73 hc74) ?_)
     rintro _ W77 ⟨f75, rfl, L76, HS78⟩
     refine ⟨_, rfl, ?_⟩
     refine seqL1 kr ?_
     refine nl (hK72 _ _ ?_)
     refine wp_seq_k fun K79 hK80 => rl ?_
     refine seqL2 kr ?_
     refine nl (hK80 _ _ ?_)
     have hq_ := ite_some h; clear h; rcases hq_ with ⟨c82, h⟩ | ⟨c82, h⟩
     · have c82 : vt73 ≠ 0 := c82
       refine wpRwI 21 kr (bne_iff_ne.mpr c82) ?_
       refine condT kr ?_
       refine wp_seq_k fun K83 hK84 => rl ?_
       refine seqL2 kr ?_
       refine nl (hK84 _ _ ?_)
       refine wp_ret ?_
       refine hr50 _ _ ?_
       refine hr26 _ _ ?_
       refine hret _ _ ?_
       refine ends_still (v := Value.int .i64 vt73) kr kr ?_
       have HS148 := HS78.drop
       have HS149 := HS148.drop
       replace h := JR101 _ h
       injection h with h
       subst h
       exact ⟨f75, rfl, (L34.trans L76), HS149⟩
     · have c82 : ¬ (vt73 ≠ 0) := c82
       refine wpRwI 21 (x := (vt73 != 0)) (v := false) kr (bne_eq_false_iff_eq.mpr (Decidable.of_not_not c82)) ?_
       refine condF kr ?_
       refine wp_skip ?_
       refine hK70 _ _ ?_
       refine wp_seq_k fun K85 hK86 => rl ?_
       refine seqL1 kr ?_
       refine seqK rfl (does_run (run_load rfl Tryz.underlying23 rfl (kv (.pointer (some ⟨b63, 3, none⟩))) (HS78.cell 3)) ?_)
       refine seqL2 kr ?_
       have hq_ := ite_some h; clear h; rcases hq_ with ⟨c87, h⟩ | ⟨c87, h⟩
       · have c87 : ((rd q1.Cones x38).Cos) < 0 := c87
         refine seqRwI 25 kr (decide_eq_true c87) ?_
         refine seqRwI 26 kr (decide_eq_true c87) ?_
         refine seqL4 kr ?_
         refine nl (hK86 _ _ ?_)
         refine condT kr ?_
         refine wp_seq_k fun K88 hK89 => rl ?_
         refine seqL1 kr ?_
         refine nl (hK89 _ _ ?_)
         refine wp_ret ?_
         refine hr50 _ _ ?_
         refine hr26 _ _ ?_
         refine hret _ _ ?_
         refine ends_still (v := Value.int .i64 4) kr kr ?_
         have HS150 := HS78.drop
         have HS151 := HS150.drop
         replace h := JR101 _ h
         injection h with h
         subst h
         exact ⟨f75, rfl, (L34.trans L76), HS151⟩
       · have c87 : ¬ (((rd q1.Cones x38).Cos) < 0) := c87
         refine seqRwI 25 kr (decide_eq_false c87) ?_
         refine seqRwI 26 kr (decide_eq_false c87) ?_
         refine seqL1 kr ?_
         refine seqG kr (does_run (run_load rfl Tryz.underlying23 rfl (kv (.pointer (some ⟨b63, 3, none⟩))) (HS78.cell 3)) ?_)
         refine seqL2 kr ?_
         refine nl (hK86 _ _ ?_)
         have hq_ := ite_some h; clear h; rcases hq_ with ⟨c91, h⟩ | ⟨c91, h⟩
         · have c91 : ((rd q1.Cones x38).Cos) > 1073741824 := c91
           refine wpRwI 29 kr (decide_eq_true c91) ?_
           refine wpRwI 30 kr (decide_eq_true c91) ?_
           refine condT kr ?_
           refine wp_seq_k fun K92 hK93 => rl ?_
           refine seqL1 kr ?_
           refine nl (hK93 _ _ ?_)
           refine wp_ret ?_
           refine hr50 _ _ ?_
           refine hr26 _ _ ?_
           refine hret _ _ ?_
           refine ends_still (v := Value.int .i64 4) kr kr ?_
           have HS152 := HS78.drop
           have HS153 := HS152.drop
           replace h := JR101 _ h
           injection h with h
           subst h
           exact ⟨f75, rfl, (L34.trans L76), HS153⟩
         · have c91 : ¬ (((rd q1.Cones x38).Cos) > 1073741824) := c91
           refine wpRwI 29 kr (decide_eq_false c91) ?_
           refine wpRwI 30 kr (decide_eq_false c91) ?_
           refine condF kr ?_
           refine wp_skip ?_
           refine hn49 _ _ ?_
           refine hK46 _ _ ?_
           refine rl ?_
           refine seqL2 kr ?_
           refine nl ?_
           refine hK31 n32 _ _ (Nat.lt_succ_self _) ?_
           have HS104 := HS78.u1.u1
           have HS105 := HS104.drop
           exact ⟨f75, (w64 (x38 + 1)), (jL [(j37 0), .pointer (some ⟨b63, 0, none⟩), iV vt73, tV, .pointer (some ⟨b60, of61 + (x38 : Int).toNat * 4, none⟩), (ag_Cone (rd q1.Cones x38)), .pointer (some ⟨b63, 0, none⟩), (ag_Vec ((rd q1.Cones x38).At)), iV vt73, iV vt73, fV, (j37 11), .pointer (some ⟨b63, 3, none⟩), iV ((rd q1.Cones x38).Cos), fV, fV, .pointer (some ⟨b63, 3, none⟩), iV ((rd q1.Cones x38).Cos), fV, fV, iV (w64 (x38 + 1))]), (L34.trans L76), HS105, h, kr⟩
   · have c44 : ¬ (x38 < (q1.Cones.length : Int)) := c44
     refine wpRwI 14 kr (decide_eq_false c44) ?_
     refine condF kr ?_
     refine wp_exit ?_
     refine hx24 _ _ ?_
     exact J100 f33 (jL [(j37 0), (j37 1), (j37 2), iV x38, fV, (j37 4), (j37 5), (j37 6), (j37 7), (j37 8), (j37 9), (j37 10), (j37 11), (j37 12), (j37 13), (j37 14), (j37 15), (j37 16), (j37 17), (j37 18), (j37 19), (j37 20)]) W35 _ L34 h HS36 kr

set_option maxRecDepth 100000 in
set_option maxHeartbeats 4000000 in
theorem query_between_Tick.calls (k : Nat)  (b1 : S_Bound) (lo2 : Int) (hi3 : Int) {t w : World} {f : FM} {H : List Seg} (HS : St t w f (H)) (rr1 : Int) (h : query_between_Tick k b1 lo2 hi3 = some rr1) :
    Calls Tryz.prog 54 #[.agg #[.int .i64 b1.Lo, .int .i64 b1.Hi, .bool b1.Unknown], .int .i64 lo2, .int .i64 hi3] w (fun e w' => ∃ (g : FM), e = .returned (Value.int .i64 rr1) ∧ FM.le f g ∧ St t w' g (H)) := by
 unfold query_between_Tick at h
 refine enter Tryz.func54 rfl (tm := #[(ag_Bound b1), iV lo2, iV hi3, uV, uV, uV, uV, uV, uV, uV, uV, uV, uV, uV, uV, uV, uV, uV, uV, uV, uV, uV, uV, uV, uV, uV, uV, uV, uV, uV, uV, uV]) kr ?_
 intro B hret hnor hnp
 refine wp_seq_k fun K4 hK5 => rl ?_
 refine seqK rfl (does_box (cs := #[.int .i64 b1.Lo, .int .i64 b1.Hi, .bool b1.Unknown]) rfl (kv (.agg #[.int .i64 b1.Lo, .int .i64 b1.Hi, .bool b1.Unknown])) rfl HS ?_)
 intro b6 W7 HS8
 refine seqL1 kr ?_
 refine nl (hK5 _ _ ?_)
 refine wp_seq_k (fun K10 hK11 => ?_)
 refine blockK (fun B12 hx13 hn14 hr15 ho16 hp17 => ?_)
 refine wp_seq_k fun K19 hK20 => rl ?_
 refine seqL1 kr ?_
 refine seqK rfl (does_run (run_load rfl Tryz.underlying4 rfl (kv (.pointer (some ⟨b6, 2, none⟩))) (HS8.cell 2)) ?_)
 refine seqL1 kr ?_
 refine nl (hK20 _ _ ?_)
 have hq_ := ite_some h; clear h; rcases hq_ with ⟨c22, h⟩ | ⟨c22, h⟩
 · have c22 : b1.Unknown = true := c22
   refine wpRwI 7 kr c22 ?_
   refine wpRwI 9 kr c22 ?_
   refine condT kr ?_
   refine wp_seq_k fun K23 hK24 => rl ?_
   refine seqL1 kr ?_
   refine nl (hK24 _ _ ?_)
   refine wp_ret ?_
   refine hr15 _ _ ?_
   refine hret _ _ ?_
   refine ends_still (v := Value.int .i64 1) kr kr ?_
   have HS45 := HS8.drop
   injection h with h
   subst h
   exact ⟨f, rfl, FM.le.refl _, HS45⟩
 · have c22 : ¬ (b1.Unknown = true) := c22
   refine wpRwI 7 kr (Bool.eq_false_iff.mpr c22) ?_
   refine wpRwI 9 kr (Bool.eq_false_iff.mpr c22) ?_
   refine condF kr ?_
   refine wp_seq_k fun K25 hK26 => rl ?_
   refine seqL1 kr ?_
   refine seqK rfl (does_run (run_load rfl Tryz.underlying48 rfl (kv (.pointer (some ⟨b6, 1, none⟩))) (HS8.cell 1)) ?_)
   refine seqL3 kr ?_
   have hq_ := ite_some h; clear h; rcases hq_ with ⟨c27, h⟩ | ⟨c27, h⟩
   · have c27 : b1.Hi < lo2 := c27
     refine seqRwI 14 kr (decide_eq_true c27) ?_
     refine seqRwI 15 kr (decide_eq_true c27) ?_
     refine seqL6 kr ?_
     refine nl (hK26 _ _ ?_)
     refine condT kr ?_
     refine wp_seq_k fun K28 hK29 => rl ?_
     refine seqL1 kr ?_
     refine nl (hK29 _ _ ?_)
     refine wp_ret ?_
     refine hr15 _ _ ?_
     refine hret _ _ ?_
     refine ends_still (v := Value.int .i64 0) kr kr ?_
     have HS46 := HS8.drop
     injection h with h
     subst h
     exact ⟨f, rfl, FM.le.refl _, HS46⟩
   · have c27 : ¬ (b1.Hi < lo2) := c27
     refine seqRwI 14 kr (decide_eq_false c27) ?_
     refine seqRwI 15 kr (decide_eq_false c27) ?_
     refine seqL1 kr ?_
     refine seqG kr (does_run (run_load rfl Tryz.underlying48 rfl (kv (.pointer (some ⟨b6, 0, none⟩))) (HS8.cell 0)) ?_)
     refine seqL4 kr ?_
     refine nl (hK26 _ _ ?_)
     have hq_ := ite_some h; clear h; rcases hq_ with ⟨c31, h⟩ | ⟨c31, h⟩
     · have c31 : b1.Lo > hi3 := c31
       refine wpRwI 10 kr (decide_eq_true c31) ?_
       refine wpRwI 19 kr (decide_eq_true c31) ?_
       refine wpRwI 20 kr (decide_eq_true c31) ?_
       refine condT kr ?_
       refine wp_seq_k fun K32 hK33 => rl ?_
       refine seqL1 kr ?_
       refine nl (hK33 _ _ ?_)
       refine wp_ret ?_
       refine hr15 _ _ ?_
       refine hret _ _ ?_
       refine ends_still (v := Value.int .i64 0) kr kr ?_
       have HS47 := HS8.drop
       injection h with h
       subst h
       exact ⟨f, rfl, FM.le.refl _, HS47⟩
     · have c31 : ¬ (b1.Lo > hi3) := c31
       refine wpRwI 10 kr (decide_eq_false c31) ?_
       refine wpRwI 19 kr (decide_eq_false c31) ?_
       refine wpRwI 20 kr (decide_eq_false c31) ?_
       refine condF kr ?_
       refine wp_seq_k fun K34 hK35 => rl ?_
       refine seqL1 kr ?_
       refine seqK rfl (does_run (run_load rfl Tryz.underlying48 rfl (kv (.pointer (some ⟨b6, 0, none⟩))) (HS8.cell 0)) ?_)
       refine seqL3 kr ?_
       have hq_ := ite_some h; clear h; rcases hq_ with ⟨c36, h⟩ | ⟨c36, h⟩
       · have c36 : b1.Lo ≥ lo2 := c36
         refine seqRwI 25 kr (decide_eq_true c36) ?_
         refine seqRwI 26 kr (decide_eq_true c36) ?_
         refine seqL1 kr ?_
         refine seqG kr (does_run (run_load rfl Tryz.underlying48 rfl (kv (.pointer (some ⟨b6, 1, none⟩))) (HS8.cell 1)) ?_)
         refine seqL4 kr ?_
         refine nl (hK35 _ _ ?_)
         have hq_ := ite_some h; clear h; rcases hq_ with ⟨c38, h⟩ | ⟨c38, h⟩
         · have c38 : b1.Hi ≤ hi3 := c38
           refine wpRwI 21 kr (decide_eq_true c38) ?_
           refine wpRwI 30 kr (decide_eq_true c38) ?_
           refine wpRwI 31 kr (decide_eq_true c38) ?_
           refine condT kr ?_
           refine wp_seq_k fun K39 hK40 => rl ?_
           refine seqL1 kr ?_
           refine nl (hK40 _ _ ?_)
           refine wp_ret ?_
           refine hr15 _ _ ?_
           refine hret _ _ ?_
           refine ends_still (v := Value.int .i64 2) kr kr ?_
           have HS48 := HS8.drop
           injection h with h
           subst h
           exact ⟨f, rfl, FM.le.refl _, HS48⟩
         · have c38 : ¬ (b1.Hi ≤ hi3) := c38
           refine wpRwI 21 kr (decide_eq_false c38) ?_
           refine wpRwI 30 kr (decide_eq_false c38) ?_
           refine wpRwI 31 kr (decide_eq_false c38) ?_
           refine condF kr ?_
           refine wp_skip ?_
           refine hn14 _ _ ?_
           refine hK11 _ _ ?_
           refine wp_seq_k fun K41 hK42 => rl ?_
           refine seqL1 kr ?_
           refine nl (hK42 _ _ ?_)
           refine wp_ret ?_
           refine hret _ _ ?_
           refine ends_still (v := Value.int .i64 1) kr kr ?_
           have HS49 := HS8.drop
           injection h with h
           subst h
           exact ⟨f, rfl, FM.le.refl _, HS49⟩
       · have c36 : ¬ (b1.Lo ≥ lo2) := c36
         refine seqRwI 25 kr (decide_eq_false c36) ?_
         refine seqRwI 26 kr (decide_eq_false c36) ?_
         refine seqL6 kr ?_
         refine nl (hK35 _ _ ?_)
         refine condF kr ?_
         refine wp_skip ?_
         refine hn14 _ _ ?_
         refine hK11 _ _ ?_
         refine wp_seq_k fun K43 hK44 => rl ?_
         refine seqL1 kr ?_
         refine nl (hK44 _ _ ?_)
         refine wp_ret ?_
         refine hret _ _ ?_
         refine ends_still (v := Value.int .i64 1) kr kr ?_
         have HS50 := HS8.drop
         injection h with h
         subst h
         exact ⟨f, rfl, FM.le.refl _, HS50⟩

set_option maxRecDepth 100000 in
set_option maxHeartbeats 4000000 in
theorem query_between_Quanta.calls (k : Nat)  (b1 : S_Bound) (lo2 : Int) (hi3 : Int) {t w : World} {f : FM} {H : List Seg} (HS : St t w f (H)) (rr1 : Int) (h : query_between_Quanta k b1 lo2 hi3 = some rr1) :
    Calls Tryz.prog 74 #[.agg #[.int .i64 b1.Lo, .int .i64 b1.Hi, .bool b1.Unknown], .int .i64 lo2, .int .i64 hi3] w (fun e w' => ∃ (g : FM), e = .returned (Value.int .i64 rr1) ∧ FM.le f g ∧ St t w' g (H)) := by
 unfold query_between_Quanta at h
 refine enter Tryz.func74 rfl (tm := #[(ag_Bound b1), iV lo2, iV hi3, uV, uV, uV, uV, uV, uV, uV, uV, uV, uV, uV, uV, uV, uV, uV, uV, uV, uV, uV, uV, uV, uV, uV, uV, uV, uV, uV, uV, uV]) kr ?_
 intro B hret hnor hnp
 refine wp_seq_k fun K4 hK5 => rl ?_
 refine seqK rfl (does_box (cs := #[.int .i64 b1.Lo, .int .i64 b1.Hi, .bool b1.Unknown]) rfl (kv (.agg #[.int .i64 b1.Lo, .int .i64 b1.Hi, .bool b1.Unknown])) rfl HS ?_)
 intro b6 W7 HS8
 refine seqL1 kr ?_
 refine nl (hK5 _ _ ?_)
 refine wp_seq_k (fun K10 hK11 => ?_)
 refine blockK (fun B12 hx13 hn14 hr15 ho16 hp17 => ?_)
 refine wp_seq_k fun K19 hK20 => rl ?_
 refine seqL1 kr ?_
 refine seqK rfl (does_run (run_load rfl Tryz.underlying4 rfl (kv (.pointer (some ⟨b6, 2, none⟩))) (HS8.cell 2)) ?_)
 refine seqL1 kr ?_
 refine nl (hK20 _ _ ?_)
 have hq_ := ite_some h; clear h; rcases hq_ with ⟨c22, h⟩ | ⟨c22, h⟩
 · have c22 : b1.Unknown = true := c22
   refine wpRwI 7 kr c22 ?_
   refine wpRwI 9 kr c22 ?_
   refine condT kr ?_
   refine wp_seq_k fun K23 hK24 => rl ?_
   refine seqL1 kr ?_
   refine nl (hK24 _ _ ?_)
   refine wp_ret ?_
   refine hr15 _ _ ?_
   refine hret _ _ ?_
   refine ends_still (v := Value.int .i64 1) kr kr ?_
   have HS45 := HS8.drop
   injection h with h
   subst h
   exact ⟨f, rfl, FM.le.refl _, HS45⟩
 · have c22 : ¬ (b1.Unknown = true) := c22
   refine wpRwI 7 kr (Bool.eq_false_iff.mpr c22) ?_
   refine wpRwI 9 kr (Bool.eq_false_iff.mpr c22) ?_
   refine condF kr ?_
   refine wp_seq_k fun K25 hK26 => rl ?_
   refine seqL1 kr ?_
   refine seqK rfl (does_run (run_load rfl Tryz.underlying49 rfl (kv (.pointer (some ⟨b6, 1, none⟩))) (HS8.cell 1)) ?_)
   refine seqL3 kr ?_
   have hq_ := ite_some h; clear h; rcases hq_ with ⟨c27, h⟩ | ⟨c27, h⟩
   · have c27 : b1.Hi < lo2 := c27
     refine seqRwI 14 kr (decide_eq_true c27) ?_
     refine seqRwI 15 kr (decide_eq_true c27) ?_
     refine seqL6 kr ?_
     refine nl (hK26 _ _ ?_)
     refine condT kr ?_
     refine wp_seq_k fun K28 hK29 => rl ?_
     refine seqL1 kr ?_
     refine nl (hK29 _ _ ?_)
     refine wp_ret ?_
     refine hr15 _ _ ?_
     refine hret _ _ ?_
     refine ends_still (v := Value.int .i64 0) kr kr ?_
     have HS46 := HS8.drop
     injection h with h
     subst h
     exact ⟨f, rfl, FM.le.refl _, HS46⟩
   · have c27 : ¬ (b1.Hi < lo2) := c27
     refine seqRwI 14 kr (decide_eq_false c27) ?_
     refine seqRwI 15 kr (decide_eq_false c27) ?_
     refine seqL1 kr ?_
     refine seqG kr (does_run (run_load rfl Tryz.underlying49 rfl (kv (.pointer (some ⟨b6, 0, none⟩))) (HS8.cell 0)) ?_)
     refine seqL4 kr ?_
     refine nl (hK26 _ _ ?_)
     have hq_ := ite_some h; clear h; rcases hq_ with ⟨c31, h⟩ | ⟨c31, h⟩
     · have c31 : b1.Lo > hi3 := c31
       refine wpRwI 10 kr (decide_eq_true c31) ?_
       refine wpRwI 19 kr (decide_eq_true c31) ?_
       refine wpRwI 20 kr (decide_eq_true c31) ?_
       refine condT kr ?_
       refine wp_seq_k fun K32 hK33 => rl ?_
       refine seqL1 kr ?_
       refine nl (hK33 _ _ ?_)
       refine wp_ret ?_
       refine hr15 _ _ ?_
       refine hret _ _ ?_
       refine ends_still (v := Value.int .i64 0) kr kr ?_
       have HS47 := HS8.drop
       injection h with h
       subst h
       exact ⟨f, rfl, FM.le.refl _, HS47⟩
     · have c31 : ¬ (b1.Lo > hi3) := c31
       refine wpRwI 10 kr (decide_eq_false c31) ?_
       refine wpRwI 19 kr (decide_eq_false c31) ?_
       refine wpRwI 20 kr (decide_eq_false c31) ?_
       refine condF kr ?_
       refine wp_seq_k fun K34 hK35 => rl ?_
       refine seqL1 kr ?_
       refine seqK rfl (does_run (run_load rfl Tryz.underlying49 rfl (kv (.pointer (some ⟨b6, 0, none⟩))) (HS8.cell 0)) ?_)
       refine seqL3 kr ?_
       have hq_ := ite_some h; clear h; rcases hq_ with ⟨c36, h⟩ | ⟨c36, h⟩
       · have c36 : b1.Lo ≥ lo2 := c36
         refine seqRwI 25 kr (decide_eq_true c36) ?_
         refine seqRwI 26 kr (decide_eq_true c36) ?_
         refine seqL1 kr ?_
         refine seqG kr (does_run (run_load rfl Tryz.underlying49 rfl (kv (.pointer (some ⟨b6, 1, none⟩))) (HS8.cell 1)) ?_)
         refine seqL4 kr ?_
         refine nl (hK35 _ _ ?_)
         have hq_ := ite_some h; clear h; rcases hq_ with ⟨c38, h⟩ | ⟨c38, h⟩
         · have c38 : b1.Hi ≤ hi3 := c38
           refine wpRwI 21 kr (decide_eq_true c38) ?_
           refine wpRwI 30 kr (decide_eq_true c38) ?_
           refine wpRwI 31 kr (decide_eq_true c38) ?_
           refine condT kr ?_
           refine wp_seq_k fun K39 hK40 => rl ?_
           refine seqL1 kr ?_
           refine nl (hK40 _ _ ?_)
           refine wp_ret ?_
           refine hr15 _ _ ?_
           refine hret _ _ ?_
           refine ends_still (v := Value.int .i64 2) kr kr ?_
           have HS48 := HS8.drop
           injection h with h
           subst h
           exact ⟨f, rfl, FM.le.refl _, HS48⟩
         · have c38 : ¬ (b1.Hi ≤ hi3) := c38
           refine wpRwI 21 kr (decide_eq_false c38) ?_
           refine wpRwI 30 kr (decide_eq_false c38) ?_
           refine wpRwI 31 kr (decide_eq_false c38) ?_
           refine condF kr ?_
           refine wp_skip ?_
           refine hn14 _ _ ?_
           refine hK11 _ _ ?_
           refine wp_seq_k fun K41 hK42 => rl ?_
           refine seqL1 kr ?_
           refine nl (hK42 _ _ ?_)
           refine wp_ret ?_
           refine hret _ _ ?_
           refine ends_still (v := Value.int .i64 1) kr kr ?_
           have HS49 := HS8.drop
           injection h with h
           subst h
           exact ⟨f, rfl, FM.le.refl _, HS49⟩
       · have c36 : ¬ (b1.Lo ≥ lo2) := c36
         refine seqRwI 25 kr (decide_eq_false c36) ?_
         refine seqRwI 26 kr (decide_eq_false c36) ?_
         refine seqL6 kr ?_
         refine nl (hK35 _ _ ?_)
         refine condF kr ?_
         refine wp_skip ?_
         refine hn14 _ _ ?_
         refine hK11 _ _ ?_
         refine wp_seq_k fun K43 hK44 => rl ?_
         refine seqL1 kr ?_
         refine nl (hK44 _ _ ?_)
         refine wp_ret ?_
         refine hret _ _ ?_
         refine ends_still (v := Value.int .i64 1) kr kr ?_
         have HS50 := HS8.drop
         injection h with h
         subst h
         exact ⟨f, rfl, FM.le.refl _, HS50⟩

set_option maxRecDepth 100000 in
set_option maxHeartbeats 4000000 in
theorem query_point_1.calls (k : Nat)  (c1 : Int) {t w : World} {f : FM} {H : List Seg} (HS : St t w f (H)) (rr1 : S_Bound) (h : query_point_1 k c1 = some rr1) :
    Calls Tryz.prog 87 #[.int .i64 c1] w (fun e w' => ∃ (g : FM), e = .returned (Value.agg #[.int .i64 rr1.Lo, .int .i64 rr1.Hi, .bool rr1.Unknown]) ∧ FM.le f g ∧ St t w' g (H)) := by
 unfold query_point_1 at h
 refine enter Tryz.func87 rfl (tm := #[iV c1, uV, uV, uV, uV, uV]) kr ?_
 intro B hret hnor hnp
 refine wp_seq_k fun K2 hK3 => rl ?_
 refine seqK rfl (does_alloc (z := Value.agg #[.int .i64 0, .int .i64 0, .bool false]) (cs := #[.int .i64 0, .int .i64 0, .bool false]) rfl kr rfl HS ?_)
 intro b4 W5 HS6
 refine nl (hK3 _ _ ?_)
 refine wp_seq_k fun K8 hK9 => rl ?_
 refine seqL3 kr ?_
 refine seqK rfl (does_storeA (vs := [.int .i64 c1, .int .i64 c1, .bool false]) rfl kr kr kr rfl (ones rfl) HS6 kr ?_)
 intro W10 HS11
 refine nl (hK9 _ _ ?_)
 refine wp_ret ?_
 refine hret _ _ ?_
 refine ends (v := Value.agg #[.int .i64 c1, .int .i64 c1, .bool false]) (results1 (q1 := .cell 2 29) kr (resN (n := 3) (cs := [.int .i64 c1, .int .i64 c1, .bool false]) (kv (.pointer (some ⟨b4, 0, none⟩))) Tryz.underlying29 rfl kr rfl (HS11.cells 0 3 _ rfl))) kr ?_
 have HS12 := HS11.drop
 injection h with h
 subst h
 exact ⟨f, rfl, FM.le.refl _, HS12⟩

end Go.Sp.Q3
