import Derived.Test.YtiibkbligihgoaaGreatProg
import Derived.Test.YtiibkbligihgoaaGreatSpCopy
import Derived.Test.YtiibkbligihgoaaGreatFJ7
import Derived.Test.YtiibkbligihgoaaGreatSpSort3P
import Derived.Test.YtiibkbligihgoaaGreatShelf
import Derived.Test.YtiibkbligihgoaaGreatSpMapR
import Derived.Test.YtiibkbligihgoaaGreatSpKeys
import Derived.Test.YtiibkbligihgoaaGreatSpNode
import Derived.Test.YtiibkbligihgoaaGreatSpKeyP
import Derived.Test.YtiibkbligihgoaaGreatSpArr
import Derived.Test.YtiibkbligihgoaaGreatSpRound
import Derived.Test.YtiibkbligihgoaaGreatKJ7n0
import Derived.Test.YtiibkbligihgoaaGreatKJ7n1
namespace Go.Sp.J7
open Go Go.Sp Go.Proofs
set_option linter.unusedVariables false
attribute [local irreducible] wpList AnyL Code.wp Calls Does Code.wpIn wpListIn CallsIn bodyPostM LeavesInM
set_option maxRecDepth 100000 in
set_option maxHeartbeats 4000000 in
theorem query_middle.calls (k : Nat)  (b1 : S_Box) {t w : World} {f : FM} {H : List Seg} (HS : St t w f (H)) (rr1 : S_Vec) (rr2 : Bool) (h : query_middle k b1 = some (rr1, rr2)) :
    Calls Tryz.prog 46 #[.agg #[.int .i64 b1.X.Lo, .int .i64 b1.X.Hi, .bool b1.X.Unknown, .int .i64 b1.Y.Lo, .int .i64 b1.Y.Hi, .bool b1.Y.Unknown, .int .i64 b1.Z.Lo, .int .i64 b1.Z.Hi, .bool b1.Z.Unknown]] w (fun e w' => ∃ (g : FM), e = .returned (Value.tuple #[.agg #[.int .i64 rr1.X, .int .i64 rr1.Y, .int .i64 rr1.Z], .bool rr2]) ∧ FM.le f g ∧ St t w' g (H)) := by
 unfold query_middle at h
 refine enter Tryz.func46 rfl (tm := #[(ag_Box b1), uV, uV, uV, uV, uV, uV, uV, uV, uV, uV, uV, uV, uV, uV, uV, uV, uV, uV, uV, uV, uV, uV, uV, uV, uV, uV, uV, uV, uV, uV, uV, uV, uV, uV, uV, uV, uV, uV, uV, uV, uV, uV, uV, uV, uV, uV, uV, uV, uV, uV, uV, uV, uV, uV, uV, uV, uV, uV, uV, uV]) kr ?_
 intro B hret hnor hnp
 refine wp_seq_k fun K2 hK3 => rl ?_
 refine seqK rfl (does_box (cs := #[.int .i64 b1.X.Lo, .int .i64 b1.X.Hi, .bool b1.X.Unknown, .int .i64 b1.Y.Lo, .int .i64 b1.Y.Hi, .bool b1.Y.Unknown, .int .i64 b1.Z.Lo, .int .i64 b1.Z.Hi, .bool b1.Z.Unknown]) rfl (kv (.agg #[.int .i64 b1.X.Lo, .int .i64 b1.X.Hi, .bool b1.X.Unknown, .int .i64 b1.Y.Lo, .int .i64 b1.Y.Hi, .bool b1.Y.Unknown, .int .i64 b1.Z.Lo, .int .i64 b1.Z.Hi, .bool b1.Z.Unknown])) rfl HS ?_)
 intro b4 W5 HS6
 refine seqK rfl (does_alloc (z := Value.agg #[.int .i64 0, .int .i64 0, .int .i64 0]) (cs := #[.int .i64 0, .int .i64 0, .int .i64 0]) rfl kr rfl HS6 ?_)
 intro b8 W9 HS10
 refine seqL1 kr ?_
 refine nl (hK3 _ _ ?_)
 refine wp_seq_k (fun K12 hK13 => ?_)
 refine wp_seq_k fun K14 hK15 => rl ?_
 refine seqK rfl (does_run (run_loadN (n := 9) rfl Tryz.underlying31 rfl kr (kv (.pointer (some ⟨b4, 0, none⟩))) (cs := [.int .i64 b1.X.Lo, .int .i64 b1.X.Hi, .bool b1.X.Unknown, .int .i64 b1.Y.Lo, .int .i64 b1.Y.Hi, .bool b1.Y.Unknown, .int .i64 b1.Z.Lo, .int .i64 b1.Z.Hi, .bool b1.Z.Unknown]) rfl (HS10.u1.cells 0 9 _ rfl)) ?_)
 have hq_ := bind_some h; clear h; obtain ⟨⟨vt16, vt17⟩, hc18, h⟩ := hq_
 refine seqK rfl (does_call (f := 31) (args := #[.agg #[.int .i64 b1.X.Lo, .int .i64 b1.X.Hi, .bool b1.X.Unknown, .int .i64 b1.Y.Lo, .int .i64 b1.Y.Hi, .bool b1.Y.Unknown, .int .i64 b1.Z.Lo, .int .i64 b1.Z.Hi, .bool b1.Z.Unknown]]) kr (query_sides.calls k b1 HS10 vt16 vt17 hc18) ?_)
 rintro _ W21 ⟨f19, rfl, L20, HS22⟩
 refine ⟨_, rfl, ?_⟩
 refine seqL3 kr ?_
 refine seqK rfl (does_alloc (z := Value.agg #[.int .i64 0, .int .i64 0, .bool false, .int .i64 0, .int .i64 0, .bool false, .int .i64 0, .int .i64 0, .bool false]) (cs := #[.int .i64 0, .int .i64 0, .bool false, .int .i64 0, .int .i64 0, .bool false, .int .i64 0, .int .i64 0, .bool false]) rfl kr rfl HS22 ?_)
 intro b23 W24 HS25
 refine seqK rfl (does_storeA (vs := [.int .i64 ((vt16.getD 0 default).Lo), .int .i64 ((vt16.getD 0 default).Hi), .bool ((vt16.getD 0 default).Unknown), .int .i64 ((vt16.getD 1 default).Lo), .int .i64 ((vt16.getD 1 default).Hi), .bool ((vt16.getD 1 default).Unknown), .int .i64 ((vt16.getD 2 default).Lo), .int .i64 ((vt16.getD 2 default).Hi), .bool ((vt16.getD 2 default).Unknown)]) rfl kr kr kr rfl (ones rfl) HS25 kr ?_)
 intro W27 HS28
 refine seqL1 kr ?_
 refine nl (hK15 _ _ ?_)
 refine wp_seq_k fun K29 hK30 => rl ?_
 refine seqL2 kr ?_
 refine nl (hK30 _ _ ?_)
 have hq_ := ite_some h; clear h; rcases hq_ with ⟨c32, h⟩ | ⟨c32, h⟩
 · have c32 : ¬ (vt17 = true) := c32
   refine wpRwI 14 kr (congrArg (fun b_ => !b_) (show vt17 = false from (Bool.eq_false_iff.mpr c32)) : (!vt17) = true) ?_
   refine condT kr ?_
   refine wp_seq_k fun K33 hK34 => rl ?_
   have HS35 := HS28.u1
   refine seqL1 kr ?_
   refine seqK rfl (does_storeA (vs := [.int .i64 0, .int .i64 0, .int .i64 0]) rfl kr kr kr rfl (ones rfl) HS35 kr ?_)
   intro W36 HS37
   refine seqL1 kr ?_
   refine nl (hK34 _ _ ?_)
   refine wp_ret ?_
   refine hret _ _ ?_
   refine ends (v := Value.tuple #[.agg #[.int .i64 0, .int .i64 0, .int .i64 0], .bool false]) (results2 (q1 := .cell 2 39) (q2 := .tmp 3) kr (resN (n := 3) (cs := [.int .i64 0, .int .i64 0, .int .i64 0]) (kv (.pointer (some ⟨b8, 0, none⟩))) Tryz.underlying39 rfl kr rfl (HS37.cells 0 3 _ rfl)) (resT (kv (.bool false)))) kr ?_
   have HS234 := HS37.drop
   have HS235 := HS234.drop
   have HS236 := HS235.drop
   injection h with h
   injection h with h0_ h
   subst h0_ h
   exact ⟨f19, rfl, L20, HS236⟩
 · have c32 : ¬ (¬ (vt17 = true)) := c32
   refine wpRwI 14 (x := (!vt17)) (v := false) kr (congrArg (fun b_ => !b_) (show vt17 = true from (Decidable.of_not_not c32)) : (!vt17) = false) ?_
   refine condF kr ?_
   refine wp_skip ?_
   refine hK13 _ _ ?_
   refine wp_seq_k fun K38 hK39 => rl ?_
   refine seqL1 kr ?_
   refine nl (hK39 _ _ ?_)
   refine wp_seq_k (fun K40 hK41 => ?_)
   refine heldG (S := Sg t f19 ([(b23, .cells #[.int .i64 ((vt16.getD 0 default).Lo), .int .i64 ((vt16.getD 0 default).Hi), .bool ((vt16.getD 0 default).Unknown), .int .i64 ((vt16.getD 1 default).Lo), .int .i64 ((vt16.getD 1 default).Hi), .bool ((vt16.getD 1 default).Unknown), .int .i64 ((vt16.getD 2 default).Lo), .int .i64 ((vt16.getD 2 default).Hi), .bool ((vt16.getD 2 default).Unknown)] 81 (0, 0))] :: [(b8, .cells #[.int .i64 0, .int .i64 0, .int .i64 0] 39 (0, 0))] :: [(b4, .cells #[.int .i64 b1.X.Lo, .int .i64 b1.X.Hi, .bool b1.X.Unknown, .int .i64 b1.Y.Lo, .int .i64 b1.Y.Hi, .bool b1.Y.Unknown, .int .i64 b1.Z.Lo, .int .i64 b1.Z.Hi, .bool b1.Z.Unknown] 31 (0, 0))] :: H) []) (n := 15) kr rfl HS28 ?_
   intro W42 HS43
   refine takeGL [0, 1] (n := 15) (fuel := 13) #[true, true, false, false, false, false, false, false, false, false, false, false, false, false, false] rfl kr kr kr hnp (Sg.g0 (Sx.of [] fL HS43)) ?_
   refine takeGQ 2 [] rfl kr kr kr kr kr kr hnp (Sg.g0 (Sx.of [] fL HS43)) (fun w_ hw_ => by obtain ⟨g_, hl_, hS_⟩ := hw_.st; exact run_loadN (n := 3) rfl Tryz.underlying29 rfl kr (kv (.pointer (some ⟨b4, 0, none⟩))) (cs := [.int .i64 b1.X.Lo, .int .i64 b1.X.Hi, .bool b1.X.Unknown]) rfl (hS_.u2.cells 0 3 _ rfl)) ?_
   refine takeGL [4, 5] (n := 12) (fuel := 10) #[true, true, true, false, true, true, false, false, false, false, false, false, false, false, false] rfl kr kr kr hnp (Sg.g0 (Sx.of [] fL HS43)) ?_
   refine takeGQ 6 [] rfl kr kr kr kr kr kr hnp (Sg.g0 (Sx.of [] fL HS43)) (fun w_ hw_ => by obtain ⟨g_, hl_, hS_⟩ := hw_.st; exact run_loadN (n := 3) rfl Tryz.underlying29 rfl kr (kv (.pointer (some ⟨b4, 3, none⟩))) (cs := [.int .i64 b1.Y.Lo, .int .i64 b1.Y.Hi, .bool b1.Y.Unknown]) rfl (hS_.u2.cells 3 3 _ rfl)) ?_
   refine takeGL [8, 9] (n := 9) (fuel := 7) #[true, true, true, false, true, true, true, false, true, true, false, false, false, false, false] rfl kr kr kr hnp (Sg.g0 (Sx.of [] fL HS43)) ?_
   refine takeGQ 10 [] rfl kr kr kr kr kr kr hnp (Sg.g0 (Sx.of [] fL HS43)) (fun w_ hw_ => by obtain ⟨g_, hl_, hS_⟩ := hw_.st; exact run_loadN (n := 3) rfl Tryz.underlying29 rfl kr (kv (.pointer (some ⟨b4, 6, none⟩))) (cs := [.int .i64 b1.Z.Lo, .int .i64 b1.Z.Hi, .bool b1.Z.Unknown]) rfl (hS_.u2.cells 6 3 _ rfl)) ?_
   have hq_ := bind_some h; clear h; obtain ⟨vt44, hc45, h⟩ := hq_
   have hq_ := bind_some h; clear h; obtain ⟨vt50, hc51, h⟩ := hq_
   have hq_ := bind_some h; clear h; obtain ⟨vt56, hc57, h⟩ := hq_
   refine withR #[true, true, true, true, true, true, true, true, true, true, true, true, true, true, true] ?_
   intro R68 hR69 hR70
   have J71 : ∀ (f46 : FM) (f52 : FM) (f58 : FM) (b62 : Nat) (W72 : World) (a_ : Act), FM.le f19 f46 → FM.le f46 f52 → FM.le f52 f58 → St t W72 f58 ([(b62, .cells #[.int .i64 vt44, .int .i64 vt50, .int .i64 vt56] 39 (0, 0))] :: [(b23, .cells #[.int .i64 ((vt16.getD 0 default).Lo), .int .i64 ((vt16.getD 0 default).Hi), .bool ((vt16.getD 0 default).Unknown), .int .i64 ((vt16.getD 1 default).Lo), .int .i64 ((vt16.getD 1 default).Hi), .bool ((vt16.getD 1 default).Unknown), .int .i64 ((vt16.getD 2 default).Lo), .int .i64 ((vt16.getD 2 default).Hi), .bool ((vt16.getD 2 default).Unknown)] 81 (0, 0))] :: [(b8, .cells #[.int .i64 0, .int .i64 0, .int .i64 0] 39 (0, 0))] :: [(b4, .cells #[.int .i64 b1.X.Lo, .int .i64 b1.X.Hi, .bool b1.X.Unknown, .int .i64 b1.Y.Lo, .int .i64 b1.Y.Hi, .bool b1.Y.Unknown, .int .i64 b1.Z.Lo, .int .i64 b1.Z.Hi, .bool b1.Z.Unknown] 31 (0, 0))] :: H) → a_ = ⟨#[(ag_Box b1), pV b4 0, pV b8 0, fV, pV b23 0, .bool vt17, .func (.func 77) #[] #[], pV b62 0, .tuple #[.agg #[iV ((vt16.getD 0 default).Lo), iV ((vt16.getD 0 default).Hi), .bool ((vt16.getD 0 default).Unknown), iV ((vt16.getD 1 default).Lo), iV ((vt16.getD 1 default).Hi), .bool ((vt16.getD 1 default).Unknown), iV ((vt16.getD 2 default).Lo), iV ((vt16.getD 2 default).Hi), .bool ((vt16.getD 2 default).Unknown)], .bool vt17], (ag_Box b1), .tuple #[.agg #[iV ((vt16.getD 0 default).Lo), iV ((vt16.getD 0 default).Hi), .bool ((vt16.getD 0 default).Unknown), iV ((vt16.getD 1 default).Lo), iV ((vt16.getD 1 default).Hi), .bool ((vt16.getD 1 default).Unknown), iV ((vt16.getD 2 default).Lo), iV ((vt16.getD 2 default).Hi), .bool ((vt16.getD 2 default).Unknown)], .bool vt17], .agg #[iV ((vt16.getD 0 default).Lo), iV ((vt16.getD 0 default).Hi), .bool ((vt16.getD 0 default).Unknown), iV ((vt16.getD 1 default).Lo), iV ((vt16.getD 1 default).Hi), .bool ((vt16.getD 1 default).Unknown), iV ((vt16.getD 2 default).Lo), iV ((vt16.getD 2 default).Hi), .bool ((vt16.getD 2 default).Unknown)], .bool vt17, .bool vt17, fV, uV, .func (.func 77) #[] #[], pV b4 0, (ag_Bound b1.X), iV vt44, .func (.func 77) #[] #[], pV b4 3, (ag_Bound b1.Y), iV vt50, .func (.func 77) #[] #[], pV b4 6, (ag_Bound b1.Z), iV vt56, .agg #[iV vt44, iV vt50, iV vt56], uV, uV, uV, uV, uV, uV, uV, uV, uV, uV, uV, uV, uV, uV, uV, uV, uV, uV, uV, uV, uV, uV, uV, uV, uV, uV, uV, uV, uV, uV, uV, uV], []⟩ → R68 a_ W72 := by
    intro f46 f52 f58 b62 W72 a_ L47 L53 L59 HS73 hfr_; subst hfr_
    refine hR69 _ _ ?_
    refine doneG kr ?_ _
    refine hK41 _ _ ?_
    refine wp_seq_k (fun K134 hK135 => ?_)
    refine blockK (fun B136 hx137 hn138 hr139 ho140 hp141 => ?_)
    have hq_ := bind_some h; clear h; obtain ⟨o176, hv221, h⟩ := hq_
    have J222 : ∀ (f213 : FM) (x218 : Int) (x219 : Int) (x220 : Int) (j217 : Nat → Value) (W215 : World) (a_ : Act), FM.le f58 f213 → some ((x218, x219, x220)) = some o176 → St t W215 f213 ([(b62, .cells #[.int .i64 x218, .int .i64 x219, .int .i64 x220] 39 (0, 0))] :: [(b23, .cells #[.int .i64 ((vt16.getD 0 default).Lo), .int .i64 ((vt16.getD 0 default).Hi), .bool ((vt16.getD 0 default).Unknown), .int .i64 ((vt16.getD 1 default).Lo), .int .i64 ((vt16.getD 1 default).Hi), .bool ((vt16.getD 1 default).Unknown), .int .i64 ((vt16.getD 2 default).Lo), .int .i64 ((vt16.getD 2 default).Hi), .bool ((vt16.getD 2 default).Unknown)] 81 (0, 0))] :: [(b8, .cells #[.int .i64 0, .int .i64 0, .int .i64 0] 39 (0, 0))] :: [(b4, .cells #[.int .i64 b1.X.Lo, .int .i64 b1.X.Hi, .bool b1.X.Unknown, .int .i64 b1.Y.Lo, .int .i64 b1.Y.Hi, .bool b1.Y.Unknown, .int .i64 b1.Z.Lo, .int .i64 b1.Z.Hi, .bool b1.Z.Unknown] 31 (0, 0))] :: H) → a_ = ⟨#[(ag_Box b1), pV b4 0, pV b8 0, fV, pV b23 0, .bool vt17, .func (.func 77) #[] #[], pV b62 0, .tuple #[.agg #[iV ((vt16.getD 0 default).Lo), iV ((vt16.getD 0 default).Hi), .bool ((vt16.getD 0 default).Unknown), iV ((vt16.getD 1 default).Lo), iV ((vt16.getD 1 default).Hi), .bool ((vt16.getD 1 default).Unknown), iV ((vt16.getD 2 default).Lo), iV ((vt16.getD 2 default).Hi), .bool ((vt16.getD 2 default).Unknown)], .bool vt17], (ag_Box b1), .tuple #[.agg #[iV ((vt16.getD 0 default).Lo), iV ((vt16.getD 0 default).Hi), .bool ((vt16.getD 0 default).Unknown), iV ((vt16.getD 1 default).Lo), iV ((vt16.getD 1 default).Hi), .bool ((vt16.getD 1 default).Unknown), iV ((vt16.getD 2 default).Lo), iV ((vt16.getD 2 default).Hi), .bool ((vt16.getD 2 default).Unknown)], .bool vt17], .agg #[iV ((vt16.getD 0 default).Lo), iV ((vt16.getD 0 default).Hi), .bool ((vt16.getD 0 default).Unknown), iV ((vt16.getD 1 default).Lo), iV ((vt16.getD 1 default).Hi), .bool ((vt16.getD 1 default).Unknown), iV ((vt16.getD 2 default).Lo), iV ((vt16.getD 2 default).Hi), .bool ((vt16.getD 2 default).Unknown)], .bool vt17, .bool vt17, fV, uV, .func (.func 77) #[] #[], pV b4 0, (ag_Bound b1.X), iV vt44, .func (.func 77) #[] #[], pV b4 3, (ag_Bound b1.Y), iV vt50, .func (.func 77) #[] #[], pV b4 6, (ag_Bound b1.Z), iV vt56, .agg #[iV vt44, iV vt50, iV vt56], (j217 0), (j217 1), (j217 2), (j217 3), (j217 4), (j217 5), (j217 6), (j217 7), (j217 8), (j217 9), (j217 10), (j217 11), (j217 12), (j217 13), (j217 14), (j217 15), (j217 16), (j217 17), (j217 18), (j217 19), (j217 20), (j217 21), (j217 22), (j217 23), (j217 24), (j217 25), (j217 26), (j217 27), uV, uV, uV, uV], []⟩ → K134 a_ W215 := by
     intro f213 x218 x219 x220 j217 W215 a_ L214 hj223 HS216  hfr_; subst hfr_
     injection hj223 with hj223; subst hj223; try dsimp only at h
     refine hK135 _ _ ?_
     refine wp_seq_k (fun K224 hK225 => ?_)
     have HS229 := HS216.u3.u2.u2.u3
     refine heldG (S := Sg t f213 ([(b62, .cells #[.int .i64 x218, .int .i64 x219, .int .i64 x220] 39 (0, 0))] :: [(b23, .cells #[.int .i64 ((vt16.getD 0 default).Lo), .int .i64 ((vt16.getD 0 default).Hi), .bool ((vt16.getD 0 default).Unknown), .int .i64 ((vt16.getD 1 default).Lo), .int .i64 ((vt16.getD 1 default).Hi), .bool ((vt16.getD 1 default).Unknown), .int .i64 ((vt16.getD 2 default).Lo), .int .i64 ((vt16.getD 2 default).Hi), .bool ((vt16.getD 2 default).Unknown)] 81 (0, 0))] :: [(b4, .cells #[.int .i64 b1.X.Lo, .int .i64 b1.X.Hi, .bool b1.X.Unknown, .int .i64 b1.Y.Lo, .int .i64 b1.Y.Hi, .bool b1.Y.Unknown, .int .i64 b1.Z.Lo, .int .i64 b1.Z.Hi, .bool b1.Z.Unknown] 31 (0, 0))] :: H) [(4, [(b8, .cells #[.int .i64 0, .int .i64 0, .int .i64 0] 39 (0, 0))])]) (n := 6) kr rfl HS229 ?_
     intro W230 HS231
     refine takeGQ 0 [] rfl kr kr kr kr kr kr hnp (Sg.g1 (Sx.of [[(b8, .cells #[.int .i64 0, .int .i64 0, .int .i64 0] 39 (0, 0))]] fL HS231) (fun _ => St.only [] HS231 fL)) (fun w_ hw_ => by obtain ⟨g_, hl_, hS_⟩ := hw_.st; exact run_loadN (n := 3) rfl Tryz.underlying39 rfl kr (kv (.pointer (some ⟨b62, 0, none⟩))) (cs := [.int .i64 x218, .int .i64 x219, .int .i64 x220]) rfl (hS_.cells 0 3 _ rfl)) ?_
     refine takeGQ 1 [] rfl kr kr kr kr kr kr hnp (Sg.g1 (Sx.of [[(b8, .cells #[.int .i64 0, .int .i64 0, .int .i64 0] 39 (0, 0))]] fL HS231) (fun _ => St.only [] HS231 fL)) (fun w_ hw_ => by obtain ⟨g_, hl_, hS_⟩ := hw_.st; exact run_loadN (n := 3) rfl Tryz.underlying39 rfl kr (kv (.pointer (some ⟨b62, 0, none⟩))) (cs := [.int .i64 x218, .int .i64 x219, .int .i64 x220]) rfl (hS_.cells 0 3 _ rfl)) ?_
     refine takeGL [2] (n := 4) (fuel := 3) #[true, true, true, false, false, false] rfl kr kr kr hnp (Sg.g1 (Sx.of [[(b8, .cells #[.int .i64 0, .int .i64 0, .int .i64 0] 39 (0, 0))]] fL HS231) (fun _ => St.only [] HS231 fL)) ?_
     refine takeGQ 3 [] rfl kr kr kr kr kr kr hnp (Sg.g1 (Sx.of [[(b8, .cells #[.int .i64 0, .int .i64 0, .int .i64 0] 39 (0, 0))]] fL HS231) (fun _ => St.only [] HS231 fL)) (fun w_ hw_ => by obtain ⟨g_, hl_, hS_⟩ := hw_.st; exact run_neS (b := ((x218 == 0) && ((x219 == 0) && ((x220 == 0) && true)))) rfl (kv (.agg #[.int .i64 x218, .int .i64 x219, .int .i64 x220])) (kv (.agg #[.int .i64 0, .int .i64 0, .int .i64 0])) kr kr w_) ?_
     refine takeGE 4 kr rfl kr (does_storeA (vs := [.int .i64 x218, .int .i64 x219, .int .i64 x220]) rfl kr kr kr rfl (ones rfl) HS231 kr ?_)
     intro W232 HS233
     refine ⟨(Sg.g1 (Sx.of [[(b8, .cells #[.int .i64 x218, .int .i64 x219, .int .i64 x220] 39 (0, 0))]] fL HS233) (fun hl_ => Bool.noConfusion (show true = false from hl_))), ?_⟩
     refine takeGL [5] (n := 1) (fuel := 0) #[true, true, true, true, true, true] rfl kr kr kr hnp (Sg.g1 (Sx.of [[(b8, .cells #[.int .i64 x218, .int .i64 x219, .int .i64 x220] 39 (0, 0))]] fL HS233) (fun hl_ => Bool.noConfusion (show true = false from hl_))) ?_
     refine doneG kr ?_ _
     refine hK225 _ _ ?_
     refine wp_ret ?_
     refine hret _ _ ?_
     refine ends (v := Value.tuple #[.agg #[.int .i64 x218, .int .i64 x219, .int .i64 x220], .bool (!((x218 == 0) && ((x219 == 0) && ((x220 == 0) && true))))]) (results2 (q1 := .cell 2 39) (q2 := .tmp 3) kr (resN (n := 3) (cs := [.int .i64 x218, .int .i64 x219, .int .i64 x220]) (kv (.pointer (some ⟨b8, 0, none⟩))) Tryz.underlying39 rfl kr rfl (HS233.cells 0 3 _ rfl)) (resT (kv (.bool (!((x218 == 0) && ((x219 == 0) && ((x220 == 0) && true)))))))) kr ?_
     have HS237 := HS233.drop
     have HS238 := HS237.drop
     have HS239 := HS238.drop
     have HS240 := HS239.drop
     injection h with h
     injection h with h0_ h
     subst h0_ h
     exact ⟨f213, rfl, (L20.trans (L47.trans (L53.trans (L59.trans L214)))), HS240⟩
    clear h; have h := hv221; clear hv221
    refine loopK (fun n_ a_ w_ => ∃ (f180 : FM) (x185 : Int) (x186 : Int) (x187 : Int) (j184 : Nat → Value), FM.le f58 f180 ∧ St t w_ f180 ([(b62, .cells #[.int .i64 x185, .int .i64 x186, .int .i64 x187] 39 (0, 0))] :: [(b23, .cells #[.int .i64 ((vt16.getD 0 default).Lo), .int .i64 ((vt16.getD 0 default).Hi), .bool ((vt16.getD 0 default).Unknown), .int .i64 ((vt16.getD 1 default).Lo), .int .i64 ((vt16.getD 1 default).Hi), .bool ((vt16.getD 1 default).Unknown), .int .i64 ((vt16.getD 2 default).Lo), .int .i64 ((vt16.getD 2 default).Hi), .bool ((vt16.getD 2 default).Unknown)] 81 (0, 0))] :: [(b8, .cells #[.int .i64 0, .int .i64 0, .int .i64 0] 39 (0, 0))] :: [(b4, .cells #[.int .i64 b1.X.Lo, .int .i64 b1.X.Hi, .bool b1.X.Unknown, .int .i64 b1.Y.Lo, .int .i64 b1.Y.Hi, .bool b1.Y.Unknown, .int .i64 b1.Z.Lo, .int .i64 b1.Z.Hi, .bool b1.Z.Unknown] 31 (0, 0))] :: H) ∧ query_middle.l0 k n_ x185 x186 x187 = some o176 ∧ a_ = ⟨#[(ag_Box b1), pV b4 0, pV b8 0, fV, pV b23 0, .bool vt17, .func (.func 77) #[] #[], pV b62 0, .tuple #[.agg #[iV ((vt16.getD 0 default).Lo), iV ((vt16.getD 0 default).Hi), .bool ((vt16.getD 0 default).Unknown), iV ((vt16.getD 1 default).Lo), iV ((vt16.getD 1 default).Hi), .bool ((vt16.getD 1 default).Unknown), iV ((vt16.getD 2 default).Lo), iV ((vt16.getD 2 default).Hi), .bool ((vt16.getD 2 default).Unknown)], .bool vt17], (ag_Box b1), .tuple #[.agg #[iV ((vt16.getD 0 default).Lo), iV ((vt16.getD 0 default).Hi), .bool ((vt16.getD 0 default).Unknown), iV ((vt16.getD 1 default).Lo), iV ((vt16.getD 1 default).Hi), .bool ((vt16.getD 1 default).Unknown), iV ((vt16.getD 2 default).Lo), iV ((vt16.getD 2 default).Hi), .bool ((vt16.getD 2 default).Unknown)], .bool vt17], .agg #[iV ((vt16.getD 0 default).Lo), iV ((vt16.getD 0 default).Hi), .bool ((vt16.getD 0 default).Unknown), iV ((vt16.getD 1 default).Lo), iV ((vt16.getD 1 default).Hi), .bool ((vt16.getD 1 default).Unknown), iV ((vt16.getD 2 default).Lo), iV ((vt16.getD 2 default).Hi), .bool ((vt16.getD 2 default).Unknown)], .bool vt17, .bool vt17, fV, uV, .func (.func 77) #[] #[], pV b4 0, (ag_Bound b1.X), iV vt44, .func (.func 77) #[] #[], pV b4 3, (ag_Bound b1.Y), iV vt50, .func (.func 77) #[] #[], pV b4 6, (ag_Bound b1.Z), iV vt56, .agg #[iV vt44, iV vt50, iV vt56], (j184 0), (j184 1), (j184 2), (j184 3), (j184 4), (j184 5), (j184 6), (j184 7), (j184 8), (j184 9), (j184 10), (j184 11), (j184 12), (j184 13), (j184 14), (j184 15), (j184 16), (j184 17), (j184 18), (j184 19), (j184 20), (j184 21), (j184 22), (j184 23), (j184 24), (j184 25), (j184 26), (j184 27), uV, uV, uV, uV], []⟩) k ⟨f58, vt44, vt50, vt56, (jL []), fL, HS73, h, kr⟩ ?_
    clear h
    rintro n179 _ W182 ⟨f180, x185, x186, x187, j184, L181, HS183, h, rfl⟩ K177 hK178
    obtain _ | n179 := n179
    · exact nomatch h
    simp only [query_middle.l0] at h
    refine wp_seq_k (fun K188 hK189 => ?_)
    refine wp_seq_k fun K190 hK191 => rl ?_
    refine seqL1 kr ?_
    refine seqK rfl (does_run (run_load rfl Tryz.underlying2 rfl (kv (.pointer (some ⟨b62, 0, none⟩))) (HS183.cell 0)) ?_)
    refine seqL1 kr ?_
    refine seqK rfl (does_run (run_load rfl Tryz.underlying2 rfl (kv (.pointer (some ⟨b62, 1, none⟩))) (HS183.cell 1)) ?_)
    refine seqL1 kr ?_
    refine seqK rfl (does_run (run_load rfl Tryz.underlying2 rfl (kv (.pointer (some ⟨b62, 2, none⟩))) (HS183.cell 2)) ?_)
    refine seqL3 kr ?_
    have hq_ := ite_some h; clear h; rcases hq_ with ⟨c192, h⟩ | ⟨c192, h⟩
    · have c192 : (mx (mx x185 x186) x187) > 1048576 := c192
      refine seqRwI 36 kr (decide_eq_true c192) ?_
      refine seqRwI 37 kr (decide_eq_true c192) ?_
      refine seqL9 kr ?_
      refine nl (hK191 _ _ ?_)
      refine condT kr ?_
      refine wp_skip ?_
      refine hK189 _ _ ?_
      refine blockK (fun B193 hx194 hn195 hr196 ho197 hp198 => ?_)
      refine rl ?_
      refine seqL1 kr ?_
      refine seqK rfl (does_run (run_load rfl Tryz.underlying2 rfl (kv (.pointer (some ⟨b62, 0, none⟩))) (HS183.cell 0)) ?_)
      refine seqL2 kr ?_
      refine seqK rfl (does_run (run_load rfl Tryz.underlying2 rfl (kv (.pointer (some ⟨b62, 1, none⟩))) (HS183.cell 1)) ?_)
      refine seqL2 kr ?_
      refine seqK rfl (does_run (run_load rfl Tryz.underlying2 rfl (kv (.pointer (some ⟨b62, 2, none⟩))) (HS183.cell 2)) ?_)
      refine seqL2 kr ?_
      refine seqK rfl (does_storeA (vs := [.int .i64 (w64 (Int.tdiv x185 2)), .int .i64 (w64 (Int.tdiv x186 2)), .int .i64 (w64 (Int.tdiv x187 2))]) rfl kr kr kr rfl (ones rfl) HS183 kr ?_)
      intro W200 HS201
      refine nl ?_
      refine hn195 _ _ ?_
      refine hK178 n179 _ _ (Nat.lt_succ_self _) ?_
      exact ⟨f180, (w64 (Int.tdiv x185 2)), (w64 (Int.tdiv x186 2)), (w64 (Int.tdiv x187 2)), (jL [.pointer (some ⟨b62, 0, none⟩), iV x185, .pointer (some ⟨b62, 1, none⟩), iV x186, .pointer (some ⟨b62, 2, none⟩), iV x187, iV (mx (mx x185 x186) x187), tV, tV, uV, uV, uV, uV, uV, uV, uV, uV, tV, .pointer (some ⟨b62, 0, none⟩), iV x185, iV (w64 (Int.tdiv x185 2)), .pointer (some ⟨b62, 1, none⟩), iV x186, iV (w64 (Int.tdiv x186 2)), .pointer (some ⟨b62, 2, none⟩), iV x187, iV (w64 (Int.tdiv x187 2)), .agg #[.int .i64 (w64 (Int.tdiv x185 2)), .int .i64 (w64 (Int.tdiv x186 2)), .int .i64 (w64 (Int.tdiv x187 2))]]), L181, HS201, h, kr⟩
    · have c192 : ¬ ((mx (mx x185 x186) x187) > 1048576) := c192
      refine seqRwI 36 kr (decide_eq_false c192) ?_
      refine seqRwI 37 kr (decide_eq_false c192) ?_
      refine seqL1 kr ?_
      refine seqG kr (does_run (run_load rfl Tryz.underlying2 rfl (kv (.pointer (some ⟨b62, 0, none⟩))) (HS183.cell 0)) ?_)
      refine seqL1 kr ?_
      refine seqG kr (does_run (run_load rfl Tryz.underlying2 rfl (kv (.pointer (some ⟨b62, 1, none⟩))) (HS183.cell 1)) ?_)
      refine seqL1 kr ?_
      refine seqG kr (does_run (run_load rfl Tryz.underlying2 rfl (kv (.pointer (some ⟨b62, 2, none⟩))) (HS183.cell 2)) ?_)
      refine seqL3 kr ?_
      refine nl (hK191 _ _ ?_)
      have hq_ := ite_some h; clear h; rcases hq_ with ⟨c203, h⟩ | ⟨c203, h⟩
      · have c203 : (mn (mn x185 x186) x187) < (-1048576) := c203
        refine wpRwI 45 kr (decide_eq_true c203) ?_
        refine wpRwI 46 kr (decide_eq_true c203) ?_
        refine condT kr ?_
        refine wp_skip ?_
        refine hK189 _ _ ?_
        refine blockK (fun B204 hx205 hn206 hr207 ho208 hp209 => ?_)
        refine rl ?_
        refine seqL1 kr ?_
        refine seqK rfl (does_run (run_load rfl Tryz.underlying2 rfl (kv (.pointer (some ⟨b62, 0, none⟩))) (HS183.cell 0)) ?_)
        refine seqL2 kr ?_
        refine seqK rfl (does_run (run_load rfl Tryz.underlying2 rfl (kv (.pointer (some ⟨b62, 1, none⟩))) (HS183.cell 1)) ?_)
        refine seqL2 kr ?_
        refine seqK rfl (does_run (run_load rfl Tryz.underlying2 rfl (kv (.pointer (some ⟨b62, 2, none⟩))) (HS183.cell 2)) ?_)
        refine seqL2 kr ?_
        refine seqK rfl (does_storeA (vs := [.int .i64 (w64 (Int.tdiv x185 2)), .int .i64 (w64 (Int.tdiv x186 2)), .int .i64 (w64 (Int.tdiv x187 2))]) rfl kr kr kr rfl (ones rfl) HS183 kr ?_)
        intro W211 HS212
        refine nl ?_
        refine hn206 _ _ ?_
        refine hK178 n179 _ _ (Nat.lt_succ_self _) ?_
        exact ⟨f180, (w64 (Int.tdiv x185 2)), (w64 (Int.tdiv x186 2)), (w64 (Int.tdiv x187 2)), (jL [.pointer (some ⟨b62, 0, none⟩), iV x185, .pointer (some ⟨b62, 1, none⟩), iV x186, .pointer (some ⟨b62, 2, none⟩), iV x187, iV (mx (mx x185 x186) x187), fV, fV, .pointer (some ⟨b62, 0, none⟩), iV x185, .pointer (some ⟨b62, 1, none⟩), iV x186, .pointer (some ⟨b62, 2, none⟩), iV x187, iV (mn (mn x185 x186) x187), tV, tV, .pointer (some ⟨b62, 0, none⟩), iV x185, iV (w64 (Int.tdiv x185 2)), .pointer (some ⟨b62, 1, none⟩), iV x186, iV (w64 (Int.tdiv x186 2)), .pointer (some ⟨b62, 2, none⟩), iV x187, iV (w64 (Int.tdiv x187 2)), .agg #[.int .i64 (w64 (Int.tdiv x185 2)), .int .i64 (w64 (Int.tdiv x186 2)), .int .i64 (w64 (Int.tdiv x187 2))]]), L181, HS212, h, kr⟩
      · have c203 : ¬ ((mn (mn x185 x186) x187) < (-1048576)) := c203
        refine wpRwI 45 kr (decide_eq_false c203) ?_
        refine wpRwI 46 kr (decide_eq_false c203) ?_
        refine condF kr ?_
        refine wp_exit ?_
        refine hx137 _ _ ?_
        exact J222 f180 x185 x186 x187 (jL [.pointer (some ⟨b62, 0, none⟩), iV x185, .pointer (some ⟨b62, 1, none⟩), iV x186, .pointer (some ⟨b62, 2, none⟩), iV x187, iV (mx (mx x185 x186) x187), fV, fV, .pointer (some ⟨b62, 0, none⟩), iV x185, .pointer (some ⟨b62, 1, none⟩), iV x186, .pointer (some ⟨b62, 2, none⟩), iV x187, iV (mn (mn x185 x186) x187), fV, fV, (j184 18), (j184 19), (j184 20), (j184 21), (j184 22), (j184 23), (j184 24), (j184 25), (j184 26), (j184 27)]) W182 _ L181 h HS183 kr
   refine takeEither 3 13 kr rfl rfl rfl rfl ?_ ?_
   · refine does_call (f := 77) (args := #[.agg #[.int .i64 b1.X.Lo, .int .i64 b1.X.Hi, .bool b1.X.Unknown]]) kr (query_middle_1.calls k b1.X HS43 vt44 hc45) ?_
     rintro _ W76 ⟨f74, rfl, L75, HS77⟩
     refine ⟨_, rfl, ?_⟩
     refine ⟨(Sg.g0 (Sx.of [] L75 HS77)), ?_⟩
     refine takeEither 7 13 kr rfl rfl rfl rfl ?_ ?_
     · refine does_call (f := 77) (args := #[.agg #[.int .i64 b1.Y.Lo, .int .i64 b1.Y.Hi, .bool b1.Y.Unknown]]) kr (query_middle_1.calls k b1.Y HS77 vt50 hc51) ?_
       rintro _ W80 ⟨f78, rfl, L79, HS81⟩
       refine ⟨_, rfl, ?_⟩
       refine ⟨(Sg.g0 (Sx.of [] (L75.trans L79) HS81)), ?_⟩
       refine takeEither 11 13 kr rfl rfl rfl rfl ?_ ?_
       · refine does_call (f := 77) (args := #[.agg #[.int .i64 b1.Z.Lo, .int .i64 b1.Z.Hi, .bool b1.Z.Unknown]]) kr (query_middle_1.calls k b1.Z HS81 vt56 hc57) ?_
         rintro _ W84 ⟨f82, rfl, L83, HS85⟩
         refine ⟨_, rfl, ?_⟩
         refine ⟨(Sg.g0 (Sx.of [] (L75.trans (L79.trans L83)) HS85)), ?_⟩
         refine takeGL [12] (n := 3) (fuel := 2) #[true, true, true, true, true, true, true, true, true, true, true, true, true, false, false] rfl kr kr kr hnp (Sg.g0 (Sx.of [] (L75.trans (L79.trans L83)) HS85)) ?_
         refine takeGE 13 kr rfl kr (does_alloc (z := Value.agg #[.int .i64 0, .int .i64 0, .int .i64 0]) (cs := #[.int .i64 0, .int .i64 0, .int .i64 0]) rfl kr rfl HS85 ?_)
         intro b86 W87 HS88
         refine ⟨(Sg.g0 (Sx.of [[(b86, .cells #[.int .i64 0, .int .i64 0, .int .i64 0] 39 (0, 0))]] (L75.trans (L79.trans L83)) HS88)), ?_⟩
         refine takeGE 14 kr rfl kr (does_storeA (vs := [.int .i64 vt44, .int .i64 vt50, .int .i64 vt56]) rfl kr kr kr rfl (ones rfl) HS88 kr ?_)
         intro W90 HS91
         refine ⟨(Sg.g0 (Sx.of [[(b86, .cells #[.int .i64 vt44, .int .i64 vt50, .int .i64 vt56] 39 (0, 0))]] (L75.trans (L79.trans L83)) HS91)), ?_⟩
         refine hR70 _ _ ?_
         exact J71 f74 f78 f82 b86 W90 _ L75 L79 L83 HS91 kr
       · refine does_alloc (z := Value.agg #[.int .i64 0, .int .i64 0, .int .i64 0]) (cs := #[.int .i64 0, .int .i64 0, .int .i64 0]) rfl kr rfl HS81 ?_
         intro b92 W93 HS94
         refine ⟨(Sg.g0 (Sx.of [[(b92, .cells #[.int .i64 0, .int .i64 0, .int .i64 0] 39 (0, 0))]] (L75.trans L79) HS94)), ?_⟩
         refine takeGE 11 kr rfl kr (does_call (f := 77) (args := #[.agg #[.int .i64 b1.Z.Lo, .int .i64 b1.Z.Hi, .bool b1.Z.Unknown]]) kr (query_middle_1.calls k b1.Z HS94 vt56 hc57) ?_)
         rintro _ W98 ⟨f96, rfl, L97, HS99⟩
         refine ⟨_, rfl, ?_⟩
         refine ⟨(Sg.g0 (Sx.of [[(b92, .cells #[.int .i64 0, .int .i64 0, .int .i64 0] 39 (0, 0))]] (L75.trans (L79.trans L97)) HS99)), ?_⟩
         refine takeGL [12] (n := 2) (fuel := 1) #[true, true, true, true, true, true, true, true, true, true, true, true, true, true, false] rfl kr kr kr hnp (Sg.g0 (Sx.of [[(b92, .cells #[.int .i64 0, .int .i64 0, .int .i64 0] 39 (0, 0))]] (L75.trans (L79.trans L97)) HS99)) ?_
         refine takeGE 14 kr rfl kr (does_storeA (vs := [.int .i64 vt44, .int .i64 vt50, .int .i64 vt56]) rfl kr kr kr rfl (ones rfl) HS99 kr ?_)
         intro W100 HS101
         refine ⟨(Sg.g0 (Sx.of [[(b92, .cells #[.int .i64 vt44, .int .i64 vt50, .int .i64 vt56] 39 (0, 0))]] (L75.trans (L79.trans L97)) HS101)), ?_⟩
         refine hR70 _ _ ?_
         exact J71 f74 f78 f96 b92 W100 _ L75 L79 L97 HS101 kr
     · refine does_alloc (z := Value.agg #[.int .i64 0, .int .i64 0, .int .i64 0]) (cs := #[.int .i64 0, .int .i64 0, .int .i64 0]) rfl kr rfl HS77 ?_
       intro b102 W103 HS104
       refine ⟨(Sg.g0 (Sx.of [[(b102, .cells #[.int .i64 0, .int .i64 0, .int .i64 0] 39 (0, 0))]] L75 HS104)), ?_⟩
       refine takeGE 7 kr rfl kr (does_call (f := 77) (args := #[.agg #[.int .i64 b1.Y.Lo, .int .i64 b1.Y.Hi, .bool b1.Y.Unknown]]) kr (query_middle_1.calls k b1.Y HS104 vt50 hc51) ?_)
       rintro _ W108 ⟨f106, rfl, L107, HS109⟩
       refine ⟨_, rfl, ?_⟩
       refine ⟨(Sg.g0 (Sx.of [[(b102, .cells #[.int .i64 0, .int .i64 0, .int .i64 0] 39 (0, 0))]] (L75.trans L107) HS109)), ?_⟩
       refine takeGE 11 kr rfl kr (does_call (f := 77) (args := #[.agg #[.int .i64 b1.Z.Lo, .int .i64 b1.Z.Hi, .bool b1.Z.Unknown]]) kr (query_middle_1.calls k b1.Z HS109 vt56 hc57) ?_)
       rintro _ W112 ⟨f110, rfl, L111, HS113⟩
       refine ⟨_, rfl, ?_⟩
       refine ⟨(Sg.g0 (Sx.of [[(b102, .cells #[.int .i64 0, .int .i64 0, .int .i64 0] 39 (0, 0))]] (L75.trans (L107.trans L111)) HS113)), ?_⟩
       refine takeGL [12] (n := 2) (fuel := 1) #[true, true, true, true, true, true, true, true, true, true, true, true, true, true, false] rfl kr kr kr hnp (Sg.g0 (Sx.of [[(b102, .cells #[.int .i64 0, .int .i64 0, .int .i64 0] 39 (0, 0))]] (L75.trans (L107.trans L111)) HS113)) ?_
       refine takeGE 14 kr rfl kr (does_storeA (vs := [.int .i64 vt44, .int .i64 vt50, .int .i64 vt56]) rfl kr kr kr rfl (ones rfl) HS113 kr ?_)
       intro W114 HS115
       refine ⟨(Sg.g0 (Sx.of [[(b102, .cells #[.int .i64 vt44, .int .i64 vt50, .int .i64 vt56] 39 (0, 0))]] (L75.trans (L107.trans L111)) HS115)), ?_⟩
       refine hR70 _ _ ?_
       exact J71 f74 f106 f110 b102 W114 _ L75 L107 L111 HS115 kr
   · refine does_alloc (z := Value.agg #[.int .i64 0, .int .i64 0, .int .i64 0]) (cs := #[.int .i64 0, .int .i64 0, .int .i64 0]) rfl kr rfl HS43 ?_
     intro b116 W117 HS118
     refine ⟨(Sg.g0 (Sx.of [[(b116, .cells #[.int .i64 0, .int .i64 0, .int .i64 0] 39 (0, 0))]] fL HS118)), ?_⟩
     refine takeGE 3 kr rfl kr (does_call (f := 77) (args := #[.agg #[.int .i64 b1.X.Lo, .int .i64 b1.X.Hi, .bool b1.X.Unknown]]) kr (query_middle_1.calls k b1.X HS118 vt44 hc45) ?_)
     rintro _ W122 ⟨f120, rfl, L121, HS123⟩
     refine ⟨_, rfl, ?_⟩
     refine ⟨(Sg.g0 (Sx.of [[(b116, .cells #[.int .i64 0, .int .i64 0, .int .i64 0] 39 (0, 0))]] L121 HS123)), ?_⟩
     refine takeGE 7 kr rfl kr (does_call (f := 77) (args := #[.agg #[.int .i64 b1.Y.Lo, .int .i64 b1.Y.Hi, .bool b1.Y.Unknown]]) kr (query_middle_1.calls k b1.Y HS123 vt50 hc51) ?_)
     rintro _ W126 ⟨f124, rfl, L125, HS127⟩
     refine ⟨_, rfl, ?_⟩
     refine ⟨(Sg.g0 (Sx.of [[(b116, .cells #[.int .i64 0, .int .i64 0, .int .i64 0] 39 (0, 0))]] (L121.trans L125) HS127)), ?_⟩
     refine takeGE 11 kr rfl kr (does_call (f := 77) (args := #[.agg #[.int .i64 b1.Z.Lo, .int .i64 b1.Z.Hi, .bool b1.Z.Unknown]]) kr (query_middle_1.calls k b1.Z HS127 vt56 hc57) ?_)
     rintro _ W130 ⟨f128, rfl, L129, HS131⟩
     refine ⟨_, rfl, ?_⟩
     refine ⟨(Sg.g0 (Sx.of [[(b116, .cells #[.int .i64 0, .int .i64 0, .int .i64 0] 39 (0, 0))]] (L121.trans (L125.trans L129)) HS131)), ?_⟩
     refine takeGL [12] (n := 2) (fuel := 1) #[true, true, true, true, true, true, true, true, true, true, true, true, true, true, false] rfl kr kr kr hnp (Sg.g0 (Sx.of [[(b116, .cells #[.int .i64 0, .int .i64 0, .int .i64 0] 39 (0, 0))]] (L121.trans (L125.trans L129)) HS131)) ?_
     refine takeGE 14 kr rfl kr (does_storeA (vs := [.int .i64 vt44, .int .i64 vt50, .int .i64 vt56]) rfl kr kr kr rfl (ones rfl) HS131 kr ?_)
     intro W132 HS133
     refine ⟨(Sg.g0 (Sx.of [[(b116, .cells #[.int .i64 vt44, .int .i64 vt50, .int .i64 vt56] 39 (0, 0))]] (L121.trans (L125.trans L129)) HS133)), ?_⟩
     refine hR70 _ _ ?_
     exact J71 f120 f124 f128 b116 W132 _ L121 L125 L129 HS133 kr

set_option maxRecDepth 100000 in
set_option maxHeartbeats 4000000 in
theorem sphere_Check.calls (k : Nat)  (v1 : S_Vec) {t w : World} {f : FM} {H : List Seg} (HS : St t w f (H)) (rr1 : Int) (h : sphere_Check k v1 = some rr1) :
    Calls Tryz.prog 73 #[.agg #[.int .i64 v1.X, .int .i64 v1.Y, .int .i64 v1.Z]] w (fun e w' => ∃ (g : FM), e = .returned (Value.int .i64 rr1) ∧ FM.le f g ∧ St t w' g (H)) := by
 unfold sphere_Check at h
 refine enter Tryz.func73 rfl (tm := #[(ag_Vec v1), uV, uV, uV, uV, uV, uV, uV, uV, uV, uV, uV, uV, uV, uV, uV, uV, uV, uV, uV, uV, uV, uV, uV, uV, uV]) kr ?_
 intro B hret hnor hnp
 refine wp_seq_k fun K2 hK3 => rl ?_
 refine seqK rfl (does_box (cs := #[.int .i64 v1.X, .int .i64 v1.Y, .int .i64 v1.Z]) rfl (kv (.agg #[.int .i64 v1.X, .int .i64 v1.Y, .int .i64 v1.Z])) rfl HS ?_)
 intro b4 W5 HS6
 refine seqL1 kr ?_
 refine nl (hK3 _ _ ?_)
 refine wp_seq_k (fun K8 hK9 => ?_)
 refine blockK (fun B10 hx11 hn12 hr13 ho14 hp15 => ?_)
 refine wp_seq_k fun K17 hK18 => rl ?_
 refine seqL1 kr ?_
 refine seqK rfl (does_run (run_load rfl Tryz.underlying2 rfl (kv (.pointer (some ⟨b4, 0, none⟩))) (HS6.cell 0)) ?_)
 refine seqL1 kr ?_
 refine seqK rfl (does_run (run_load rfl Tryz.underlying2 rfl (kv (.pointer (some ⟨b4, 1, none⟩))) (HS6.cell 1)) ?_)
 refine seqL1 kr ?_
 refine seqK rfl (does_run (run_load rfl Tryz.underlying2 rfl (kv (.pointer (some ⟨b4, 2, none⟩))) (HS6.cell 2)) ?_)
 refine seqL3 kr ?_
 have hq_ := ite_some h; clear h; rcases hq_ with ⟨c19, h⟩ | ⟨c19, h⟩
 · have c19 : (mx (mx v1.X v1.Y) v1.Z) > 1048576 := c19
   refine seqRwI 11 kr (decide_eq_true c19) ?_
   refine seqRwI 12 kr (decide_eq_true c19) ?_
   refine seqL10 kr ?_
   refine nl (hK18 _ _ ?_)
   refine condT kr ?_
   refine wp_seq_k fun K20 hK21 => rl ?_
   refine seqL1 kr ?_
   refine nl (hK21 _ _ ?_)
   refine wp_ret ?_
   refine hr13 _ _ ?_
   refine hret _ _ ?_
   refine ends_still (v := Value.int .i64 4) kr kr ?_
   have HS34 := HS6.drop
   injection h with h
   subst h
   exact ⟨f, rfl, FM.le.refl _, HS34⟩
 · have c19 : ¬ ((mx (mx v1.X v1.Y) v1.Z) > 1048576) := c19
   refine seqRwI 11 kr (decide_eq_false c19) ?_
   refine seqRwI 12 kr (decide_eq_false c19) ?_
   refine seqL1 kr ?_
   refine seqG kr (does_run (run_load rfl Tryz.underlying2 rfl (kv (.pointer (some ⟨b4, 0, none⟩))) (HS6.cell 0)) ?_)
   refine seqL1 kr ?_
   refine seqG kr (does_run (run_load rfl Tryz.underlying2 rfl (kv (.pointer (some ⟨b4, 1, none⟩))) (HS6.cell 1)) ?_)
   refine seqL1 kr ?_
   refine seqG kr (does_run (run_load rfl Tryz.underlying2 rfl (kv (.pointer (some ⟨b4, 2, none⟩))) (HS6.cell 2)) ?_)
   refine seqL4 kr ?_
   refine nl (hK18 _ _ ?_)
   have hq_ := ite_some h; clear h; rcases hq_ with ⟨c23, h⟩ | ⟨c23, h⟩
   · have c23 : (mn (mn v1.X v1.Y) v1.Z) < (-1048576) := c23
     refine wpRwI 3 kr (decide_eq_true c23) ?_
     refine wpRwI 20 kr (decide_eq_true c23) ?_
     refine wpRwI 21 kr (decide_eq_true c23) ?_
     refine condT kr ?_
     refine wp_seq_k fun K24 hK25 => rl ?_
     refine seqL1 kr ?_
     refine nl (hK25 _ _ ?_)
     refine wp_ret ?_
     refine hr13 _ _ ?_
     refine hret _ _ ?_
     refine ends_still (v := Value.int .i64 4) kr kr ?_
     have HS35 := HS6.drop
     injection h with h
     subst h
     exact ⟨f, rfl, FM.le.refl _, HS35⟩
   · have c23 : ¬ ((mn (mn v1.X v1.Y) v1.Z) < (-1048576)) := c23
     refine wpRwI 3 kr (decide_eq_false c23) ?_
     refine wpRwI 20 kr (decide_eq_false c23) ?_
     refine wpRwI 21 kr (decide_eq_false c23) ?_
     refine condF kr ?_
     refine wp_seq_k fun K26 hK27 => rl ?_
     refine seqK rfl (does_run (run_loadN (n := 3) rfl Tryz.underlying39 rfl kr (kv (.pointer (some ⟨b4, 0, none⟩))) (cs := [.int .i64 v1.X, .int .i64 v1.Y, .int .i64 v1.Z]) rfl (HS6.cells 0 3 _ rfl)) ?_)
     refine seqL1 kr ?_
     refine seqK rfl (does_run (run_eqS (b := ((v1.X == 0) && ((v1.Y == 0) && ((v1.Z == 0) && true)))) rfl (kv (.agg #[.int .i64 v1.X, .int .i64 v1.Y, .int .i64 v1.Z])) (kv (.agg #[.int .i64 0, .int .i64 0, .int .i64 0])) kr kr W5) ?_)
     refine seqL1 kr ?_
     refine nl (hK27 _ _ ?_)
     have hq_ := ite_some h; clear h; rcases hq_ with ⟨c29, h⟩ | ⟨c29, h⟩
     · have c29 : ((v1.X == 0) && ((v1.Y == 0) && ((v1.Z == 0) && true))) = true := c29
       refine wpRwI 22 kr c29 ?_
       refine wpRwI 25 kr c29 ?_
       refine condT kr ?_
       refine wp_seq_k fun K30 hK31 => rl ?_
       refine seqL1 kr ?_
       refine nl (hK31 _ _ ?_)
       refine wp_ret ?_
       refine hr13 _ _ ?_
       refine hret _ _ ?_
       refine ends_still (v := Value.int .i64 8) kr kr ?_
       have HS36 := HS6.drop
       injection h with h
       subst h
       exact ⟨f, rfl, FM.le.refl _, HS36⟩
     · have c29 : ¬ (((v1.X == 0) && ((v1.Y == 0) && ((v1.Z == 0) && true))) = true) := c29
       refine wpRwI 22 kr (Bool.eq_false_iff.mpr c29) ?_
       refine wpRwI 25 kr (Bool.eq_false_iff.mpr c29) ?_
       refine condF kr ?_
       refine wp_skip ?_
       refine hn12 _ _ ?_
       refine hK9 _ _ ?_
       refine wp_seq_k fun K32 hK33 => rl ?_
       refine seqL1 kr ?_
       refine nl (hK33 _ _ ?_)
       refine wp_ret ?_
       refine hret _ _ ?_
       refine ends_still (v := Value.int .i64 0) kr kr ?_
       have HS37 := HS6.drop
       injection h with h
       subst h
       exact ⟨f, rfl, FM.le.refl _, HS37⟩

set_option maxRecDepth 100000 in
set_option maxHeartbeats 4000000 in
theorem tile_parts.calls (k : Nat)  (v1 : S_Vec) {t w : World} {f : FM} {H : List Seg} (HS : St t w f (H)) (rr1 : List Int) (h : tile_parts k v1 = some rr1) :
    Calls Tryz.prog 79 #[.agg #[.int .i64 v1.X, .int .i64 v1.Y, .int .i64 v1.Z]] w (fun e w' => ∃ (g : FM), e = .returned (Value.agg #[.int .i64 (rr1.getD 0 default), .int .i64 (rr1.getD 1 default), .int .i64 (rr1.getD 2 default)]) ∧ FM.le f g ∧ St t w' g (H)) := by
 unfold tile_parts at h
 refine enter Tryz.func79 rfl (tm := #[(ag_Vec v1), uV, uV, uV, uV, uV, uV, uV, uV, uV]) kr ?_
 intro B hret hnor hnp
 refine wp_seq_k fun K2 hK3 => rl ?_
 refine seqK rfl (does_box (cs := #[.int .i64 v1.X, .int .i64 v1.Y, .int .i64 v1.Z]) rfl (kv (.agg #[.int .i64 v1.X, .int .i64 v1.Y, .int .i64 v1.Z])) rfl HS ?_)
 intro b4 W5 HS6
 refine seqK rfl (does_alloc (z := Value.agg #[.int .i64 0, .int .i64 0, .int .i64 0]) (cs := #[.int .i64 0, .int .i64 0, .int .i64 0]) rfl kr rfl HS6 ?_)
 intro b8 W9 HS10
 refine nl (hK3 _ _ ?_)
 refine wp_seq_k fun K12 hK13 => rl ?_
 refine seqL1 kr ?_
 refine seqK rfl (does_run (run_load rfl Tryz.underlying2 rfl (kv (.pointer (some ⟨b4, 0, none⟩))) (HS10.u1.cell 0)) ?_)
 refine seqL1 kr ?_
 refine seqK rfl (does_run (run_load rfl Tryz.underlying2 rfl (kv (.pointer (some ⟨b4, 1, none⟩))) (HS10.u1.cell 1)) ?_)
 refine seqL1 kr ?_
 refine seqK rfl (does_run (run_load rfl Tryz.underlying2 rfl (kv (.pointer (some ⟨b4, 2, none⟩))) (HS10.u1.cell 2)) ?_)
 refine seqL1 kr ?_
 refine seqK rfl (does_storeA (vs := [.int .i64 v1.X, .int .i64 v1.Y, .int .i64 v1.Z]) rfl kr kr kr rfl (ones rfl) HS10 kr ?_)
 intro W14 HS15
 refine nl (hK13 _ _ ?_)
 refine wp_ret ?_
 refine hret _ _ ?_
 refine ends (v := Value.agg #[.int .i64 v1.X, .int .i64 v1.Y, .int .i64 v1.Z]) (results1 (q1 := .cell 2 151) kr (resN (n := 3) (cs := [.int .i64 v1.X, .int .i64 v1.Y, .int .i64 v1.Z]) (kv (.pointer (some ⟨b8, 0, none⟩))) Tryz.underlying151 rfl kr rfl (HS15.cells 0 3 _ rfl))) kr ?_
 have HS16 := HS15.drop
 have HS17 := HS16.drop
 injection h with h
 subst h
 exact ⟨f, rfl, FM.le.refl _, HS17⟩

set_option maxRecDepth 100000 in
set_option maxHeartbeats 4000000 in
theorem tile_faceOf.calls (k : Nat)  (v1 : S_Vec) {t w : World} {f : FM} {H : List Seg} (HS : St t w f (H)) (rr1 : Int) (h : tile_faceOf k v1 = some rr1) :
    Calls Tryz.prog 78 #[.agg #[.int .i64 v1.X, .int .i64 v1.Y, .int .i64 v1.Z]] w (fun e w' => ∃ (g : FM), e = .returned (Value.int .i64 rr1) ∧ FM.le f g ∧ St t w' g (H)) := by
 unfold tile_faceOf at h
 refine enter Tryz.func78 rfl (tm := #[(ag_Vec v1), uV, uV, uV, uV, uV, uV, uV, uV, uV, uV, uV, uV, uV, uV, uV, uV, uV, uV, uV, uV, uV, uV, uV, uV, uV, uV, uV, uV, uV, uV, uV, uV, uV, uV, uV, uV, uV, uV]) kr ?_
 intro B hret hnor hnp
 refine wp_seq_k fun K2 hK3 => rl ?_
 refine seqK rfl (does_box (cs := #[.int .i64 v1.X, .int .i64 v1.Y, .int .i64 v1.Z]) rfl (kv (.agg #[.int .i64 v1.X, .int .i64 v1.Y, .int .i64 v1.Z])) rfl HS ?_)
 intro b4 W5 HS6
 refine seqL1 kr ?_
 refine nl (hK3 _ _ ?_)
 refine wp_seq_k fun K8 hK9 => rl ?_
 refine seqK rfl (does_run (run_loadN (n := 3) rfl Tryz.underlying39 rfl kr (kv (.pointer (some ⟨b4, 0, none⟩))) (cs := [.int .i64 v1.X, .int .i64 v1.Y, .int .i64 v1.Z]) rfl (HS6.cells 0 3 _ rfl)) ?_)
 have hq_ := bind_some h; clear h; obtain ⟨vt10, hc11, h⟩ := hq_
 refine seqK rfl (does_call (f := 79) (args := #[.agg #[.int .i64 v1.X, .int .i64 v1.Y, .int .i64 v1.Z]]) kr (tile_parts.calls k v1 HS6 vt10 hc11) ?_)
 rintro _ W14 ⟨f12, rfl, L13, HS15⟩
 refine ⟨_, rfl, ?_⟩
 refine seqK rfl (does_alloc (z := Value.agg #[.int .i64 0, .int .i64 0, .int .i64 0]) (cs := #[.int .i64 0, .int .i64 0, .int .i64 0]) rfl kr rfl HS15 ?_)
 intro b16 W17 HS18
 refine seqK rfl (does_storeA (vs := [.int .i64 (vt10.getD 0 default), .int .i64 (vt10.getD 1 default), .int .i64 (vt10.getD 2 default)]) rfl kr kr kr rfl (ones rfl) HS18 kr ?_)
 intro W20 HS21
 refine nl (hK9 _ _ ?_)
 refine wp_seq_k fun K22 hK23 => rl ?_
 refine seqL1 kr ?_
 refine nl (hK23 _ _ ?_)
 refine wp_seq_k (fun K24 hK25 => ?_)
 refine wp_seq_k fun K26 hK27 => rl ?_
 refine seqL1 kr ?_
 refine nl (hK27 _ _ ?_)
 refine blockK (fun B28 hx29 hn30 hr31 ho32 hp33 => ?_)
 have hq_ := bind_some h; clear h; obtain ⟨o34, hv77, h⟩ := hq_
 have J78 : ∀ (f71 : FM) (vk76 : Int) (j75 : Nat → Value) (W73 : World) (a_ : Act), FM.le f12 f71 → some (vk76) = some o34 → St t W73 f71 ([(b16, .cells #[.int .i64 (vt10.getD 0 default), .int .i64 (vt10.getD 1 default), .int .i64 (vt10.getD 2 default)] 151 (0, 0))] :: [(b4, .cells #[.int .i64 v1.X, .int .i64 v1.Y, .int .i64 v1.Z] 39 (0, 0))] :: H) → a_ = ⟨#[(ag_Vec v1), pV b4 0, iV 0, pV b16 0, iV vk76, (j75 0), (ag_Vec v1), .agg #[iV (vt10.getD 0 default), iV (vt10.getD 1 default), iV (vt10.getD 2 default)], (j75 1), (j75 2), (j75 3), (j75 4), (j75 5), (j75 6), (j75 7), (j75 8), (j75 9), (j75 10), (j75 11), (j75 12), (j75 13), (j75 14), (j75 15), (j75 16), (j75 17), (j75 18), (j75 19), (j75 20), (j75 21), (j75 22), uV, uV, uV, uV, uV, uV, uV, uV, uV], []⟩ → K24 a_ W73 := by
  intro f71 vk76 j75 W73 a_ L72 hj79 HS74  hfr_; subst hfr_
  injection hj79 with hj79; subst hj79; try dsimp only at h
  refine hK25 _ _ ?_
  refine wp_seq_k (fun K80 hK81 => ?_)
  refine wp_seq_k fun K82 hK83 => rl ?_
  have hq_ := guard_some h; clear h; obtain ⟨c84, h⟩ := hq_
  have c84 : 0 ≤ vk76 := c84
  have hq_ := guard_some h; clear h; obtain ⟨c85, h⟩ := hq_
  have c85 : vk76 < 3 := c85
  refine seqL1 kr ?_
  refine seqK rfl (does_run (run_indexA (sz := 1) rfl Tryz.underlying151 kr (kv (.pointer (some ⟨b16, 0, none⟩))) (kv (.int .i64 vk76)) c84 c85 W73) ?_)
  refine seqK rfl (does_run (run_load rfl Tryz.underlying2 rfl (kv (.pointer (some ⟨b16, 0 + (vk76 : Int).toNat * 1, none⟩))) (arr_cell ([(vt10.getD 0 default), (vt10.getD 1 default), (vt10.getD 2 default)] : List Int) (HS74.cells 0 3 _ rfl) rfl c84 c85)) ?_)
  refine seqL1 kr ?_
  refine nl (hK83 _ _ ?_)
  have hq_ := ite_some h; clear h; rcases hq_ with ⟨c87, h⟩ | ⟨c87, h⟩
  · have c87 : (rd ([(vt10.getD 0 default), (vt10.getD 1 default), (vt10.getD 2 default)] : List Int) vk76) < 0 := c87
    refine wpRwI 33 kr (decide_eq_true c87) ?_
    refine condT kr ?_
    refine wp_seq_k fun K88 hK89 => rl ?_
    refine seqL4 kr ?_
    refine nl (hK89 _ _ ?_)
    refine wp_ret ?_
    refine hret _ _ ?_
    refine ends_still (v := Value.int .i64 (w64 ((w64 (2 * vk76)) + 1))) kr kr ?_
    have HS92 := HS74.drop
    have HS93 := HS92.drop
    injection h with h
    subst h
    exact ⟨f71, rfl, (L13.trans L72), HS93⟩
  · have c87 : ¬ ((rd ([(vt10.getD 0 default), (vt10.getD 1 default), (vt10.getD 2 default)] : List Int) vk76) < 0) := c87
    refine wpRwI 33 kr (decide_eq_false c87) ?_
    refine condF kr ?_
    refine wp_skip ?_
    refine hK81 _ _ ?_
    refine wp_seq_k fun K90 hK91 => rl ?_
    refine seqL3 kr ?_
    refine nl (hK91 _ _ ?_)
    refine wp_ret ?_
    refine hret _ _ ?_
    refine ends_still (v := Value.int .i64 (w64 (2 * vk76))) kr kr ?_
    have HS94 := HS74.drop
    have HS95 := HS94.drop
    injection h with h
    subst h
    exact ⟨f71, rfl, (L13.trans L72), HS95⟩
 clear h; have h := hv77; clear hv77
 refine loopK (fun n_ a_ w_ => ∃ (f38 : FM) (vk43 : Int) (x44 : Int) (j42 : Nat → Value), FM.le f12 f38 ∧ St t w_ f38 ([(b16, .cells #[.int .i64 (vt10.getD 0 default), .int .i64 (vt10.getD 1 default), .int .i64 (vt10.getD 2 default)] 151 (0, 0))] :: [(b4, .cells #[.int .i64 v1.X, .int .i64 v1.Y, .int .i64 v1.Z] 39 (0, 0))] :: H) ∧ tile_faceOf.l0 k vt10 n_ vk43 x44 = some o34 ∧ a_ = ⟨#[(ag_Vec v1), pV b4 0, iV 0, pV b16 0, iV vk43, (j42 0), (ag_Vec v1), .agg #[iV (vt10.getD 0 default), iV (vt10.getD 1 default), iV (vt10.getD 2 default)], iV x44, (j42 1), (j42 2), (j42 3), (j42 4), (j42 5), (j42 6), (j42 7), (j42 8), (j42 9), (j42 10), (j42 11), (j42 12), (j42 13), (j42 14), (j42 15), (j42 16), (j42 17), (j42 18), (j42 19), (j42 20), (j42 21), uV, uV, uV, uV, uV, uV, uV, uV, uV], []⟩) k ⟨f12, 0, 0, (jL []), fL, HS21, h, kr⟩ ?_
 clear h
 rintro n37 _ W40 ⟨f38, vk43, x44, j42, L39, HS41, h, rfl⟩ K35 hK36
 obtain _ | n37 := n37
 · exact nomatch h
 simp only [tile_faceOf.l0] at h
 refine wp_seq_k fun K45 hK46 => rl ?_
 refine seqL1 kr ?_
 refine nl (hK46 _ _ ?_)
 refine wp_seq_k (fun K47 hK48 => ?_)
 have hq_ := ite_some h; clear h; rcases hq_ with ⟨c50, h⟩ | ⟨c50, h⟩
 · have c50 : x44 < 3 := c50
   refine wpRwI 9 kr (decide_eq_true c50) ?_
   refine condT kr ?_
   refine wp_skip ?_
   refine hK48 _ _ ?_
   refine wp_seq_k (fun K51 hK52 => ?_)
   refine blockK (fun B53 hx54 hn55 hr56 ho57 hp58 => ?_)
   refine wp_seq_k fun K60 hK61 => rl ?_
   refine seqL2 kr ?_
   refine nl (hK61 _ _ ?_)
   refine wp_seq_k (fun K62 hK63 => ?_)
   refine heldG (S := Sg t f38 ([(b16, .cells #[.int .i64 (vt10.getD 0 default), .int .i64 (vt10.getD 1 default), .int .i64 (vt10.getD 2 default)] 151 (0, 0))] :: [(b4, .cells #[.int .i64 v1.X, .int .i64 v1.Y, .int .i64 v1.Z] 39 (0, 0))] :: H) []) (n := 17) kr rfl HS41 ?_
   intro W64 HS65
   have hq_ := guard_some h; clear h; obtain ⟨c66, h⟩ := hq_
   have c66 : 0 ≤ x44 := c66
   refine takeGL [0] (n := 17) (fuel := 16) #[true, false, false, false, false, false, false, false, false, false, false, false, false, false, false, false, false] rfl kr kr kr (fun ch_ a_ w_ q_ => (fun ch_ a_ w_ q_ => hnp ch_ a_ w_ (hp33 ch_ a_ w_ q_)) ch_ a_ w_ (hp58 ch_ a_ w_ q_)) (Sg.g0 (Sx.of [] fL HS65)) ?_
   refine takeGQ 1 [] rfl kr kr kr kr kr kr (fun ch_ a_ w_ q_ => (fun ch_ a_ w_ q_ => hnp ch_ a_ w_ (hp33 ch_ a_ w_ q_)) ch_ a_ w_ (hp58 ch_ a_ w_ q_)) (Sg.g0 (Sx.of [] fL HS65)) (fun w_ hw_ => by obtain ⟨g_, hl_, hS_⟩ := hw_.st; exact run_indexA (sz := 1) rfl Tryz.underlying151 kr (kv (.pointer (some ⟨b16, 0, none⟩))) (kv (.int .i64 x44)) c66 c50 w_) ?_
   refine takeGQ 2 [] rfl kr kr kr kr kr kr (fun ch_ a_ w_ q_ => (fun ch_ a_ w_ q_ => hnp ch_ a_ w_ (hp33 ch_ a_ w_ q_)) ch_ a_ w_ (hp58 ch_ a_ w_ q_)) (Sg.g0 (Sx.of [] fL HS65)) (fun w_ hw_ => by obtain ⟨g_, hl_, hS_⟩ := hw_.st; exact run_load rfl Tryz.underlying2 rfl (kv (.pointer (some ⟨b16, 0 + (x44 : Int).toNat * 1, none⟩))) (arr_cell ([(vt10.getD 0 default), (vt10.getD 1 default), (vt10.getD 2 default)] : List Int) (hS_.cells 0 3 _ rfl) rfl c66 c50)) ?_
   refine takeGL [3] (n := 14) (fuel := 13) #[true, true, true, true, false, false, false, false, false, false, false, false, false, false, false, false, false] rfl kr kr kr (fun ch_ a_ w_ q_ => (fun ch_ a_ w_ q_ => hnp ch_ a_ w_ (hp33 ch_ a_ w_ q_)) ch_ a_ w_ (hp58 ch_ a_ w_ q_)) (Sg.g0 (Sx.of [] fL HS65)) ?_
   refine takeGQ 4 [] rfl kr kr kr kr kr kr (fun ch_ a_ w_ q_ => (fun ch_ a_ w_ q_ => hnp ch_ a_ w_ (hp33 ch_ a_ w_ q_)) ch_ a_ w_ (hp58 ch_ a_ w_ q_)) (Sg.g0 (Sx.of [] fL HS65)) (fun w_ hw_ => by obtain ⟨g_, hl_, hS_⟩ := hw_.st; exact run_indexA (sz := 1) rfl Tryz.underlying151 kr (kv (.pointer (some ⟨b16, 0, none⟩))) (kv (.int .i64 x44)) c66 c50 w_) ?_
   refine takeGQ 5 [] rfl kr kr kr kr kr kr (fun ch_ a_ w_ q_ => (fun ch_ a_ w_ q_ => hnp ch_ a_ w_ (hp33 ch_ a_ w_ q_)) ch_ a_ w_ (hp58 ch_ a_ w_ q_)) (Sg.g0 (Sx.of [] fL HS65)) (fun w_ hw_ => by obtain ⟨g_, hl_, hS_⟩ := hw_.st; exact run_load rfl Tryz.underlying2 rfl (kv (.pointer (some ⟨b16, 0 + (x44 : Int).toNat * 1, none⟩))) (arr_cell ([(vt10.getD 0 default), (vt10.getD 1 default), (vt10.getD 2 default)] : List Int) (hS_.cells 0 3 _ rfl) rfl c66 c50)) ?_
   have hq_ := guard_some h; clear h; obtain ⟨c67, h⟩ := hq_
   have c67 : 0 ≤ vk43 := c67
   have hq_ := guard_some h; clear h; obtain ⟨c68, h⟩ := hq_
   have c68 : vk43 < 3 := c68
   refine takeGL [6, 7, 8] (n := 11) (fuel := 8) #[true, true, true, true, true, true, true, true, true, false, false, false, false, false, false, false, false] rfl kr kr kr (fun ch_ a_ w_ q_ => (fun ch_ a_ w_ q_ => hnp ch_ a_ w_ (hp33 ch_ a_ w_ q_)) ch_ a_ w_ (hp58 ch_ a_ w_ q_)) (Sg.g0 (Sx.of [] fL HS65)) ?_
   refine takeGQ 9 [] rfl kr kr kr kr kr kr (fun ch_ a_ w_ q_ => (fun ch_ a_ w_ q_ => hnp ch_ a_ w_ (hp33 ch_ a_ w_ q_)) ch_ a_ w_ (hp58 ch_ a_ w_ q_)) (Sg.g0 (Sx.of [] fL HS65)) (fun w_ hw_ => by obtain ⟨g_, hl_, hS_⟩ := hw_.st; exact run_indexA (sz := 1) rfl Tryz.underlying151 kr (kv (.pointer (some ⟨b16, 0, none⟩))) (kv (.int .i64 vk43)) c67 c68 w_) ?_
   refine takeGQ 10 [] rfl kr kr kr kr kr kr (fun ch_ a_ w_ q_ => (fun ch_ a_ w_ q_ => hnp ch_ a_ w_ (hp33 ch_ a_ w_ q_)) ch_ a_ w_ (hp58 ch_ a_ w_ q_)) (Sg.g0 (Sx.of [] fL HS65)) (fun w_ hw_ => by obtain ⟨g_, hl_, hS_⟩ := hw_.st; exact run_load rfl Tryz.underlying2 rfl (kv (.pointer (some ⟨b16, 0 + (vk43 : Int).toNat * 1, none⟩))) (arr_cell ([(vt10.getD 0 default), (vt10.getD 1 default), (vt10.getD 2 default)] : List Int) (hS_.cells 0 3 _ rfl) rfl c67 c68)) ?_
   refine takeGL [11] (n := 6) (fuel := 5) #[true, true, true, true, true, true, true, true, true, true, true, true, false, false, false, false, false] rfl kr kr kr (fun ch_ a_ w_ q_ => (fun ch_ a_ w_ q_ => hnp ch_ a_ w_ (hp33 ch_ a_ w_ q_)) ch_ a_ w_ (hp58 ch_ a_ w_ q_)) (Sg.g0 (Sx.of [] fL HS65)) ?_
   refine takeGQ 12 [] rfl kr kr kr kr kr kr (fun ch_ a_ w_ q_ => (fun ch_ a_ w_ q_ => hnp ch_ a_ w_ (hp33 ch_ a_ w_ q_)) ch_ a_ w_ (hp58 ch_ a_ w_ q_)) (Sg.g0 (Sx.of [] fL HS65)) (fun w_ hw_ => by obtain ⟨g_, hl_, hS_⟩ := hw_.st; exact run_indexA (sz := 1) rfl Tryz.underlying151 kr (kv (.pointer (some ⟨b16, 0, none⟩))) (kv (.int .i64 vk43)) c67 c68 w_) ?_
   refine takeGQ 13 [] rfl kr kr kr kr kr kr (fun ch_ a_ w_ q_ => (fun ch_ a_ w_ q_ => hnp ch_ a_ w_ (hp33 ch_ a_ w_ q_)) ch_ a_ w_ (hp58 ch_ a_ w_ q_)) (Sg.g0 (Sx.of [] fL HS65)) (fun w_ hw_ => by obtain ⟨g_, hl_, hS_⟩ := hw_.st; exact run_load rfl Tryz.underlying2 rfl (kv (.pointer (some ⟨b16, 0 + (vk43 : Int).toNat * 1, none⟩))) (arr_cell ([(vt10.getD 0 default), (vt10.getD 1 default), (vt10.getD 2 default)] : List Int) (hS_.cells 0 3 _ rfl) rfl c67 c68)) ?_
   refine takeGL [14, 15, 16] (n := 3) (fuel := 0) #[true, true, true, true, true, true, true, true, true, true, true, true, true, true, true, true, true] rfl kr kr kr (fun ch_ a_ w_ q_ => (fun ch_ a_ w_ q_ => hnp ch_ a_ w_ (hp33 ch_ a_ w_ q_)) ch_ a_ w_ (hp58 ch_ a_ w_ q_)) (Sg.g0 (Sx.of [] fL HS65)) ?_
   refine doneG kr ?_ _
   refine hK63 _ _ ?_
   have hq_ := ite_some h; clear h; rcases hq_ with ⟨c70, h⟩ | ⟨c70, h⟩
   · have c70 : (mx (rd ([(vt10.getD 0 default), (vt10.getD 1 default), (vt10.getD 2 default)] : List Int) x44) (w64 (0 - (rd ([(vt10.getD 0 default), (vt10.getD 1 default), (vt10.getD 2 default)] : List Int) x44)))) > (mx (rd ([(vt10.getD 0 default), (vt10.getD 1 default), (vt10.getD 2 default)] : List Int) vk43) (w64 (0 - (rd ([(vt10.getD 0 default), (vt10.getD 1 default), (vt10.getD 2 default)] : List Int) vk43)))) := c70
     refine wpRwI 27 kr (decide_eq_true c70) ?_
     refine condT kr ?_
     refine rl ?_
     refine seqL2 kr ?_
     refine nl ?_
     refine hn55 _ _ ?_
     refine hK52 _ _ ?_
     refine rl ?_
     refine seqL2 kr ?_
     refine nl ?_
     refine hK36 n37 _ _ (Nat.lt_succ_self _) ?_
     exact ⟨f38, x44, (w64 (x44 + 1)), (jL [iV x44, tV, iV x44, iV x44, .pointer (some ⟨b16, 0 + (x44 : Int).toNat * 1, none⟩), iV (rd ([(vt10.getD 0 default), (vt10.getD 1 default), (vt10.getD 2 default)] : List Int) x44), iV x44, .pointer (some ⟨b16, 0 + (x44 : Int).toNat * 1, none⟩), iV (rd ([(vt10.getD 0 default), (vt10.getD 1 default), (vt10.getD 2 default)] : List Int) x44), iV (w64 (0 - (rd ([(vt10.getD 0 default), (vt10.getD 1 default), (vt10.getD 2 default)] : List Int) x44))), iV (mx (rd ([(vt10.getD 0 default), (vt10.getD 1 default), (vt10.getD 2 default)] : List Int) x44) (w64 (0 - (rd ([(vt10.getD 0 default), (vt10.getD 1 default), (vt10.getD 2 default)] : List Int) x44)))), iV vk43, .pointer (some ⟨b16, 0 + (vk43 : Int).toNat * 1, none⟩), iV (rd ([(vt10.getD 0 default), (vt10.getD 1 default), (vt10.getD 2 default)] : List Int) vk43), iV vk43, .pointer (some ⟨b16, 0 + (vk43 : Int).toNat * 1, none⟩), iV (rd ([(vt10.getD 0 default), (vt10.getD 1 default), (vt10.getD 2 default)] : List Int) vk43), iV (w64 (0 - (rd ([(vt10.getD 0 default), (vt10.getD 1 default), (vt10.getD 2 default)] : List Int) vk43))), iV (mx (rd ([(vt10.getD 0 default), (vt10.getD 1 default), (vt10.getD 2 default)] : List Int) vk43) (w64 (0 - (rd ([(vt10.getD 0 default), (vt10.getD 1 default), (vt10.getD 2 default)] : List Int) vk43)))), tV, iV x44, iV (w64 (x44 + 1))]), L39, HS65, h, kr⟩
   · have c70 : ¬ ((mx (rd ([(vt10.getD 0 default), (vt10.getD 1 default), (vt10.getD 2 default)] : List Int) x44) (w64 (0 - (rd ([(vt10.getD 0 default), (vt10.getD 1 default), (vt10.getD 2 default)] : List Int) x44)))) > (mx (rd ([(vt10.getD 0 default), (vt10.getD 1 default), (vt10.getD 2 default)] : List Int) vk43) (w64 (0 - (rd ([(vt10.getD 0 default), (vt10.getD 1 default), (vt10.getD 2 default)] : List Int) vk43))))) := c70
     refine wpRwI 27 kr (decide_eq_false c70) ?_
     refine condF kr ?_
     refine wp_skip ?_
     refine hn55 _ _ ?_
     refine hK52 _ _ ?_
     refine rl ?_
     refine seqL2 kr ?_
     refine nl ?_
     refine hK36 n37 _ _ (Nat.lt_succ_self _) ?_
     exact ⟨f38, vk43, (w64 (x44 + 1)), (jL [iV x44, tV, iV x44, iV x44, .pointer (some ⟨b16, 0 + (x44 : Int).toNat * 1, none⟩), iV (rd ([(vt10.getD 0 default), (vt10.getD 1 default), (vt10.getD 2 default)] : List Int) x44), iV x44, .pointer (some ⟨b16, 0 + (x44 : Int).toNat * 1, none⟩), iV (rd ([(vt10.getD 0 default), (vt10.getD 1 default), (vt10.getD 2 default)] : List Int) x44), iV (w64 (0 - (rd ([(vt10.getD 0 default), (vt10.getD 1 default), (vt10.getD 2 default)] : List Int) x44))), iV (mx (rd ([(vt10.getD 0 default), (vt10.getD 1 default), (vt10.getD 2 default)] : List Int) x44) (w64 (0 - (rd ([(vt10.getD 0 default), (vt10.getD 1 default), (vt10.getD 2 default)] : List Int) x44)))), iV vk43, .pointer (some ⟨b16, 0 + (vk43 : Int).toNat * 1, none⟩), iV (rd ([(vt10.getD 0 default), (vt10.getD 1 default), (vt10.getD 2 default)] : List Int) vk43), iV vk43, .pointer (some ⟨b16, 0 + (vk43 : Int).toNat * 1, none⟩), iV (rd ([(vt10.getD 0 default), (vt10.getD 1 default), (vt10.getD 2 default)] : List Int) vk43), iV (w64 (0 - (rd ([(vt10.getD 0 default), (vt10.getD 1 default), (vt10.getD 2 default)] : List Int) vk43))), iV (mx (rd ([(vt10.getD 0 default), (vt10.getD 1 default), (vt10.getD 2 default)] : List Int) vk43) (w64 (0 - (rd ([(vt10.getD 0 default), (vt10.getD 1 default), (vt10.getD 2 default)] : List Int) vk43)))), fV, (j42 20), iV (w64 (x44 + 1))]), L39, HS65, h, kr⟩
 · have c50 : ¬ (x44 < 3) := c50
   refine wpRwI 9 kr (decide_eq_false c50) ?_
   refine condF kr ?_
   refine wp_exit ?_
   refine hx29 _ _ ?_
   exact J78 f38 vk43 (jL [(j42 0), iV x44, fV, (j42 2), (j42 3), (j42 4), (j42 5), (j42 6), (j42 7), (j42 8), (j42 9), (j42 10), (j42 11), (j42 12), (j42 13), (j42 14), (j42 15), (j42 16), (j42 17), (j42 18), (j42 19), (j42 20), (j42 21)]) W40 _ L39 h HS41 kr

set_option maxRecDepth 100000 in
set_option maxHeartbeats 4000000 in
theorem tile_axes.calls (k : Nat)  (face1 : Int) {t w : World} {f : FM} {H : List Seg} (HS : St t w f (H)) (rr1 : Int) (rr2 : Int) (rr3 : Int) (h : tile_axes k face1 = some (rr1, rr2, rr3)) :
    Calls Tryz.prog 80 #[.int .i64 face1] w (fun e w' => ∃ (g : FM), e = .returned (Value.tuple #[.int .i64 rr1, .int .i64 rr2, .int .i64 rr3]) ∧ FM.le f g ∧ St t w' g (H)) := by
 unfold tile_axes at h
 refine enter Tryz.func80 rfl (tm := #[iV face1, uV, uV, uV, uV, uV, uV, uV, uV, uV, uV, uV, uV, uV, uV]) kr ?_
 intro B hret hnor hnp
 refine wp_seq_k fun K2 hK3 => rl ?_
 refine seqL3 kr ?_
 refine nl (hK3 _ _ ?_)
 refine wp_seq_k fun K4 hK5 => rl ?_
 refine seqL3 kr ?_
 refine nl (hK5 _ _ ?_)
 refine wp_seq_k fun K6 hK7 => rl ?_
 refine seqL10 kr ?_
 refine nl (hK7 _ _ ?_)
 refine wp_ret ?_
 refine hret _ _ ?_
 refine ends_still (v := Value.tuple #[.int .i64 (w64 (Int.tdiv face1 2)), .int .i64 (Int.tmod (w64 ((w64 (Int.tdiv face1 2)) + 1)) 3), .int .i64 (Int.tmod (w64 ((w64 (Int.tdiv face1 2)) + 2)) 3)]) kr kr ?_
 injection h with h
 injection h with h0_ h
 injection h with h1_ h
 subst h0_ h1_ h
 exact ⟨f, rfl, FM.le.refl _, HS⟩

set_option maxRecDepth 100000 in
set_option maxHeartbeats 4000000 in
theorem tile_Of_1.calls (k : Nat) (b1 : Nat) (b3 : Nat) (v5 : Int) (v6 : Int) (x7 : Int) {t w : World} {f : FM} {H : List Seg} (HS : St t w f ([(b1, .cells #[.int .i64 v5] 2 (0, 0))] :: [(b3, .cells #[.int .i64 v6] 3 (0, 0))] :: H)) (rr1 : Int) (h : tile_Of_1 k v5 v6 x7 = some rr1) :
    Calls Tryz.prog 81 #[.int .i64 x7, .pointer (some ⟨b1, 0, none⟩), .pointer (some ⟨b3, 0, none⟩)] w (fun e w' => ∃ (g : FM), e = .returned (Value.int .i64 rr1) ∧ FM.le f g ∧ St t w' g ([(b1, .cells #[.int .i64 v5] 2 (0, 0))] :: [(b3, .cells #[.int .i64 v6] 3 (0, 0))] :: H)) := by
 unfold tile_Of_1 at h
 refine enter Tryz.func81 rfl (tm := #[iV x7, pV b1 0, pV b3 0, uV, uV, uV, uV, uV, uV, uV, uV, uV, uV, uV, uV, uV, uV]) kr ?_
 intro B hret hnor hnp
 refine wp_seq_k fun K8 hK9 => rl ?_
 refine seqL1 kr ?_
 refine nl (hK9 _ _ ?_)
 refine wp_seq_k (fun K10 hK11 => ?_)
 refine heldG (S := Sg t f ([(b1, .cells #[.int .i64 v5] 2 (0, 0))] :: [(b3, .cells #[.int .i64 v6] 3 (0, 0))] :: H) []) (n := 13) kr rfl HS ?_
 intro W12 HS13
 refine takeGL [0] (n := 13) (fuel := 12) #[true, false, false, false, false, false, false, false, false, false, false, false, false] rfl kr kr kr hnp (Sg.g0 (Sx.of [] fL HS13)) ?_
 refine takeGQ 1 [] rfl kr kr kr kr kr kr hnp (Sg.g0 (Sx.of [] fL HS13)) (fun w_ hw_ => by obtain ⟨g_, hl_, hS_⟩ := hw_.st; exact run_load rfl Tryz.underlying2 rfl (kv (.pointer (some ⟨b1, 0, none⟩))) (hS_.cell 0)) ?_
 refine takeGL [2] (n := 11) (fuel := 10) #[true, true, true, false, false, false, false, false, false, false, false, false, false] rfl kr kr kr hnp (Sg.g0 (Sx.of [] fL HS13)) ?_
 refine takeGQ 3 [] rfl kr kr kr kr kr kr hnp (Sg.g0 (Sx.of [] fL HS13)) (fun w_ hw_ => by obtain ⟨g_, hl_, hS_⟩ := hw_.st; exact run_load rfl Tryz.underlying3 rfl (kv (.pointer (some ⟨b3, 0, none⟩))) (hS_.u1.cell 0)) ?_
 have hq_ := guard_some h; clear h; obtain ⟨c14, h⟩ := hq_
 have c14 : ¬ (v6 < 0) := c14
 refine takeGQ 4 [] rfl kr kr kr kr kr kr hnp (Sg.g0 (Sx.of [] fL HS13)) (fun w_ hw_ => by obtain ⟨g_, hl_, hS_⟩ := hw_.st; exact run_shl rfl (kv (.int .i64 (w64 (x7 + v5)))) (kv (.int .i64 v6)) c14 w_) ?_
 refine takeGQ 5 [] rfl kr kr kr kr kr kr hnp (Sg.g0 (Sx.of [] fL HS13)) (fun w_ hw_ => by obtain ⟨g_, hl_, hS_⟩ := hw_.st; exact run_load rfl Tryz.underlying2 rfl (kv (.pointer (some ⟨b1, 0, none⟩))) (hS_.cell 0)) ?_
 have hq_ := guard_some h; clear h; obtain ⟨c15, h⟩ := hq_
 have c15 : ¬ ((w64 (2 * v5)) = 0) := c15
 refine takeGL [6] (n := 7) (fuel := 6) #[true, true, true, true, true, true, true, false, false, false, false, false, false] rfl kr kr kr hnp (Sg.g0 (Sx.of [] fL HS13)) ?_
 refine takeGQ 7 [] rfl kr kr kr kr kr kr hnp (Sg.g0 (Sx.of [] fL HS13)) (fun w_ hw_ => by obtain ⟨g_, hl_, hS_⟩ := hw_.st; exact run_div rfl (kv (.int .i64 (w64 ((w64 (x7 + v5)) * 2 ^ (min (v6).toNat 64))))) (kv (.int .i64 (w64 (2 * v5)))) c15 w_) ?_
 refine takeGQ 8 [] rfl kr kr kr kr kr kr hnp (Sg.g0 (Sx.of [] fL HS13)) (fun w_ hw_ => by obtain ⟨g_, hl_, hS_⟩ := hw_.st; exact run_load rfl Tryz.underlying3 rfl (kv (.pointer (some ⟨b3, 0, none⟩))) (hS_.u1.cell 0)) ?_
 refine takeGQ 9 [] rfl kr kr kr kr kr kr hnp (Sg.g0 (Sx.of [] fL HS13)) (fun w_ hw_ => by obtain ⟨g_, hl_, hS_⟩ := hw_.st; exact run_shl rfl (kv (.int .i64 1)) (kv (.int .i64 v6)) c14 w_) ?_
 refine takeGL [10, 11, 12] (n := 3) (fuel := 0) #[true, true, true, true, true, true, true, true, true, true, true, true, true] rfl kr kr kr hnp (Sg.g0 (Sx.of [] fL HS13)) ?_
 refine doneG kr ?_ _
 refine hK11 _ _ ?_
 refine wp_ret ?_
 refine hret _ _ ?_
 refine ends_still (v := Value.int .i64 (mn (w64 (Int.tdiv (w64 ((w64 (x7 + v5)) * 2 ^ (min (v6).toNat 64))) (w64 (2 * v5)))) (w64 ((w64 (1 * 2 ^ (min (v6).toNat 64))) - 1)))) kr kr ?_
 injection h with h
 subst h
 exact ⟨f, rfl, FM.le.refl _, HS13⟩

set_option maxRecDepth 100000 in
set_option maxHeartbeats 4000000 in
theorem tile_Of.calls (k : Nat)  (v1 : S_Vec) (level2 : Int) {t w : World} {f : FM} {H : List Seg} (HS : St t w f (H)) (rr1 : Int) (rr2 : Int) (h : tile_Of k v1 level2 = some (rr1, rr2)) :
    Calls Tryz.prog 47 #[.agg #[.int .i64 v1.X, .int .i64 v1.Y, .int .i64 v1.Z], .int .i64 level2] w (fun e w' => ∃ (g : FM), e = .returned (Value.tuple #[.int .i64 rr1, .int .i64 rr2]) ∧ FM.le f g ∧ St t w' g (H)) := by
 unfold tile_Of at h
 refine enter Tryz.func47 rfl (tm := #[(ag_Vec v1), iV level2, uV, uV, uV, uV, uV, uV, uV, uV, uV, uV, uV, uV, uV, uV, uV, uV, uV, uV, uV, uV, uV, uV, uV, uV, uV, uV, uV, uV, uV, uV, uV, uV, uV, uV, uV, uV, uV, uV, uV, uV, uV, uV, uV, uV, uV, uV, uV, uV, uV, uV, uV, uV, uV, uV, uV, uV, uV, uV, uV, uV, uV, uV, uV, uV, uV, uV, uV, uV, uV, uV, uV, uV, uV, uV, uV, uV, uV, uV]) kr ?_
 intro B hret hnor hnp
 refine wp_seq_k fun K3 hK4 => rl ?_
 refine seqK rfl (does_box (cs := #[.int .i64 v1.X, .int .i64 v1.Y, .int .i64 v1.Z]) rfl (kv (.agg #[.int .i64 v1.X, .int .i64 v1.Y, .int .i64 v1.Z])) rfl HS ?_)
 intro b5 W6 HS7
 refine seqK rfl (does_box (cs := #[.int .i64 level2]) rfl (kv (.int .i64 level2)) rfl HS7 ?_)
 intro b9 W10 HS11
 refine seqL2 kr ?_
 refine nl (hK4 _ _ ?_)
 refine wp_seq_k (fun K13 hK14 => ?_)
 refine wp_seq_k fun K15 hK16 => rl ?_
 refine seqK rfl (does_run (run_loadN (n := 3) rfl Tryz.underlying39 rfl kr (kv (.pointer (some ⟨b5, 0, none⟩))) (cs := [.int .i64 v1.X, .int .i64 v1.Y, .int .i64 v1.Z]) rfl (HS11.u1.cells 0 3 _ rfl)) ?_)
 have hq_ := bind_some h; clear h; obtain ⟨vt17, hc18, h⟩ := hq_
 refine seqK rfl (does_call (f := 73) (args := #[.agg #[.int .i64 v1.X, .int .i64 v1.Y, .int .i64 v1.Z]]) kr (sphere_Check.calls k v1 HS11 vt17 hc18) ?_)
 rintro _ W21 ⟨f19, rfl, L20, HS22⟩
 refine ⟨_, rfl, ?_⟩
 refine seqL1 kr ?_
 refine nl (hK16 _ _ ?_)
 refine wp_seq_k fun K23 hK24 => rl ?_
 refine seqL2 kr ?_
 refine nl (hK24 _ _ ?_)
 have hq_ := ite_some h; clear h; rcases hq_ with ⟨c26, h⟩ | ⟨c26, h⟩
 · have c26 : vt17 ≠ 0 := c26
   refine wpRwI 21 kr (bne_iff_ne.mpr c26) ?_
   refine condT kr ?_
   refine wp_seq_k fun K27 hK28 => rl ?_
   refine seqL3 kr ?_
   refine nl (hK28 _ _ ?_)
   refine wp_ret ?_
   refine hret _ _ ?_
   refine ends_still (v := Value.tuple #[.int .i64 0, .int .i64 vt17]) kr kr ?_
   have HS168 := HS22.drop
   have HS169 := HS168.drop
   injection h with h
   injection h with h0_ h
   subst h0_ h
   exact ⟨f19, rfl, L20, HS169⟩
 · have c26 : ¬ (vt17 ≠ 0) := c26
   refine wpRwI 21 (x := (vt17 != 0)) (v := false) kr (bne_eq_false_iff_eq.mpr (Decidable.of_not_not c26)) ?_
   refine condF kr ?_
   refine wp_skip ?_
   refine hK14 _ _ ?_
   refine wp_seq_k (fun K29 hK30 => ?_)
   refine wp_seq_k fun K31 hK32 => rl ?_
   refine seqK rfl (does_run (run_load rfl Tryz.underlying3 rfl (kv (.pointer (some ⟨b9, 0, none⟩))) (HS22.cell 0)) ?_)
   refine seqL2 kr ?_
   have hq_ := ite_some h; clear h; rcases hq_ with ⟨c33, h⟩ | ⟨c33, h⟩
   · have c33 : level2 < 0 := c33
     refine seqRwI 24 kr (decide_eq_true c33) ?_
     refine seqRwI 25 kr (decide_eq_true c33) ?_
     refine seqL3 kr ?_
     refine nl (hK32 _ _ ?_)
     refine condT kr ?_
     refine wp_seq_k fun K34 hK35 => rl ?_
     refine seqL2 kr ?_
     refine nl (hK35 _ _ ?_)
     refine wp_ret ?_
     refine hret _ _ ?_
     refine ends_still (v := Value.tuple #[.int .i64 0, .int .i64 4]) kr kr ?_
     have HS170 := HS22.drop
     have HS171 := HS170.drop
     injection h with h
     injection h with h0_ h
     subst h0_ h
     exact ⟨f19, rfl, L20, HS171⟩
   · have c33 : ¬ (level2 < 0) := c33
     refine seqRwI 24 kr (decide_eq_false c33) ?_
     refine seqRwI 25 kr (decide_eq_false c33) ?_
     refine seqG kr (does_run (run_load rfl Tryz.underlying3 rfl (kv (.pointer (some ⟨b9, 0, none⟩))) (HS22.cell 0)) ?_)
     refine seqL2 kr ?_
     refine nl (hK32 _ _ ?_)
     have hq_ := ite_some h; clear h; rcases hq_ with ⟨c37, h⟩ | ⟨c37, h⟩
     · have c37 : level2 > 12 := c37
       refine wpRwI 27 kr (decide_eq_true c37) ?_
       refine wpRwI 28 kr (decide_eq_true c37) ?_
       refine condT kr ?_
       refine wp_seq_k fun K38 hK39 => rl ?_
       refine seqL2 kr ?_
       refine nl (hK39 _ _ ?_)
       refine wp_ret ?_
       refine hret _ _ ?_
       refine ends_still (v := Value.tuple #[.int .i64 0, .int .i64 4]) kr kr ?_
       have HS172 := HS22.drop
       have HS173 := HS172.drop
       injection h with h
       injection h with h0_ h
       subst h0_ h
       exact ⟨f19, rfl, L20, HS173⟩
     · have c37 : ¬ (level2 > 12) := c37
       refine wpRwI 27 kr (decide_eq_false c37) ?_
       refine wpRwI 28 kr (decide_eq_false c37) ?_
       refine condF kr ?_
       refine wp_skip ?_
       refine hK30 _ _ ?_
       refine wp_seq_k fun K40 hK41 => rl ?_
       refine seqK rfl (does_run (run_loadN (n := 3) rfl Tryz.underlying39 rfl kr (kv (.pointer (some ⟨b5, 0, none⟩))) (cs := [.int .i64 v1.X, .int .i64 v1.Y, .int .i64 v1.Z]) rfl (HS22.u1.cells 0 3 _ rfl)) ?_)
       have hq_ := bind_some h; clear h; obtain ⟨vt42, hc43, h⟩ := hq_
       refine seqK rfl (does_call (f := 78) (args := #[.agg #[.int .i64 v1.X, .int .i64 v1.Y, .int .i64 v1.Z]]) kr (tile_faceOf.calls k v1 HS22 vt42 hc43) ?_)
       rintro _ W46 ⟨f44, rfl, L45, HS47⟩
       refine ⟨_, rfl, ?_⟩
       refine seqL1 kr ?_
       refine nl (hK41 _ _ ?_)
       refine wp_seq_k fun K48 hK49 => rl ?_
       refine seqK rfl (does_run (run_loadN (n := 3) rfl Tryz.underlying39 rfl kr (kv (.pointer (some ⟨b5, 0, none⟩))) (cs := [.int .i64 v1.X, .int .i64 v1.Y, .int .i64 v1.Z]) rfl (HS47.u1.cells 0 3 _ rfl)) ?_)
       have hq_ := bind_some h; clear h; obtain ⟨vt50, hc51, h⟩ := hq_
       refine seqK rfl (does_call (f := 79) (args := #[.agg #[.int .i64 v1.X, .int .i64 v1.Y, .int .i64 v1.Z]]) kr (tile_parts.calls k v1 HS47 vt50 hc51) ?_)
       rintro _ W54 ⟨f52, rfl, L53, HS55⟩
       refine ⟨_, rfl, ?_⟩
       refine seqK rfl (does_alloc (z := Value.agg #[.int .i64 0, .int .i64 0, .int .i64 0]) (cs := #[.int .i64 0, .int .i64 0, .int .i64 0]) rfl kr rfl HS55 ?_)
       intro b56 W57 HS58
       refine seqK rfl (does_storeA (vs := [.int .i64 (vt50.getD 0 default), .int .i64 (vt50.getD 1 default), .int .i64 (vt50.getD 2 default)]) rfl kr kr kr rfl (ones rfl) HS58 kr ?_)
       intro W60 HS61
       refine nl (hK49 _ _ ?_)
       refine wp_seq_k fun K62 hK63 => rl ?_
       have hq_ := bind_some h; clear h; obtain ⟨⟨vt64, vt65, vt66⟩, hc67, h⟩ := hq_
       refine seqL1 kr ?_
       refine seqK rfl (does_call (f := 80) (args := #[.int .i64 vt42]) kr (tile_axes.calls k vt42 HS61 vt64 vt65 vt66 hc67) ?_)
       rintro _ W70 ⟨f68, rfl, L69, HS71⟩
       refine ⟨_, rfl, ?_⟩
       refine seqL7 kr ?_
       refine nl (hK63 _ _ ?_)
       refine wp_seq_k (fun K72 hK73 => ?_)
       refine heldG (S := Sg t f68 ([(b56, .cells #[.int .i64 (vt50.getD 0 default), .int .i64 (vt50.getD 1 default), .int .i64 (vt50.getD 2 default)] 151 (0, 0))] :: [(b9, .cells #[.int .i64 level2] 3 (0, 0))] :: [(b5, .cells #[.int .i64 v1.X, .int .i64 v1.Y, .int .i64 v1.Z] 39 (0, 0))] :: H) []) (n := 10) kr rfl HS71 ?_
       intro W74 HS75
       have hq_ := guard_some h; clear h; obtain ⟨c76, h⟩ := hq_
       have c76 : 0 ≤ vt64 := c76
       have hq_ := guard_some h; clear h; obtain ⟨c77, h⟩ := hq_
       have c77 : vt64 < 3 := c77
       refine takeGL [0] (n := 10) (fuel := 9) #[true, false, false, false, false, false, false, false, false, false] rfl kr kr kr hnp (Sg.g0 (Sx.of [] fL HS75)) ?_
       refine takeGQ 1 [] rfl kr kr kr kr kr kr hnp (Sg.g0 (Sx.of [] fL HS75)) (fun w_ hw_ => by obtain ⟨g_, hl_, hS_⟩ := hw_.st; exact run_indexA (sz := 1) rfl Tryz.underlying151 kr (kv (.pointer (some ⟨b56, 0, none⟩))) (kv (.int .i64 vt64)) c76 c77 w_) ?_
       refine takeGQ 2 [] rfl kr kr kr kr kr kr hnp (Sg.g0 (Sx.of [] fL HS75)) (fun w_ hw_ => by obtain ⟨g_, hl_, hS_⟩ := hw_.st; exact run_load rfl Tryz.underlying2 rfl (kv (.pointer (some ⟨b56, 0 + (vt64 : Int).toNat * 1, none⟩))) (arr_cell ([(vt50.getD 0 default), (vt50.getD 1 default), (vt50.getD 2 default)] : List Int) (hS_.cells 0 3 _ rfl) rfl c76 c77)) ?_
       refine takeGL [3] (n := 7) (fuel := 6) #[true, true, true, true, false, false, false, false, false, false] rfl kr kr kr hnp (Sg.g0 (Sx.of [] fL HS75)) ?_
       refine takeGQ 4 [] rfl kr kr kr kr kr kr hnp (Sg.g0 (Sx.of [] fL HS75)) (fun w_ hw_ => by obtain ⟨g_, hl_, hS_⟩ := hw_.st; exact run_indexA (sz := 1) rfl Tryz.underlying151 kr (kv (.pointer (some ⟨b56, 0, none⟩))) (kv (.int .i64 vt64)) c76 c77 w_) ?_
       refine takeGQ 5 [] rfl kr kr kr kr kr kr hnp (Sg.g0 (Sx.of [] fL HS75)) (fun w_ hw_ => by obtain ⟨g_, hl_, hS_⟩ := hw_.st; exact run_load rfl Tryz.underlying2 rfl (kv (.pointer (some ⟨b56, 0 + (vt64 : Int).toNat * 1, none⟩))) (arr_cell ([(vt50.getD 0 default), (vt50.getD 1 default), (vt50.getD 2 default)] : List Int) (hS_.cells 0 3 _ rfl) rfl c76 c77)) ?_
       refine takeGL [6, 7] (n := 4) (fuel := 2) #[true, true, true, true, true, true, true, true, false, false] rfl kr kr kr hnp (Sg.g0 (Sx.of [] fL HS75)) ?_
       refine takeGE 8 kr rfl kr (does_alloc (z := Value.int .i64 0) (cs := #[.int .i64 0]) rfl kr rfl HS75 ?_)
       intro b78 W79 HS80
       refine ⟨(Sg.g0 (Sx.of [[(b78, .cells #[.int .i64 0] 2 (0, 0))]] fL HS80)), ?_⟩
       refine takeGE 9 kr rfl kr (does_store (n := 1) (vs := [.int .i64 (mx (rd ([(vt50.getD 0 default), (vt50.getD 1 default), (vt50.getD 2 default)] : List Int) vt64) (w64 (0 - (rd ([(vt50.getD 0 default), (vt50.getD 1 default), (vt50.getD 2 default)] : List Int) vt64))))]) (cs' := #[.int .i64 (mx (rd ([(vt50.getD 0 default), (vt50.getD 1 default), (vt50.getD 2 default)] : List Int) vt64) (w64 (0 - (rd ([(vt50.getD 0 default), (vt50.getD 1 default), (vt50.getD 2 default)] : List Int) vt64))))]) rfl kr (kv (.pointer (some ⟨b78, 0, none⟩))) (kv (.int .i64 (mx (rd ([(vt50.getD 0 default), (vt50.getD 1 default), (vt50.getD 2 default)] : List Int) vt64) (w64 (0 - (rd ([(vt50.getD 0 default), (vt50.getD 1 default), (vt50.getD 2 default)] : List Int) vt64)))))) rfl rfl (ones rfl) HS80 (Nat.le_of_ble_eq_true rfl) kr ?_)
       intro W82 HS83
       refine ⟨(Sg.g0 (Sx.of [[(b78, .cells #[.int .i64 (mx (rd ([(vt50.getD 0 default), (vt50.getD 1 default), (vt50.getD 2 default)] : List Int) vt64) (w64 (0 - (rd ([(vt50.getD 0 default), (vt50.getD 1 default), (vt50.getD 2 default)] : List Int) vt64))))] 2 (0, 0))]] fL HS83)), ?_⟩
       refine doneG kr ?_ _
       refine hK73 _ _ ?_
       refine wp_seq_k fun K84 hK85 => rl ?_
       refine seqL2 kr ?_
       refine nl (hK85 _ _ ?_)
       refine wp_seq_k fun K86 hK87 => rl ?_
       refine seqL3 kr ?_
       refine nl (hK87 _ _ ?_)
       refine wp_seq_k (fun K88 hK89 => ?_)
       refine wp_seq_k (fun K90 hK91 => ?_)
       refine heldG (S := Sg t f68 ([(b78, .cells #[.int .i64 (mx (rd ([(vt50.getD 0 default), (vt50.getD 1 default), (vt50.getD 2 default)] : List Int) vt64) (w64 (0 - (rd ([(vt50.getD 0 default), (vt50.getD 1 default), (vt50.getD 2 default)] : List Int) vt64))))] 2 (0, 0))] :: [(b56, .cells #[.int .i64 (vt50.getD 0 default), .int .i64 (vt50.getD 1 default), .int .i64 (vt50.getD 2 default)] 151 (0, 0))] :: [(b9, .cells #[.int .i64 level2] 3 (0, 0))] :: [(b5, .cells #[.int .i64 v1.X, .int .i64 v1.Y, .int .i64 v1.Z] 39 (0, 0))] :: H) []) (n := 15) kr rfl HS83 ?_
       intro W92 HS93
       refine takeGQ 0 [] rfl kr kr kr kr kr kr hnp (Sg.g0 (Sx.of [] fL HS93)) (fun w_ hw_ => by obtain ⟨g_, hl_, hS_⟩ := hw_.st; exact run_load rfl Tryz.underlying3 rfl (kv (.pointer (some ⟨b9, 0, none⟩))) (hS_.u2.cell 0)) ?_
       have hq_ := guard_some h; clear h; obtain ⟨c94, h⟩ := hq_
       have c94 : 0 ≤ vt65 := c94
       have hq_ := guard_some h; clear h; obtain ⟨c95, h⟩ := hq_
       have c95 : vt65 < 3 := c95
       refine takeGL [1, 2, 3] (n := 14) (fuel := 11) #[true, true, true, true, false, false, false, false, false, false, false, false, false, false, false] rfl kr kr kr hnp (Sg.g0 (Sx.of [] fL HS93)) ?_
       refine takeGQ 4 [] rfl kr kr kr kr kr kr hnp (Sg.g0 (Sx.of [] fL HS93)) (fun w_ hw_ => by obtain ⟨g_, hl_, hS_⟩ := hw_.st; exact run_indexA (sz := 1) rfl Tryz.underlying151 kr (kv (.pointer (some ⟨b56, 0, none⟩))) (kv (.int .i64 vt65)) c94 c95 w_) ?_
       refine takeGQ 5 [] rfl kr kr kr kr kr kr hnp (Sg.g0 (Sx.of [] fL HS93)) (fun w_ hw_ => by obtain ⟨g_, hl_, hS_⟩ := hw_.st; exact run_load rfl Tryz.underlying2 rfl (kv (.pointer (some ⟨b56, 0 + (vt65 : Int).toNat * 1, none⟩))) (arr_cell ([(vt50.getD 0 default), (vt50.getD 1 default), (vt50.getD 2 default)] : List Int) (hS_.u1.cells 0 3 _ rfl) rfl c94 c95)) ?_
       have hq_ := guard_some h; clear h; obtain ⟨c96, h⟩ := hq_
       have c96 : 0 ≤ vt66 := c96
       have hq_ := guard_some h; clear h; obtain ⟨c97, h⟩ := hq_
       have c97 : vt66 < 3 := c97
       refine takeGL [7, 8] (n := 9) (fuel := 7) #[true, true, true, true, true, true, false, true, true, false, false, false, false, false, false] rfl kr kr kr hnp (Sg.g0 (Sx.of [] fL HS93)) ?_
       refine takeGQ 9 [] rfl kr kr kr kr kr kr hnp (Sg.g0 (Sx.of [] fL HS93)) (fun w_ hw_ => by obtain ⟨g_, hl_, hS_⟩ := hw_.st; exact run_indexA (sz := 1) rfl Tryz.underlying151 kr (kv (.pointer (some ⟨b56, 0, none⟩))) (kv (.int .i64 vt66)) c96 c97 w_) ?_
       refine takeGQ 10 [] rfl kr kr kr kr kr kr hnp (Sg.g0 (Sx.of [] fL HS93)) (fun w_ hw_ => by obtain ⟨g_, hl_, hS_⟩ := hw_.st; exact run_load rfl Tryz.underlying2 rfl (kv (.pointer (some ⟨b56, 0 + (vt66 : Int).toNat * 1, none⟩))) (arr_cell ([(vt50.getD 0 default), (vt50.getD 1 default), (vt50.getD 2 default)] : List Int) (hS_.u1.cells 0 3 _ rfl) rfl c96 c97)) ?_
       have HS99 := HS93.u2.u1
       have hq_ := bind_some h; clear h; obtain ⟨vt100, hc101, h⟩ := hq_
       refine takeGE 6 kr rfl kr (does_call (f := 81) (args := #[.int .i64 (rd ([(vt50.getD 0 default), (vt50.getD 1 default), (vt50.getD 2 default)] : List Int) vt65), .pointer (some ⟨b78, 0, none⟩), .pointer (some ⟨b9, 0, none⟩)]) kr (tile_Of_1.calls k b78 b9 (mx (rd ([(vt50.getD 0 default), (vt50.getD 1 default), (vt50.getD 2 default)] : List Int) vt64) (w64 (0 - (rd ([(vt50.getD 0 default), (vt50.getD 1 default), (vt50.getD 2 default)] : List Int) vt64)))) level2 (rd ([(vt50.getD 0 default), (vt50.getD 1 default), (vt50.getD 2 default)] : List Int) vt65) HS99 vt100 hc101) ?_)
       rintro _ W104 ⟨f102, rfl, L103, HS105⟩
       refine ⟨_, rfl, ?_⟩
       have HS109 := HS105.u3.u2.u3.u3
       refine ⟨(Sg.g0 (Sx.of [] L103 HS109)), ?_⟩
       have HS111 := HS109.u2.u1
       have hq_ := bind_some h; clear h; obtain ⟨vt112, hc113, h⟩ := hq_
       refine takeGE 11 kr rfl kr (does_call (f := 81) (args := #[.int .i64 (rd ([(vt50.getD 0 default), (vt50.getD 1 default), (vt50.getD 2 default)] : List Int) vt66), .pointer (some ⟨b78, 0, none⟩), .pointer (some ⟨b9, 0, none⟩)]) kr (tile_Of_1.calls k b78 b9 (mx (rd ([(vt50.getD 0 default), (vt50.getD 1 default), (vt50.getD 2 default)] : List Int) vt64) (w64 (0 - (rd ([(vt50.getD 0 default), (vt50.getD 1 default), (vt50.getD 2 default)] : List Int) vt64)))) level2 (rd ([(vt50.getD 0 default), (vt50.getD 1 default), (vt50.getD 2 default)] : List Int) vt66) HS111 vt112 hc113) ?_)
       rintro _ W116 ⟨f114, rfl, L115, HS117⟩
       refine ⟨_, rfl, ?_⟩
       have HS121 := HS117.u3.u2.u3.u3
       refine ⟨(Sg.g0 (Sx.of [] (L103.trans L115) HS121)), ?_⟩
       refine takeGL [12, 13, 14] (n := 3) (fuel := 0) #[true, true, true, true, true, true, true, true, true, true, true, true, true, true, true] rfl kr kr kr hnp (Sg.g0 (Sx.of [] (L103.trans L115) HS121)) ?_
       refine doneG kr ?_ _
       refine hK91 _ _ ?_
       refine blockK (fun B122 hx123 hn124 hr125 ho126 hp127 => ?_)
       have hq_ := bind_some h; clear h; obtain ⟨o128, hv163, h⟩ := hq_
       have J164 : ∀ (f157 : FM) (vt162 : Int) (j161 : Nat → Value) (W159 : World) (a_ : Act), FM.le f114 f157 → some (vt162) = some o128 → St t W159 f157 ([(b78, .cells #[.int .i64 (mx (rd ([(vt50.getD 0 default), (vt50.getD 1 default), (vt50.getD 2 default)] : List Int) vt64) (w64 (0 - (rd ([(vt50.getD 0 default), (vt50.getD 1 default), (vt50.getD 2 default)] : List Int) vt64))))] 2 (0, 0))] :: [(b56, .cells #[.int .i64 (vt50.getD 0 default), .int .i64 (vt50.getD 1 default), .int .i64 (vt50.getD 2 default)] 151 (0, 0))] :: [(b9, .cells #[.int .i64 level2] 3 (0, 0))] :: [(b5, .cells #[.int .i64 v1.X, .int .i64 v1.Y, .int .i64 v1.Z] 39 (0, 0))] :: H) → a_ = ⟨#[(ag_Vec v1), iV level2, pV b5 0, pV b9 0, iV 0, iV 0, iV vt17, iV vt42, pV b56 0, iV vt64, iV vt65, iV vt66, pV b78 0, .func (.func 81) #[] #[pV b78 0, pV b9 0], iV vt162, (j161 0), iV vt100, iV vt112, (ag_Vec v1), iV vt17, iV vt17, fV, uV, iV level2, fV, fV, iV level2, fV, fV, (ag_Vec v1), iV vt42, (ag_Vec v1), .agg #[iV (vt50.getD 0 default), iV (vt50.getD 1 default), iV (vt50.getD 2 default)], .tuple #[iV vt64, iV vt65, iV vt66], iV vt42, .tuple #[iV vt64, iV vt65, iV vt66], iV vt64, iV vt65, iV vt66, iV vt64, pV b56 (0 + (vt64 : Int).toNat * 1), iV (rd ([(vt50.getD 0 default), (vt50.getD 1 default), (vt50.getD 2 default)] : List Int) vt64), iV vt64, pV b56 (0 + (vt64 : Int).toNat * 1), iV (rd ([(vt50.getD 0 default), (vt50.getD 1 default), (vt50.getD 2 default)] : List Int) vt64), iV (w64 (0 - (rd ([(vt50.getD 0 default), (vt50.getD 1 default), (vt50.getD 2 default)] : List Int) vt64))), iV (mx (rd ([(vt50.getD 0 default), (vt50.getD 1 default), (vt50.getD 2 default)] : List Int) vt64) (w64 (0 - (rd ([(vt50.getD 0 default), (vt50.getD 1 default), (vt50.getD 2 default)] : List Int) vt64)))), .func (.func 81) #[] #[pV b78 0, pV b9 0], iV vt42, iV (w64 (8 + vt42)), iV level2, iV (w64 (level2 - 1)), .func (.func 81) #[] #[pV b78 0, pV b9 0], iV vt65, pV b56 (0 + (vt65 : Int).toNat * 1), iV (rd ([(vt50.getD 0 default), (vt50.getD 1 default), (vt50.getD 2 default)] : List Int) vt65), iV vt100, .func (.func 81) #[] #[pV b78 0, pV b9 0], iV vt66, pV b56 (0 + (vt66 : Int).toNat * 1), iV (rd ([(vt50.getD 0 default), (vt50.getD 1 default), (vt50.getD 2 default)] : List Int) vt66), iV vt112, (j161 1), (j161 2), (j161 3), (j161 4), (j161 5), (j161 6), (j161 7), (j161 8), (j161 9), (j161 10), (j161 11), (j161 12), (j161 13), (j161 14), (j161 15), (j161 16), (j161 17), uV], []⟩ → K88 a_ W159 := by
        intro f157 vt162 j161 W159 a_ L158 hj165 HS160  hfr_; subst hfr_
        injection hj165 with hj165; subst hj165; try dsimp only at h
        refine hK89 _ _ ?_
        refine wp_seq_k fun K166 hK167 => rl ?_
        refine seqL3 kr ?_
        refine nl (hK167 _ _ ?_)
        refine wp_ret ?_
        refine hret _ _ ?_
        refine ends_still (v := Value.tuple #[.int .i64 vt162, .int .i64 0]) kr kr ?_
        have HS174 := HS160.drop
        have HS175 := HS174.drop
        have HS176 := HS175.drop
        have HS177 := HS176.drop
        injection h with h
        injection h with h0_ h
        subst h0_ h
        exact ⟨f157, rfl, (L20.trans (L45.trans (L53.trans (L69.trans (L103.trans (L115.trans L158)))))), HS177⟩
       clear h; have h := hv163; clear hv163
       refine loopK (fun n_ a_ w_ => ∃ (f132 : FM) (vt137 : Int) (b138 : Int) (j136 : Nat → Value), FM.le f114 f132 ∧ St t w_ f132 ([(b78, .cells #[.int .i64 (mx (rd ([(vt50.getD 0 default), (vt50.getD 1 default), (vt50.getD 2 default)] : List Int) vt64) (w64 (0 - (rd ([(vt50.getD 0 default), (vt50.getD 1 default), (vt50.getD 2 default)] : List Int) vt64))))] 2 (0, 0))] :: [(b56, .cells #[.int .i64 (vt50.getD 0 default), .int .i64 (vt50.getD 1 default), .int .i64 (vt50.getD 2 default)] 151 (0, 0))] :: [(b9, .cells #[.int .i64 level2] 3 (0, 0))] :: [(b5, .cells #[.int .i64 v1.X, .int .i64 v1.Y, .int .i64 v1.Z] 39 (0, 0))] :: H) ∧ tile_Of.l0 k vt100 vt112 n_ vt137 b138 = some o128 ∧ a_ = ⟨#[(ag_Vec v1), iV level2, pV b5 0, pV b9 0, iV 0, iV 0, iV vt17, iV vt42, pV b56 0, iV vt64, iV vt65, iV vt66, pV b78 0, .func (.func 81) #[] #[pV b78 0, pV b9 0], iV vt137, iV b138, iV vt100, iV vt112, (ag_Vec v1), iV vt17, iV vt17, fV, uV, iV level2, fV, fV, iV level2, fV, fV, (ag_Vec v1), iV vt42, (ag_Vec v1), .agg #[iV (vt50.getD 0 default), iV (vt50.getD 1 default), iV (vt50.getD 2 default)], .tuple #[iV vt64, iV vt65, iV vt66], iV vt42, .tuple #[iV vt64, iV vt65, iV vt66], iV vt64, iV vt65, iV vt66, iV vt64, pV b56 (0 + (vt64 : Int).toNat * 1), iV (rd ([(vt50.getD 0 default), (vt50.getD 1 default), (vt50.getD 2 default)] : List Int) vt64), iV vt64, pV b56 (0 + (vt64 : Int).toNat * 1), iV (rd ([(vt50.getD 0 default), (vt50.getD 1 default), (vt50.getD 2 default)] : List Int) vt64), iV (w64 (0 - (rd ([(vt50.getD 0 default), (vt50.getD 1 default), (vt50.getD 2 default)] : List Int) vt64))), iV (mx (rd ([(vt50.getD 0 default), (vt50.getD 1 default), (vt50.getD 2 default)] : List Int) vt64) (w64 (0 - (rd ([(vt50.getD 0 default), (vt50.getD 1 default), (vt50.getD 2 default)] : List Int) vt64)))), .func (.func 81) #[] #[pV b78 0, pV b9 0], iV vt42, iV (w64 (8 + vt42)), iV level2, iV (w64 (level2 - 1)), .func (.func 81) #[] #[pV b78 0, pV b9 0], iV vt65, pV b56 (0 + (vt65 : Int).toNat * 1), iV (rd ([(vt50.getD 0 default), (vt50.getD 1 default), (vt50.getD 2 default)] : List Int) vt65), iV vt100, .func (.func 81) #[] #[pV b78 0, pV b9 0], iV vt66, pV b56 (0 + (vt66 : Int).toNat * 1), iV (rd ([(vt50.getD 0 default), (vt50.getD 1 default), (vt50.getD 2 default)] : List Int) vt66), iV vt112, (j136 0), (j136 1), (j136 2), (j136 3), (j136 4), (j136 5), (j136 6), (j136 7), (j136 8), (j136 9), (j136 10), (j136 11), (j136 12), (j136 13), (j136 14), (j136 15), (j136 16), uV], []⟩) k ⟨f114, (w64 (8 + vt42)), (w64 (level2 - 1)), (jL []), fL, HS121, h, kr⟩ ?_
       clear h
       rintro n131 _ W134 ⟨f132, vt137, b138, j136, L133, HS135, h, rfl⟩ K129 hK130
       obtain _ | n131 := n131
       · exact nomatch h
       simp only [tile_Of.l0] at h
       refine wp_seq_k (fun K139 hK140 => ?_)
       refine wp_seq_k fun K141 hK142 => rl ?_
       refine seqL2 kr ?_
       refine nl (hK142 _ _ ?_)
       have hq_ := ite_some h; clear h; rcases hq_ with ⟨c144, h⟩ | ⟨c144, h⟩
       · have c144 : b138 ≥ 0 := c144
         refine wpRwI 63 kr (decide_eq_true c144) ?_
         refine condT kr ?_
         refine wp_skip ?_
         refine hK140 _ _ ?_
         refine wp_seq_k (fun K145 hK146 => ?_)
         refine blockK (fun B147 hx148 hn149 hr150 ho151 hp152 => ?_)
         refine heldG (S := Sg t f132 ([(b78, .cells #[.int .i64 (mx (rd ([(vt50.getD 0 default), (vt50.getD 1 default), (vt50.getD 2 default)] : List Int) vt64) (w64 (0 - (rd ([(vt50.getD 0 default), (vt50.getD 1 default), (vt50.getD 2 default)] : List Int) vt64))))] 2 (0, 0))] :: [(b56, .cells #[.int .i64 (vt50.getD 0 default), .int .i64 (vt50.getD 1 default), .int .i64 (vt50.getD 2 default)] 151 (0, 0))] :: [(b9, .cells #[.int .i64 level2] 3 (0, 0))] :: [(b5, .cells #[.int .i64 v1.X, .int .i64 v1.Y, .int .i64 v1.Z] 39 (0, 0))] :: H) []) (n := 14) kr rfl HS135 ?_
         intro W154 HS155
         have hq_ := guard_some h; clear h; obtain ⟨c156, h⟩ := hq_
         have c156 : ¬ (b138 < 0) := c156
         refine takeGL [0, 1, 2, 3] (n := 14) (fuel := 10) #[true, true, true, true, false, false, false, false, false, false, false, false, false, false] rfl kr kr kr (fun ch_ a_ w_ q_ => (fun ch_ a_ w_ q_ => hnp ch_ a_ w_ (hp127 ch_ a_ w_ q_)) ch_ a_ w_ (hp152 ch_ a_ w_ q_)) (Sg.g0 (Sx.of [] fL HS155)) ?_
         refine takeGQ 4 [] rfl kr kr kr kr kr kr (fun ch_ a_ w_ q_ => (fun ch_ a_ w_ q_ => hnp ch_ a_ w_ (hp127 ch_ a_ w_ q_)) ch_ a_ w_ (hp152 ch_ a_ w_ q_)) (Sg.g0 (Sx.of [] fL HS155)) (fun w_ hw_ => by obtain ⟨g_, hl_, hS_⟩ := hw_.st; exact run_shr rfl (kv (.int .i64 vt100)) (kv (.int .i64 b138)) c156 w_) ?_
         refine takeGL [5, 6, 7] (n := 9) (fuel := 6) #[true, true, true, true, true, true, true, true, false, false, false, false, false, false] rfl kr kr kr (fun ch_ a_ w_ q_ => (fun ch_ a_ w_ q_ => hnp ch_ a_ w_ (hp127 ch_ a_ w_ q_)) ch_ a_ w_ (hp152 ch_ a_ w_ q_)) (Sg.g0 (Sx.of [] fL HS155)) ?_
         refine takeGQ 8 [] rfl kr kr kr kr kr kr (fun ch_ a_ w_ q_ => (fun ch_ a_ w_ q_ => hnp ch_ a_ w_ (hp127 ch_ a_ w_ q_)) ch_ a_ w_ (hp152 ch_ a_ w_ q_)) (Sg.g0 (Sx.of [] fL HS155)) (fun w_ hw_ => by obtain ⟨g_, hl_, hS_⟩ := hw_.st; exact run_shr rfl (kv (.int .i64 vt112)) (kv (.int .i64 b138)) c156 w_) ?_
         refine takeGL [9, 10, 11, 12, 13] (n := 5) (fuel := 0) #[true, true, true, true, true, true, true, true, true, true, true, true, true, true] rfl kr kr kr (fun ch_ a_ w_ q_ => (fun ch_ a_ w_ q_ => hnp ch_ a_ w_ (hp127 ch_ a_ w_ q_)) ch_ a_ w_ (hp152 ch_ a_ w_ q_)) (Sg.g0 (Sx.of [] fL HS155)) ?_
         refine doneG kr ?_ _
         refine hn149 _ _ ?_
         refine hK146 _ _ ?_
         refine rl ?_
         refine seqL3 kr ?_
         refine nl ?_
         refine hK130 n131 _ _ (Nat.lt_succ_self _) ?_
         exact ⟨f132, (w64 ((w64 (4 * vt137)) + (w64 ((Go.bits .and .i64 (shr vt100 (min (b138).toNat 64)) 1) + (w64 (2 * (Go.bits .and .i64 (shr vt112 (min (b138).toNat 64)) 1))))))), (w64 (b138 - 1)), (jL [iV b138, tV, iV b138, iV (w64 (b138 - 1)), iV vt137, iV (w64 (4 * vt137)), iV vt100, iV b138, iV (shr vt100 (min (b138).toNat 64)), iV (Go.bits .and .i64 (shr vt100 (min (b138).toNat 64)) 1), iV vt112, iV b138, iV (shr vt112 (min (b138).toNat 64)), iV (Go.bits .and .i64 (shr vt112 (min (b138).toNat 64)) 1), iV (w64 (2 * (Go.bits .and .i64 (shr vt112 (min (b138).toNat 64)) 1))), iV (w64 ((Go.bits .and .i64 (shr vt100 (min (b138).toNat 64)) 1) + (w64 (2 * (Go.bits .and .i64 (shr vt112 (min (b138).toNat 64)) 1))))), iV (w64 ((w64 (4 * vt137)) + (w64 ((Go.bits .and .i64 (shr vt100 (min (b138).toNat 64)) 1) + (w64 (2 * (Go.bits .and .i64 (shr vt112 (min (b138).toNat 64)) 1)))))))]), L133, HS155, h, kr⟩
       · have c144 : ¬ (b138 ≥ 0) := c144
         refine wpRwI 63 kr (decide_eq_false c144) ?_
         refine condF kr ?_
         refine wp_exit ?_
         refine hx123 _ _ ?_
         exact J164 f132 vt137 (jL [iV b138, iV b138, fV, (j136 2), (j136 3), (j136 4), (j136 5), (j136 6), (j136 7), (j136 8), (j136 9), (j136 10), (j136 11), (j136 12), (j136 13), (j136 14), (j136 15), (j136 16)]) W134 _ L133 h HS135 kr

set_option maxRecDepth 100000 in
set_option maxHeartbeats 4000000 in
theorem query_hull_Coord.calls (k : Nat)  (a1 : S_Bound) (b2 : S_Bound) {t w : World} {f : FM} {H : List Seg} (HS : St t w f (H)) (rr1 : S_Bound) (h : query_hull_Coord k a1 b2 = some rr1) :
    Calls Tryz.prog 82 #[.agg #[.int .i64 a1.Lo, .int .i64 a1.Hi, .bool a1.Unknown], .agg #[.int .i64 b2.Lo, .int .i64 b2.Hi, .bool b2.Unknown]] w (fun e w' => ∃ (g : FM), e = .returned (Value.agg #[.int .i64 rr1.Lo, .int .i64 rr1.Hi, .bool rr1.Unknown]) ∧ FM.le f g ∧ St t w' g (H)) := by
 unfold query_hull_Coord at h
 refine enter Tryz.func82 rfl (tm := #[(ag_Bound a1), (ag_Bound b2), uV, uV, uV, uV, uV, uV, uV, uV, uV, uV, uV, uV, uV, uV]) kr ?_
 intro B hret hnor hnp
 refine wp_seq_k fun K3 hK4 => rl ?_
 refine seqK rfl (does_box (cs := #[.int .i64 a1.Lo, .int .i64 a1.Hi, .bool a1.Unknown]) rfl (kv (.agg #[.int .i64 a1.Lo, .int .i64 a1.Hi, .bool a1.Unknown])) rfl HS ?_)
 intro b5 W6 HS7
 refine seqK rfl (does_box (cs := #[.int .i64 b2.Lo, .int .i64 b2.Hi, .bool b2.Unknown]) rfl (kv (.agg #[.int .i64 b2.Lo, .int .i64 b2.Hi, .bool b2.Unknown])) rfl HS7 ?_)
 intro b9 W10 HS11
 refine seqK rfl (does_alloc (z := Value.agg #[.int .i64 0, .int .i64 0, .bool false]) (cs := #[.int .i64 0, .int .i64 0, .bool false]) rfl kr rfl HS11 ?_)
 intro b13 W14 HS15
 refine nl (hK4 _ _ ?_)
 refine wp_seq_k fun K17 hK18 => rl ?_
 refine seqL1 kr ?_
 refine seqK rfl (does_run (run_load rfl Tryz.underlying27 rfl (kv (.pointer (some ⟨b5, 0, none⟩))) (HS15.u2.cell 0)) ?_)
 refine seqL1 kr ?_
 refine seqK rfl (does_run (run_load rfl Tryz.underlying27 rfl (kv (.pointer (some ⟨b9, 0, none⟩))) (HS15.u1.cell 0)) ?_)
 refine seqL2 kr ?_
 refine seqK rfl (does_run (run_load rfl Tryz.underlying27 rfl (kv (.pointer (some ⟨b5, 1, none⟩))) (HS15.u2.cell 1)) ?_)
 refine seqL1 kr ?_
 refine seqK rfl (does_run (run_load rfl Tryz.underlying27 rfl (kv (.pointer (some ⟨b9, 1, none⟩))) (HS15.u1.cell 1)) ?_)
 refine seqL2 kr ?_
 refine seqK rfl (does_storeA (vs := [.int .i64 (mn a1.Lo b2.Lo), .int .i64 (mx a1.Hi b2.Hi), .bool false]) rfl kr kr kr rfl (ones rfl) HS15 kr ?_)
 intro W19 HS20
 refine nl (hK18 _ _ ?_)
 refine wp_ret ?_
 refine hret _ _ ?_
 refine ends (v := Value.agg #[.int .i64 (mn a1.Lo b2.Lo), .int .i64 (mx a1.Hi b2.Hi), .bool false]) (results1 (q1 := .cell 4 29) kr (resN (n := 3) (cs := [.int .i64 (mn a1.Lo b2.Lo), .int .i64 (mx a1.Hi b2.Hi), .bool false]) (kv (.pointer (some ⟨b13, 0, none⟩))) Tryz.underlying29 rfl kr rfl (HS20.cells 0 3 _ rfl))) kr ?_
 have HS21 := HS20.drop
 have HS22 := HS21.drop
 have HS23 := HS22.drop
 injection h with h
 subst h
 exact ⟨f, rfl, FM.le.refl _, HS23⟩

set_option maxRecDepth 100000 in
set_option maxHeartbeats 4000000 in
theorem query_hull_Tick.calls (k : Nat)  (a1 : S_Bound) (b2 : S_Bound) {t w : World} {f : FM} {H : List Seg} (HS : St t w f (H)) (rr1 : S_Bound) (h : query_hull_Tick k a1 b2 = some rr1) :
    Calls Tryz.prog 83 #[.agg #[.int .i64 a1.Lo, .int .i64 a1.Hi, .bool a1.Unknown], .agg #[.int .i64 b2.Lo, .int .i64 b2.Hi, .bool b2.Unknown]] w (fun e w' => ∃ (g : FM), e = .returned (Value.agg #[.int .i64 rr1.Lo, .int .i64 rr1.Hi, .bool rr1.Unknown]) ∧ FM.le f g ∧ St t w' g (H)) := by
 unfold query_hull_Tick at h
 refine enter Tryz.func83 rfl (tm := #[(ag_Bound a1), (ag_Bound b2), uV, uV, uV, uV, uV, uV, uV, uV, uV, uV, uV, uV, uV, uV]) kr ?_
 intro B hret hnor hnp
 refine wp_seq_k fun K3 hK4 => rl ?_
 refine seqK rfl (does_box (cs := #[.int .i64 a1.Lo, .int .i64 a1.Hi, .bool a1.Unknown]) rfl (kv (.agg #[.int .i64 a1.Lo, .int .i64 a1.Hi, .bool a1.Unknown])) rfl HS ?_)
 intro b5 W6 HS7
 refine seqK rfl (does_box (cs := #[.int .i64 b2.Lo, .int .i64 b2.Hi, .bool b2.Unknown]) rfl (kv (.agg #[.int .i64 b2.Lo, .int .i64 b2.Hi, .bool b2.Unknown])) rfl HS7 ?_)
 intro b9 W10 HS11
 refine seqK rfl (does_alloc (z := Value.agg #[.int .i64 0, .int .i64 0, .bool false]) (cs := #[.int .i64 0, .int .i64 0, .bool false]) rfl kr rfl HS11 ?_)
 intro b13 W14 HS15
 refine nl (hK4 _ _ ?_)
 refine wp_seq_k fun K17 hK18 => rl ?_
 refine seqL1 kr ?_
 refine seqK rfl (does_run (run_load rfl Tryz.underlying48 rfl (kv (.pointer (some ⟨b5, 0, none⟩))) (HS15.u2.cell 0)) ?_)
 refine seqL1 kr ?_
 refine seqK rfl (does_run (run_load rfl Tryz.underlying48 rfl (kv (.pointer (some ⟨b9, 0, none⟩))) (HS15.u1.cell 0)) ?_)
 refine seqL2 kr ?_
 refine seqK rfl (does_run (run_load rfl Tryz.underlying48 rfl (kv (.pointer (some ⟨b5, 1, none⟩))) (HS15.u2.cell 1)) ?_)
 refine seqL1 kr ?_
 refine seqK rfl (does_run (run_load rfl Tryz.underlying48 rfl (kv (.pointer (some ⟨b9, 1, none⟩))) (HS15.u1.cell 1)) ?_)
 refine seqL2 kr ?_
 refine seqK rfl (does_storeA (vs := [.int .i64 (mn a1.Lo b2.Lo), .int .i64 (mx a1.Hi b2.Hi), .bool false]) rfl kr kr kr rfl (ones rfl) HS15 kr ?_)
 intro W19 HS20
 refine nl (hK18 _ _ ?_)
 refine wp_ret ?_
 refine hret _ _ ?_
 refine ends (v := Value.agg #[.int .i64 (mn a1.Lo b2.Lo), .int .i64 (mx a1.Hi b2.Hi), .bool false]) (results1 (q1 := .cell 4 97) kr (resN (n := 3) (cs := [.int .i64 (mn a1.Lo b2.Lo), .int .i64 (mx a1.Hi b2.Hi), .bool false]) (kv (.pointer (some ⟨b13, 0, none⟩))) Tryz.underlying97 rfl kr rfl (HS20.cells 0 3 _ rfl))) kr ?_
 have HS21 := HS20.drop
 have HS22 := HS21.drop
 have HS23 := HS22.drop
 injection h with h
 subst h
 exact ⟨f, rfl, FM.le.refl _, HS23⟩

set_option maxRecDepth 100000 in
set_option maxHeartbeats 4000000 in
theorem query_node_join.calls (k : Nat) (b1 : Nat) (A4 : Option Addr) (c5 : Nat) (s6 : Seg) (A9 : Option Addr) (c10 : Nat) (s11 : Seg) (n3 : S_node) (b14 : S_Box) (vt15 : S_Bound) {t w : World} {f : FM} {H : List Seg} (HS : St t w f ([(b1, .cells #[.int .i64 n3.box.X.Lo, .int .i64 n3.box.X.Hi, .bool n3.box.X.Unknown, .int .i64 n3.box.Y.Lo, .int .i64 n3.box.Y.Hi, .bool n3.box.Y.Unknown, .int .i64 n3.box.Z.Lo, .int .i64 n3.box.Z.Hi, .bool n3.box.Z.Unknown, .int .i64 n3.when.Lo, .int .i64 n3.when.Hi, .bool n3.when.Unknown, .slice A4 n3.kids.length c5, .slice A9 n3.rows.length c10] 119 (0, 0))] :: s6 :: s11 :: H)) (HO7 : Own fx_node.t 116 f A4 c5 s6 n3.kids) (HO12 : Own (tInt .i64) 3 f A9 c10 s11 n3.rows) (rr1 : Int) (rr2 : Int) (rr3 : Bool) (rr4 : Int) (rr5 : Int) (rr6 : Bool) (rr7 : Int) (rr8 : Int) (rr9 : Bool) (rr10 : Int) (rr11 : Int) (rr12 : Bool) (rr13 : List S_node) (rr14 : List Int) (h : query_node_join k n3 b14 vt15 = some (rr1, rr2, rr3, rr4, rr5, rr6, rr7, rr8, rr9, rr10, rr11, rr12, rr13, rr14)) :
    Calls Tryz.prog 48 #[.pointer (some ⟨b1, 0, none⟩), .agg #[.int .i64 b14.X.Lo, .int .i64 b14.X.Hi, .bool b14.X.Unknown, .int .i64 b14.Y.Lo, .int .i64 b14.Y.Hi, .bool b14.Y.Unknown, .int .i64 b14.Z.Lo, .int .i64 b14.Z.Hi, .bool b14.Z.Unknown], .agg #[.int .i64 vt15.Lo, .int .i64 vt15.Hi, .bool vt15.Unknown]] w (fun e w' => ∃ (g : FM) (A76 : Option Addr) (c77 : Nat) (s78 : Seg) (A79 : Option Addr) (c80 : Nat) (s81 : Seg), e = .returned (Value.tuple #[]) ∧ FM.le f g ∧ St t w' g (s78 :: s81 :: [(b1, .cells #[.int .i64 rr1, .int .i64 rr2, .bool rr3, .int .i64 rr4, .int .i64 rr5, .bool rr6, .int .i64 rr7, .int .i64 rr8, .bool rr9, .int .i64 rr10, .int .i64 rr11, .bool rr12, .slice A76 rr13.length c77, .slice A79 rr14.length c80] 119 (0, 0))] :: H) ∧ Own fx_node.t 116 g A76 c77 s78 rr13 ∧ Own (tInt .i64) 3 g A79 c80 s81 rr14) := by
 unfold query_node_join at h
 refine enter Tryz.func48 rfl (tm := #[pV b1 0, (ag_Box b14), (ag_Bound vt15), uV, uV, uV, uV, uV, uV, uV, uV, uV, uV, uV, uV, uV, uV, uV, uV, uV, uV, uV, uV, uV, uV, uV, uV, uV, uV, uV, uV, uV, uV, uV, uV, uV, uV, uV, uV, uV, uV, uV, uV]) kr ?_
 intro B hret hnor hnp
 refine wp_seq_k fun K16 hK17 => rl ?_
 refine seqK rfl (does_box (cs := #[.int .i64 b14.X.Lo, .int .i64 b14.X.Hi, .bool b14.X.Unknown, .int .i64 b14.Y.Lo, .int .i64 b14.Y.Hi, .bool b14.Y.Unknown, .int .i64 b14.Z.Lo, .int .i64 b14.Z.Hi, .bool b14.Z.Unknown]) rfl (kv (.agg #[.int .i64 b14.X.Lo, .int .i64 b14.X.Hi, .bool b14.X.Unknown, .int .i64 b14.Y.Lo, .int .i64 b14.Y.Hi, .bool b14.Y.Unknown, .int .i64 b14.Z.Lo, .int .i64 b14.Z.Hi, .bool b14.Z.Unknown])) rfl HS ?_)
 intro b18 W19 HS20
 refine seqK rfl (does_box (cs := #[.int .i64 vt15.Lo, .int .i64 vt15.Hi, .bool vt15.Unknown]) rfl (kv (.agg #[.int .i64 vt15.Lo, .int .i64 vt15.Hi, .bool vt15.Unknown])) rfl HS20 ?_)
 intro b22 W23 HS24
 refine nl (hK17 _ _ ?_)
 refine wp_seq_k (fun K26 hK27 => ?_)
 have HS32 := HS24.u4.u4.u3.u3.u4
 refine heldG (S := Sg t f ([(b22, .cells #[.int .i64 vt15.Lo, .int .i64 vt15.Hi, .bool vt15.Unknown] 97 (0, 0))] :: [(b18, .cells #[.int .i64 b14.X.Lo, .int .i64 b14.X.Hi, .bool b14.X.Unknown, .int .i64 b14.Y.Lo, .int .i64 b14.Y.Hi, .bool b14.Y.Unknown, .int .i64 b14.Z.Lo, .int .i64 b14.Z.Hi, .bool b14.Z.Unknown] 31 (0, 0))] :: s6 :: s11 :: H) [(28, [(b1, .cells #[.int .i64 n3.box.X.Lo, .int .i64 n3.box.X.Hi, .bool n3.box.X.Unknown, .int .i64 n3.box.Y.Lo, .int .i64 n3.box.Y.Hi, .bool n3.box.Y.Unknown, .int .i64 n3.box.Z.Lo, .int .i64 n3.box.Z.Hi, .bool n3.box.Z.Unknown, .int .i64 n3.when.Lo, .int .i64 n3.when.Hi, .bool n3.when.Unknown, .slice A4 n3.kids.length c5, .slice A9 n3.rows.length c10] 119 (0, 0))])]) (n := 29) kr rfl HS32 ?_
 intro W33 HS34
 refine takeGL [0, 1, 2, 3, 4] (n := 29) (fuel := 24) #[true, true, true, true, true, false, false, false, false, false, false, false, false, false, false, false, false, false, false, false, false, false, false, false, false, false, false, false, false] rfl kr kr kr hnp (Sg.g1 (Sx.of [[(b1, .cells #[.int .i64 n3.box.X.Lo, .int .i64 n3.box.X.Hi, .bool n3.box.X.Unknown, .int .i64 n3.box.Y.Lo, .int .i64 n3.box.Y.Hi, .bool n3.box.Y.Unknown, .int .i64 n3.box.Z.Lo, .int .i64 n3.box.Z.Hi, .bool n3.box.Z.Unknown, .int .i64 n3.when.Lo, .int .i64 n3.when.Hi, .bool n3.when.Unknown, .slice A4 n3.kids.length c5, .slice A9 n3.rows.length c10] 119 (0, 0))]] fL HS34) (fun _ => St.only [] HS34 fL)) ?_
 refine takeGQ 5 [28] rfl kr kr kr kr kr kr hnp (Sg.g1 (Sx.of [[(b1, .cells #[.int .i64 n3.box.X.Lo, .int .i64 n3.box.X.Hi, .bool n3.box.X.Unknown, .int .i64 n3.box.Y.Lo, .int .i64 n3.box.Y.Hi, .bool n3.box.Y.Unknown, .int .i64 n3.box.Z.Lo, .int .i64 n3.box.Z.Hi, .bool n3.box.Z.Unknown, .int .i64 n3.when.Lo, .int .i64 n3.when.Hi, .bool n3.when.Unknown, .slice A4 n3.kids.length c5, .slice A9 n3.rows.length c10] 119 (0, 0))]] fL HS34) (fun _ => St.only [] HS34 fL)) (fun w_ hw_ => by obtain ⟨g_, hl_, hS_⟩ := hw_.seg (j := 28) (s := [(b1, .cells #[.int .i64 n3.box.X.Lo, .int .i64 n3.box.X.Hi, .bool n3.box.X.Unknown, .int .i64 n3.box.Y.Lo, .int .i64 n3.box.Y.Hi, .bool n3.box.Y.Unknown, .int .i64 n3.box.Z.Lo, .int .i64 n3.box.Z.Hi, .bool n3.box.Z.Unknown, .int .i64 n3.when.Lo, .int .i64 n3.when.Hi, .bool n3.when.Unknown, .slice A4 n3.kids.length c5, .slice A9 n3.rows.length c10] 119 (0, 0))]) (by simp) (by simp); exact run_loadN (n := 3) rfl Tryz.underlying29 rfl kr (kv (.pointer (some ⟨b1, 0, none⟩))) (cs := [.int .i64 n3.box.X.Lo, .int .i64 n3.box.X.Hi, .bool n3.box.X.Unknown]) rfl (hS_.cells 0 3 _ rfl)) ?_
 refine takeGL [6] (n := 23) (fuel := 22) #[true, true, true, true, true, true, true, false, false, false, false, false, false, false, false, false, false, false, false, false, false, false, false, false, false, false, false, false, false] rfl kr kr kr hnp (Sg.g1 (Sx.of [[(b1, .cells #[.int .i64 n3.box.X.Lo, .int .i64 n3.box.X.Hi, .bool n3.box.X.Unknown, .int .i64 n3.box.Y.Lo, .int .i64 n3.box.Y.Hi, .bool n3.box.Y.Unknown, .int .i64 n3.box.Z.Lo, .int .i64 n3.box.Z.Hi, .bool n3.box.Z.Unknown, .int .i64 n3.when.Lo, .int .i64 n3.when.Hi, .bool n3.when.Unknown, .slice A4 n3.kids.length c5, .slice A9 n3.rows.length c10] 119 (0, 0))]] fL HS34) (fun _ => St.only [] HS34 fL)) ?_
 refine takeGQ 7 [] rfl kr kr kr kr kr kr hnp (Sg.g1 (Sx.of [[(b1, .cells #[.int .i64 n3.box.X.Lo, .int .i64 n3.box.X.Hi, .bool n3.box.X.Unknown, .int .i64 n3.box.Y.Lo, .int .i64 n3.box.Y.Hi, .bool n3.box.Y.Unknown, .int .i64 n3.box.Z.Lo, .int .i64 n3.box.Z.Hi, .bool n3.box.Z.Unknown, .int .i64 n3.when.Lo, .int .i64 n3.when.Hi, .bool n3.when.Unknown, .slice A4 n3.kids.length c5, .slice A9 n3.rows.length c10] 119 (0, 0))]] fL HS34) (fun _ => St.only [] HS34 fL)) (fun w_ hw_ => by obtain ⟨g_, hl_, hS_⟩ := hw_.st; exact run_loadN (n := 3) rfl Tryz.underlying29 rfl kr (kv (.pointer (some ⟨b18, 0, none⟩))) (cs := [.int .i64 b14.X.Lo, .int .i64 b14.X.Hi, .bool b14.X.Unknown]) rfl (hS_.u1.cells 0 3 _ rfl)) ?_
 refine takeGL [9, 10, 11, 12] (n := 21) (fuel := 17) #[true, true, true, true, true, true, true, true, false, true, true, true, true, false, false, false, false, false, false, false, false, false, false, false, false, false, false, false, false] rfl kr kr kr hnp (Sg.g1 (Sx.of [[(b1, .cells #[.int .i64 n3.box.X.Lo, .int .i64 n3.box.X.Hi, .bool n3.box.X.Unknown, .int .i64 n3.box.Y.Lo, .int .i64 n3.box.Y.Hi, .bool n3.box.Y.Unknown, .int .i64 n3.box.Z.Lo, .int .i64 n3.box.Z.Hi, .bool n3.box.Z.Unknown, .int .i64 n3.when.Lo, .int .i64 n3.when.Hi, .bool n3.when.Unknown, .slice A4 n3.kids.length c5, .slice A9 n3.rows.length c10] 119 (0, 0))]] fL HS34) (fun _ => St.only [] HS34 fL)) ?_
 refine takeGQ 13 [28] rfl kr kr kr kr kr kr hnp (Sg.g1 (Sx.of [[(b1, .cells #[.int .i64 n3.box.X.Lo, .int .i64 n3.box.X.Hi, .bool n3.box.X.Unknown, .int .i64 n3.box.Y.Lo, .int .i64 n3.box.Y.Hi, .bool n3.box.Y.Unknown, .int .i64 n3.box.Z.Lo, .int .i64 n3.box.Z.Hi, .bool n3.box.Z.Unknown, .int .i64 n3.when.Lo, .int .i64 n3.when.Hi, .bool n3.when.Unknown, .slice A4 n3.kids.length c5, .slice A9 n3.rows.length c10] 119 (0, 0))]] fL HS34) (fun _ => St.only [] HS34 fL)) (fun w_ hw_ => by obtain ⟨g_, hl_, hS_⟩ := hw_.seg (j := 28) (s := [(b1, .cells #[.int .i64 n3.box.X.Lo, .int .i64 n3.box.X.Hi, .bool n3.box.X.Unknown, .int .i64 n3.box.Y.Lo, .int .i64 n3.box.Y.Hi, .bool n3.box.Y.Unknown, .int .i64 n3.box.Z.Lo, .int .i64 n3.box.Z.Hi, .bool n3.box.Z.Unknown, .int .i64 n3.when.Lo, .int .i64 n3.when.Hi, .bool n3.when.Unknown, .slice A4 n3.kids.length c5, .slice A9 n3.rows.length c10] 119 (0, 0))]) (by simp) (by simp); exact run_loadN (n := 3) rfl Tryz.underlying29 rfl kr (kv (.pointer (some ⟨b1, 3, none⟩))) (cs := [.int .i64 n3.box.Y.Lo, .int .i64 n3.box.Y.Hi, .bool n3.box.Y.Unknown]) rfl (hS_.cells 3 3 _ rfl)) ?_
 refine takeGL [14] (n := 16) (fuel := 15) #[true, true, true, true, true, true, true, true, false, true, true, true, true, true, true, false, false, false, false, false, false, false, false, false, false, false, false, false, false] rfl kr kr kr hnp (Sg.g1 (Sx.of [[(b1, .cells #[.int .i64 n3.box.X.Lo, .int .i64 n3.box.X.Hi, .bool n3.box.X.Unknown, .int .i64 n3.box.Y.Lo, .int .i64 n3.box.Y.Hi, .bool n3.box.Y.Unknown, .int .i64 n3.box.Z.Lo, .int .i64 n3.box.Z.Hi, .bool n3.box.Z.Unknown, .int .i64 n3.when.Lo, .int .i64 n3.when.Hi, .bool n3.when.Unknown, .slice A4 n3.kids.length c5, .slice A9 n3.rows.length c10] 119 (0, 0))]] fL HS34) (fun _ => St.only [] HS34 fL)) ?_
 refine takeGQ 15 [] rfl kr kr kr kr kr kr hnp (Sg.g1 (Sx.of [[(b1, .cells #[.int .i64 n3.box.X.Lo, .int .i64 n3.box.X.Hi, .bool n3.box.X.Unknown, .int .i64 n3.box.Y.Lo, .int .i64 n3.box.Y.Hi, .bool n3.box.Y.Unknown, .int .i64 n3.box.Z.Lo, .int .i64 n3.box.Z.Hi, .bool n3.box.Z.Unknown, .int .i64 n3.when.Lo, .int .i64 n3.when.Hi, .bool n3.when.Unknown, .slice A4 n3.kids.length c5, .slice A9 n3.rows.length c10] 119 (0, 0))]] fL HS34) (fun _ => St.only [] HS34 fL)) (fun w_ hw_ => by obtain ⟨g_, hl_, hS_⟩ := hw_.st; exact run_loadN (n := 3) rfl Tryz.underlying29 rfl kr (kv (.pointer (some ⟨b18, 3, none⟩))) (cs := [.int .i64 b14.Y.Lo, .int .i64 b14.Y.Hi, .bool b14.Y.Unknown]) rfl (hS_.u1.cells 3 3 _ rfl)) ?_
 refine takeGL [17, 18, 19, 20] (n := 14) (fuel := 10) #[true, true, true, true, true, true, true, true, false, true, true, true, true, true, true, true, false, true, true, true, true, false, false, false, false, false, false, false, false] rfl kr kr kr hnp (Sg.g1 (Sx.of [[(b1, .cells #[.int .i64 n3.box.X.Lo, .int .i64 n3.box.X.Hi, .bool n3.box.X.Unknown, .int .i64 n3.box.Y.Lo, .int .i64 n3.box.Y.Hi, .bool n3.box.Y.Unknown, .int .i64 n3.box.Z.Lo, .int .i64 n3.box.Z.Hi, .bool n3.box.Z.Unknown, .int .i64 n3.when.Lo, .int .i64 n3.when.Hi, .bool n3.when.Unknown, .slice A4 n3.kids.length c5, .slice A9 n3.rows.length c10] 119 (0, 0))]] fL HS34) (fun _ => St.only [] HS34 fL)) ?_
 refine takeGQ 21 [28] rfl kr kr kr kr kr kr hnp (Sg.g1 (Sx.of [[(b1, .cells #[.int .i64 n3.box.X.Lo, .int .i64 n3.box.X.Hi, .bool n3.box.X.Unknown, .int .i64 n3.box.Y.Lo, .int .i64 n3.box.Y.Hi, .bool n3.box.Y.Unknown, .int .i64 n3.box.Z.Lo, .int .i64 n3.box.Z.Hi, .bool n3.box.Z.Unknown, .int .i64 n3.when.Lo, .int .i64 n3.when.Hi, .bool n3.when.Unknown, .slice A4 n3.kids.length c5, .slice A9 n3.rows.length c10] 119 (0, 0))]] fL HS34) (fun _ => St.only [] HS34 fL)) (fun w_ hw_ => by obtain ⟨g_, hl_, hS_⟩ := hw_.seg (j := 28) (s := [(b1, .cells #[.int .i64 n3.box.X.Lo, .int .i64 n3.box.X.Hi, .bool n3.box.X.Unknown, .int .i64 n3.box.Y.Lo, .int .i64 n3.box.Y.Hi, .bool n3.box.Y.Unknown, .int .i64 n3.box.Z.Lo, .int .i64 n3.box.Z.Hi, .bool n3.box.Z.Unknown, .int .i64 n3.when.Lo, .int .i64 n3.when.Hi, .bool n3.when.Unknown, .slice A4 n3.kids.length c5, .slice A9 n3.rows.length c10] 119 (0, 0))]) (by simp) (by simp); exact run_loadN (n := 3) rfl Tryz.underlying29 rfl kr (kv (.pointer (some ⟨b1, 6, none⟩))) (cs := [.int .i64 n3.box.Z.Lo, .int .i64 n3.box.Z.Hi, .bool n3.box.Z.Unknown]) rfl (hS_.cells 6 3 _ rfl)) ?_
 refine takeGL [22] (n := 9) (fuel := 8) #[true, true, true, true, true, true, true, true, false, true, true, true, true, true, true, true, false, true, true, true, true, true, true, false, false, false, false, false, false] rfl kr kr kr hnp (Sg.g1 (Sx.of [[(b1, .cells #[.int .i64 n3.box.X.Lo, .int .i64 n3.box.X.Hi, .bool n3.box.X.Unknown, .int .i64 n3.box.Y.Lo, .int .i64 n3.box.Y.Hi, .bool n3.box.Y.Unknown, .int .i64 n3.box.Z.Lo, .int .i64 n3.box.Z.Hi, .bool n3.box.Z.Unknown, .int .i64 n3.when.Lo, .int .i64 n3.when.Hi, .bool n3.when.Unknown, .slice A4 n3.kids.length c5, .slice A9 n3.rows.length c10] 119 (0, 0))]] fL HS34) (fun _ => St.only [] HS34 fL)) ?_
 refine takeGQ 23 [] rfl kr kr kr kr kr kr hnp (Sg.g1 (Sx.of [[(b1, .cells #[.int .i64 n3.box.X.Lo, .int .i64 n3.box.X.Hi, .bool n3.box.X.Unknown, .int .i64 n3.box.Y.Lo, .int .i64 n3.box.Y.Hi, .bool n3.box.Y.Unknown, .int .i64 n3.box.Z.Lo, .int .i64 n3.box.Z.Hi, .bool n3.box.Z.Unknown, .int .i64 n3.when.Lo, .int .i64 n3.when.Hi, .bool n3.when.Unknown, .slice A4 n3.kids.length c5, .slice A9 n3.rows.length c10] 119 (0, 0))]] fL HS34) (fun _ => St.only [] HS34 fL)) (fun w_ hw_ => by obtain ⟨g_, hl_, hS_⟩ := hw_.st; exact run_loadN (n := 3) rfl Tryz.underlying29 rfl kr (kv (.pointer (some ⟨b18, 6, none⟩))) (cs := [.int .i64 b14.Z.Lo, .int .i64 b14.Z.Hi, .bool b14.Z.Unknown]) rfl (hS_.u1.cells 6 3 _ rfl)) ?_
 have hq_ := bind_some h; clear h; obtain ⟨vt35, hc36, h⟩ := hq_
 refine takeGE 8 kr rfl kr (does_call (f := 82) (args := #[.agg #[.int .i64 n3.box.X.Lo, .int .i64 n3.box.X.Hi, .bool n3.box.X.Unknown], .agg #[.int .i64 b14.X.Lo, .int .i64 b14.X.Hi, .bool b14.X.Unknown]]) kr (query_hull_Coord.calls k n3.box.X b14.X HS34 vt35 hc36) ?_)
 rintro _ W39 ⟨f37, rfl, L38, HS40⟩
 refine ⟨_, rfl, ?_⟩
 refine ⟨(Sg.g1 (Sx.of [[(b1, .cells #[.int .i64 n3.box.X.Lo, .int .i64 n3.box.X.Hi, .bool n3.box.X.Unknown, .int .i64 n3.box.Y.Lo, .int .i64 n3.box.Y.Hi, .bool n3.box.Y.Unknown, .int .i64 n3.box.Z.Lo, .int .i64 n3.box.Z.Hi, .bool n3.box.Z.Unknown, .int .i64 n3.when.Lo, .int .i64 n3.when.Hi, .bool n3.when.Unknown, .slice A4 n3.kids.length c5, .slice A9 n3.rows.length c10] 119 (0, 0))]] L38 HS40) (fun _ => St.only [] HS40 L38)), ?_⟩
 have hq_ := bind_some h; clear h; obtain ⟨vt41, hc42, h⟩ := hq_
 refine takeGE 16 kr rfl kr (does_call (f := 82) (args := #[.agg #[.int .i64 n3.box.Y.Lo, .int .i64 n3.box.Y.Hi, .bool n3.box.Y.Unknown], .agg #[.int .i64 b14.Y.Lo, .int .i64 b14.Y.Hi, .bool b14.Y.Unknown]]) kr (query_hull_Coord.calls k n3.box.Y b14.Y HS40 vt41 hc42) ?_)
 rintro _ W45 ⟨f43, rfl, L44, HS46⟩
 refine ⟨_, rfl, ?_⟩
 refine ⟨(Sg.g1 (Sx.of [[(b1, .cells #[.int .i64 n3.box.X.Lo, .int .i64 n3.box.X.Hi, .bool n3.box.X.Unknown, .int .i64 n3.box.Y.Lo, .int .i64 n3.box.Y.Hi, .bool n3.box.Y.Unknown, .int .i64 n3.box.Z.Lo, .int .i64 n3.box.Z.Hi, .bool n3.box.Z.Unknown, .int .i64 n3.when.Lo, .int .i64 n3.when.Hi, .bool n3.when.Unknown, .slice A4 n3.kids.length c5, .slice A9 n3.rows.length c10] 119 (0, 0))]] (L38.trans L44) HS46) (fun _ => St.only [] HS46 (L38.trans L44))), ?_⟩
 have hq_ := bind_some h; clear h; obtain ⟨vt47, hc48, h⟩ := hq_
 refine takeGE 24 kr rfl kr (does_call (f := 82) (args := #[.agg #[.int .i64 n3.box.Z.Lo, .int .i64 n3.box.Z.Hi, .bool n3.box.Z.Unknown], .agg #[.int .i64 b14.Z.Lo, .int .i64 b14.Z.Hi, .bool b14.Z.Unknown]]) kr (query_hull_Coord.calls k n3.box.Z b14.Z HS46 vt47 hc48) ?_)
 rintro _ W51 ⟨f49, rfl, L50, HS52⟩
 refine ⟨_, rfl, ?_⟩
 refine ⟨(Sg.g1 (Sx.of [[(b1, .cells #[.int .i64 n3.box.X.Lo, .int .i64 n3.box.X.Hi, .bool n3.box.X.Unknown, .int .i64 n3.box.Y.Lo, .int .i64 n3.box.Y.Hi, .bool n3.box.Y.Unknown, .int .i64 n3.box.Z.Lo, .int .i64 n3.box.Z.Hi, .bool n3.box.Z.Unknown, .int .i64 n3.when.Lo, .int .i64 n3.when.Hi, .bool n3.when.Unknown, .slice A4 n3.kids.length c5, .slice A9 n3.rows.length c10] 119 (0, 0))]] (L38.trans (L44.trans L50)) HS52) (fun _ => St.only [] HS52 (L38.trans (L44.trans L50)))), ?_⟩
 refine takeGL [25, 26, 27] (n := 4) (fuel := 1) #[true, true, true, true, true, true, true, true, true, true, true, true, true, true, true, true, true, true, true, true, true, true, true, true, true, true, true, true, false] rfl kr kr kr hnp (Sg.g1 (Sx.of [[(b1, .cells #[.int .i64 n3.box.X.Lo, .int .i64 n3.box.X.Hi, .bool n3.box.X.Unknown, .int .i64 n3.box.Y.Lo, .int .i64 n3.box.Y.Hi, .bool n3.box.Y.Unknown, .int .i64 n3.box.Z.Lo, .int .i64 n3.box.Z.Hi, .bool n3.box.Z.Unknown, .int .i64 n3.when.Lo, .int .i64 n3.when.Hi, .bool n3.when.Unknown, .slice A4 n3.kids.length c5, .slice A9 n3.rows.length c10] 119 (0, 0))]] (L38.trans (L44.trans L50)) HS52) (fun _ => St.only [] HS52 (L38.trans (L44.trans L50)))) ?_
 refine takeGE 28 kr rfl kr (does_store (n := 9) (vs := [.int .i64 vt35.Lo, .int .i64 vt35.Hi, .bool vt35.Unknown, .int .i64 vt41.Lo, .int .i64 vt41.Hi, .bool vt41.Unknown, .int .i64 vt47.Lo, .int .i64 vt47.Hi, .bool vt47.Unknown]) (cs' := #[.int .i64 vt35.Lo, .int .i64 vt35.Hi, .bool vt35.Unknown, .int .i64 vt41.Lo, .int .i64 vt41.Hi, .bool vt41.Unknown, .int .i64 vt47.Lo, .int .i64 vt47.Hi, .bool vt47.Unknown, .int .i64 n3.when.Lo, .int .i64 n3.when.Hi, .bool n3.when.Unknown, .slice A4 n3.kids.length c5, .slice A9 n3.rows.length c10]) rfl kr (kv (.pointer (some ⟨b1, 0, none⟩))) (kv (.agg #[.int .i64 vt35.Lo, .int .i64 vt35.Hi, .bool vt35.Unknown, .int .i64 vt41.Lo, .int .i64 vt41.Hi, .bool vt41.Unknown, .int .i64 vt47.Lo, .int .i64 vt47.Hi, .bool vt47.Unknown])) rfl rfl (ones rfl) HS52 (Nat.le_of_ble_eq_true rfl) kr ?_)
 intro W53 HS54
 refine ⟨(Sg.g1 (Sx.of [[(b1, .cells #[.int .i64 vt35.Lo, .int .i64 vt35.Hi, .bool vt35.Unknown, .int .i64 vt41.Lo, .int .i64 vt41.Hi, .bool vt41.Unknown, .int .i64 vt47.Lo, .int .i64 vt47.Hi, .bool vt47.Unknown, .int .i64 n3.when.Lo, .int .i64 n3.when.Hi, .bool n3.when.Unknown, .slice A4 n3.kids.length c5, .slice A9 n3.rows.length c10] 119 (0, 0))]] (L38.trans (L44.trans L50)) HS54) (fun hl_ => Bool.noConfusion (show true = false from hl_))), ?_⟩
 refine doneG kr ?_ _
 refine hK27 _ _ ?_
 have HS59 := HS54.u4.u4.u4.u4.u4
 refine heldG (S := Sg t f49 ([(b22, .cells #[.int .i64 vt15.Lo, .int .i64 vt15.Hi, .bool vt15.Unknown] 97 (0, 0))] :: [(b18, .cells #[.int .i64 b14.X.Lo, .int .i64 b14.X.Hi, .bool b14.X.Unknown, .int .i64 b14.Y.Lo, .int .i64 b14.Y.Hi, .bool b14.Y.Unknown, .int .i64 b14.Z.Lo, .int .i64 b14.Z.Hi, .bool b14.Z.Unknown] 31 (0, 0))] :: s6 :: s11 :: H) [(9, [(b1, .cells #[.int .i64 vt35.Lo, .int .i64 vt35.Hi, .bool vt35.Unknown, .int .i64 vt41.Lo, .int .i64 vt41.Hi, .bool vt41.Unknown, .int .i64 vt47.Lo, .int .i64 vt47.Hi, .bool vt47.Unknown, .int .i64 n3.when.Lo, .int .i64 n3.when.Hi, .bool n3.when.Unknown, .slice A4 n3.kids.length c5, .slice A9 n3.rows.length c10] 119 (0, 0))])]) (n := 10) kr rfl HS59 ?_
 intro W60 HS61
 refine takeGL [0, 1, 2, 3] (n := 10) (fuel := 6) #[true, true, true, true, false, false, false, false, false, false] rfl kr kr kr hnp (Sg.g1 (Sx.of [[(b1, .cells #[.int .i64 vt35.Lo, .int .i64 vt35.Hi, .bool vt35.Unknown, .int .i64 vt41.Lo, .int .i64 vt41.Hi, .bool vt41.Unknown, .int .i64 vt47.Lo, .int .i64 vt47.Hi, .bool vt47.Unknown, .int .i64 n3.when.Lo, .int .i64 n3.when.Hi, .bool n3.when.Unknown, .slice A4 n3.kids.length c5, .slice A9 n3.rows.length c10] 119 (0, 0))]] fL HS61) (fun _ => St.only [] HS61 fL)) ?_
 refine takeGQ 4 [9] rfl kr kr kr kr kr kr hnp (Sg.g1 (Sx.of [[(b1, .cells #[.int .i64 vt35.Lo, .int .i64 vt35.Hi, .bool vt35.Unknown, .int .i64 vt41.Lo, .int .i64 vt41.Hi, .bool vt41.Unknown, .int .i64 vt47.Lo, .int .i64 vt47.Hi, .bool vt47.Unknown, .int .i64 n3.when.Lo, .int .i64 n3.when.Hi, .bool n3.when.Unknown, .slice A4 n3.kids.length c5, .slice A9 n3.rows.length c10] 119 (0, 0))]] fL HS61) (fun _ => St.only [] HS61 fL)) (fun w_ hw_ => by obtain ⟨g_, hl_, hS_⟩ := hw_.seg (j := 9) (s := [(b1, .cells #[.int .i64 vt35.Lo, .int .i64 vt35.Hi, .bool vt35.Unknown, .int .i64 vt41.Lo, .int .i64 vt41.Hi, .bool vt41.Unknown, .int .i64 vt47.Lo, .int .i64 vt47.Hi, .bool vt47.Unknown, .int .i64 n3.when.Lo, .int .i64 n3.when.Hi, .bool n3.when.Unknown, .slice A4 n3.kids.length c5, .slice A9 n3.rows.length c10] 119 (0, 0))]) (by simp) (by simp); exact run_loadN (n := 3) rfl Tryz.underlying97 rfl kr (kv (.pointer (some ⟨b1, 9, none⟩))) (cs := [.int .i64 n3.when.Lo, .int .i64 n3.when.Hi, .bool n3.when.Unknown]) rfl (hS_.cells 9 3 _ rfl)) ?_
 refine takeGQ 5 [] rfl kr kr kr kr kr kr hnp (Sg.g1 (Sx.of [[(b1, .cells #[.int .i64 vt35.Lo, .int .i64 vt35.Hi, .bool vt35.Unknown, .int .i64 vt41.Lo, .int .i64 vt41.Hi, .bool vt41.Unknown, .int .i64 vt47.Lo, .int .i64 vt47.Hi, .bool vt47.Unknown, .int .i64 n3.when.Lo, .int .i64 n3.when.Hi, .bool n3.when.Unknown, .slice A4 n3.kids.length c5, .slice A9 n3.rows.length c10] 119 (0, 0))]] fL HS61) (fun _ => St.only [] HS61 fL)) (fun w_ hw_ => by obtain ⟨g_, hl_, hS_⟩ := hw_.st; exact run_loadN (n := 3) rfl Tryz.underlying97 rfl kr (kv (.pointer (some ⟨b22, 0, none⟩))) (cs := [.int .i64 vt15.Lo, .int .i64 vt15.Hi, .bool vt15.Unknown]) rfl (hS_.cells 0 3 _ rfl)) ?_
 have hq_ := bind_some h; clear h; obtain ⟨vt62, hc63, h⟩ := hq_
 refine takeGE 6 kr rfl kr (does_call (f := 83) (args := #[.agg #[.int .i64 n3.when.Lo, .int .i64 n3.when.Hi, .bool n3.when.Unknown], .agg #[.int .i64 vt15.Lo, .int .i64 vt15.Hi, .bool vt15.Unknown]]) kr (query_hull_Tick.calls k n3.when vt15 HS61 vt62 hc63) ?_)
 rintro _ W66 ⟨f64, rfl, L65, HS67⟩
 refine ⟨_, rfl, ?_⟩
 refine ⟨(Sg.g1 (Sx.of [[(b1, .cells #[.int .i64 vt35.Lo, .int .i64 vt35.Hi, .bool vt35.Unknown, .int .i64 vt41.Lo, .int .i64 vt41.Hi, .bool vt41.Unknown, .int .i64 vt47.Lo, .int .i64 vt47.Hi, .bool vt47.Unknown, .int .i64 n3.when.Lo, .int .i64 n3.when.Hi, .bool n3.when.Unknown, .slice A4 n3.kids.length c5, .slice A9 n3.rows.length c10] 119 (0, 0))]] L65 HS67) (fun _ => St.only [] HS67 L65)), ?_⟩
 refine takeGL [7, 8] (n := 3) (fuel := 1) #[true, true, true, true, true, true, true, true, true, false] rfl kr kr kr hnp (Sg.g1 (Sx.of [[(b1, .cells #[.int .i64 vt35.Lo, .int .i64 vt35.Hi, .bool vt35.Unknown, .int .i64 vt41.Lo, .int .i64 vt41.Hi, .bool vt41.Unknown, .int .i64 vt47.Lo, .int .i64 vt47.Hi, .bool vt47.Unknown, .int .i64 n3.when.Lo, .int .i64 n3.when.Hi, .bool n3.when.Unknown, .slice A4 n3.kids.length c5, .slice A9 n3.rows.length c10] 119 (0, 0))]] L65 HS67) (fun _ => St.only [] HS67 L65)) ?_
 refine takeGE 9 kr rfl kr (does_store (n := 3) (vs := [.int .i64 vt62.Lo, .int .i64 vt62.Hi, .bool vt62.Unknown]) (cs' := #[.int .i64 vt35.Lo, .int .i64 vt35.Hi, .bool vt35.Unknown, .int .i64 vt41.Lo, .int .i64 vt41.Hi, .bool vt41.Unknown, .int .i64 vt47.Lo, .int .i64 vt47.Hi, .bool vt47.Unknown, .int .i64 vt62.Lo, .int .i64 vt62.Hi, .bool vt62.Unknown, .slice A4 n3.kids.length c5, .slice A9 n3.rows.length c10]) rfl kr (kv (.pointer (some ⟨b1, 9, none⟩))) (kv (.agg #[.int .i64 vt62.Lo, .int .i64 vt62.Hi, .bool vt62.Unknown])) rfl rfl (ones rfl) HS67 (Nat.le_of_ble_eq_true rfl) kr ?_)
 intro W68 HS69
 refine ⟨(Sg.g1 (Sx.of [[(b1, .cells #[.int .i64 vt35.Lo, .int .i64 vt35.Hi, .bool vt35.Unknown, .int .i64 vt41.Lo, .int .i64 vt41.Hi, .bool vt41.Unknown, .int .i64 vt47.Lo, .int .i64 vt47.Hi, .bool vt47.Unknown, .int .i64 vt62.Lo, .int .i64 vt62.Hi, .bool vt62.Unknown, .slice A4 n3.kids.length c5, .slice A9 n3.rows.length c10] 119 (0, 0))]] L65 HS69) (fun hl_ => Bool.noConfusion (show true = false from hl_))), ?_⟩
 refine doneG kr ?_ _
 refine hnor _ _ ?_
 refine ends_still (v := Value.tuple #[]) kr kr ?_
 have HS73 := HS69.u4.u4.u4.u4
 have HS74 := HS73.drop
 have HS75 := HS74.drop
 injection h with h
 injection h with h0_ h
 injection h with h1_ h
 injection h with h2_ h
 injection h with h3_ h
 injection h with h4_ h
 injection h with h5_ h
 injection h with h6_ h
 injection h with h7_ h
 injection h with h8_ h
 injection h with h9_ h
 injection h with h10_ h
 injection h with h11_ h
 injection h with h12_ h
 subst h0_ h1_ h2_ h3_ h4_ h5_ h6_ h7_ h8_ h9_ h10_ h11_ h12_ h
 exact ⟨f64, A4, c5, s6, A9, c10, s11, rfl, (L38.trans (L44.trans (L50.trans L65))), HS75, (HO7.mono (L38.trans (L44.trans (L50.trans L65)))), (HO12.mono (L38.trans (L44.trans (L50.trans L65))))⟩

end Go.Sp.J7
