import Derived.Test.YtiibkbligihgoaaGreatProg
import Derived.Test.YtiibkbligihgoaaGreatSpCopy
import Derived.Test.YtiibkbligihgoaaGreatFJ7
import Derived.Test.YtiibkbligihgoaaGreatSpSort3P
import Derived.Test.YtiibkbligihgoaaGreatShelf
import Derived.Test.YtiibkbligihgoaaGreatSpMapR
import Derived.Test.YtiibkbligihgoaaGreatSpKeys
import Derived.Test.YtiibkbligihgoaaGreatSpNode
import Derived.Test.YtiibkbligihgoaaGreatSpKeyP
import Derived.Test.YtiibkbligihgoaaGreatSpArr
import Derived.Test.YtiibkbligihgoaaGreatSpRound
import Derived.Test.YtiibkbligihgoaaGreatKJ7n0
import Derived.Test.YtiibkbligihgoaaGreatKJ7n1
import Derived.Test.YtiibkbligihgoaaGreatKJ7n2
import Derived.Test.YtiibkbligihgoaaGreatKJ7n3
import Derived.Test.YtiibkbligihgoaaGreatKJ7n4
namespace Go.Sp.J7
open Go Go.Sp Go.Proofs
set_option linter.unusedVariables false
attribute [local irreducible] wpList AnyL Code.wp Calls Does Code.wpIn wpListIn CallsIn bodyPostM LeavesInM
set_option maxRecDepth 100000 in
set_option maxHeartbeats 4000000 in
theorem query_Near.calls (k : Nat)  (a1 : S_Box) (b2 : S_Box) (cos3 : Int) {t w : World} {f : FM} {H : List Seg} (HS : St t w f (H)) (rr1 : Int) (h : query_Near k a1 b2 cos3 = some rr1) :
    Calls Tryz.prog 10 #[.agg #[.int .i64 a1.X.Lo, .int .i64 a1.X.Hi, .bool a1.X.Unknown, .int .i64 a1.Y.Lo, .int .i64 a1.Y.Hi, .bool a1.Y.Unknown, .int .i64 a1.Z.Lo, .int .i64 a1.Z.Hi, .bool a1.Z.Unknown], .agg #[.int .i64 b2.X.Lo, .int .i64 b2.X.Hi, .bool b2.X.Unknown, .int .i64 b2.Y.Lo, .int .i64 b2.Y.Hi, .bool b2.Y.Unknown, .int .i64 b2.Z.Lo, .int .i64 b2.Z.Hi, .bool b2.Z.Unknown], .int .i64 cos3] w (fun e w' => ∃ (g : FM), e = .returned (Value.int .i64 rr1) ∧ FM.le f g ∧ St t w' g (H)) := by
 unfold query_Near at h
 refine enter Tryz.func10 rfl (tm := #[(ag_Box a1), (ag_Box b2), iV cos3, uV, uV, uV, uV, uV, uV, uV, uV, uV, uV, uV, uV, uV, uV, uV, uV, uV, uV, uV, uV, uV, uV, uV, uV, uV, uV, uV, uV, uV, uV, uV, uV, uV, uV, uV, uV, uV, uV, uV, uV, uV, uV, uV, uV, uV, uV, uV, uV, uV, uV, uV, uV, uV, uV, uV, uV, uV, uV, uV, uV, uV, uV, uV, uV, uV, uV, uV, uV, uV, uV, uV, uV, uV, uV, uV, uV, uV, uV, uV, uV, uV, uV, uV, uV, uV, uV, uV, uV, uV, uV, uV, uV, uV, uV, uV, uV, uV, uV, uV, uV, uV, uV, uV, uV, uV, uV, uV, uV, uV, uV, uV, uV, uV, uV, uV, uV, uV, uV, uV, uV, uV, uV, uV, uV, uV]) kr ?_
 intro B hret hnor hnp
 refine wp_seq_k fun K4 hK5 => rl ?_
 refine seqK rfl (does_box (cs := #[.int .i64 a1.X.Lo, .int .i64 a1.X.Hi, .bool a1.X.Unknown, .int .i64 a1.Y.Lo, .int .i64 a1.Y.Hi, .bool a1.Y.Unknown, .int .i64 a1.Z.Lo, .int .i64 a1.Z.Hi, .bool a1.Z.Unknown]) rfl (kv (.agg #[.int .i64 a1.X.Lo, .int .i64 a1.X.Hi, .bool a1.X.Unknown, .int .i64 a1.Y.Lo, .int .i64 a1.Y.Hi, .bool a1.Y.Unknown, .int .i64 a1.Z.Lo, .int .i64 a1.Z.Hi, .bool a1.Z.Unknown])) rfl HS ?_)
 intro b6 W7 HS8
 refine seqK rfl (does_box (cs := #[.int .i64 b2.X.Lo, .int .i64 b2.X.Hi, .bool b2.X.Unknown, .int .i64 b2.Y.Lo, .int .i64 b2.Y.Hi, .bool b2.Y.Unknown, .int .i64 b2.Z.Lo, .int .i64 b2.Z.Hi, .bool b2.Z.Unknown]) rfl (kv (.agg #[.int .i64 b2.X.Lo, .int .i64 b2.X.Hi, .bool b2.X.Unknown, .int .i64 b2.Y.Lo, .int .i64 b2.Y.Hi, .bool b2.Y.Unknown, .int .i64 b2.Z.Lo, .int .i64 b2.Z.Hi, .bool b2.Z.Unknown])) rfl HS8 ?_)
 intro b10 W11 HS12
 refine seqL1 kr ?_
 refine nl (hK5 _ _ ?_)
 refine wp_seq_k fun K14 hK15 => rl ?_
 refine seqK rfl (does_run (run_loadN (n := 9) rfl Tryz.underlying31 rfl kr (kv (.pointer (some ⟨b6, 0, none⟩))) (cs := [.int .i64 a1.X.Lo, .int .i64 a1.X.Hi, .bool a1.X.Unknown, .int .i64 a1.Y.Lo, .int .i64 a1.Y.Hi, .bool a1.Y.Unknown, .int .i64 a1.Z.Lo, .int .i64 a1.Z.Hi, .bool a1.Z.Unknown]) rfl (HS12.u1.cells 0 9 _ rfl)) ?_)
 have hq_ := bind_some h; clear h; obtain ⟨⟨vt16, vt17⟩, hc18, h⟩ := hq_
 refine seqK rfl (does_call (f := 31) (args := #[.agg #[.int .i64 a1.X.Lo, .int .i64 a1.X.Hi, .bool a1.X.Unknown, .int .i64 a1.Y.Lo, .int .i64 a1.Y.Hi, .bool a1.Y.Unknown, .int .i64 a1.Z.Lo, .int .i64 a1.Z.Hi, .bool a1.Z.Unknown]]) kr (query_sides.calls k a1 HS12 vt16 vt17 hc18) ?_)
 rintro _ W21 ⟨f19, rfl, L20, HS22⟩
 refine ⟨_, rfl, ?_⟩
 refine seqL3 kr ?_
 refine seqK rfl (does_alloc (z := Value.agg #[.int .i64 0, .int .i64 0, .bool false, .int .i64 0, .int .i64 0, .bool false, .int .i64 0, .int .i64 0, .bool false]) (cs := #[.int .i64 0, .int .i64 0, .bool false, .int .i64 0, .int .i64 0, .bool false, .int .i64 0, .int .i64 0, .bool false]) rfl kr rfl HS22 ?_)
 intro b23 W24 HS25
 refine seqK rfl (does_storeA (vs := [.int .i64 ((vt16.getD 0 default).Lo), .int .i64 ((vt16.getD 0 default).Hi), .bool ((vt16.getD 0 default).Unknown), .int .i64 ((vt16.getD 1 default).Lo), .int .i64 ((vt16.getD 1 default).Hi), .bool ((vt16.getD 1 default).Unknown), .int .i64 ((vt16.getD 2 default).Lo), .int .i64 ((vt16.getD 2 default).Hi), .bool ((vt16.getD 2 default).Unknown)]) rfl kr kr kr rfl (ones rfl) HS25 kr ?_)
 intro W27 HS28
 refine seqL1 kr ?_
 refine nl (hK15 _ _ ?_)
 refine wp_seq_k fun K29 hK30 => rl ?_
 refine seqK rfl (does_run (run_loadN (n := 9) rfl Tryz.underlying31 rfl kr (kv (.pointer (some ⟨b10, 0, none⟩))) (cs := [.int .i64 b2.X.Lo, .int .i64 b2.X.Hi, .bool b2.X.Unknown, .int .i64 b2.Y.Lo, .int .i64 b2.Y.Hi, .bool b2.Y.Unknown, .int .i64 b2.Z.Lo, .int .i64 b2.Z.Hi, .bool b2.Z.Unknown]) rfl (HS28.u1.cells 0 9 _ rfl)) ?_)
 have hq_ := bind_some h; clear h; obtain ⟨⟨vt31, vt32⟩, hc33, h⟩ := hq_
 refine seqK rfl (does_call (f := 31) (args := #[.agg #[.int .i64 b2.X.Lo, .int .i64 b2.X.Hi, .bool b2.X.Unknown, .int .i64 b2.Y.Lo, .int .i64 b2.Y.Hi, .bool b2.Y.Unknown, .int .i64 b2.Z.Lo, .int .i64 b2.Z.Hi, .bool b2.Z.Unknown]]) kr (query_sides.calls k b2 HS28 vt31 vt32 hc33) ?_)
 rintro _ W36 ⟨f34, rfl, L35, HS37⟩
 refine ⟨_, rfl, ?_⟩
 refine seqL3 kr ?_
 refine seqK rfl (does_alloc (z := Value.agg #[.int .i64 0, .int .i64 0, .bool false, .int .i64 0, .int .i64 0, .bool false, .int .i64 0, .int .i64 0, .bool false]) (cs := #[.int .i64 0, .int .i64 0, .bool false, .int .i64 0, .int .i64 0, .bool false, .int .i64 0, .int .i64 0, .bool false]) rfl kr rfl HS37 ?_)
 intro b38 W39 HS40
 refine seqK rfl (does_storeA (vs := [.int .i64 ((vt31.getD 0 default).Lo), .int .i64 ((vt31.getD 0 default).Hi), .bool ((vt31.getD 0 default).Unknown), .int .i64 ((vt31.getD 1 default).Lo), .int .i64 ((vt31.getD 1 default).Hi), .bool ((vt31.getD 1 default).Unknown), .int .i64 ((vt31.getD 2 default).Lo), .int .i64 ((vt31.getD 2 default).Hi), .bool ((vt31.getD 2 default).Unknown)]) rfl kr kr kr rfl (ones rfl) HS40 kr ?_)
 intro W42 HS43
 refine seqL1 kr ?_
 refine nl (hK30 _ _ ?_)
 refine wp_seq_k (fun K44 hK45 => ?_)
 refine wp_seq_k fun K46 hK47 => rl ?_
 refine seqL3 kr ?_
 have hq_ := ite_some h; clear h; rcases hq_ with ⟨c48, h⟩ | ⟨c48, h⟩
 · have c48 : cos3 < 0 := c48
   refine seqRwI 32 kr (decide_eq_true c48) ?_
   refine seqRwI 33 kr (decide_eq_true c48) ?_
   refine seqL3 kr ?_
   refine nl (hK47 _ _ ?_)
   refine condT kr ?_
   refine wp_seq_k fun K49 hK50 => rl ?_
   refine seqL1 kr ?_
   refine nl (hK50 _ _ ?_)
   refine wp_ret ?_
   refine hret _ _ ?_
   refine ends_still (v := Value.int .i64 0) kr kr ?_
   have HS406 := HS43.drop
   have HS407 := HS406.drop
   have HS408 := HS407.drop
   have HS409 := HS408.drop
   injection h with h
   subst h
   exact ⟨f34, rfl, (L20.trans L35), HS409⟩
 · have c48 : ¬ (cos3 < 0) := c48
   refine seqRwI 32 kr (decide_eq_false c48) ?_
   refine seqRwI 33 kr (decide_eq_false c48) ?_
   refine seqL3 kr ?_
   refine nl (hK47 _ _ ?_)
   have hq_ := ite_some h; clear h; rcases hq_ with ⟨c52, h⟩ | ⟨c52, h⟩
   · have c52 : cos3 > 1073741824 := c52
     refine wpRwI 35 kr (decide_eq_true c52) ?_
     refine wpRwI 36 kr (decide_eq_true c52) ?_
     refine condT kr ?_
     refine wp_seq_k fun K53 hK54 => rl ?_
     refine seqL1 kr ?_
     refine nl (hK54 _ _ ?_)
     refine wp_ret ?_
     refine hret _ _ ?_
     refine ends_still (v := Value.int .i64 0) kr kr ?_
     have HS410 := HS43.drop
     have HS411 := HS410.drop
     have HS412 := HS411.drop
     have HS413 := HS412.drop
     injection h with h
     subst h
     exact ⟨f34, rfl, (L20.trans L35), HS413⟩
   · have c52 : ¬ (cos3 > 1073741824) := c52
     refine wpRwI 35 kr (decide_eq_false c52) ?_
     refine wpRwI 36 kr (decide_eq_false c52) ?_
     refine condF kr ?_
     refine wp_skip ?_
     refine hK45 _ _ ?_
     refine wp_seq_k (fun K55 hK56 => ?_)
     refine wp_seq_k fun K57 hK58 => rl ?_
     refine seqL3 kr ?_
     have hq_ := ite_some h; clear h; rcases hq_ with ⟨c59, h⟩ | ⟨c59, h⟩
     · have c59 : ¬ (vt17 = true) := c59
       refine seqRwI 38 kr (congrArg (fun b_ => !b_) (show vt17 = false from (Bool.eq_false_iff.mpr c59)) : (!vt17) = true) ?_
       refine seqRwI 39 kr (congrArg (fun b_ => !b_) (show vt17 = false from (Bool.eq_false_iff.mpr c59)) : (!vt17) = true) ?_
       refine seqL3 kr ?_
       refine nl (hK58 _ _ ?_)
       refine condT kr ?_
       refine wp_seq_k fun K60 hK61 => rl ?_
       refine seqL1 kr ?_
       refine nl (hK61 _ _ ?_)
       refine wp_ret ?_
       refine hret _ _ ?_
       refine ends_still (v := Value.int .i64 1) kr kr ?_
       have HS414 := HS43.drop
       have HS415 := HS414.drop
       have HS416 := HS415.drop
       have HS417 := HS416.drop
       injection h with h
       subst h
       exact ⟨f34, rfl, (L20.trans L35), HS417⟩
     · have c59 : ¬ (¬ (vt17 = true)) := c59
       refine seqRwI 38 (x := (!vt17)) (v := false) kr (congrArg (fun b_ => !b_) (show vt17 = true from (Decidable.of_not_not c59)) : (!vt17) = false) ?_
       refine seqRwI 39 (x := (!vt17)) (v := false) kr (congrArg (fun b_ => !b_) (show vt17 = true from (Decidable.of_not_not c59)) : (!vt17) = false) ?_
       refine seqL3 kr ?_
       refine nl (hK58 _ _ ?_)
       have hq_ := ite_some h; clear h; rcases hq_ with ⟨c63, h⟩ | ⟨c63, h⟩
       · have c63 : ¬ (vt32 = true) := c63
         refine wpRwI 41 kr (congrArg (fun b_ => !b_) (show vt32 = false from (Bool.eq_false_iff.mpr c63)) : (!vt32) = true) ?_
         refine wpRwI 42 kr (congrArg (fun b_ => !b_) (show vt32 = false from (Bool.eq_false_iff.mpr c63)) : (!vt32) = true) ?_
         refine condT kr ?_
         refine wp_seq_k fun K64 hK65 => rl ?_
         refine seqL1 kr ?_
         refine nl (hK65 _ _ ?_)
         refine wp_ret ?_
         refine hret _ _ ?_
         refine ends_still (v := Value.int .i64 1) kr kr ?_
         have HS418 := HS43.drop
         have HS419 := HS418.drop
         have HS420 := HS419.drop
         have HS421 := HS420.drop
         injection h with h
         subst h
         exact ⟨f34, rfl, (L20.trans L35), HS421⟩
       · have c63 : ¬ (¬ (vt32 = true)) := c63
         refine wpRwI 41 (x := (!vt32)) (v := false) kr (congrArg (fun b_ => !b_) (show vt32 = true from (Decidable.of_not_not c63)) : (!vt32) = false) ?_
         refine wpRwI 42 (x := (!vt32)) (v := false) kr (congrArg (fun b_ => !b_) (show vt32 = true from (Decidable.of_not_not c63)) : (!vt32) = false) ?_
         refine condF kr ?_
         refine wp_skip ?_
         refine hK56 _ _ ?_
         refine wp_seq_k fun K66 hK67 => rl ?_
         refine seqL6 kr ?_
         refine nl (hK67 _ _ ?_)
         refine wp_seq_k (fun K68 hK69 => ?_)
         refine wp_seq_k fun K70 hK71 => rl ?_
         refine seqL1 kr ?_
         refine nl (hK71 _ _ ?_)
         refine blockK (fun B72 hx73 hn74 hr75 ho76 hp77 => ?_)
         refine wp_loop_rounds 4 ?_
         refine loopStepK (fun K78 hK79 => ?_)
         refine wp_seq_k fun K80 hK81 => rl ?_
         refine seqL1 kr ?_
         refine nl (hK81 _ _ ?_)
         refine wp_seq_k (fun K82 hK83 => ?_)
         refine condT kr ?_
         refine wp_skip ?_
         refine hK83 _ _ ?_
         refine wp_seq_k (fun K84 hK85 => ?_)
         refine blockK (fun B86 hx87 hn88 hr89 ho90 hp91 => ?_)
         refine wp_seq_k fun K93 hK94 => rl ?_
         refine seqL2 kr ?_
         refine nl (hK94 _ _ ?_)
         refine wp_seq_k (fun K95 hK96 => ?_)
         refine heldG (S := Sg t f34 ([(b38, .cells #[.int .i64 ((vt31.getD 0 default).Lo), .int .i64 ((vt31.getD 0 default).Hi), .bool ((vt31.getD 0 default).Unknown), .int .i64 ((vt31.getD 1 default).Lo), .int .i64 ((vt31.getD 1 default).Hi), .bool ((vt31.getD 1 default).Unknown), .int .i64 ((vt31.getD 2 default).Lo), .int .i64 ((vt31.getD 2 default).Hi), .bool ((vt31.getD 2 default).Unknown)] 81 (0, 0))] :: [(b23, .cells #[.int .i64 ((vt16.getD 0 default).Lo), .int .i64 ((vt16.getD 0 default).Hi), .bool ((vt16.getD 0 default).Unknown), .int .i64 ((vt16.getD 1 default).Lo), .int .i64 ((vt16.getD 1 default).Hi), .bool ((vt16.getD 1 default).Unknown), .int .i64 ((vt16.getD 2 default).Lo), .int .i64 ((vt16.getD 2 default).Hi), .bool ((vt16.getD 2 default).Unknown)] 81 (0, 0))] :: [(b10, .cells #[.int .i64 b2.X.Lo, .int .i64 b2.X.Hi, .bool b2.X.Unknown, .int .i64 b2.Y.Lo, .int .i64 b2.Y.Hi, .bool b2.Y.Unknown, .int .i64 b2.Z.Lo, .int .i64 b2.Z.Hi, .bool b2.Z.Unknown] 31 (0, 0))] :: [(b6, .cells #[.int .i64 a1.X.Lo, .int .i64 a1.X.Hi, .bool a1.X.Unknown, .int .i64 a1.Y.Lo, .int .i64 a1.Y.Hi, .bool a1.Y.Unknown, .int .i64 a1.Z.Lo, .int .i64 a1.Z.Hi, .bool a1.Z.Unknown] 31 (0, 0))] :: H) []) (n := 12) kr rfl HS43 ?_
         intro W97 HS98
         refine takeGL [0, 1] (n := 12) (fuel := 10) #[true, true, false, false, false, false, false, false, false, false, false, false] rfl kr kr kr (fun ch_ a_ w_ q_ => (fun ch_ a_ w_ q_ => hnp ch_ a_ w_ (hp77 ch_ a_ w_ q_)) ch_ a_ w_ (hp91 ch_ a_ w_ q_)) (Sg.g0 (Sx.of [] fL HS98)) ?_
         refine takeGQ 2 [] rfl kr kr kr kr kr kr (fun ch_ a_ w_ q_ => (fun ch_ a_ w_ q_ => hnp ch_ a_ w_ (hp77 ch_ a_ w_ q_)) ch_ a_ w_ (hp91 ch_ a_ w_ q_)) (Sg.g0 (Sx.of [] fL HS98)) (fun w_ hw_ => by obtain ⟨g_, hl_, hS_⟩ := hw_.st; exact run_loadN (n := 3) rfl Tryz.underlying29 rfl kr (kv (.pointer (some ⟨b23, 0, none⟩))) (cs := [.int .i64 ((vt16.getD 0 default).Lo), .int .i64 ((vt16.getD 0 default).Hi), .bool ((vt16.getD 0 default).Unknown)]) rfl (hS_.u1.cells 0 3 _ rfl)) ?_
         refine takeGL [3, 4] (n := 9) (fuel := 7) #[true, true, true, true, true, false, false, false, false, false, false, false] rfl kr kr kr (fun ch_ a_ w_ q_ => (fun ch_ a_ w_ q_ => hnp ch_ a_ w_ (hp77 ch_ a_ w_ q_)) ch_ a_ w_ (hp91 ch_ a_ w_ q_)) (Sg.g0 (Sx.of [] fL HS98)) ?_
         refine takeGQ 5 [] rfl kr kr kr kr kr kr (fun ch_ a_ w_ q_ => (fun ch_ a_ w_ q_ => hnp ch_ a_ w_ (hp77 ch_ a_ w_ q_)) ch_ a_ w_ (hp91 ch_ a_ w_ q_)) (Sg.g0 (Sx.of [] fL HS98)) (fun w_ hw_ => by obtain ⟨g_, hl_, hS_⟩ := hw_.st; exact run_loadN (n := 3) rfl Tryz.underlying29 rfl kr (kv (.pointer (some ⟨b38, 0, none⟩))) (cs := [.int .i64 ((vt31.getD 0 default).Lo), .int .i64 ((vt31.getD 0 default).Hi), .bool ((vt31.getD 0 default).Unknown)]) rfl (hS_.cells 0 3 _ rfl)) ?_
         have hq_ := bind_some h; clear h; obtain ⟨⟨vt99, vt100⟩, hc101, h⟩ := hq_
         refine takeGE 6 kr rfl kr (does_call (f := 32) (args := #[.agg #[.int .i64 ((vt16.getD 0 default).Lo), .int .i64 ((vt16.getD 0 default).Hi), .bool ((vt16.getD 0 default).Unknown)], .agg #[.int .i64 ((vt31.getD 0 default).Lo), .int .i64 ((vt31.getD 0 default).Hi), .bool ((vt31.getD 0 default).Unknown)]]) kr (query_product.calls k (vt16.getD 0 default) (vt31.getD 0 default) HS98 vt99 vt100 hc101) ?_)
         rintro _ W104 ⟨f102, rfl, L103, HS105⟩
         refine ⟨_, rfl, ?_⟩
         refine ⟨(Sg.g0 (Sx.of [] L103 HS105)), ?_⟩
         refine takeGL [7, 8, 9, 10, 11] (n := 5) (fuel := 0) #[true, true, true, true, true, true, true, true, true, true, true, true] rfl kr kr kr (fun ch_ a_ w_ q_ => (fun ch_ a_ w_ q_ => hnp ch_ a_ w_ (hp77 ch_ a_ w_ q_)) ch_ a_ w_ (hp91 ch_ a_ w_ q_)) (Sg.g0 (Sx.of [] L103 HS105)) ?_
         refine doneG kr ?_ _
         refine hK96 _ _ ?_
         refine wp_seq_k fun K106 hK107 => rl ?_
         refine seqL8 kr ?_
         refine nl (hK107 _ _ ?_)
         refine wp_seq_k fun K108 hK109 => rl ?_
         refine seqL2 kr ?_
         refine seqK rfl (does_run (run_loadN (n := 3) rfl Tryz.underlying29 rfl kr (kv (.pointer (some ⟨b23, 0, none⟩))) (cs := [.int .i64 ((vt16.getD 0 default).Lo), .int .i64 ((vt16.getD 0 default).Hi), .bool ((vt16.getD 0 default).Unknown)]) rfl (HS105.u1.cells 0 3 _ rfl)) ?_)
         have hq_ := bind_some h; clear h; obtain ⟨⟨vt110, vt111⟩, hc112, h⟩ := hq_
         refine seqK rfl (does_call (f := 33) (args := #[.agg #[.int .i64 ((vt16.getD 0 default).Lo), .int .i64 ((vt16.getD 0 default).Hi), .bool ((vt16.getD 0 default).Unknown)]]) kr (query_square.calls k (vt16.getD 0 default) HS105 vt110 vt111 hc112) ?_)
         rintro _ W115 ⟨f113, rfl, L114, HS116⟩
         refine ⟨_, rfl, ?_⟩
         refine seqL5 kr ?_
         refine nl (hK109 _ _ ?_)
         refine wp_seq_k fun K117 hK118 => rl ?_
         refine seqS8 (a' := ⟨#[(ag_Box a1), (ag_Box b2), iV cos3, pV b6 0, pV b10 0, uV, iV 0, pV b23 0, .bool vt17, pV b38 0, .bool vt32, iV (w64 (0 + vt99)), iV (w64 (0 + vt100)), iV (w64 (0 + vt110)), iV (w64 (0 + vt111)), iV 0, iV 0, iV 0, iV vt110, iV vt111, uV, .tuple #[.agg #[iV ((vt16.getD 0 default).Lo), iV ((vt16.getD 0 default).Hi), .bool ((vt16.getD 0 default).Unknown), iV ((vt16.getD 1 default).Lo), iV ((vt16.getD 1 default).Hi), .bool ((vt16.getD 1 default).Unknown), iV ((vt16.getD 2 default).Lo), iV ((vt16.getD 2 default).Hi), .bool ((vt16.getD 2 default).Unknown)], .bool vt17], (ag_Box a1), .tuple #[.agg #[iV ((vt16.getD 0 default).Lo), iV ((vt16.getD 0 default).Hi), .bool ((vt16.getD 0 default).Unknown), iV ((vt16.getD 1 default).Lo), iV ((vt16.getD 1 default).Hi), .bool ((vt16.getD 1 default).Unknown), iV ((vt16.getD 2 default).Lo), iV ((vt16.getD 2 default).Hi), .bool ((vt16.getD 2 default).Unknown)], .bool vt17], .agg #[iV ((vt16.getD 0 default).Lo), iV ((vt16.getD 0 default).Hi), .bool ((vt16.getD 0 default).Unknown), iV ((vt16.getD 1 default).Lo), iV ((vt16.getD 1 default).Hi), .bool ((vt16.getD 1 default).Unknown), iV ((vt16.getD 2 default).Lo), iV ((vt16.getD 2 default).Hi), .bool ((vt16.getD 2 default).Unknown)], .bool vt17, .tuple #[.agg #[iV ((vt31.getD 0 default).Lo), iV ((vt31.getD 0 default).Hi), .bool ((vt31.getD 0 default).Unknown), iV ((vt31.getD 1 default).Lo), iV ((vt31.getD 1 default).Hi), .bool ((vt31.getD 1 default).Unknown), iV ((vt31.getD 2 default).Lo), iV ((vt31.getD 2 default).Hi), .bool ((vt31.getD 2 default).Unknown)], .bool vt32], (ag_Box b2), .tuple #[.agg #[iV ((vt31.getD 0 default).Lo), iV ((vt31.getD 0 default).Hi), .bool ((vt31.getD 0 default).Unknown), iV ((vt31.getD 1 default).Lo), iV ((vt31.getD 1 default).Hi), .bool ((vt31.getD 1 default).Unknown), iV ((vt31.getD 2 default).Lo), iV ((vt31.getD 2 default).Hi), .bool ((vt31.getD 2 default).Unknown)], .bool vt32], .agg #[iV ((vt31.getD 0 default).Lo), iV ((vt31.getD 0 default).Hi), .bool ((vt31.getD 0 default).Unknown), iV ((vt31.getD 1 default).Lo), iV ((vt31.getD 1 default).Hi), .bool ((vt31.getD 1 default).Unknown), iV ((vt31.getD 2 default).Lo), iV ((vt31.getD 2 default).Hi), .bool ((vt31.getD 2 default).Unknown)], .bool vt32, iV cos3, fV, fV, iV cos3, fV, fV, .bool vt17, fV, fV, .bool vt32, fV, fV, iV 0, tV, iV 0, .tuple #[iV vt99, iV vt100], iV 0, pV b23 0, (ag_Bound (vt16.getD 0 default)), iV 0, pV b38 0, (ag_Bound (vt31.getD 0 default)), .tuple #[iV vt99, iV vt100], iV vt99, iV vt100, iV 0, iV vt99, iV (w64 (0 + vt99)), iV 0, iV vt100, iV (w64 (0 + vt100)), .tuple #[iV vt110, iV vt111], iV 0, pV b23 0, (ag_Bound (vt16.getD 0 default)), .tuple #[iV vt110, iV vt111], iV vt110, iV vt111, iV 0, iV vt110, iV (w64 (0 + vt110)), iV 0, iV vt111, iV (w64 (0 + vt111)), uV, uV, uV, uV, uV, uV, uV, uV, uV, uV, uV, uV, uV, uV, uV, uV, uV, uV, uV, uV, uV, uV, uV, uV, uV, uV, uV, uV, uV, uV, uV, uV, uV, uV, uV, uV, uV, uV, uV, uV, uV, uV, uV, uV, uV, uV, uV, uV, uV, uV, uV, uV, uV], []⟩) kr ?_
         refine nl (hK118 _ _ ?_)
         refine wp_seq_k fun K119 hK120 => rl ?_
         refine seqL2 kr ?_
         refine seqK rfl (does_run (run_loadN (n := 3) rfl Tryz.underlying29 rfl kr (kv (.pointer (some ⟨b38, 0, none⟩))) (cs := [.int .i64 ((vt31.getD 0 default).Lo), .int .i64 ((vt31.getD 0 default).Hi), .bool ((vt31.getD 0 default).Unknown)]) rfl (HS116.cells 0 3 _ rfl)) ?_)
         have hq_ := bind_some h; clear h; obtain ⟨⟨vt121, vt122⟩, hc123, h⟩ := hq_
         refine seqK rfl (does_call (f := 33) (args := #[.agg #[.int .i64 ((vt31.getD 0 default).Lo), .int .i64 ((vt31.getD 0 default).Hi), .bool ((vt31.getD 0 default).Unknown)]]) kr (query_square.calls k (vt31.getD 0 default) HS116 vt121 vt122 hc123) ?_)
         rintro _ W126 ⟨f124, rfl, L125, HS127⟩
         refine ⟨_, rfl, ?_⟩
         refine seqL5 kr ?_
         refine nl (hK120 _ _ ?_)
         refine rl ?_
         refine seqL8 kr ?_
         refine nl ?_
         refine hn88 _ _ ?_
         refine hK85 _ _ ?_
         refine rl ?_
         refine seqL2 kr ?_
         refine nl (hK79 _ _ ?_)
         refine loopStepK (fun K128 hK129 => ?_)
         refine wp_seq_k fun K130 hK131 => rl ?_
         refine seqL1 kr ?_
         refine nl (hK131 _ _ ?_)
         refine wp_seq_k (fun K132 hK133 => ?_)
         refine condT kr ?_
         refine wp_skip ?_
         refine hK133 _ _ ?_
         refine wp_seq_k (fun K134 hK135 => ?_)
         refine blockK (fun B136 hx137 hn138 hr139 ho140 hp141 => ?_)
         refine wp_seq_k fun K143 hK144 => rl ?_
         refine seqL2 kr ?_
         refine nl (hK144 _ _ ?_)
         refine wp_seq_k (fun K145 hK146 => ?_)
         refine heldG (S := Sg t f124 ([(b38, .cells #[.int .i64 ((vt31.getD 0 default).Lo), .int .i64 ((vt31.getD 0 default).Hi), .bool ((vt31.getD 0 default).Unknown), .int .i64 ((vt31.getD 1 default).Lo), .int .i64 ((vt31.getD 1 default).Hi), .bool ((vt31.getD 1 default).Unknown), .int .i64 ((vt31.getD 2 default).Lo), .int .i64 ((vt31.getD 2 default).Hi), .bool ((vt31.getD 2 default).Unknown)] 81 (0, 0))] :: [(b23, .cells #[.int .i64 ((vt16.getD 0 default).Lo), .int .i64 ((vt16.getD 0 default).Hi), .bool ((vt16.getD 0 default).Unknown), .int .i64 ((vt16.getD 1 default).Lo), .int .i64 ((vt16.getD 1 default).Hi), .bool ((vt16.getD 1 default).Unknown), .int .i64 ((vt16.getD 2 default).Lo), .int .i64 ((vt16.getD 2 default).Hi), .bool ((vt16.getD 2 default).Unknown)] 81 (0, 0))] :: [(b10, .cells #[.int .i64 b2.X.Lo, .int .i64 b2.X.Hi, .bool b2.X.Unknown, .int .i64 b2.Y.Lo, .int .i64 b2.Y.Hi, .bool b2.Y.Unknown, .int .i64 b2.Z.Lo, .int .i64 b2.Z.Hi, .bool b2.Z.Unknown] 31 (0, 0))] :: [(b6, .cells #[.int .i64 a1.X.Lo, .int .i64 a1.X.Hi, .bool a1.X.Unknown, .int .i64 a1.Y.Lo, .int .i64 a1.Y.Hi, .bool a1.Y.Unknown, .int .i64 a1.Z.Lo, .int .i64 a1.Z.Hi, .bool a1.Z.Unknown] 31 (0, 0))] :: H) []) (n := 12) kr rfl HS127 ?_
         intro W147 HS148
         refine takeGL [0, 1] (n := 12) (fuel := 10) #[true, true, false, false, false, false, false, false, false, false, false, false] rfl kr kr kr (fun ch_ a_ w_ q_ => (fun ch_ a_ w_ q_ => hnp ch_ a_ w_ (hp77 ch_ a_ w_ q_)) ch_ a_ w_ (hp141 ch_ a_ w_ q_)) (Sg.g0 (Sx.of [] fL HS148)) ?_
         refine takeGQ 2 [] rfl kr kr kr kr kr kr (fun ch_ a_ w_ q_ => (fun ch_ a_ w_ q_ => hnp ch_ a_ w_ (hp77 ch_ a_ w_ q_)) ch_ a_ w_ (hp141 ch_ a_ w_ q_)) (Sg.g0 (Sx.of [] fL HS148)) (fun w_ hw_ => by obtain ⟨g_, hl_, hS_⟩ := hw_.st; exact run_loadN (n := 3) rfl Tryz.underlying29 rfl kr (kv (.pointer (some ⟨b23, 3, none⟩))) (cs := [.int .i64 ((vt16.getD 1 default).Lo), .int .i64 ((vt16.getD 1 default).Hi), .bool ((vt16.getD 1 default).Unknown)]) rfl (hS_.u1.cells 3 3 _ rfl)) ?_
         refine takeGL [3, 4] (n := 9) (fuel := 7) #[true, true, true, true, true, false, false, false, false, false, false, false] rfl kr kr kr (fun ch_ a_ w_ q_ => (fun ch_ a_ w_ q_ => hnp ch_ a_ w_ (hp77 ch_ a_ w_ q_)) ch_ a_ w_ (hp141 ch_ a_ w_ q_)) (Sg.g0 (Sx.of [] fL HS148)) ?_
         refine takeGQ 5 [] rfl kr kr kr kr kr kr (fun ch_ a_ w_ q_ => (fun ch_ a_ w_ q_ => hnp ch_ a_ w_ (hp77 ch_ a_ w_ q_)) ch_ a_ w_ (hp141 ch_ a_ w_ q_)) (Sg.g0 (Sx.of [] fL HS148)) (fun w_ hw_ => by obtain ⟨g_, hl_, hS_⟩ := hw_.st; exact run_loadN (n := 3) rfl Tryz.underlying29 rfl kr (kv (.pointer (some ⟨b38, 3, none⟩))) (cs := [.int .i64 ((vt31.getD 1 default).Lo), .int .i64 ((vt31.getD 1 default).Hi), .bool ((vt31.getD 1 default).Unknown)]) rfl (hS_.cells 3 3 _ rfl)) ?_
         have hq_ := bind_some h; clear h; obtain ⟨⟨vt149, vt150⟩, hc151, h⟩ := hq_
         refine takeGE 6 kr rfl kr (does_call (f := 32) (args := #[.agg #[.int .i64 ((vt16.getD 1 default).Lo), .int .i64 ((vt16.getD 1 default).Hi), .bool ((vt16.getD 1 default).Unknown)], .agg #[.int .i64 ((vt31.getD 1 default).Lo), .int .i64 ((vt31.getD 1 default).Hi), .bool ((vt31.getD 1 default).Unknown)]]) kr (query_product.calls k (vt16.getD 1 default) (vt31.getD 1 default) HS148 vt149 vt150 hc151) ?_)
         rintro _ W154 ⟨f152, rfl, L153, HS155⟩
         refine ⟨_, rfl, ?_⟩
         refine ⟨(Sg.g0 (Sx.of [] L153 HS155)), ?_⟩
         refine takeGL [7, 8, 9, 10, 11] (n := 5) (fuel := 0) #[true, true, true, true, true, true, true, true, true, true, true, true] rfl kr kr kr (fun ch_ a_ w_ q_ => (fun ch_ a_ w_ q_ => hnp ch_ a_ w_ (hp77 ch_ a_ w_ q_)) ch_ a_ w_ (hp141 ch_ a_ w_ q_)) (Sg.g0 (Sx.of [] L153 HS155)) ?_
         refine doneG kr ?_ _
         refine hK146 _ _ ?_
         refine wp_seq_k fun K156 hK157 => rl ?_
         refine seqL8 kr ?_
         refine nl (hK157 _ _ ?_)
         refine wp_seq_k fun K158 hK159 => rl ?_
         refine seqL2 kr ?_
         refine seqK rfl (does_run (run_loadN (n := 3) rfl Tryz.underlying29 rfl kr (kv (.pointer (some ⟨b23, 3, none⟩))) (cs := [.int .i64 ((vt16.getD 1 default).Lo), .int .i64 ((vt16.getD 1 default).Hi), .bool ((vt16.getD 1 default).Unknown)]) rfl (HS155.u1.cells 3 3 _ rfl)) ?_)
         have hq_ := bind_some h; clear h; obtain ⟨⟨vt160, vt161⟩, hc162, h⟩ := hq_
         refine seqK rfl (does_call (f := 33) (args := #[.agg #[.int .i64 ((vt16.getD 1 default).Lo), .int .i64 ((vt16.getD 1 default).Hi), .bool ((vt16.getD 1 default).Unknown)]]) kr (query_square.calls k (vt16.getD 1 default) HS155 vt160 vt161 hc162) ?_)
         rintro _ W165 ⟨f163, rfl, L164, HS166⟩
         refine ⟨_, rfl, ?_⟩
         refine seqL5 kr ?_
         refine nl (hK159 _ _ ?_)
         refine wp_seq_k fun K167 hK168 => rl ?_
         refine seqL8 kr ?_
         refine nl (hK168 _ _ ?_)
         refine wp_seq_k fun K169 hK170 => rl ?_
         refine seqL2 kr ?_
         refine seqK rfl (does_run (run_loadN (n := 3) rfl Tryz.underlying29 rfl kr (kv (.pointer (some ⟨b38, 3, none⟩))) (cs := [.int .i64 ((vt31.getD 1 default).Lo), .int .i64 ((vt31.getD 1 default).Hi), .bool ((vt31.getD 1 default).Unknown)]) rfl (HS166.cells 3 3 _ rfl)) ?_)
         have hq_ := bind_some h; clear h; obtain ⟨⟨vt171, vt172⟩, hc173, h⟩ := hq_
         refine seqK rfl (does_call (f := 33) (args := #[.agg #[.int .i64 ((vt31.getD 1 default).Lo), .int .i64 ((vt31.getD 1 default).Hi), .bool ((vt31.getD 1 default).Unknown)]]) kr (query_square.calls k (vt31.getD 1 default) HS166 vt171 vt172 hc173) ?_)
         rintro _ W176 ⟨f174, rfl, L175, HS177⟩
         refine ⟨_, rfl, ?_⟩
         refine seqL5 kr ?_
         refine nl (hK170 _ _ ?_)
         refine rl ?_
         refine seqS8 (a' := ⟨#[(ag_Box a1), (ag_Box b2), iV cos3, pV b6 0, pV b10 0, uV, iV 0, pV b23 0, .bool vt17, pV b38 0, .bool vt32, iV (w64 ((w64 (0 + vt99)) + vt149)), iV (w64 ((w64 (0 + vt100)) + vt150)), iV (w64 ((w64 (0 + vt110)) + vt160)), iV (w64 ((w64 (0 + vt111)) + vt161)), iV (w64 ((w64 (0 + vt121)) + vt171)), iV (w64 ((w64 (0 + vt122)) + vt172)), iV 1, iV vt171, iV vt172, uV, .tuple #[.agg #[iV ((vt16.getD 0 default).Lo), iV ((vt16.getD 0 default).Hi), .bool ((vt16.getD 0 default).Unknown), iV ((vt16.getD 1 default).Lo), iV ((vt16.getD 1 default).Hi), .bool ((vt16.getD 1 default).Unknown), iV ((vt16.getD 2 default).Lo), iV ((vt16.getD 2 default).Hi), .bool ((vt16.getD 2 default).Unknown)], .bool vt17], (ag_Box a1), .tuple #[.agg #[iV ((vt16.getD 0 default).Lo), iV ((vt16.getD 0 default).Hi), .bool ((vt16.getD 0 default).Unknown), iV ((vt16.getD 1 default).Lo), iV ((vt16.getD 1 default).Hi), .bool ((vt16.getD 1 default).Unknown), iV ((vt16.getD 2 default).Lo), iV ((vt16.getD 2 default).Hi), .bool ((vt16.getD 2 default).Unknown)], .bool vt17], .agg #[iV ((vt16.getD 0 default).Lo), iV ((vt16.getD 0 default).Hi), .bool ((vt16.getD 0 default).Unknown), iV ((vt16.getD 1 default).Lo), iV ((vt16.getD 1 default).Hi), .bool ((vt16.getD 1 default).Unknown), iV ((vt16.getD 2 default).Lo), iV ((vt16.getD 2 default).Hi), .bool ((vt16.getD 2 default).Unknown)], .bool vt17, .tuple #[.agg #[iV ((vt31.getD 0 default).Lo), iV ((vt31.getD 0 default).Hi), .bool ((vt31.getD 0 default).Unknown), iV ((vt31.getD 1 default).Lo), iV ((vt31.getD 1 default).Hi), .bool ((vt31.getD 1 default).Unknown), iV ((vt31.getD 2 default).Lo), iV ((vt31.getD 2 default).Hi), .bool ((vt31.getD 2 default).Unknown)], .bool vt32], (ag_Box b2), .tuple #[.agg #[iV ((vt31.getD 0 default).Lo), iV ((vt31.getD 0 default).Hi), .bool ((vt31.getD 0 default).Unknown), iV ((vt31.getD 1 default).Lo), iV ((vt31.getD 1 default).Hi), .bool ((vt31.getD 1 default).Unknown), iV ((vt31.getD 2 default).Lo), iV ((vt31.getD 2 default).Hi), .bool ((vt31.getD 2 default).Unknown)], .bool vt32], .agg #[iV ((vt31.getD 0 default).Lo), iV ((vt31.getD 0 default).Hi), .bool ((vt31.getD 0 default).Unknown), iV ((vt31.getD 1 default).Lo), iV ((vt31.getD 1 default).Hi), .bool ((vt31.getD 1 default).Unknown), iV ((vt31.getD 2 default).Lo), iV ((vt31.getD 2 default).Hi), .bool ((vt31.getD 2 default).Unknown)], .bool vt32, iV cos3, fV, fV, iV cos3, fV, fV, .bool vt17, fV, fV, .bool vt32, fV, fV, iV 1, tV, iV 1, .tuple #[iV vt149, iV vt150], iV 1, pV b23 3, (ag_Bound (vt16.getD 1 default)), iV 1, pV b38 3, (ag_Bound (vt31.getD 1 default)), .tuple #[iV vt149, iV vt150], iV vt149, iV vt150, iV (w64 (0 + vt99)), iV vt149, iV (w64 ((w64 (0 + vt99)) + vt149)), iV (w64 (0 + vt100)), iV vt150, iV (w64 ((w64 (0 + vt100)) + vt150)), .tuple #[iV vt160, iV vt161], iV 1, pV b23 3, (ag_Bound (vt16.getD 1 default)), .tuple #[iV vt160, iV vt161], iV vt160, iV vt161, iV (w64 (0 + vt110)), iV vt160, iV (w64 ((w64 (0 + vt110)) + vt160)), iV (w64 (0 + vt111)), iV vt161, iV (w64 ((w64 (0 + vt111)) + vt161)), .tuple #[iV vt171, iV vt172], iV 1, pV b38 3, (ag_Bound (vt31.getD 1 default)), .tuple #[iV vt171, iV vt172], iV vt171, iV vt172, iV (w64 (0 + vt121)), iV vt171, iV (w64 ((w64 (0 + vt121)) + vt171)), iV (w64 (0 + vt122)), iV vt172, iV (w64 ((w64 (0 + vt122)) + vt172)), iV 1, uV, uV, uV, uV, uV, uV, uV, uV, uV, uV, uV, uV, uV, uV, uV, uV, uV, uV, uV, uV, uV, uV, uV, uV, uV, uV, uV, uV, uV, uV, uV, uV, uV, uV, uV, uV, uV, uV, uV], []⟩) kr ?_
         refine nl ?_
         refine hn138 _ _ ?_
         refine hK135 _ _ ?_
         refine rl ?_
         refine seqL2 kr ?_
         refine nl (hK129 _ _ ?_)
         refine loopStepK (fun K178 hK179 => ?_)
         refine wp_seq_k fun K180 hK181 => rl ?_
         refine seqL1 kr ?_
         refine nl (hK181 _ _ ?_)
         refine wp_seq_k (fun K182 hK183 => ?_)
         refine condT kr ?_
         refine wp_skip ?_
         refine hK183 _ _ ?_
         refine wp_seq_k (fun K184 hK185 => ?_)
         refine blockK (fun B186 hx187 hn188 hr189 ho190 hp191 => ?_)
         refine wp_seq_k fun K193 hK194 => rl ?_
         refine seqL2 kr ?_
         refine nl (hK194 _ _ ?_)
         refine wp_seq_k (fun K195 hK196 => ?_)
         refine heldG (S := Sg t f174 ([(b38, .cells #[.int .i64 ((vt31.getD 0 default).Lo), .int .i64 ((vt31.getD 0 default).Hi), .bool ((vt31.getD 0 default).Unknown), .int .i64 ((vt31.getD 1 default).Lo), .int .i64 ((vt31.getD 1 default).Hi), .bool ((vt31.getD 1 default).Unknown), .int .i64 ((vt31.getD 2 default).Lo), .int .i64 ((vt31.getD 2 default).Hi), .bool ((vt31.getD 2 default).Unknown)] 81 (0, 0))] :: [(b23, .cells #[.int .i64 ((vt16.getD 0 default).Lo), .int .i64 ((vt16.getD 0 default).Hi), .bool ((vt16.getD 0 default).Unknown), .int .i64 ((vt16.getD 1 default).Lo), .int .i64 ((vt16.getD 1 default).Hi), .bool ((vt16.getD 1 default).Unknown), .int .i64 ((vt16.getD 2 default).Lo), .int .i64 ((vt16.getD 2 default).Hi), .bool ((vt16.getD 2 default).Unknown)] 81 (0, 0))] :: [(b10, .cells #[.int .i64 b2.X.Lo, .int .i64 b2.X.Hi, .bool b2.X.Unknown, .int .i64 b2.Y.Lo, .int .i64 b2.Y.Hi, .bool b2.Y.Unknown, .int .i64 b2.Z.Lo, .int .i64 b2.Z.Hi, .bool b2.Z.Unknown] 31 (0, 0))] :: [(b6, .cells #[.int .i64 a1.X.Lo, .int .i64 a1.X.Hi, .bool a1.X.Unknown, .int .i64 a1.Y.Lo, .int .i64 a1.Y.Hi, .bool a1.Y.Unknown, .int .i64 a1.Z.Lo, .int .i64 a1.Z.Hi, .bool a1.Z.Unknown] 31 (0, 0))] :: H) []) (n := 12) kr rfl HS177 ?_
         intro W197 HS198
         refine takeGL [0, 1] (n := 12) (fuel := 10) #[true, true, false, false, false, false, false, false, false, false, false, false] rfl kr kr kr (fun ch_ a_ w_ q_ => (fun ch_ a_ w_ q_ => hnp ch_ a_ w_ (hp77 ch_ a_ w_ q_)) ch_ a_ w_ (hp191 ch_ a_ w_ q_)) (Sg.g0 (Sx.of [] fL HS198)) ?_
         refine takeGQ 2 [] rfl kr kr kr kr kr kr (fun ch_ a_ w_ q_ => (fun ch_ a_ w_ q_ => hnp ch_ a_ w_ (hp77 ch_ a_ w_ q_)) ch_ a_ w_ (hp191 ch_ a_ w_ q_)) (Sg.g0 (Sx.of [] fL HS198)) (fun w_ hw_ => by obtain ⟨g_, hl_, hS_⟩ := hw_.st; exact run_loadN (n := 3) rfl Tryz.underlying29 rfl kr (kv (.pointer (some ⟨b23, 6, none⟩))) (cs := [.int .i64 ((vt16.getD 2 default).Lo), .int .i64 ((vt16.getD 2 default).Hi), .bool ((vt16.getD 2 default).Unknown)]) rfl (hS_.u1.cells 6 3 _ rfl)) ?_
         refine takeGL [3, 4] (n := 9) (fuel := 7) #[true, true, true, true, true, false, false, false, false, false, false, false] rfl kr kr kr (fun ch_ a_ w_ q_ => (fun ch_ a_ w_ q_ => hnp ch_ a_ w_ (hp77 ch_ a_ w_ q_)) ch_ a_ w_ (hp191 ch_ a_ w_ q_)) (Sg.g0 (Sx.of [] fL HS198)) ?_
         refine takeGQ 5 [] rfl kr kr kr kr kr kr (fun ch_ a_ w_ q_ => (fun ch_ a_ w_ q_ => hnp ch_ a_ w_ (hp77 ch_ a_ w_ q_)) ch_ a_ w_ (hp191 ch_ a_ w_ q_)) (Sg.g0 (Sx.of [] fL HS198)) (fun w_ hw_ => by obtain ⟨g_, hl_, hS_⟩ := hw_.st; exact run_loadN (n := 3) rfl Tryz.underlying29 rfl kr (kv (.pointer (some ⟨b38, 6, none⟩))) (cs := [.int .i64 ((vt31.getD 2 default).Lo), .int .i64 ((vt31.getD 2 default).Hi), .bool ((vt31.getD 2 default).Unknown)]) rfl (hS_.cells 6 3 _ rfl)) ?_
         have hq_ := bind_some h; clear h; obtain ⟨⟨vt199, vt200⟩, hc201, h⟩ := hq_
         refine takeGE 6 kr rfl kr (does_call (f := 32) (args := #[.agg #[.int .i64 ((vt16.getD 2 default).Lo), .int .i64 ((vt16.getD 2 default).Hi), .bool ((vt16.getD 2 default).Unknown)], .agg #[.int .i64 ((vt31.getD 2 default).Lo), .int .i64 ((vt31.getD 2 default).Hi), .bool ((vt31.getD 2 default).Unknown)]]) kr (query_product.calls k (vt16.getD 2 default) (vt31.getD 2 default) HS198 vt199 vt200 hc201) ?_)
         rintro _ W204 ⟨f202, rfl, L203, HS205⟩
         refine ⟨_, rfl, ?_⟩
         refine ⟨(Sg.g0 (Sx.of [] L203 HS205)), ?_⟩
         refine takeGL [7, 8, 9, 10, 11] (n := 5) (fuel := 0) #[true, true, true, true, true, true, true, true, true, true, true, true] rfl kr kr kr (fun ch_ a_ w_ q_ => (fun ch_ a_ w_ q_ => hnp ch_ a_ w_ (hp77 ch_ a_ w_ q_)) ch_ a_ w_ (hp191 ch_ a_ w_ q_)) (Sg.g0 (Sx.of [] L203 HS205)) ?_
         refine doneG kr ?_ _
         refine hK196 _ _ ?_
         refine wp_seq_k fun K206 hK207 => rl ?_
         refine seqL8 kr ?_
         refine nl (hK207 _ _ ?_)
         refine wp_seq_k fun K208 hK209 => rl ?_
         refine seqL2 kr ?_
         refine seqK rfl (does_run (run_loadN (n := 3) rfl Tryz.underlying29 rfl kr (kv (.pointer (some ⟨b23, 6, none⟩))) (cs := [.int .i64 ((vt16.getD 2 default).Lo), .int .i64 ((vt16.getD 2 default).Hi), .bool ((vt16.getD 2 default).Unknown)]) rfl (HS205.u1.cells 6 3 _ rfl)) ?_)
         have hq_ := bind_some h; clear h; obtain ⟨⟨vt210, vt211⟩, hc212, h⟩ := hq_
         refine seqK rfl (does_call (f := 33) (args := #[.agg #[.int .i64 ((vt16.getD 2 default).Lo), .int .i64 ((vt16.getD 2 default).Hi), .bool ((vt16.getD 2 default).Unknown)]]) kr (query_square.calls k (vt16.getD 2 default) HS205 vt210 vt211 hc212) ?_)
         rintro _ W215 ⟨f213, rfl, L214, HS216⟩
         refine ⟨_, rfl, ?_⟩
         refine seqL5 kr ?_
         refine nl (hK209 _ _ ?_)
         refine wp_seq_k fun K217 hK218 => rl ?_
         refine seqL8 kr ?_
         refine nl (hK218 _ _ ?_)
         refine wp_seq_k fun K219 hK220 => rl ?_
         refine seqL2 kr ?_
         refine seqK rfl (does_run (run_loadN (n := 3) rfl Tryz.underlying29 rfl kr (kv (.pointer (some ⟨b38, 6, none⟩))) (cs := [.int .i64 ((vt31.getD 2 default).Lo), .int .i64 ((vt31.getD 2 default).Hi), .bool ((vt31.getD 2 default).Unknown)]) rfl (HS216.cells 6 3 _ rfl)) ?_)
         have hq_ := bind_some h; clear h; obtain ⟨⟨vt221, vt222⟩, hc223, h⟩ := hq_
         refine seqK rfl (does_call (f := 33) (args := #[.agg #[.int .i64 ((vt31.getD 2 default).Lo), .int .i64 ((vt31.getD 2 default).Hi), .bool ((vt31.getD 2 default).Unknown)]]) kr (query_square.calls k (vt31.getD 2 default) HS216 vt221 vt222 hc223) ?_)
         rintro _ W226 ⟨f224, rfl, L225, HS227⟩
         refine ⟨_, rfl, ?_⟩
         refine seqL5 kr ?_
         refine nl (hK220 _ _ ?_)
         refine rl ?_
         refine seqL8 kr ?_
         refine nl ?_
         refine hn188 _ _ ?_
         refine hK185 _ _ ?_
         refine rl ?_
         refine seqL2 kr ?_
         refine nl (hK179 _ _ ?_)
         refine loopStepK (fun K228 hK229 => ?_)
         refine wp_seq_k fun K230 hK231 => rl ?_
         refine seqL1 kr ?_
         refine nl (hK231 _ _ ?_)
         refine wp_seq_k (fun K232 hK233 => ?_)
         refine condF kr ?_
         refine wp_exit ?_
         refine hx73 _ _ ?_
         refine hK69 _ _ ?_
         refine wp_seq_k fun K234 hK235 => rl ?_
         have hq_ := bind_some h; clear h; obtain ⟨vt236, hc237, h⟩ := hq_
         refine seqL2 kr ?_
         refine seqK rfl (does_call (f := 34) (args := #[.int .i64 (w64 ((w64 ((w64 (0 + vt111)) + vt161)) + vt211)), .int .i64 (w64 ((w64 ((w64 (0 + vt122)) + vt172)) + vt222))]) kr (num_SqrtMul.calls k (w64 ((w64 ((w64 (0 + vt111)) + vt161)) + vt211)) (w64 ((w64 ((w64 (0 + vt122)) + vt172)) + vt222)) HS227 vt236 hc237) ?_)
         rintro _ W240 ⟨f238, rfl, L239, HS241⟩
         refine ⟨_, rfl, ?_⟩
         refine seqL1 kr ?_
         refine nl (hK235 _ _ ?_)
         refine wp_seq_k (fun K242 hK243 => ?_)
         refine wp_seq_k fun K244 hK245 => rl ?_
         have hq_ := bind_some h; clear h; obtain ⟨vt246, hc247, h⟩ := hq_
         refine seqL2 kr ?_
         refine seqK rfl (does_call (f := 35) (args := #[.int .i64 vt236, .int .i64 vt236]) kr (num_Product.calls k vt236 vt236 HS241 vt246 hc247) ?_)
         rintro _ W250 ⟨f248, rfl, L249, HS251⟩
         refine ⟨_, rfl, ?_⟩
         have hq_ := bind_some h; clear h; obtain ⟨vt252, hc253, h⟩ := hq_
         refine seqL2 kr ?_
         refine seqK rfl (does_call (f := 35) (args := #[.int .i64 (w64 ((w64 ((w64 (0 + vt111)) + vt161)) + vt211)), .int .i64 (w64 ((w64 ((w64 (0 + vt122)) + vt172)) + vt222))]) kr (num_Product.calls k (w64 ((w64 ((w64 (0 + vt111)) + vt161)) + vt211)) (w64 ((w64 ((w64 (0 + vt122)) + vt172)) + vt222)) HS251 vt252 hc253) ?_)
         rintro _ W256 ⟨f254, rfl, L255, HS257⟩
         refine ⟨_, rfl, ?_⟩
         have hq_ := bind_some h; clear h; obtain ⟨vt258, hc259, h⟩ := hq_
         refine seqK rfl (does_call (f := 36) (args := #[.agg #[.int .i64 vt246.Hi, .int .u64 vt246.Lo], .agg #[.int .i64 vt252.Hi, .int .u64 vt252.Lo]]) kr (num_Wide_Cmp.calls k vt246 vt252 HS257 vt258 hc259) ?_)
         rintro _ W262 ⟨f260, rfl, L261, HS263⟩
         refine ⟨_, rfl, ?_⟩
         refine seqS1 (a' := ⟨#[(ag_Box a1), (ag_Box b2), iV cos3, pV b6 0, pV b10 0, uV, iV 0, pV b23 0, .bool vt17, pV b38 0, .bool vt32, iV (w64 ((w64 ((w64 (0 + vt99)) + vt149)) + vt199)), iV (w64 ((w64 ((w64 (0 + vt100)) + vt150)) + vt200)), iV (w64 ((w64 ((w64 (0 + vt110)) + vt160)) + vt210)), iV (w64 ((w64 ((w64 (0 + vt111)) + vt161)) + vt211)), iV (w64 ((w64 ((w64 (0 + vt121)) + vt171)) + vt221)), iV (w64 ((w64 ((w64 (0 + vt122)) + vt172)) + vt222)), iV 2, iV vt221, iV vt222, iV vt236, .tuple #[.agg #[iV ((vt16.getD 0 default).Lo), iV ((vt16.getD 0 default).Hi), .bool ((vt16.getD 0 default).Unknown), iV ((vt16.getD 1 default).Lo), iV ((vt16.getD 1 default).Hi), .bool ((vt16.getD 1 default).Unknown), iV ((vt16.getD 2 default).Lo), iV ((vt16.getD 2 default).Hi), .bool ((vt16.getD 2 default).Unknown)], .bool vt17], (ag_Box a1), .tuple #[.agg #[iV ((vt16.getD 0 default).Lo), iV ((vt16.getD 0 default).Hi), .bool ((vt16.getD 0 default).Unknown), iV ((vt16.getD 1 default).Lo), iV ((vt16.getD 1 default).Hi), .bool ((vt16.getD 1 default).Unknown), iV ((vt16.getD 2 default).Lo), iV ((vt16.getD 2 default).Hi), .bool ((vt16.getD 2 default).Unknown)], .bool vt17], .agg #[iV ((vt16.getD 0 default).Lo), iV ((vt16.getD 0 default).Hi), .bool ((vt16.getD 0 default).Unknown), iV ((vt16.getD 1 default).Lo), iV ((vt16.getD 1 default).Hi), .bool ((vt16.getD 1 default).Unknown), iV ((vt16.getD 2 default).Lo), iV ((vt16.getD 2 default).Hi), .bool ((vt16.getD 2 default).Unknown)], .bool vt17, .tuple #[.agg #[iV ((vt31.getD 0 default).Lo), iV ((vt31.getD 0 default).Hi), .bool ((vt31.getD 0 default).Unknown), iV ((vt31.getD 1 default).Lo), iV ((vt31.getD 1 default).Hi), .bool ((vt31.getD 1 default).Unknown), iV ((vt31.getD 2 default).Lo), iV ((vt31.getD 2 default).Hi), .bool ((vt31.getD 2 default).Unknown)], .bool vt32], (ag_Box b2), .tuple #[.agg #[iV ((vt31.getD 0 default).Lo), iV ((vt31.getD 0 default).Hi), .bool ((vt31.getD 0 default).Unknown), iV ((vt31.getD 1 default).Lo), iV ((vt31.getD 1 default).Hi), .bool ((vt31.getD 1 default).Unknown), iV ((vt31.getD 2 default).Lo), iV ((vt31.getD 2 default).Hi), .bool ((vt31.getD 2 default).Unknown)], .bool vt32], .agg #[iV ((vt31.getD 0 default).Lo), iV ((vt31.getD 0 default).Hi), .bool ((vt31.getD 0 default).Unknown), iV ((vt31.getD 1 default).Lo), iV ((vt31.getD 1 default).Hi), .bool ((vt31.getD 1 default).Unknown), iV ((vt31.getD 2 default).Lo), iV ((vt31.getD 2 default).Hi), .bool ((vt31.getD 2 default).Unknown)], .bool vt32, iV cos3, fV, fV, iV cos3, fV, fV, .bool vt17, fV, fV, .bool vt32, fV, fV, iV 3, fV, iV 2, .tuple #[iV vt199, iV vt200], iV 2, pV b23 6, (ag_Bound (vt16.getD 2 default)), iV 2, pV b38 6, (ag_Bound (vt31.getD 2 default)), .tuple #[iV vt199, iV vt200], iV vt199, iV vt200, iV (w64 ((w64 (0 + vt99)) + vt149)), iV vt199, iV (w64 ((w64 ((w64 (0 + vt99)) + vt149)) + vt199)), iV (w64 ((w64 (0 + vt100)) + vt150)), iV vt200, iV (w64 ((w64 ((w64 (0 + vt100)) + vt150)) + vt200)), .tuple #[iV vt210, iV vt211], iV 2, pV b23 6, (ag_Bound (vt16.getD 2 default)), .tuple #[iV vt210, iV vt211], iV vt210, iV vt211, iV (w64 ((w64 (0 + vt110)) + vt160)), iV vt210, iV (w64 ((w64 ((w64 (0 + vt110)) + vt160)) + vt210)), iV (w64 ((w64 (0 + vt111)) + vt161)), iV vt211, iV (w64 ((w64 ((w64 (0 + vt111)) + vt161)) + vt211)), .tuple #[iV vt221, iV vt222], iV 2, pV b38 6, (ag_Bound (vt31.getD 2 default)), .tuple #[iV vt221, iV vt222], iV vt221, iV vt222, iV (w64 ((w64 (0 + vt121)) + vt171)), iV vt221, iV (w64 ((w64 ((w64 (0 + vt121)) + vt171)) + vt221)), iV (w64 ((w64 (0 + vt122)) + vt172)), iV vt222, iV (w64 ((w64 ((w64 (0 + vt122)) + vt172)) + vt222)), iV 3, iV (w64 ((w64 ((w64 (0 + vt111)) + vt161)) + vt211)), iV (w64 ((w64 ((w64 (0 + vt122)) + vt172)) + vt222)), iV vt236, iV vt236, iV vt236, .agg #[iV vt246.Hi, .int .u64 vt246.Lo], iV (w64 ((w64 ((w64 (0 + vt111)) + vt161)) + vt211)), iV (w64 ((w64 ((w64 (0 + vt122)) + vt172)) + vt222)), .agg #[iV vt252.Hi, .int .u64 vt252.Lo], iV vt258, .bool (decide (vt258 < 0)), uV, uV, uV, uV, uV, uV, uV, uV, uV, uV, uV, uV, uV, uV, uV, uV, uV, uV, uV, uV, uV, uV, uV, uV, uV, uV, uV, uV], []⟩) kr ?_
         refine nl (hK245 _ _ ?_)
         have hq_ := bind_some h; clear h; obtain ⟨v264, hv272, h⟩ := hq_
         have J273 : ∀ (f266 : FM) (root271 : Int) (j270 : Nat → Value) (W268 : World) (a_ : Act), FM.le f260 f266 → some (root271) = some v264 → St t W268 f266 ([(b38, .cells #[.int .i64 ((vt31.getD 0 default).Lo), .int .i64 ((vt31.getD 0 default).Hi), .bool ((vt31.getD 0 default).Unknown), .int .i64 ((vt31.getD 1 default).Lo), .int .i64 ((vt31.getD 1 default).Hi), .bool ((vt31.getD 1 default).Unknown), .int .i64 ((vt31.getD 2 default).Lo), .int .i64 ((vt31.getD 2 default).Hi), .bool ((vt31.getD 2 default).Unknown)] 81 (0, 0))] :: [(b23, .cells #[.int .i64 ((vt16.getD 0 default).Lo), .int .i64 ((vt16.getD 0 default).Hi), .bool ((vt16.getD 0 default).Unknown), .int .i64 ((vt16.getD 1 default).Lo), .int .i64 ((vt16.getD 1 default).Hi), .bool ((vt16.getD 1 default).Unknown), .int .i64 ((vt16.getD 2 default).Lo), .int .i64 ((vt16.getD 2 default).Hi), .bool ((vt16.getD 2 default).Unknown)] 81 (0, 0))] :: [(b10, .cells #[.int .i64 b2.X.Lo, .int .i64 b2.X.Hi, .bool b2.X.Unknown, .int .i64 b2.Y.Lo, .int .i64 b2.Y.Hi, .bool b2.Y.Unknown, .int .i64 b2.Z.Lo, .int .i64 b2.Z.Hi, .bool b2.Z.Unknown] 31 (0, 0))] :: [(b6, .cells #[.int .i64 a1.X.Lo, .int .i64 a1.X.Hi, .bool a1.X.Unknown, .int .i64 a1.Y.Lo, .int .i64 a1.Y.Hi, .bool a1.Y.Unknown, .int .i64 a1.Z.Lo, .int .i64 a1.Z.Hi, .bool a1.Z.Unknown] 31 (0, 0))] :: H) → a_ = ⟨#[(ag_Box a1), (ag_Box b2), iV cos3, pV b6 0, pV b10 0, uV, iV 0, pV b23 0, .bool vt17, pV b38 0, .bool vt32, iV (w64 ((w64 ((w64 (0 + vt99)) + vt149)) + vt199)), iV (w64 ((w64 ((w64 (0 + vt100)) + vt150)) + vt200)), iV (w64 ((w64 ((w64 (0 + vt110)) + vt160)) + vt210)), iV (w64 ((w64 ((w64 (0 + vt111)) + vt161)) + vt211)), iV (w64 ((w64 ((w64 (0 + vt121)) + vt171)) + vt221)), iV (w64 ((w64 ((w64 (0 + vt122)) + vt172)) + vt222)), iV 2, iV vt221, iV vt222, iV root271, .tuple #[.agg #[iV ((vt16.getD 0 default).Lo), iV ((vt16.getD 0 default).Hi), .bool ((vt16.getD 0 default).Unknown), iV ((vt16.getD 1 default).Lo), iV ((vt16.getD 1 default).Hi), .bool ((vt16.getD 1 default).Unknown), iV ((vt16.getD 2 default).Lo), iV ((vt16.getD 2 default).Hi), .bool ((vt16.getD 2 default).Unknown)], .bool vt17], (ag_Box a1), .tuple #[.agg #[iV ((vt16.getD 0 default).Lo), iV ((vt16.getD 0 default).Hi), .bool ((vt16.getD 0 default).Unknown), iV ((vt16.getD 1 default).Lo), iV ((vt16.getD 1 default).Hi), .bool ((vt16.getD 1 default).Unknown), iV ((vt16.getD 2 default).Lo), iV ((vt16.getD 2 default).Hi), .bool ((vt16.getD 2 default).Unknown)], .bool vt17], .agg #[iV ((vt16.getD 0 default).Lo), iV ((vt16.getD 0 default).Hi), .bool ((vt16.getD 0 default).Unknown), iV ((vt16.getD 1 default).Lo), iV ((vt16.getD 1 default).Hi), .bool ((vt16.getD 1 default).Unknown), iV ((vt16.getD 2 default).Lo), iV ((vt16.getD 2 default).Hi), .bool ((vt16.getD 2 default).Unknown)], .bool vt17, .tuple #[.agg #[iV ((vt31.getD 0 default).Lo), iV ((vt31.getD 0 default).Hi), .bool ((vt31.getD 0 default).Unknown), iV ((vt31.getD 1 default).Lo), iV ((vt31.getD 1 default).Hi), .bool ((vt31.getD 1 default).Unknown), iV ((vt31.getD 2 default).Lo), iV ((vt31.getD 2 default).Hi), .bool ((vt31.getD 2 default).Unknown)], .bool vt32], (ag_Box b2), .tuple #[.agg #[iV ((vt31.getD 0 default).Lo), iV ((vt31.getD 0 default).Hi), .bool ((vt31.getD 0 default).Unknown), iV ((vt31.getD 1 default).Lo), iV ((vt31.getD 1 default).Hi), .bool ((vt31.getD 1 default).Unknown), iV ((vt31.getD 2 default).Lo), iV ((vt31.getD 2 default).Hi), .bool ((vt31.getD 2 default).Unknown)], .bool vt32], .agg #[iV ((vt31.getD 0 default).Lo), iV ((vt31.getD 0 default).Hi), .bool ((vt31.getD 0 default).Unknown), iV ((vt31.getD 1 default).Lo), iV ((vt31.getD 1 default).Hi), .bool ((vt31.getD 1 default).Unknown), iV ((vt31.getD 2 default).Lo), iV ((vt31.getD 2 default).Hi), .bool ((vt31.getD 2 default).Unknown)], .bool vt32, iV cos3, fV, fV, iV cos3, fV, fV, .bool vt17, fV, fV, .bool vt32, fV, fV, iV 3, fV, iV 2, .tuple #[iV vt199, iV vt200], iV 2, pV b23 6, (ag_Bound (vt16.getD 2 default)), iV 2, pV b38 6, (ag_Bound (vt31.getD 2 default)), .tuple #[iV vt199, iV vt200], iV vt199, iV vt200, iV (w64 ((w64 (0 + vt99)) + vt149)), iV vt199, iV (w64 ((w64 ((w64 (0 + vt99)) + vt149)) + vt199)), iV (w64 ((w64 (0 + vt100)) + vt150)), iV vt200, iV (w64 ((w64 ((w64 (0 + vt100)) + vt150)) + vt200)), .tuple #[iV vt210, iV vt211], iV 2, pV b23 6, (ag_Bound (vt16.getD 2 default)), .tuple #[iV vt210, iV vt211], iV vt210, iV vt211, iV (w64 ((w64 (0 + vt110)) + vt160)), iV vt210, iV (w64 ((w64 ((w64 (0 + vt110)) + vt160)) + vt210)), iV (w64 ((w64 (0 + vt111)) + vt161)), iV vt211, iV (w64 ((w64 ((w64 (0 + vt111)) + vt161)) + vt211)), .tuple #[iV vt221, iV vt222], iV 2, pV b38 6, (ag_Bound (vt31.getD 2 default)), .tuple #[iV vt221, iV vt222], iV vt221, iV vt222, iV (w64 ((w64 (0 + vt121)) + vt171)), iV vt221, iV (w64 ((w64 ((w64 (0 + vt121)) + vt171)) + vt221)), iV (w64 ((w64 (0 + vt122)) + vt172)), iV vt222, iV (w64 ((w64 ((w64 (0 + vt122)) + vt172)) + vt222)), iV 3, iV (w64 ((w64 ((w64 (0 + vt111)) + vt161)) + vt211)), iV (w64 ((w64 ((w64 (0 + vt122)) + vt172)) + vt222)), iV vt236, iV vt236, iV vt236, .agg #[iV vt246.Hi, .int .u64 vt246.Lo], iV (w64 ((w64 ((w64 (0 + vt111)) + vt161)) + vt211)), iV (w64 ((w64 ((w64 (0 + vt122)) + vt172)) + vt222)), .agg #[iV vt252.Hi, .int .u64 vt252.Lo], iV vt258, .bool (decide (vt258 < 0)), (j270 0), (j270 1), uV, uV, uV, uV, uV, uV, uV, uV, uV, uV, uV, uV, uV, uV, uV, uV, uV, uV, uV, uV, uV, uV, uV, uV, uV, uV], []⟩ → K242 a_ W268 := by
          intro f266 root271 j270 W268 a_ L267 hj274 HS269  hfr_; subst hfr_
          injection hj274 with hj274; subst hj274; try dsimp only at h
          refine hK243 _ _ ?_
          refine wp_seq_k (fun K275 hK276 => ?_)
          refine blockK (fun B277 hx278 hn279 hr280 ho281 hp282 => ?_)
          refine wp_seq_k fun K284 hK285 => rl ?_
          refine seqL3 kr ?_
          have hq_ := ite_some h; clear h; rcases hq_ with ⟨c286, h⟩ | ⟨c286, h⟩
          · have c286 : (w64 ((w64 ((w64 (0 + vt110)) + vt160)) + vt210)) > 0 := c286
            refine seqRwI 104 kr (decide_eq_true c286) ?_
            refine seqRwI 105 kr (decide_eq_true c286) ?_
            refine seqL4 kr ?_
            have hq_ := ite_some h; clear h; rcases hq_ with ⟨c287, h⟩ | ⟨c287, h⟩
            · have c287 : (w64 ((w64 ((w64 (0 + vt121)) + vt171)) + vt221)) > 0 := c287
              refine seqRwI 107 kr (decide_eq_true c287) ?_
              refine seqRwI 108 kr (decide_eq_true c287) ?_
              refine seqRwI 109 kr (decide_eq_true c287) ?_
              have hq_ := bind_some h; clear h; obtain ⟨vt288, hc289, h⟩ := hq_
              refine seqL1 kr ?_
              refine seqG kr (does_call (f := 35) (args := #[.int .i64 (w64 ((w64 ((w64 (0 + vt99)) + vt149)) + vt199)), .int .i64 1073741824]) kr (num_Product.calls k (w64 ((w64 ((w64 (0 + vt99)) + vt149)) + vt199)) 1073741824 HS269 vt288 hc289) ?_)
              rintro _ W292 ⟨f290, rfl, L291, HS293⟩
              refine ⟨_, rfl, ?_⟩
              have hq_ := bind_some h; clear h; obtain ⟨vt294, hc295, h⟩ := hq_
              refine seqL2 kr ?_
              refine seqG kr (does_call (f := 35) (args := #[.int .i64 cos3, .int .i64 root271]) kr (num_Product.calls k cos3 root271 HS293 vt294 hc295) ?_)
              rintro _ W298 ⟨f296, rfl, L297, HS299⟩
              refine ⟨_, rfl, ?_⟩
              have hq_ := bind_some h; clear h; obtain ⟨vt300, hc301, h⟩ := hq_
              refine seqG kr (does_call (f := 36) (args := #[.agg #[.int .i64 vt288.Hi, .int .u64 vt288.Lo], .agg #[.int .i64 vt294.Hi, .int .u64 vt294.Lo]]) kr (num_Wide_Cmp.calls k vt288 vt294 HS299 vt300 hc301) ?_)
              rintro _ W304 ⟨f302, rfl, L303, HS305⟩
              refine ⟨_, rfl, ?_⟩
              refine seqL3 kr ?_
              refine nl (hK285 _ _ ?_)
              have hq_ := ite_some h; clear h; rcases hq_ with ⟨c307, h⟩ | ⟨c307, h⟩
              · have c307 : vt300 ≥ 0 := c307
                refine wpRwI 102 kr (decide_eq_true c307) ?_
                refine wpRwI 116 kr (decide_eq_true c307) ?_
                refine wpRwI 117 kr (decide_eq_true c307) ?_
                refine condT kr ?_
                refine wp_seq_k fun K308 hK309 => rl ?_
                refine seqL1 kr ?_
                refine nl (hK309 _ _ ?_)
                refine wp_ret ?_
                refine hr280 _ _ ?_
                refine hret _ _ ?_
                refine ends_still (v := Value.int .i64 2) kr kr ?_
                have HS422 := HS305.drop
                have HS423 := HS422.drop
                have HS424 := HS423.drop
                have HS425 := HS424.drop
                injection h with h
                subst h
                exact ⟨f302, rfl, (L20.trans (L35.trans (L103.trans (L114.trans (L125.trans (L153.trans (L164.trans (L175.trans (L203.trans (L214.trans (L225.trans (L239.trans (L249.trans (L255.trans (L261.trans (L267.trans (L291.trans (L297.trans L303)))))))))))))))))), HS425⟩
              · have c307 : ¬ (vt300 ≥ 0) := c307
                refine wpRwI 102 kr (decide_eq_false c307) ?_
                refine wpRwI 116 kr (decide_eq_false c307) ?_
                refine wpRwI 117 kr (decide_eq_false c307) ?_
                refine condF kr ?_
                refine wp_seq_k fun K310 hK311 => rl ?_
                have hq_ := bind_some h; clear h; obtain ⟨vt312, hc313, h⟩ := hq_
                refine seqL1 kr ?_
                refine seqK rfl (does_call (f := 35) (args := #[.int .i64 (w64 ((w64 ((w64 (0 + vt100)) + vt150)) + vt200)), .int .i64 1073741824]) kr (num_Product.calls k (w64 ((w64 ((w64 (0 + vt100)) + vt150)) + vt200)) 1073741824 HS305 vt312 hc313) ?_)
                rintro _ W316 ⟨f314, rfl, L315, HS317⟩
                refine ⟨_, rfl, ?_⟩
                have hq_ := bind_some h; clear h; obtain ⟨vt318, hc319, h⟩ := hq_
                refine seqL3 kr ?_
                refine seqK rfl (does_call (f := 34) (args := #[.int .i64 (w64 ((w64 ((w64 (0 + vt110)) + vt160)) + vt210)), .int .i64 (w64 ((w64 ((w64 (0 + vt121)) + vt171)) + vt221))]) kr (num_SqrtMul.calls k (w64 ((w64 ((w64 (0 + vt110)) + vt160)) + vt210)) (w64 ((w64 ((w64 (0 + vt121)) + vt171)) + vt221)) HS317 vt318 hc319) ?_)
                rintro _ W322 ⟨f320, rfl, L321, HS323⟩
                refine ⟨_, rfl, ?_⟩
                have hq_ := bind_some h; clear h; obtain ⟨vt324, hc325, h⟩ := hq_
                refine seqK rfl (does_call (f := 35) (args := #[.int .i64 cos3, .int .i64 vt318]) kr (num_Product.calls k cos3 vt318 HS323 vt324 hc325) ?_)
                rintro _ W328 ⟨f326, rfl, L327, HS329⟩
                refine ⟨_, rfl, ?_⟩
                have hq_ := bind_some h; clear h; obtain ⟨vt330, hc331, h⟩ := hq_
                refine seqK rfl (does_call (f := 36) (args := #[.agg #[.int .i64 vt312.Hi, .int .u64 vt312.Lo], .agg #[.int .i64 vt324.Hi, .int .u64 vt324.Lo]]) kr (num_Wide_Cmp.calls k vt312 vt324 HS329 vt330 hc331) ?_)
                rintro _ W334 ⟨f332, rfl, L333, HS335⟩
                refine ⟨_, rfl, ?_⟩
                refine seqL2 kr ?_
                refine nl (hK311 _ _ ?_)
                have hq_ := ite_some h; clear h; rcases hq_ with ⟨c337, h⟩ | ⟨c337, h⟩
                · have c337 : vt330 < 0 := c337
                  refine wpRwI 118 kr (decide_eq_true c337) ?_
                  refine wpRwI 127 kr (decide_eq_true c337) ?_
                  refine condT kr ?_
                  refine wp_seq_k fun K338 hK339 => rl ?_
                  refine seqL1 kr ?_
                  refine nl (hK339 _ _ ?_)
                  refine wp_ret ?_
                  refine hr280 _ _ ?_
                  refine hret _ _ ?_
                  refine ends_still (v := Value.int .i64 0) kr kr ?_
                  have HS426 := HS335.drop
                  have HS427 := HS426.drop
                  have HS428 := HS427.drop
                  have HS429 := HS428.drop
                  injection h with h
                  subst h
                  exact ⟨f332, rfl, (L20.trans (L35.trans (L103.trans (L114.trans (L125.trans (L153.trans (L164.trans (L175.trans (L203.trans (L214.trans (L225.trans (L239.trans (L249.trans (L255.trans (L261.trans (L267.trans (L291.trans (L297.trans (L303.trans (L315.trans (L321.trans (L327.trans L333)))))))))))))))))))))), HS429⟩
                · have c337 : ¬ (vt330 < 0) := c337
                  refine wpRwI 118 kr (decide_eq_false c337) ?_
                  refine wpRwI 127 kr (decide_eq_false c337) ?_
                  refine condF kr ?_
                  refine wp_skip ?_
                  refine hn279 _ _ ?_
                  refine hK276 _ _ ?_
                  refine wp_seq_k fun K400 hK401 => rl ?_
                  refine seqL1 kr ?_
                  refine nl (hK401 _ _ ?_)
                  refine wp_ret ?_
                  refine hret _ _ ?_
                  refine ends_still (v := Value.int .i64 1) kr kr ?_
                  have HS438 := HS335.drop
                  have HS439 := HS438.drop
                  have HS440 := HS439.drop
                  have HS441 := HS440.drop
                  injection h with h
                  subst h
                  exact ⟨f332, rfl, (L20.trans (L35.trans (L103.trans (L114.trans (L125.trans (L153.trans (L164.trans (L175.trans (L203.trans (L214.trans (L225.trans (L239.trans (L249.trans (L255.trans (L261.trans (L267.trans (L291.trans (L297.trans (L303.trans (L315.trans (L321.trans (L327.trans L333)))))))))))))))))))))), HS441⟩
            · have c287 : ¬ ((w64 ((w64 ((w64 (0 + vt121)) + vt171)) + vt221)) > 0) := c287
              refine seqRwI 107 kr (decide_eq_false c287) ?_
              refine seqRwI 108 kr (decide_eq_false c287) ?_
              refine seqRwI 109 kr (decide_eq_false c287) ?_
              refine seqL9 kr ?_
              refine nl (hK285 _ _ ?_)
              refine condF kr ?_
              refine wp_seq_k fun K340 hK341 => rl ?_
              have hq_ := bind_some h; clear h; obtain ⟨vt342, hc343, h⟩ := hq_
              refine seqL1 kr ?_
              refine seqK rfl (does_call (f := 35) (args := #[.int .i64 (w64 ((w64 ((w64 (0 + vt100)) + vt150)) + vt200)), .int .i64 1073741824]) kr (num_Product.calls k (w64 ((w64 ((w64 (0 + vt100)) + vt150)) + vt200)) 1073741824 HS269 vt342 hc343) ?_)
              rintro _ W346 ⟨f344, rfl, L345, HS347⟩
              refine ⟨_, rfl, ?_⟩
              have hq_ := bind_some h; clear h; obtain ⟨vt348, hc349, h⟩ := hq_
              refine seqL3 kr ?_
              refine seqK rfl (does_call (f := 34) (args := #[.int .i64 (w64 ((w64 ((w64 (0 + vt110)) + vt160)) + vt210)), .int .i64 (w64 ((w64 ((w64 (0 + vt121)) + vt171)) + vt221))]) kr (num_SqrtMul.calls k (w64 ((w64 ((w64 (0 + vt110)) + vt160)) + vt210)) (w64 ((w64 ((w64 (0 + vt121)) + vt171)) + vt221)) HS347 vt348 hc349) ?_)
              rintro _ W352 ⟨f350, rfl, L351, HS353⟩
              refine ⟨_, rfl, ?_⟩
              have hq_ := bind_some h; clear h; obtain ⟨vt354, hc355, h⟩ := hq_
              refine seqK rfl (does_call (f := 35) (args := #[.int .i64 cos3, .int .i64 vt348]) kr (num_Product.calls k cos3 vt348 HS353 vt354 hc355) ?_)
              rintro _ W358 ⟨f356, rfl, L357, HS359⟩
              refine ⟨_, rfl, ?_⟩
              have hq_ := bind_some h; clear h; obtain ⟨vt360, hc361, h⟩ := hq_
              refine seqK rfl (does_call (f := 36) (args := #[.agg #[.int .i64 vt342.Hi, .int .u64 vt342.Lo], .agg #[.int .i64 vt354.Hi, .int .u64 vt354.Lo]]) kr (num_Wide_Cmp.calls k vt342 vt354 HS359 vt360 hc361) ?_)
              rintro _ W364 ⟨f362, rfl, L363, HS365⟩
              refine ⟨_, rfl, ?_⟩
              refine seqL2 kr ?_
              refine nl (hK341 _ _ ?_)
              have hq_ := ite_some h; clear h; rcases hq_ with ⟨c367, h⟩ | ⟨c367, h⟩
              · have c367 : vt360 < 0 := c367
                refine wpRwI 118 kr (decide_eq_true c367) ?_
                refine wpRwI 127 kr (decide_eq_true c367) ?_
                refine condT kr ?_
                refine wp_seq_k fun K368 hK369 => rl ?_
                refine seqL1 kr ?_
                refine nl (hK369 _ _ ?_)
                refine wp_ret ?_
                refine hr280 _ _ ?_
                refine hret _ _ ?_
                refine ends_still (v := Value.int .i64 0) kr kr ?_
                have HS430 := HS365.drop
                have HS431 := HS430.drop
                have HS432 := HS431.drop
                have HS433 := HS432.drop
                injection h with h
                subst h
                exact ⟨f362, rfl, (L20.trans (L35.trans (L103.trans (L114.trans (L125.trans (L153.trans (L164.trans (L175.trans (L203.trans (L214.trans (L225.trans (L239.trans (L249.trans (L255.trans (L261.trans (L267.trans (L345.trans (L351.trans (L357.trans L363))))))))))))))))))), HS433⟩
              · have c367 : ¬ (vt360 < 0) := c367
                refine wpRwI 118 kr (decide_eq_false c367) ?_
                refine wpRwI 127 kr (decide_eq_false c367) ?_
                refine condF kr ?_
                refine wp_skip ?_
                refine hn279 _ _ ?_
                refine hK276 _ _ ?_
                refine wp_seq_k fun K402 hK403 => rl ?_
                refine seqL1 kr ?_
                refine nl (hK403 _ _ ?_)
                refine wp_ret ?_
                refine hret _ _ ?_
                refine ends_still (v := Value.int .i64 1) kr kr ?_
                have HS442 := HS365.drop
                have HS443 := HS442.drop
                have HS444 := HS443.drop
                have HS445 := HS444.drop
                injection h with h
                subst h
                exact ⟨f362, rfl, (L20.trans (L35.trans (L103.trans (L114.trans (L125.trans (L153.trans (L164.trans (L175.trans (L203.trans (L214.trans (L225.trans (L239.trans (L249.trans (L255.trans (L261.trans (L267.trans (L345.trans (L351.trans (L357.trans L363))))))))))))))))))), HS445⟩
          · have c286 : ¬ ((w64 ((w64 ((w64 (0 + vt110)) + vt160)) + vt210)) > 0) := c286
            refine seqRwI 104 kr (decide_eq_false c286) ?_
            refine seqRwI 105 kr (decide_eq_false c286) ?_
            refine seqL13 kr ?_
            refine nl (hK285 _ _ ?_)
            refine condF kr ?_
            refine wp_seq_k fun K370 hK371 => rl ?_
            have hq_ := bind_some h; clear h; obtain ⟨vt372, hc373, h⟩ := hq_
            refine seqL1 kr ?_
            refine seqK rfl (does_call (f := 35) (args := #[.int .i64 (w64 ((w64 ((w64 (0 + vt100)) + vt150)) + vt200)), .int .i64 1073741824]) kr (num_Product.calls k (w64 ((w64 ((w64 (0 + vt100)) + vt150)) + vt200)) 1073741824 HS269 vt372 hc373) ?_)
            rintro _ W376 ⟨f374, rfl, L375, HS377⟩
            refine ⟨_, rfl, ?_⟩
            have hq_ := bind_some h; clear h; obtain ⟨vt378, hc379, h⟩ := hq_
            refine seqL3 kr ?_
            refine seqK rfl (does_call (f := 34) (args := #[.int .i64 (w64 ((w64 ((w64 (0 + vt110)) + vt160)) + vt210)), .int .i64 (w64 ((w64 ((w64 (0 + vt121)) + vt171)) + vt221))]) kr (num_SqrtMul.calls k (w64 ((w64 ((w64 (0 + vt110)) + vt160)) + vt210)) (w64 ((w64 ((w64 (0 + vt121)) + vt171)) + vt221)) HS377 vt378 hc379) ?_)
            rintro _ W382 ⟨f380, rfl, L381, HS383⟩
            refine ⟨_, rfl, ?_⟩
            have hq_ := bind_some h; clear h; obtain ⟨vt384, hc385, h⟩ := hq_
            refine seqK rfl (does_call (f := 35) (args := #[.int .i64 cos3, .int .i64 vt378]) kr (num_Product.calls k cos3 vt378 HS383 vt384 hc385) ?_)
            rintro _ W388 ⟨f386, rfl, L387, HS389⟩
            refine ⟨_, rfl, ?_⟩
            have hq_ := bind_some h; clear h; obtain ⟨vt390, hc391, h⟩ := hq_
            refine seqK rfl (does_call (f := 36) (args := #[.agg #[.int .i64 vt372.Hi, .int .u64 vt372.Lo], .agg #[.int .i64 vt384.Hi, .int .u64 vt384.Lo]]) kr (num_Wide_Cmp.calls k vt372 vt384 HS389 vt390 hc391) ?_)
            rintro _ W394 ⟨f392, rfl, L393, HS395⟩
            refine ⟨_, rfl, ?_⟩
            refine seqL2 kr ?_
            refine nl (hK371 _ _ ?_)
            have hq_ := ite_some h; clear h; rcases hq_ with ⟨c397, h⟩ | ⟨c397, h⟩
            · have c397 : vt390 < 0 := c397
              refine wpRwI 118 kr (decide_eq_true c397) ?_
              refine wpRwI 127 kr (decide_eq_true c397) ?_
              refine condT kr ?_
              refine wp_seq_k fun K398 hK399 => rl ?_
              refine seqL1 kr ?_
              refine nl (hK399 _ _ ?_)
              refine wp_ret ?_
              refine hr280 _ _ ?_
              refine hret _ _ ?_
              refine ends_still (v := Value.int .i64 0) kr kr ?_
              have HS434 := HS395.drop
              have HS435 := HS434.drop
              have HS436 := HS435.drop
              have HS437 := HS436.drop
              injection h with h
              subst h
              exact ⟨f392, rfl, (L20.trans (L35.trans (L103.trans (L114.trans (L125.trans (L153.trans (L164.trans (L175.trans (L203.trans (L214.trans (L225.trans (L239.trans (L249.trans (L255.trans (L261.trans (L267.trans (L375.trans (L381.trans (L387.trans L393))))))))))))))))))), HS437⟩
            · have c397 : ¬ (vt390 < 0) := c397
              refine wpRwI 118 kr (decide_eq_false c397) ?_
              refine wpRwI 127 kr (decide_eq_false c397) ?_
              refine condF kr ?_
              refine wp_skip ?_
              refine hn279 _ _ ?_
              refine hK276 _ _ ?_
              refine wp_seq_k fun K404 hK405 => rl ?_
              refine seqL1 kr ?_
              refine nl (hK405 _ _ ?_)
              refine wp_ret ?_
              refine hret _ _ ?_
              refine ends_still (v := Value.int .i64 1) kr kr ?_
              have HS446 := HS395.drop
              have HS447 := HS446.drop
              have HS448 := HS447.drop
              have HS449 := HS448.drop
              injection h with h
              subst h
              exact ⟨f392, rfl, (L20.trans (L35.trans (L103.trans (L114.trans (L125.trans (L153.trans (L164.trans (L175.trans (L203.trans (L214.trans (L225.trans (L239.trans (L249.trans (L255.trans (L261.trans (L267.trans (L375.trans (L381.trans (L387.trans L393))))))))))))))))))), HS449⟩
         clear h; have h := hv272; clear hv272
         have hq_ := ite_some h; clear h; rcases hq_ with ⟨c265, h⟩ | ⟨c265, h⟩
         · have c265 : vt258 < 0 := c265
           refine wpRwI 99 kr (decide_eq_true c265) ?_
           refine condT kr ?_
           refine rl ?_
           refine seqL3 kr ?_
           refine nl ?_
           refine fnRwI (F := K242) 99 (x := true) (v := (decide (vt258 < 0))) kr (Eq.symm (decide_eq_true c265)) ?_
           exact J273 f260 (w64 (vt236 + 1)) (jL [iV vt236, iV (w64 (vt236 + 1))]) W262 _ fL h HS263 kr
         · have c265 : ¬ (vt258 < 0) := c265
           refine wpRwI 99 kr (decide_eq_false c265) ?_
           refine condF kr ?_
           refine wp_skip ?_
           refine fnRwI (F := K242) 99 (x := false) (v := (decide (vt258 < 0))) kr (Eq.symm (decide_eq_false c265)) ?_
           exact J273 f260 vt236 (jL []) W262 _ fL h HS263 kr

set_option maxRecDepth 100000 in
set_option maxHeartbeats 4000000 in
theorem query_grade.calls (k : Nat) (A2 : Option Addr) (c3 : Nat) (A6 : Option Addr) (c7 : Nat) (r1 : S_Row) (q5 : S_Ask) {t w : World} {f : FM} {H : List Seg} (HS : St t w f (H)) (HR4 : SlR (tInt .i64) f A2 c3 r1.Frames) (HR8 : SlR ty_Cone f A6 c7 q5.Cones) (rr1 : Int) (h : query_grade k r1 q5 = some rr1) :
    Calls Tryz.prog 44 #[.agg #[.int .i64 r1.ID, .int .i64 r1.Box.X.Lo, .int .i64 r1.Box.X.Hi, .bool r1.Box.X.Unknown, .int .i64 r1.Box.Y.Lo, .int .i64 r1.Box.Y.Hi, .bool r1.Box.Y.Unknown, .int .i64 r1.Box.Z.Lo, .int .i64 r1.Box.Z.Hi, .bool r1.Box.Z.Unknown, .int .i64 r1.Flux.Lo, .int .i64 r1.Flux.Hi, .bool r1.Flux.Unknown, .int .i64 r1.When.Lo, .int .i64 r1.When.Hi, .bool r1.When.Unknown, .slice A2 r1.Frames.length c3, .int .i64 r1.Marks], .agg #[.slice A6 q5.Cones.length c7, .int .i64 q5.From, .int .i64 q5.To, .int .i64 q5.Least, .int .i64 q5.Ban]] w (fun e w' => ∃ (g : FM), e = .returned (Value.int .i64 rr1) ∧ FM.le f g ∧ St t w' g (H)) := by
 unfold query_grade at h
 refine enter Tryz.func44 rfl (tm := #[(ag_Row r1 A2 c3), (ag_Ask q5 A6 c7), uV, uV, uV, uV, uV, uV, uV, uV, uV, uV, uV, uV, uV, uV, uV, uV, uV, uV, uV, uV, uV, uV, uV, uV, uV, uV, uV, uV, uV, uV, uV, uV, uV, uV, uV, uV, uV, uV, uV, uV, uV, uV, uV, uV]) kr ?_
 intro B hret hnor hnp
 refine wp_seq_k fun K9 hK10 => rl ?_
 refine seqK rfl (does_box (cs := #[.int .i64 r1.ID, .int .i64 r1.Box.X.Lo, .int .i64 r1.Box.X.Hi, .bool r1.Box.X.Unknown, .int .i64 r1.Box.Y.Lo, .int .i64 r1.Box.Y.Hi, .bool r1.Box.Y.Unknown, .int .i64 r1.Box.Z.Lo, .int .i64 r1.Box.Z.Hi, .bool r1.Box.Z.Unknown, .int .i64 r1.Flux.Lo, .int .i64 r1.Flux.Hi, .bool r1.Flux.Unknown, .int .i64 r1.When.Lo, .int .i64 r1.When.Hi, .bool r1.When.Unknown, .slice A2 r1.Frames.length c3, .int .i64 r1.Marks]) rfl (kv (.agg #[.int .i64 r1.ID, .int .i64 r1.Box.X.Lo, .int .i64 r1.Box.X.Hi, .bool r1.Box.X.Unknown, .int .i64 r1.Box.Y.Lo, .int .i64 r1.Box.Y.Hi, .bool r1.Box.Y.Unknown, .int .i64 r1.Box.Z.Lo, .int .i64 r1.Box.Z.Hi, .bool r1.Box.Z.Unknown, .int .i64 r1.Flux.Lo, .int .i64 r1.Flux.Hi, .bool r1.Flux.Unknown, .int .i64 r1.When.Lo, .int .i64 r1.When.Hi, .bool r1.When.Unknown, .slice A2 r1.Frames.length c3, .int .i64 r1.Marks])) rfl HS ?_)
 intro b11 W12 HS13
 refine seqK rfl (does_box (cs := #[.slice A6 q5.Cones.length c7, .int .i64 q5.From, .int .i64 q5.To, .int .i64 q5.Least, .int .i64 q5.Ban]) rfl (kv (.agg #[.slice A6 q5.Cones.length c7, .int .i64 q5.From, .int .i64 q5.To, .int .i64 q5.Least, .int .i64 q5.Ban])) rfl HS13 ?_)
 intro b15 W16 HS17
 refine seqL1 kr ?_
 refine nl (hK10 _ _ ?_)
 refine wp_seq_k (fun K19 hK20 => ?_)
 refine heldG (S := Sg t f ([(b15, .cells #[.slice A6 q5.Cones.length c7, .int .i64 q5.From, .int .i64 q5.To, .int .i64 q5.Least, .int .i64 q5.Ban] 51 (0, 0))] :: [(b11, .cells #[.int .i64 r1.ID, .int .i64 r1.Box.X.Lo, .int .i64 r1.Box.X.Hi, .bool r1.Box.X.Unknown, .int .i64 r1.Box.Y.Lo, .int .i64 r1.Box.Y.Hi, .bool r1.Box.Y.Unknown, .int .i64 r1.Box.Z.Lo, .int .i64 r1.Box.Z.Hi, .bool r1.Box.Z.Unknown, .int .i64 r1.Flux.Lo, .int .i64 r1.Flux.Hi, .bool r1.Flux.Unknown, .int .i64 r1.When.Lo, .int .i64 r1.When.Hi, .bool r1.When.Unknown, .slice A2 r1.Frames.length c3, .int .i64 r1.Marks] 99 (0, 0))] :: H) []) (n := 14) kr rfl HS17 ?_
 intro W21 HS22
 refine takeGL [0] (n := 14) (fuel := 13) #[true, false, false, false, false, false, false, false, false, false, false, false, false, false] rfl kr kr kr hnp (Sg.g0 (Sx.of [] fL HS22)) ?_
 refine takeGQ 1 [] rfl kr kr kr kr kr kr hnp (Sg.g0 (Sx.of [] fL HS22)) (fun w_ hw_ => by obtain ⟨g_, hl_, hS_⟩ := hw_.st; exact run_loadN (n := 3) rfl Tryz.underlying97 rfl kr (kv (.pointer (some ⟨b11, 13, none⟩))) (cs := [.int .i64 r1.When.Lo, .int .i64 r1.When.Hi, .bool r1.When.Unknown]) rfl (hS_.u1.cells 13 3 _ rfl)) ?_
 refine takeGL [2] (n := 12) (fuel := 11) #[true, true, true, false, false, false, false, false, false, false, false, false, false, false] rfl kr kr kr hnp (Sg.g0 (Sx.of [] fL HS22)) ?_
 refine takeGQ 3 [] rfl kr kr kr kr kr kr hnp (Sg.g0 (Sx.of [] fL HS22)) (fun w_ hw_ => by obtain ⟨g_, hl_, hS_⟩ := hw_.st; exact run_load rfl Tryz.underlying48 rfl (kv (.pointer (some ⟨b15, 1, none⟩))) (hS_.cell 1)) ?_
 refine takeGL [4] (n := 10) (fuel := 9) #[true, true, true, true, true, false, false, false, false, false, false, false, false, false] rfl kr kr kr hnp (Sg.g0 (Sx.of [] fL HS22)) ?_
 refine takeGQ 5 [] rfl kr kr kr kr kr kr hnp (Sg.g0 (Sx.of [] fL HS22)) (fun w_ hw_ => by obtain ⟨g_, hl_, hS_⟩ := hw_.st; exact run_load rfl Tryz.underlying48 rfl (kv (.pointer (some ⟨b15, 2, none⟩))) (hS_.cell 2)) ?_
 refine takeGL [7] (n := 8) (fuel := 7) #[true, true, true, true, true, true, false, true, false, false, false, false, false, false] rfl kr kr kr hnp (Sg.g0 (Sx.of [] fL HS22)) ?_
 refine takeGQ 8 [] rfl kr kr kr kr kr kr hnp (Sg.g0 (Sx.of [] fL HS22)) (fun w_ hw_ => by obtain ⟨g_, hl_, hS_⟩ := hw_.st; exact run_loadN (n := 3) rfl Tryz.underlying95 rfl kr (kv (.pointer (some ⟨b11, 10, none⟩))) (cs := [.int .i64 r1.Flux.Lo, .int .i64 r1.Flux.Hi, .bool r1.Flux.Unknown]) rfl (hS_.u1.cells 10 3 _ rfl)) ?_
 refine takeGL [9] (n := 6) (fuel := 5) #[true, true, true, true, true, true, false, true, true, true, false, false, false, false] rfl kr kr kr hnp (Sg.g0 (Sx.of [] fL HS22)) ?_
 refine takeGQ 10 [] rfl kr kr kr kr kr kr hnp (Sg.g0 (Sx.of [] fL HS22)) (fun w_ hw_ => by obtain ⟨g_, hl_, hS_⟩ := hw_.st; exact run_load rfl Tryz.underlying49 rfl (kv (.pointer (some ⟨b15, 3, none⟩))) (hS_.cell 3)) ?_
 have hq_ := bind_some h; clear h; obtain ⟨vt23, hc24, h⟩ := hq_
 refine takeGE 6 kr rfl kr (does_call (f := 54) (args := #[.agg #[.int .i64 r1.When.Lo, .int .i64 r1.When.Hi, .bool r1.When.Unknown], .int .i64 q5.From, .int .i64 q5.To]) kr (query_between_Tick.calls k r1.When q5.From q5.To HS22 vt23 hc24) ?_)
 rintro _ W27 ⟨f25, rfl, L26, HS28⟩
 refine ⟨_, rfl, ?_⟩
 refine ⟨(Sg.g0 (Sx.of [] L26 HS28)), ?_⟩
 have hq_ := bind_some h; clear h; obtain ⟨vt29, hc30, h⟩ := hq_
 refine takeGE 11 kr rfl kr (does_call (f := 74) (args := #[.agg #[.int .i64 r1.Flux.Lo, .int .i64 r1.Flux.Hi, .bool r1.Flux.Unknown], .int .i64 q5.Least, .int .i64 1125899906842624]) kr (query_between_Quanta.calls k r1.Flux q5.Least 1125899906842624 HS28 vt29 hc30) ?_)
 rintro _ W33 ⟨f31, rfl, L32, HS34⟩
 refine ⟨_, rfl, ?_⟩
 refine ⟨(Sg.g0 (Sx.of [] (L26.trans L32) HS34)), ?_⟩
 refine takeGL [12, 13] (n := 2) (fuel := 0) #[true, true, true, true, true, true, true, true, true, true, true, true, true, true] rfl kr kr kr hnp (Sg.g0 (Sx.of [] (L26.trans L32) HS34)) ?_
 refine doneG kr ?_ _
 refine hK20 _ _ ?_
 refine wp_seq_k (fun K35 hK36 => ?_)
 refine wp_seq_k fun K37 hK38 => rl ?_
 refine seqL1 kr ?_
 refine seqK rfl (does_run (run_load rfl Tryz.underlying3 rfl (kv (.pointer (some ⟨b11, 17, none⟩))) (HS34.u1.cell 17)) ?_)
 refine seqL1 kr ?_
 refine seqK rfl (does_run (run_load rfl Tryz.underlying3 rfl (kv (.pointer (some ⟨b15, 4, none⟩))) (HS34.cell 4)) ?_)
 refine seqL2 kr ?_
 refine nl (hK38 _ _ ?_)
 have hq_ := bind_some h; clear h; obtain ⟨v39, hv47, h⟩ := hq_
 have J48 : ∀ (f41 : FM) (vg46 : Int) (W43 : World) (a_ : Act), FM.le f31 f41 → some (vg46) = some v39 → St t W43 f41 ([(b15, .cells #[.slice A6 q5.Cones.length c7, .int .i64 q5.From, .int .i64 q5.To, .int .i64 q5.Least, .int .i64 q5.Ban] 51 (0, 0))] :: [(b11, .cells #[.int .i64 r1.ID, .int .i64 r1.Box.X.Lo, .int .i64 r1.Box.X.Hi, .bool r1.Box.X.Unknown, .int .i64 r1.Box.Y.Lo, .int .i64 r1.Box.Y.Hi, .bool r1.Box.Y.Unknown, .int .i64 r1.Box.Z.Lo, .int .i64 r1.Box.Z.Hi, .bool r1.Box.Z.Unknown, .int .i64 r1.Flux.Lo, .int .i64 r1.Flux.Hi, .bool r1.Flux.Unknown, .int .i64 r1.When.Lo, .int .i64 r1.When.Hi, .bool r1.When.Unknown, .slice A2 r1.Frames.length c3, .int .i64 r1.Marks] 99 (0, 0))] :: H) → a_ = ⟨#[(ag_Row r1 A2 c3), (ag_Ask q5 A6 c7), pV b11 0, pV b15 0, iV 0, iV vg46, uV, uV, pV b11 13, (ag_Bound r1.When), pV b15 1, iV q5.From, pV b15 2, iV q5.To, iV vt23, pV b11 10, (ag_Bound r1.Flux), pV b15 3, iV q5.Least, iV vt29, iV (mn vt23 vt29), pV b11 17, iV r1.Marks, pV b15 4, iV q5.Ban, iV (Go.bits .and .i64 r1.Marks q5.Ban), .bool ((Go.bits .and .i64 r1.Marks q5.Ban) != 0), uV, uV, uV, uV, uV, uV, uV, uV, uV, uV, uV, uV, uV, uV, uV, uV, uV, uV, uV], []⟩ → K35 a_ W43 := by
  intro f41 vg46 W43 a_ L42 hj49 HS44  hfr_; subst hfr_
  injection hj49 with hj49; subst hj49; try dsimp only at h
  refine hK36 _ _ ?_
  refine wp_seq_k (fun K50 hK51 => ?_)
  refine wp_seq_k fun K52 hK53 => rl ?_
  refine seqL1 kr ?_
  refine seqK rfl (does_run (run_load rfl Tryz.underlying47 rfl (kv (.pointer (some ⟨b15, 0, none⟩))) (HS44.cell 0)) ?_)
  refine seqL2 kr ?_
  refine nl (hK53 _ _ ?_)
  refine blockK (fun B54 hx55 hn56 hr57 ho58 hp59 => ?_)
  have hq_ := bind_some h; clear h; obtain ⟨o60, hv121, h⟩ := hq_
  have J122 : ∀ (f115 : FM) (vg120 : Int) (j119 : Nat → Value) (W117 : World) (a_ : Act), FM.le f41 f115 → some (vg120) = some o60 → St t W117 f115 ([(b15, .cells #[.slice A6 q5.Cones.length c7, .int .i64 q5.From, .int .i64 q5.To, .int .i64 q5.Least, .int .i64 q5.Ban] 51 (0, 0))] :: [(b11, .cells #[.int .i64 r1.ID, .int .i64 r1.Box.X.Lo, .int .i64 r1.Box.X.Hi, .bool r1.Box.X.Unknown, .int .i64 r1.Box.Y.Lo, .int .i64 r1.Box.Y.Hi, .bool r1.Box.Y.Unknown, .int .i64 r1.Box.Z.Lo, .int .i64 r1.Box.Z.Hi, .bool r1.Box.Z.Unknown, .int .i64 r1.Flux.Lo, .int .i64 r1.Flux.Hi, .bool r1.Flux.Unknown, .int .i64 r1.When.Lo, .int .i64 r1.When.Hi, .bool r1.When.Unknown, .slice A2 r1.Frames.length c3, .int .i64 r1.Marks] 99 (0, 0))] :: H) → a_ = ⟨#[(ag_Row r1 A2 c3), (ag_Ask q5 A6 c7), pV b11 0, pV b15 0, iV 0, iV vg120, uV, (j119 0), pV b11 13, (ag_Bound r1.When), pV b15 1, iV q5.From, pV b15 2, iV q5.To, iV vt23, pV b11 10, (ag_Bound r1.Flux), pV b15 3, iV q5.Least, iV vt29, iV (mn vt23 vt29), pV b11 17, iV r1.Marks, pV b15 4, iV q5.Ban, iV (Go.bits .and .i64 r1.Marks q5.Ban), .bool ((Go.bits .and .i64 r1.Marks q5.Ban) != 0), pV b15 0, .slice A6 q5.Cones.length c7, iV (q5.Cones.length : Int), (j119 1), (j119 2), (j119 3), (j119 4), (j119 5), (j119 6), (j119 7), (j119 8), (j119 9), (j119 10), (j119 11), (j119 12), (j119 13), (j119 14), (j119 15), uV], []⟩ → K50 a_ W117 := by
   intro f115 vg120 j119 W117 a_ L116 hj123 HS118  hfr_; subst hfr_
   injection hj123 with hj123; subst hj123; try dsimp only at h
   refine hK51 _ _ ?_
   refine wp_seq_k fun K128 hK129 => rl ?_
   refine seqL2 kr ?_
   refine nl (hK129 _ _ ?_)
   refine wp_ret ?_
   refine hret _ _ ?_
   refine ends_still (v := Value.int .i64 vg120) kr kr ?_
   have HS130 := HS118.drop
   have HS131 := HS130.drop
   injection h with h
   subst h
   exact ⟨f115, rfl, (L26.trans (L32.trans (L42.trans L116))), HS131⟩
  clear h; have h := hv121; clear hv121
  refine loopK (fun n_ a_ w_ => ∃ (f64 : FM) (vg69 : Int) (x70 : Int) (j68 : Nat → Value), FM.le f41 f64 ∧ St t w_ f64 ([(b15, .cells #[.slice A6 q5.Cones.length c7, .int .i64 q5.From, .int .i64 q5.To, .int .i64 q5.Least, .int .i64 q5.Ban] 51 (0, 0))] :: [(b11, .cells #[.int .i64 r1.ID, .int .i64 r1.Box.X.Lo, .int .i64 r1.Box.X.Hi, .bool r1.Box.X.Unknown, .int .i64 r1.Box.Y.Lo, .int .i64 r1.Box.Y.Hi, .bool r1.Box.Y.Unknown, .int .i64 r1.Box.Z.Lo, .int .i64 r1.Box.Z.Hi, .bool r1.Box.Z.Unknown, .int .i64 r1.Flux.Lo, .int .i64 r1.Flux.Hi, .bool r1.Flux.Unknown, .int .i64 r1.When.Lo, .int .i64 r1.When.Hi, .bool r1.When.Unknown, .slice A2 r1.Frames.length c3, .int .i64 r1.Marks] 99 (0, 0))] :: H) ∧ query_grade.l0 k q5 r1 n_ vg69 x70 = some o60 ∧ a_ = ⟨#[(ag_Row r1 A2 c3), (ag_Ask q5 A6 c7), pV b11 0, pV b15 0, iV 0, iV vg69, uV, (j68 0), pV b11 13, (ag_Bound r1.When), pV b15 1, iV q5.From, pV b15 2, iV q5.To, iV vt23, pV b11 10, (ag_Bound r1.Flux), pV b15 3, iV q5.Least, iV vt29, iV (mn vt23 vt29), pV b11 17, iV r1.Marks, pV b15 4, iV q5.Ban, iV (Go.bits .and .i64 r1.Marks q5.Ban), .bool ((Go.bits .and .i64 r1.Marks q5.Ban) != 0), pV b15 0, .slice A6 q5.Cones.length c7, iV (q5.Cones.length : Int), iV x70, (j68 1), (j68 2), (j68 3), (j68 4), (j68 5), (j68 6), (j68 7), (j68 8), (j68 9), (j68 10), (j68 11), (j68 12), (j68 13), (j68 14), uV], []⟩) k ⟨f41, vg46, 0, (jL []), fL, HS44, h, kr⟩ ?_
  clear h
  rintro n63 _ W66 ⟨f64, vg69, x70, j68, L65, HS67, h, rfl⟩ K61 hK62
  obtain _ | n63 := n63
  · exact nomatch h
  simp only [query_grade.l0] at h
  refine wp_seq_k fun K71 hK72 => rl ?_
  refine seqL1 kr ?_
  refine nl (hK72 _ _ ?_)
  refine wp_seq_k (fun K73 hK74 => ?_)
  have hq_ := ite_some h; clear h; rcases hq_ with ⟨c76, h⟩ | ⟨c76, h⟩
  · have c76 : x70 < (q5.Cones.length : Int) := c76
    refine wpRwI 31 kr (decide_eq_true c76) ?_
    refine condT kr ?_
    refine wp_skip ?_
    refine hK74 _ _ ?_
    refine wp_seq_k (fun K77 hK78 => ?_)
    refine blockK (fun B79 hx80 hn81 hr82 ho83 hp84 => ?_)
    refine wp_seq_k fun K86 hK87 => rl ?_
    have hq_ := guard_some h; clear h; obtain ⟨c88, h⟩ := hq_
    have c88 : 0 ≤ x70 := c88
    obtain ⟨b92, of93, cs89, hA94, hr90, hc91⟩ := (HR8.mono (L26.trans (L32.trans (L42.trans L65)))).at (i := x70) c88 c76
    obtain rfl := hr90
    refine seqK rfl (does_run (run_indexE hA94 (sz := 4) rfl Tryz.underlying47 kr (kv (.slice A6 q5.Cones.length c7)) (kv (.int .i64 x70)) c88 c76 W66) ?_)
    refine seqK rfl (does_run (run_loadN (n := 4) rfl Tryz.underlying55 rfl kr (kv (.pointer (some ⟨b92, of93 + (x70 : Int).toNat * 4, none⟩))) (cs := [.int .i64 (((rd q5.Cones x70).At).X), .int .i64 (((rd q5.Cones x70).At).Y), .int .i64 (((rd q5.Cones x70).At).Z), .int .i64 ((rd q5.Cones x70).Cos)]) rfl (fun j_ hj_ => ((hc91 fL HS67) j_ hj_))) ?_)
    refine seqK rfl (does_alloc (z := Value.agg #[.int .i64 0, .int .i64 0, .int .i64 0, .int .i64 0]) (cs := #[.int .i64 0, .int .i64 0, .int .i64 0, .int .i64 0]) rfl kr rfl HS67 ?_)
    intro b95 W96 HS97
    refine seqK rfl (does_storeA (vs := [.int .i64 (((rd q5.Cones x70).At).X), .int .i64 (((rd q5.Cones x70).At).Y), .int .i64 (((rd q5.Cones x70).At).Z), .int .i64 ((rd q5.Cones x70).Cos)]) rfl kr kr kr rfl (ones rfl) HS97 kr ?_)
    intro W99 HS100
    refine nl (hK87 _ _ ?_)
    refine heldG (S := Sg t f64 ([(b95, .cells #[.int .i64 (((rd q5.Cones x70).At).X), .int .i64 (((rd q5.Cones x70).At).Y), .int .i64 (((rd q5.Cones x70).At).Z), .int .i64 ((rd q5.Cones x70).Cos)] 55 (0, 0))] :: [(b15, .cells #[.slice A6 q5.Cones.length c7, .int .i64 q5.From, .int .i64 q5.To, .int .i64 q5.Least, .int .i64 q5.Ban] 51 (0, 0))] :: [(b11, .cells #[.int .i64 r1.ID, .int .i64 r1.Box.X.Lo, .int .i64 r1.Box.X.Hi, .bool r1.Box.X.Unknown, .int .i64 r1.Box.Y.Lo, .int .i64 r1.Box.Y.Hi, .bool r1.Box.Y.Unknown, .int .i64 r1.Box.Z.Lo, .int .i64 r1.Box.Z.Hi, .bool r1.Box.Z.Unknown, .int .i64 r1.Flux.Lo, .int .i64 r1.Flux.Hi, .bool r1.Flux.Unknown, .int .i64 r1.When.Lo, .int .i64 r1.When.Hi, .bool r1.When.Unknown, .slice A2 r1.Frames.length c3, .int .i64 r1.Marks] 99 (0, 0))] :: H) []) (n := 11) kr rfl HS100 ?_
    intro W101 HS102
    refine takeGL [0, 1] (n := 11) (fuel := 9) #[true, true, false, false, false, false, false, false, false, false, false] rfl kr kr kr (fun ch_ a_ w_ q_ => (fun ch_ a_ w_ q_ => hnp ch_ a_ w_ (hp59 ch_ a_ w_ q_)) ch_ a_ w_ (hp84 ch_ a_ w_ q_)) (Sg.g0 (Sx.of [] fL HS102)) ?_
    refine takeGQ 2 [] rfl kr kr kr kr kr kr (fun ch_ a_ w_ q_ => (fun ch_ a_ w_ q_ => hnp ch_ a_ w_ (hp59 ch_ a_ w_ q_)) ch_ a_ w_ (hp84 ch_ a_ w_ q_)) (Sg.g0 (Sx.of [] fL HS102)) (fun w_ hw_ => by obtain ⟨g_, hl_, hS_⟩ := hw_.st; exact run_loadN (n := 9) rfl Tryz.underlying31 rfl kr (kv (.pointer (some ⟨b11, 1, none⟩))) (cs := [.int .i64 r1.Box.X.Lo, .int .i64 r1.Box.X.Hi, .bool r1.Box.X.Unknown, .int .i64 r1.Box.Y.Lo, .int .i64 r1.Box.Y.Hi, .bool r1.Box.Y.Unknown, .int .i64 r1.Box.Z.Lo, .int .i64 r1.Box.Z.Hi, .bool r1.Box.Z.Unknown]) rfl (hS_.u2.cells 1 9 _ rfl)) ?_
    refine takeGL [3] (n := 8) (fuel := 7) #[true, true, true, true, false, false, false, false, false, false, false] rfl kr kr kr (fun ch_ a_ w_ q_ => (fun ch_ a_ w_ q_ => hnp ch_ a_ w_ (hp59 ch_ a_ w_ q_)) ch_ a_ w_ (hp84 ch_ a_ w_ q_)) (Sg.g0 (Sx.of [] fL HS102)) ?_
    refine takeGQ 4 [] rfl kr kr kr kr kr kr (fun ch_ a_ w_ q_ => (fun ch_ a_ w_ q_ => hnp ch_ a_ w_ (hp59 ch_ a_ w_ q_)) ch_ a_ w_ (hp84 ch_ a_ w_ q_)) (Sg.g0 (Sx.of [] fL HS102)) (fun w_ hw_ => by obtain ⟨g_, hl_, hS_⟩ := hw_.st; exact run_loadN (n := 3) rfl Tryz.underlying39 rfl kr (kv (.pointer (some ⟨b95, 0, none⟩))) (cs := [.int .i64 (((rd q5.Cones x70).At).X), .int .i64 (((rd q5.Cones x70).At).Y), .int .i64 (((rd q5.Cones x70).At).Z)]) rfl (hS_.cells 0 3 _ rfl)) ?_
    refine takeGL [6] (n := 6) (fuel := 5) #[true, true, true, true, true, false, true, false, false, false, false] rfl kr kr kr (fun ch_ a_ w_ q_ => (fun ch_ a_ w_ q_ => hnp ch_ a_ w_ (hp59 ch_ a_ w_ q_)) ch_ a_ w_ (hp84 ch_ a_ w_ q_)) (Sg.g0 (Sx.of [] fL HS102)) ?_
    refine takeGQ 7 [] rfl kr kr kr kr kr kr (fun ch_ a_ w_ q_ => (fun ch_ a_ w_ q_ => hnp ch_ a_ w_ (hp59 ch_ a_ w_ q_)) ch_ a_ w_ (hp84 ch_ a_ w_ q_)) (Sg.g0 (Sx.of [] fL HS102)) (fun w_ hw_ => by obtain ⟨g_, hl_, hS_⟩ := hw_.st; exact run_load rfl Tryz.underlying23 rfl (kv (.pointer (some ⟨b95, 3, none⟩))) (hS_.cell 3)) ?_
    have hq_ := bind_some h; clear h; obtain ⟨vt103, hc104, h⟩ := hq_
    refine takeGE 5 kr rfl kr (does_call (f := 55) (args := #[.agg #[.int .i64 (((rd q5.Cones x70).At).X), .int .i64 (((rd q5.Cones x70).At).Y), .int .i64 (((rd q5.Cones x70).At).Z)]]) kr (query_point.calls k ((rd q5.Cones x70).At) HS102 vt103 hc104) ?_)
    rintro _ W107 ⟨f105, rfl, L106, HS108⟩
    refine ⟨_, rfl, ?_⟩
    refine ⟨(Sg.g0 (Sx.of [] L106 HS108)), ?_⟩
    have hq_ := bind_some h; clear h; obtain ⟨vt109, hc110, h⟩ := hq_
    refine takeGE 8 kr rfl kr (does_call (f := 10) (args := #[.agg #[.int .i64 r1.Box.X.Lo, .int .i64 r1.Box.X.Hi, .bool r1.Box.X.Unknown, .int .i64 r1.Box.Y.Lo, .int .i64 r1.Box.Y.Hi, .bool r1.Box.Y.Unknown, .int .i64 r1.Box.Z.Lo, .int .i64 r1.Box.Z.Hi, .bool r1.Box.Z.Unknown], .agg #[.int .i64 vt103.X.Lo, .int .i64 vt103.X.Hi, .bool vt103.X.Unknown, .int .i64 vt103.Y.Lo, .int .i64 vt103.Y.Hi, .bool vt103.Y.Unknown, .int .i64 vt103.Z.Lo, .int .i64 vt103.Z.Hi, .bool vt103.Z.Unknown], .int .i64 ((rd q5.Cones x70).Cos)]) kr (query_Near.calls k r1.Box vt103 ((rd q5.Cones x70).Cos) HS108 vt109 hc110) ?_)
    rintro _ W113 ⟨f111, rfl, L112, HS114⟩
    refine ⟨_, rfl, ?_⟩
    refine ⟨(Sg.g0 (Sx.of [] (L106.trans L112) HS114)), ?_⟩
    refine takeGL [9, 10] (n := 2) (fuel := 0) #[true, true, true, true, true, true, true, true, true, true, true] rfl kr kr kr (fun ch_ a_ w_ q_ => (fun ch_ a_ w_ q_ => hnp ch_ a_ w_ (hp59 ch_ a_ w_ q_)) ch_ a_ w_ (hp84 ch_ a_ w_ q_)) (Sg.g0 (Sx.of [] (L106.trans L112) HS114)) ?_
    refine doneG kr ?_ _
    refine hn81 _ _ ?_
    refine hK78 _ _ ?_
    refine rl ?_
    refine seqL2 kr ?_
    refine nl ?_
    refine hK62 n63 _ _ (Nat.lt_succ_self _) ?_
    have HS126 := HS114.u2.u2.u2
    have HS127 := HS126.drop
    exact ⟨f111, (mn vg69 vt109), (w64 (x70 + 1)), (jL [.pointer (some ⟨b95, 0, none⟩), tV, .pointer (some ⟨b92, of93 + (x70 : Int).toNat * 4, none⟩), (ag_Cone (rd q5.Cones x70)), iV vg69, .pointer (some ⟨b11, 1, none⟩), (ag_Box r1.Box), .pointer (some ⟨b95, 0, none⟩), (ag_Vec ((rd q5.Cones x70).At)), (ag_Box vt103), .pointer (some ⟨b95, 3, none⟩), iV ((rd q5.Cones x70).Cos), iV vt109, iV (mn vg69 vt109), iV (w64 (x70 + 1))]), (L65.trans (L106.trans L112)), HS127, h, kr⟩
  · have c76 : ¬ (x70 < (q5.Cones.length : Int)) := c76
    refine wpRwI 31 kr (decide_eq_false c76) ?_
    refine condF kr ?_
    refine wp_exit ?_
    refine hx55 _ _ ?_
    exact J122 f64 vg69 (jL [(j68 0), iV x70, fV, (j68 2), (j68 3), (j68 4), (j68 5), (j68 6), (j68 7), (j68 8), (j68 9), (j68 10), (j68 11), (j68 12), (j68 13), (j68 14)]) W66 _ L65 h HS67 kr
 clear h; have h := hv47; clear hv47
 have hq_ := ite_some h; clear h; rcases hq_ with ⟨c40, h⟩ | ⟨c40, h⟩
 · have c40 : (Go.bits .and .i64 r1.Marks q5.Ban) ≠ 0 := c40
   refine wpRwI 26 kr (bne_iff_ne.mpr c40) ?_
   refine condT kr ?_
   refine rl ?_
   refine seqL1 kr ?_
   refine nl ?_
   refine fnRwI (F := K35) 26 (x := true) (v := ((Go.bits .and .i64 r1.Marks q5.Ban) != 0)) kr (Eq.symm (bne_iff_ne.mpr c40)) ?_
   exact J48 f31 0 W33 _ fL h HS34 kr
 · have c40 : ¬ ((Go.bits .and .i64 r1.Marks q5.Ban) ≠ 0) := c40
   refine wpRwI 26 (x := ((Go.bits .and .i64 r1.Marks q5.Ban) != 0)) (v := false) kr (bne_eq_false_iff_eq.mpr (Decidable.of_not_not c40)) ?_
   refine condF kr ?_
   refine wp_skip ?_
   refine fnRwI (F := K35) 26 (x := false) (v := ((Go.bits .and .i64 r1.Marks q5.Ban) != 0)) kr (Eq.symm (bne_eq_false_iff_eq.mpr (Decidable.of_not_not c40))) ?_
   exact J48 f31 (mn vt23 vt29) W33 _ fL h HS34 kr

set_option maxRecDepth 100000 in
set_option maxHeartbeats 4000000 in
theorem query_Index_Run_1.calls (k : Nat) (b1 : Nat) (b3 : Nat) (A10 : Option Addr) (c11 : Nat) (A13 : Option Addr) (c14 : Nat) (A16 : Option Addr) (c17 : Nat) (b5 : Nat) (A20 : Option Addr) (c21 : Nat) (b7 : Nat) (A24 : Option Addr) (c25 : Nat) (s26 : Seg) (v9 : S_Index) (v19 : S_Ask) (v23 : List S_Answer) (i29 : Int) {t w : World} {f : FM} {H : List Seg} (HS : St t w f ([(b1, .cells #[.pointer (some ⟨b3, 0, none⟩)] 66 (0, 0))] :: [(b3, .cells #[.slice A10 v9.rows.length c11, .int .i64 v9.level, .slice A13 v9.roots.length c14, .slice A16 v9.loose.length c17] 109 (0, 0))] :: [(b5, .cells #[.slice A20 v19.Cones.length c21, .int .i64 v19.From, .int .i64 v19.To, .int .i64 v19.Least, .int .i64 v19.Ban] 51 (0, 0))] :: [(b7, .cells #[.slice A24 v23.length c25] 57 (0, 0))] :: s26 :: H)) (HR12 : SlR ty_Row f A10 c11 v9.rows) (HR15 : SlR fx_node.t f A13 c14 v9.roots) (HR18 : SlR (tInt .i64) f A16 c17 v9.loose) (HR22 : SlR ty_Cone f A20 c21 v19.Cones) (HO27 : Own ty_Answer 62 f A24 c25 s26 v23) (rr1 : List S_Answer) (h : query_Index_Run_1 k v9 v19 v23 i29 = some rr1) :
    Calls Tryz.prog 51 #[.int .i64 i29, .pointer (some ⟨b1, 0, none⟩), .pointer (some ⟨b5, 0, none⟩), .pointer (some ⟨b7, 0, none⟩)] w (fun e w' => ∃ (g : FM) (A87 : Option Addr) (c88 : Nat) (s89 : Seg), e = .returned (Value.tuple #[]) ∧ FM.le f g ∧ St t w' g (s89 :: [(b1, .cells #[.pointer (some ⟨b3, 0, none⟩)] 66 (0, 0))] :: [(b3, .cells #[.slice A10 v9.rows.length c11, .int .i64 v9.level, .slice A13 v9.roots.length c14, .slice A16 v9.loose.length c17] 109 (0, 0))] :: [(b5, .cells #[.slice A20 v19.Cones.length c21, .int .i64 v19.From, .int .i64 v19.To, .int .i64 v19.Least, .int .i64 v19.Ban] 51 (0, 0))] :: [(b7, .cells #[.slice A87 rr1.length c88] 57 (0, 0))] :: H) ∧ Own ty_Answer 62 g A87 c88 s89 rr1) := by
 unfold query_Index_Run_1 at h
 refine enter Tryz.func51 rfl (tm := #[iV i29, pV b1 0, pV b5 0, pV b7 0, uV, uV, uV, uV, uV, uV, uV, uV, uV, uV, uV, uV, uV, uV, uV, uV, uV, uV, uV, uV, uV, uV, uV, uV, uV, uV]) kr ?_
 intro B hret hnor hnp
 refine wp_seq_k (fun K30 hK31 => ?_)
 refine heldG (S := Sg t f ([(b1, .cells #[.pointer (some ⟨b3, 0, none⟩)] 66 (0, 0))] :: [(b3, .cells #[.slice A10 v9.rows.length c11, .int .i64 v9.level, .slice A13 v9.roots.length c14, .slice A16 v9.loose.length c17] 109 (0, 0))] :: [(b5, .cells #[.slice A20 v19.Cones.length c21, .int .i64 v19.From, .int .i64 v19.To, .int .i64 v19.Least, .int .i64 v19.Ban] 51 (0, 0))] :: [(b7, .cells #[.slice A24 v23.length c25] 57 (0, 0))] :: s26 :: H) []) (n := 10) kr rfl HS ?_
 intro W32 HS33
 refine takeGQ 0 [] rfl kr kr kr kr kr kr hnp (Sg.g0 (Sx.of [] fL HS33)) (fun w_ hw_ => by obtain ⟨g_, hl_, hS_⟩ := hw_.st; exact run_load rfl Tryz.underlying66 rfl (kv (.pointer (some ⟨b1, 0, none⟩))) (hS_.cell 0)) ?_
 refine takeGL [1, 2] (n := 9) (fuel := 7) #[true, true, true, false, false, false, false, false, false, false] rfl kr kr kr hnp (Sg.g0 (Sx.of [] fL HS33)) ?_
 refine takeGQ 3 [] rfl kr kr kr kr kr kr hnp (Sg.g0 (Sx.of [] fL HS33)) (fun w_ hw_ => by obtain ⟨g_, hl_, hS_⟩ := hw_.st; exact run_load rfl Tryz.underlying45 rfl (kv (.pointer (some ⟨b3, 0, none⟩))) (hS_.u1.cell 0)) ?_
 have hq_ := guard_some h; clear h; obtain ⟨c34, h⟩ := hq_
 have c34 : 0 ≤ i29 := c34
 have hq_ := guard_some h; clear h; obtain ⟨c35, h⟩ := hq_
 have c35 : i29 < (v9.rows.length : Int) := c35
 obtain ⟨b39, of40, cs36, hA41, hr37, hc38⟩ := HR12.at (i := i29) c34 c35
 obtain ⟨A42, c42, rfl, HR42⟩ := hr37
 refine takeGL [4] (n := 6) (fuel := 5) #[true, true, true, true, true, false, false, false, false, false] rfl kr kr kr hnp (Sg.g0 (Sx.of [] fL HS33)) ?_
 refine takeGQ 5 [] rfl kr kr kr kr kr kr hnp (Sg.g0 (Sx.of [] fL HS33)) (fun w_ hw_ => by obtain ⟨g_, hl_, hS_⟩ := hw_.st; exact run_indexE hA41 (sz := 18) rfl Tryz.underlying45 kr (kv (.slice A10 v9.rows.length c11)) (kv (.int .i64 i29)) c34 c35 w_) ?_
 refine takeGQ 6 [] rfl kr kr kr kr kr kr hnp (Sg.g0 (Sx.of [] fL HS33)) (fun w_ hw_ => by obtain ⟨g_, hl_, hS_⟩ := hw_.st; exact run_loadN (n := 18) rfl Tryz.underlying99 rfl kr (kv (.pointer (some ⟨b39, of40 + (i29 : Int).toNat * 18, none⟩))) (cs := [.int .i64 ((rd v9.rows i29).ID), .int .i64 ((((rd v9.rows i29).Box).X).Lo), .int .i64 ((((rd v9.rows i29).Box).X).Hi), .bool ((((rd v9.rows i29).Box).X).Unknown), .int .i64 ((((rd v9.rows i29).Box).Y).Lo), .int .i64 ((((rd v9.rows i29).Box).Y).Hi), .bool ((((rd v9.rows i29).Box).Y).Unknown), .int .i64 ((((rd v9.rows i29).Box).Z).Lo), .int .i64 ((((rd v9.rows i29).Box).Z).Hi), .bool ((((rd v9.rows i29).Box).Z).Unknown), .int .i64 (((rd v9.rows i29).Flux).Lo), .int .i64 (((rd v9.rows i29).Flux).Hi), .bool (((rd v9.rows i29).Flux).Unknown), .int .i64 (((rd v9.rows i29).When).Lo), .int .i64 (((rd v9.rows i29).When).Hi), .bool (((rd v9.rows i29).When).Unknown), .slice A42 ((rd v9.rows i29).Frames).length c42, .int .i64 ((rd v9.rows i29).Marks)]) rfl (fun j_ hj_ => ((hc38 hl_ hS_) j_ hj_))) ?_
 refine takeGQ 7 [] rfl kr kr kr kr kr kr hnp (Sg.g0 (Sx.of [] fL HS33)) (fun w_ hw_ => by obtain ⟨g_, hl_, hS_⟩ := hw_.st; exact run_loadN (n := 5) rfl Tryz.underlying51 rfl kr (kv (.pointer (some ⟨b5, 0, none⟩))) (cs := [.slice A20 v19.Cones.length c21, .int .i64 v19.From, .int .i64 v19.To, .int .i64 v19.Least, .int .i64 v19.Ban]) rfl (hS_.u2.cells 0 5 _ rfl)) ?_
 have hq_ := bind_some h; clear h; obtain ⟨vt43, hc44, h⟩ := hq_
 refine takeGE 8 kr rfl kr (does_call (f := 44) (args := #[.agg #[.int .i64 ((rd v9.rows i29).ID), .int .i64 ((((rd v9.rows i29).Box).X).Lo), .int .i64 ((((rd v9.rows i29).Box).X).Hi), .bool ((((rd v9.rows i29).Box).X).Unknown), .int .i64 ((((rd v9.rows i29).Box).Y).Lo), .int .i64 ((((rd v9.rows i29).Box).Y).Hi), .bool ((((rd v9.rows i29).Box).Y).Unknown), .int .i64 ((((rd v9.rows i29).Box).Z).Lo), .int .i64 ((((rd v9.rows i29).Box).Z).Hi), .bool ((((rd v9.rows i29).Box).Z).Unknown), .int .i64 (((rd v9.rows i29).Flux).Lo), .int .i64 (((rd v9.rows i29).Flux).Hi), .bool (((rd v9.rows i29).Flux).Unknown), .int .i64 (((rd v9.rows i29).When).Lo), .int .i64 (((rd v9.rows i29).When).Hi), .bool (((rd v9.rows i29).When).Unknown), .slice A42 ((rd v9.rows i29).Frames).length c42, .int .i64 ((rd v9.rows i29).Marks)], .agg #[.slice A20 v19.Cones.length c21, .int .i64 v19.From, .int .i64 v19.To, .int .i64 v19.Least, .int .i64 v19.Ban]]) kr (query_grade.calls k A42 c42 A20 c21 (rd v9.rows i29) v19 HS33 HR42 HR22 vt43 hc44) ?_)
 rintro _ W47 ⟨f45, rfl, L46, HS48⟩
 refine ⟨_, rfl, ?_⟩
 refine ⟨(Sg.g0 (Sx.of [] L46 HS48)), ?_⟩
 refine takeGL [9] (n := 1) (fuel := 0) #[true, true, true, true, true, true, true, true, true, true] rfl kr kr kr hnp (Sg.g0 (Sx.of [] L46 HS48)) ?_
 refine doneG kr ?_ _
 refine hK31 _ _ ?_
 refine wp_seq_k fun K49 hK50 => rl ?_
 refine seqL2 kr ?_
 refine nl (hK50 _ _ ?_)
 have hq_ := ite_some h; clear h; rcases hq_ with ⟨c52, h⟩ | ⟨c52, h⟩
 · have c52 : vt43 ≠ 0 := c52
   refine wpRwI 16 kr (bne_iff_ne.mpr c52) ?_
   refine condT kr ?_
   have HS57 := HS48.u2.u2.u2.u4.u4
   refine heldG (S := Sg t f45 ([(b1, .cells #[.pointer (some ⟨b3, 0, none⟩)] 66 (0, 0))] :: [(b3, .cells #[.slice A10 v9.rows.length c11, .int .i64 v9.level, .slice A13 v9.roots.length c14, .slice A16 v9.loose.length c17] 109 (0, 0))] :: [(b5, .cells #[.slice A20 v19.Cones.length c21, .int .i64 v19.From, .int .i64 v19.To, .int .i64 v19.Least, .int .i64 v19.Ban] 51 (0, 0))] :: H) [(12, [(b7, .cells #[.slice A24 v23.length c25] 57 (0, 0))]), (12, s26)]) (n := 14) kr rfl HS57 ?_
   intro W58 HS59
   refine takeGQ 0 [12] rfl kr kr kr kr kr kr hnp (Sg.g2 (Sx.of [[(b7, .cells #[.slice A24 v23.length c25] 57 (0, 0))], s26] fL HS59) (fun _ => St.only [] HS59 fL) (fun _ => St.only [[(b7, .cells #[.slice A24 v23.length c25] 57 (0, 0))]] HS59 fL)) (fun w_ hw_ => by obtain ⟨g_, hl_, hS_⟩ := hw_.seg (j := 12) (s := [(b7, .cells #[.slice A24 v23.length c25] 57 (0, 0))]) (by simp) (by simp); exact run_load rfl Tryz.underlying57 rfl (kv (.pointer (some ⟨b7, 0, none⟩))) (hS_.cell 0)) ?_
   refine takeGQ 1 [] rfl kr kr kr kr kr kr hnp (Sg.g2 (Sx.of [[(b7, .cells #[.slice A24 v23.length c25] 57 (0, 0))], s26] fL HS59) (fun _ => St.only [] HS59 fL) (fun _ => St.only [[(b7, .cells #[.slice A24 v23.length c25] 57 (0, 0))]] HS59 fL)) (fun w_ hw_ => by obtain ⟨g_, hl_, hS_⟩ := hw_.st; exact run_load rfl Tryz.underlying66 rfl (kv (.pointer (some ⟨b1, 0, none⟩))) (hS_.cell 0)) ?_
   refine takeGL [2, 3] (n := 12) (fuel := 10) #[true, true, true, true, false, false, false, false, false, false, false, false, false, false] rfl kr kr kr hnp (Sg.g2 (Sx.of [[(b7, .cells #[.slice A24 v23.length c25] 57 (0, 0))], s26] fL HS59) (fun _ => St.only [] HS59 fL) (fun _ => St.only [[(b7, .cells #[.slice A24 v23.length c25] 57 (0, 0))]] HS59 fL)) ?_
   refine takeGQ 4 [] rfl kr kr kr kr kr kr hnp (Sg.g2 (Sx.of [[(b7, .cells #[.slice A24 v23.length c25] 57 (0, 0))], s26] fL HS59) (fun _ => St.only [] HS59 fL) (fun _ => St.only [[(b7, .cells #[.slice A24 v23.length c25] 57 (0, 0))]] HS59 fL)) (fun w_ hw_ => by obtain ⟨g_, hl_, hS_⟩ := hw_.st; exact run_load rfl Tryz.underlying45 rfl (kv (.pointer (some ⟨b3, 0, none⟩))) (hS_.u1.cell 0)) ?_
   refine takeGL [5] (n := 9) (fuel := 8) #[true, true, true, true, true, true, false, false, false, false, false, false, false, false] rfl kr kr kr hnp (Sg.g2 (Sx.of [[(b7, .cells #[.slice A24 v23.length c25] 57 (0, 0))], s26] fL HS59) (fun _ => St.only [] HS59 fL) (fun _ => St.only [[(b7, .cells #[.slice A24 v23.length c25] 57 (0, 0))]] HS59 fL)) ?_
   refine takeGQ 6 [] rfl kr kr kr kr kr kr hnp (Sg.g2 (Sx.of [[(b7, .cells #[.slice A24 v23.length c25] 57 (0, 0))], s26] fL HS59) (fun _ => St.only [] HS59 fL) (fun _ => St.only [[(b7, .cells #[.slice A24 v23.length c25] 57 (0, 0))]] HS59 fL)) (fun w_ hw_ => by obtain ⟨g_, hl_, hS_⟩ := hw_.st; exact run_indexE hA41 (sz := 18) rfl Tryz.underlying45 kr (kv (.slice A10 v9.rows.length c11)) (kv (.int .i64 i29)) c34 c35 w_) ?_
   refine takeGL [7] (n := 7) (fuel := 6) #[true, true, true, true, true, true, true, true, false, false, false, false, false, false] rfl kr kr kr hnp (Sg.g2 (Sx.of [[(b7, .cells #[.slice A24 v23.length c25] 57 (0, 0))], s26] fL HS59) (fun _ => St.only [] HS59 fL) (fun _ => St.only [[(b7, .cells #[.slice A24 v23.length c25] 57 (0, 0))]] HS59 fL)) ?_
   refine takeGQ 8 [] rfl kr kr kr kr kr kr hnp (Sg.g2 (Sx.of [[(b7, .cells #[.slice A24 v23.length c25] 57 (0, 0))], s26] fL HS59) (fun _ => St.only [] HS59 fL) (fun _ => St.only [[(b7, .cells #[.slice A24 v23.length c25] 57 (0, 0))]] HS59 fL)) (fun w_ hw_ => by obtain ⟨g_, hl_, hS_⟩ := hw_.st; exact run_load rfl Tryz.underlying3 rfl (kv (.pointer (some ⟨b39, of40 + (i29 : Int).toNat * 18, none⟩))) ((hc38 (L46.trans hl_) hS_) 0 (by decide))) ?_
   refine takeGL [9, 10] (n := 5) (fuel := 3) #[true, true, true, true, true, true, true, true, true, true, true, false, false, false] rfl kr kr kr hnp (Sg.g2 (Sx.of [[(b7, .cells #[.slice A24 v23.length c25] 57 (0, 0))], s26] fL HS59) (fun _ => St.only [] HS59 fL) (fun _ => St.only [[(b7, .cells #[.slice A24 v23.length c25] 57 (0, 0))]] HS59 fL)) ?_
   refine takeGE 11 kr rfl kr (does_lit (e := ty_Answer) (E := 62) (vs := #[(0, Value.agg #[.int .i64 ((rd v9.rows i29).ID), .int .i64 vt43])]) (cs := #[.int .i64 ((rd v9.rows i29).ID), .int .i64 vt43]) (xs := ([(⟨(rd v9.rows i29).ID, vt43⟩ : S_Answer)] : List S_Answer)) rfl Tryz.underlying57 kr kr ⟨[.int .i64 ((rd v9.rows i29).ID), .int .i64 vt43], _, rfl, rfl, rfl⟩ rfl HS59 ?_ (by decide))
   intro b60 W61 s62 HS63 _ HO64
   refine ⟨(Sg.g2 (Sx.of [s62, [(b7, .cells #[.slice A24 v23.length c25] 57 (0, 0))], s26] fL HS63) (fun _ => St.only [s62] HS63 fL) (fun _ => St.only [s62, [(b7, .cells #[.slice A24 v23.length c25] 57 (0, 0))]] HS63 fL)), ?_⟩
   have hq_ := guard_some h; clear h; obtain ⟨c66, h⟩ := hq_
   have c66 : (v23.length + 1) * 16 ≤ 140737488355328 := c66
   have HS68 := HS63.u2.u1
   refine takeGE 12 kr rfl kr (does_append1 (e := ty_Answer) (E := 62) (xs := v23) (ys := ([(⟨(rd v9.rows i29).ID, vt43⟩ : S_Answer)] : List S_Answer)) rfl (kv (.slice A24 v23.length c25)) (kv (.slice (some ⟨b60, 0, none⟩) ([(⟨(rd v9.rows i29).ID, vt43⟩ : S_Answer)] : List S_Answer).length 1)) Tryz.underlying57 inf62 (HO27.mono L46) HO64 HS68 c66 (lim63 c66 (by decide)) ?_)
   intro A69 c70 s71 W72 HS73 HO74
   refine ⟨(Sg.g2 (Sx.of [s71, [(b7, .cells #[.slice A24 v23.length c25] 57 (0, 0))]] fL HS73) (fun hl_ => Bool.noConfusion (show true = false from hl_)) (fun hl_ => Bool.noConfusion (show true = false from hl_))), ?_⟩
   have HS75 := HS73.u1
   refine takeGE 13 kr rfl kr (does_store (n := 1) (vs := [.slice A69 (v23 ++ ([(⟨(rd v9.rows i29).ID, vt43⟩ : S_Answer)] : List S_Answer)).length c70]) (cs' := #[.slice A69 (v23 ++ ([(⟨(rd v9.rows i29).ID, vt43⟩ : S_Answer)] : List S_Answer)).length c70]) rfl kr (kv (.pointer (some ⟨b7, 0, none⟩))) (kv (.slice A69 (v23 ++ ([(⟨(rd v9.rows i29).ID, vt43⟩ : S_Answer)] : List S_Answer)).length c70)) rfl rfl (ones rfl) HS75 (Nat.le_of_ble_eq_true rfl) kr ?_)
   intro W76 HS77
   refine ⟨(Sg.g2 (Sx.of [[(b7, .cells #[.slice A69 (v23 ++ ([(⟨(rd v9.rows i29).ID, vt43⟩ : S_Answer)] : List S_Answer)).length c70] 57 (0, 0))], s71] fL HS77) (fun hl_ => Bool.noConfusion (show true = false from hl_)) (fun hl_ => Bool.noConfusion (show true = false from hl_))), ?_⟩
   refine doneG kr ?_ _
   refine hnor _ _ ?_
   refine ends_still (v := Value.tuple #[]) kr kr ?_
   have HS81 := HS77.u4.u4.u4.u4
   injection h with h
   subst h
   exact ⟨f45, A69, c70, s71, rfl, L46, HS81, HO74⟩
 · have c52 : ¬ (vt43 ≠ 0) := c52
   refine wpRwI 16 (x := (vt43 != 0)) (v := false) kr (bne_eq_false_iff_eq.mpr (Decidable.of_not_not c52)) ?_
   refine condF kr ?_
   refine wp_skip ?_
   refine hnor _ _ ?_
   refine ends_still (v := Value.tuple #[]) kr kr ?_
   have HS86 := HS48.u3.u3.u3.u3.u4
   injection h with h
   subst h
   exact ⟨f45, A24, c25, s26, rfl, L46, HS86, (HO27.mono L46)⟩

set_option maxRecDepth 100000 in
set_option maxHeartbeats 4000000 in
theorem query_Index_Run_2.calls (k : Nat) (b1 : Nat) (A4 : Option Addr) (c5 : Nat) (b7 : Nat) (fr8 : Nat × Nat) (A10 : Option Addr) (c11 : Nat) (A13 : Option Addr) (c14 : Nat) (v3 : S_Ask) (n9 : S_node) {t w : World} {f : FM} {H : List Seg} (HS : St t w f ([(b1, .cells #[.slice A4 v3.Cones.length c5, .int .i64 v3.From, .int .i64 v3.To, .int .i64 v3.Least, .int .i64 v3.Ban] 51 (0, 0))] :: H)) (HR6 : SlR ty_Cone f A4 c5 v3.Cones) (HR12 : SlR fx_node.t f A10 c11 n9.kids) (HR15 : SlR (tInt .i64) f A13 c14 n9.rows) (hb16 : f b7 = some (.cells #[.int .i64 n9.box.X.Lo, .int .i64 n9.box.X.Hi, .bool n9.box.X.Unknown, .int .i64 n9.box.Y.Lo, .int .i64 n9.box.Y.Hi, .bool n9.box.Y.Unknown, .int .i64 n9.box.Z.Lo, .int .i64 n9.box.Z.Hi, .bool n9.box.Z.Unknown, .int .i64 n9.when.Lo, .int .i64 n9.when.Hi, .bool n9.when.Unknown, .slice A10 n9.kids.length c11, .slice A13 n9.rows.length c14] 119 fr8)) (hr17 : fx_node.t.rep f [.pointer (some ⟨b7, 0, none⟩)] n9) (rr1 : Bool) (h : query_Index_Run_2 k v3 n9 = some rr1) :
    Calls Tryz.prog 53 #[.pointer (some ⟨b7, 0, none⟩), .pointer (some ⟨b1, 0, none⟩)] w (fun e w' => ∃ (g : FM), e = .returned (Value.bool rr1) ∧ FM.le f g ∧ St t w' g ([(b1, .cells #[.slice A4 v3.Cones.length c5, .int .i64 v3.From, .int .i64 v3.To, .int .i64 v3.Least, .int .i64 v3.Ban] 51 (0, 0))] :: H)) := by
 unfold query_Index_Run_2 at h
 refine enter Tryz.func53 rfl (tm := #[pV b7 0, pV b1 0, uV, uV, uV, uV, uV, uV, uV, uV, uV, uV, uV, uV, uV, uV, uV, uV, uV, uV, uV, uV, uV, uV, uV, uV, uV, uV, uV, uV, uV, uV, uV, uV, uV, uV, uV, uV]) kr ?_
 intro B hret hnor hnp
 refine wp_seq_k fun K18 hK19 => rl ?_
 refine seqL1 kr ?_
 refine nl (hK19 _ _ ?_)
 refine wp_seq_k (fun K20 hK21 => ?_)
 refine heldG (S := Sg t f ([(b1, .cells #[.slice A4 v3.Cones.length c5, .int .i64 v3.From, .int .i64 v3.To, .int .i64 v3.Least, .int .i64 v3.Ban] 51 (0, 0))] :: H) []) (n := 10) kr rfl HS ?_
 intro W22 HS23
 refine takeGL [0, 1, 2] (n := 10) (fuel := 7) #[true, true, true, false, false, false, false, false, false, false] rfl kr kr kr hnp (Sg.g0 (Sx.of [] fL HS23)) ?_
 refine takeGQ 3 [] rfl kr kr kr kr kr kr hnp (Sg.g0 (Sx.of [] fL HS23)) (fun w_ hw_ => by obtain ⟨g_, hl_, hS_⟩ := hw_.st; exact run_loadN (n := 3) rfl Tryz.underlying97 rfl kr (kv (.pointer (some ⟨b7, 9, none⟩))) (cs := [.int .i64 n9.when.Lo, .int .i64 n9.when.Hi, .bool n9.when.Unknown]) rfl (hS_.fcells hb16 hl_ 9 3 _ rfl)) ?_
 refine takeGL [4] (n := 6) (fuel := 5) #[true, true, true, true, true, false, false, false, false, false] rfl kr kr kr hnp (Sg.g0 (Sx.of [] fL HS23)) ?_
 refine takeGQ 5 [] rfl kr kr kr kr kr kr hnp (Sg.g0 (Sx.of [] fL HS23)) (fun w_ hw_ => by obtain ⟨g_, hl_, hS_⟩ := hw_.st; exact run_load rfl Tryz.underlying48 rfl (kv (.pointer (some ⟨b1, 1, none⟩))) (hS_.cell 1)) ?_
 refine takeGL [6] (n := 4) (fuel := 3) #[true, true, true, true, true, true, true, false, false, false] rfl kr kr kr hnp (Sg.g0 (Sx.of [] fL HS23)) ?_
 refine takeGQ 7 [] rfl kr kr kr kr kr kr hnp (Sg.g0 (Sx.of [] fL HS23)) (fun w_ hw_ => by obtain ⟨g_, hl_, hS_⟩ := hw_.st; exact run_load rfl Tryz.underlying48 rfl (kv (.pointer (some ⟨b1, 2, none⟩))) (hS_.cell 2)) ?_
 have hq_ := bind_some h; clear h; obtain ⟨vt24, hc25, h⟩ := hq_
 refine takeGE 8 kr rfl kr (does_call (f := 54) (args := #[.agg #[.int .i64 n9.when.Lo, .int .i64 n9.when.Hi, .bool n9.when.Unknown], .int .i64 v3.From, .int .i64 v3.To]) kr (query_between_Tick.calls k n9.when v3.From v3.To HS23 vt24 hc25) ?_)
 rintro _ W28 ⟨f26, rfl, L27, HS29⟩
 refine ⟨_, rfl, ?_⟩
 refine ⟨(Sg.g0 (Sx.of [] L27 HS29)), ?_⟩
 refine takeGL [9] (n := 1) (fuel := 0) #[true, true, true, true, true, true, true, true, true, true] rfl kr kr kr hnp (Sg.g0 (Sx.of [] L27 HS29)) ?_
 refine doneG kr ?_ _
 refine hK21 _ _ ?_
 refine wp_seq_k (fun K30 hK31 => ?_)
 refine wp_seq_k fun K32 hK33 => rl ?_
 refine seqL1 kr ?_
 refine seqK rfl (does_run (run_load rfl Tryz.underlying47 rfl (kv (.pointer (some ⟨b1, 0, none⟩))) (HS29.cell 0)) ?_)
 refine seqL2 kr ?_
 refine nl (hK33 _ _ ?_)
 refine blockK (fun B34 hx35 hn36 hr37 ho38 hp39 => ?_)
 have hq_ := bind_some h; clear h; obtain ⟨o40, hv101, h⟩ := hq_
 have J102 : ∀ (f95 : FM) (vg100 : Int) (j99 : Nat → Value) (W97 : World) (a_ : Act), FM.le f26 f95 → some (vg100) = some o40 → St t W97 f95 ([(b1, .cells #[.slice A4 v3.Cones.length c5, .int .i64 v3.From, .int .i64 v3.To, .int .i64 v3.Least, .int .i64 v3.Ban] 51 (0, 0))] :: H) → a_ = ⟨#[pV b7 0, pV b1 0, uV, fV, iV vg100, uV, (j99 0), pV b7 0, pV b7 0, pV b7 9, (ag_Bound n9.when), pV b1 1, iV v3.From, pV b1 2, iV v3.To, iV vt24, pV b1 0, .slice A4 v3.Cones.length c5, iV (v3.Cones.length : Int), (j99 1), (j99 2), (j99 3), (j99 4), (j99 5), (j99 6), (j99 7), (j99 8), (j99 9), (j99 10), (j99 11), (j99 12), (j99 13), (j99 14), (j99 15), (j99 16), (j99 17), uV, uV], []⟩ → K30 a_ W97 := by
  intro f95 vg100 j99 W97 a_ L96 hj103 HS98  hfr_; subst hfr_
  injection hj103 with hj103; subst hj103; try dsimp only at h
  refine hK31 _ _ ?_
  refine wp_seq_k fun K107 hK108 => rl ?_
  refine seqL3 kr ?_
  refine nl (hK108 _ _ ?_)
  refine wp_ret ?_
  refine hret _ _ ?_
  refine ends_still (v := Value.bool (vg100 != 0)) kr kr ?_
  injection h with h
  subst h
  exact ⟨f95, rfl, (L27.trans L96), HS98⟩
 clear h; have h := hv101; clear hv101
 refine loopK (fun n_ a_ w_ => ∃ (f44 : FM) (vg49 : Int) (x50 : Int) (j48 : Nat → Value), FM.le f26 f44 ∧ St t w_ f44 ([(b1, .cells #[.slice A4 v3.Cones.length c5, .int .i64 v3.From, .int .i64 v3.To, .int .i64 v3.Least, .int .i64 v3.Ban] 51 (0, 0))] :: H) ∧ query_Index_Run_2.l0 k v3 n9 n_ vg49 x50 = some o40 ∧ a_ = ⟨#[pV b7 0, pV b1 0, uV, fV, iV vg49, uV, (j48 0), pV b7 0, pV b7 0, pV b7 9, (ag_Bound n9.when), pV b1 1, iV v3.From, pV b1 2, iV v3.To, iV vt24, pV b1 0, .slice A4 v3.Cones.length c5, iV (v3.Cones.length : Int), iV x50, (j48 1), (j48 2), (j48 3), (j48 4), (j48 5), (j48 6), (j48 7), (j48 8), (j48 9), (j48 10), (j48 11), (j48 12), (j48 13), (j48 14), (j48 15), (j48 16), uV, uV], []⟩) k ⟨f26, vt24, 0, (jL []), fL, HS29, h, kr⟩ ?_
 clear h
 rintro n43 _ W46 ⟨f44, vg49, x50, j48, L45, HS47, h, rfl⟩ K41 hK42
 obtain _ | n43 := n43
 · exact nomatch h
 simp only [query_Index_Run_2.l0] at h
 refine wp_seq_k fun K51 hK52 => rl ?_
 refine seqL1 kr ?_
 refine nl (hK52 _ _ ?_)
 refine wp_seq_k (fun K53 hK54 => ?_)
 have hq_ := ite_some h; clear h; rcases hq_ with ⟨c56, h⟩ | ⟨c56, h⟩
 · have c56 : x50 < (v3.Cones.length : Int) := c56
   refine wpRwI 20 kr (decide_eq_true c56) ?_
   refine condT kr ?_
   refine wp_skip ?_
   refine hK54 _ _ ?_
   refine wp_seq_k (fun K57 hK58 => ?_)
   refine blockK (fun B59 hx60 hn61 hr62 ho63 hp64 => ?_)
   refine wp_seq_k fun K66 hK67 => rl ?_
   have hq_ := guard_some h; clear h; obtain ⟨c68, h⟩ := hq_
   have c68 : 0 ≤ x50 := c68
   obtain ⟨b72, of73, cs69, hA74, hr70, hc71⟩ := (HR6.mono (L27.trans L45)).at (i := x50) c68 c56
   obtain rfl := hr70
   refine seqK rfl (does_run (run_indexE hA74 (sz := 4) rfl Tryz.underlying47 kr (kv (.slice A4 v3.Cones.length c5)) (kv (.int .i64 x50)) c68 c56 W46) ?_)
   refine seqK rfl (does_run (run_loadN (n := 4) rfl Tryz.underlying55 rfl kr (kv (.pointer (some ⟨b72, of73 + (x50 : Int).toNat * 4, none⟩))) (cs := [.int .i64 (((rd v3.Cones x50).At).X), .int .i64 (((rd v3.Cones x50).At).Y), .int .i64 (((rd v3.Cones x50).At).Z), .int .i64 ((rd v3.Cones x50).Cos)]) rfl (fun j_ hj_ => ((hc71 fL HS47) j_ hj_))) ?_)
   refine seqK rfl (does_alloc (z := Value.agg #[.int .i64 0, .int .i64 0, .int .i64 0, .int .i64 0]) (cs := #[.int .i64 0, .int .i64 0, .int .i64 0, .int .i64 0]) rfl kr rfl HS47 ?_)
   intro b75 W76 HS77
   refine seqK rfl (does_storeA (vs := [.int .i64 (((rd v3.Cones x50).At).X), .int .i64 (((rd v3.Cones x50).At).Y), .int .i64 (((rd v3.Cones x50).At).Z), .int .i64 ((rd v3.Cones x50).Cos)]) rfl kr kr kr rfl (ones rfl) HS77 kr ?_)
   intro W79 HS80
   refine nl (hK67 _ _ ?_)
   refine heldG (S := Sg t f44 ([(b75, .cells #[.int .i64 (((rd v3.Cones x50).At).X), .int .i64 (((rd v3.Cones x50).At).Y), .int .i64 (((rd v3.Cones x50).At).Z), .int .i64 ((rd v3.Cones x50).Cos)] 55 (0, 0))] :: [(b1, .cells #[.slice A4 v3.Cones.length c5, .int .i64 v3.From, .int .i64 v3.To, .int .i64 v3.Least, .int .i64 v3.Ban] 51 (0, 0))] :: H) []) (n := 13) kr rfl HS80 ?_
   intro W81 HS82
   refine takeGL [0, 1, 2, 3] (n := 13) (fuel := 9) #[true, true, true, true, false, false, false, false, false, false, false, false, false] rfl kr kr kr (fun ch_ a_ w_ q_ => (fun ch_ a_ w_ q_ => hnp ch_ a_ w_ (hp39 ch_ a_ w_ q_)) ch_ a_ w_ (hp64 ch_ a_ w_ q_)) (Sg.g0 (Sx.of [] fL HS82)) ?_
   refine takeGQ 4 [] rfl kr kr kr kr kr kr (fun ch_ a_ w_ q_ => (fun ch_ a_ w_ q_ => hnp ch_ a_ w_ (hp39 ch_ a_ w_ q_)) ch_ a_ w_ (hp64 ch_ a_ w_ q_)) (Sg.g0 (Sx.of [] fL HS82)) (fun w_ hw_ => by obtain ⟨g_, hl_, hS_⟩ := hw_.st; exact run_loadN (n := 9) rfl Tryz.underlying31 rfl kr (kv (.pointer (some ⟨b7, 0, none⟩))) (cs := [.int .i64 n9.box.X.Lo, .int .i64 n9.box.X.Hi, .bool n9.box.X.Unknown, .int .i64 n9.box.Y.Lo, .int .i64 n9.box.Y.Hi, .bool n9.box.Y.Unknown, .int .i64 n9.box.Z.Lo, .int .i64 n9.box.Z.Hi, .bool n9.box.Z.Unknown]) rfl (hS_.fcells hb16 ((L27.trans L45).trans hl_) 0 9 _ rfl)) ?_
   refine takeGL [5] (n := 8) (fuel := 7) #[true, true, true, true, true, true, false, false, false, false, false, false, false] rfl kr kr kr (fun ch_ a_ w_ q_ => (fun ch_ a_ w_ q_ => hnp ch_ a_ w_ (hp39 ch_ a_ w_ q_)) ch_ a_ w_ (hp64 ch_ a_ w_ q_)) (Sg.g0 (Sx.of [] fL HS82)) ?_
   refine takeGQ 6 [] rfl kr kr kr kr kr kr (fun ch_ a_ w_ q_ => (fun ch_ a_ w_ q_ => hnp ch_ a_ w_ (hp39 ch_ a_ w_ q_)) ch_ a_ w_ (hp64 ch_ a_ w_ q_)) (Sg.g0 (Sx.of [] fL HS82)) (fun w_ hw_ => by obtain ⟨g_, hl_, hS_⟩ := hw_.st; exact run_loadN (n := 3) rfl Tryz.underlying39 rfl kr (kv (.pointer (some ⟨b75, 0, none⟩))) (cs := [.int .i64 (((rd v3.Cones x50).At).X), .int .i64 (((rd v3.Cones x50).At).Y), .int .i64 (((rd v3.Cones x50).At).Z)]) rfl (hS_.cells 0 3 _ rfl)) ?_
   refine takeGL [8] (n := 6) (fuel := 5) #[true, true, true, true, true, true, true, false, true, false, false, false, false] rfl kr kr kr (fun ch_ a_ w_ q_ => (fun ch_ a_ w_ q_ => hnp ch_ a_ w_ (hp39 ch_ a_ w_ q_)) ch_ a_ w_ (hp64 ch_ a_ w_ q_)) (Sg.g0 (Sx.of [] fL HS82)) ?_
   refine takeGQ 9 [] rfl kr kr kr kr kr kr (fun ch_ a_ w_ q_ => (fun ch_ a_ w_ q_ => hnp ch_ a_ w_ (hp39 ch_ a_ w_ q_)) ch_ a_ w_ (hp64 ch_ a_ w_ q_)) (Sg.g0 (Sx.of [] fL HS82)) (fun w_ hw_ => by obtain ⟨g_, hl_, hS_⟩ := hw_.st; exact run_load rfl Tryz.underlying23 rfl (kv (.pointer (some ⟨b75, 3, none⟩))) (hS_.cell 3)) ?_
   have hq_ := bind_some h; clear h; obtain ⟨vt83, hc84, h⟩ := hq_
   refine takeGE 7 kr rfl kr (does_call (f := 55) (args := #[.agg #[.int .i64 (((rd v3.Cones x50).At).X), .int .i64 (((rd v3.Cones x50).At).Y), .int .i64 (((rd v3.Cones x50).At).Z)]]) kr (query_point.calls k ((rd v3.Cones x50).At) HS82 vt83 hc84) ?_)
   rintro _ W87 ⟨f85, rfl, L86, HS88⟩
   refine ⟨_, rfl, ?_⟩
   refine ⟨(Sg.g0 (Sx.of [] L86 HS88)), ?_⟩
   have hq_ := bind_some h; clear h; obtain ⟨vt89, hc90, h⟩ := hq_
   refine takeGE 10 kr rfl kr (does_call (f := 10) (args := #[.agg #[.int .i64 n9.box.X.Lo, .int .i64 n9.box.X.Hi, .bool n9.box.X.Unknown, .int .i64 n9.box.Y.Lo, .int .i64 n9.box.Y.Hi, .bool n9.box.Y.Unknown, .int .i64 n9.box.Z.Lo, .int .i64 n9.box.Z.Hi, .bool n9.box.Z.Unknown], .agg #[.int .i64 vt83.X.Lo, .int .i64 vt83.X.Hi, .bool vt83.X.Unknown, .int .i64 vt83.Y.Lo, .int .i64 vt83.Y.Hi, .bool vt83.Y.Unknown, .int .i64 vt83.Z.Lo, .int .i64 vt83.Z.Hi, .bool vt83.Z.Unknown], .int .i64 ((rd v3.Cones x50).Cos)]) kr (query_Near.calls k n9.box vt83 ((rd v3.Cones x50).Cos) HS88 vt89 hc90) ?_)
   rintro _ W93 ⟨f91, rfl, L92, HS94⟩
   refine ⟨_, rfl, ?_⟩
   refine ⟨(Sg.g0 (Sx.of [] (L86.trans L92) HS94)), ?_⟩
   refine takeGL [11, 12] (n := 2) (fuel := 0) #[true, true, true, true, true, true, true, true, true, true, true, true, true] rfl kr kr kr (fun ch_ a_ w_ q_ => (fun ch_ a_ w_ q_ => hnp ch_ a_ w_ (hp39 ch_ a_ w_ q_)) ch_ a_ w_ (hp64 ch_ a_ w_ q_)) (Sg.g0 (Sx.of [] (L86.trans L92) HS94)) ?_
   refine doneG kr ?_ _
   refine hn61 _ _ ?_
   refine hK58 _ _ ?_
   refine rl ?_
   refine seqL2 kr ?_
   refine nl ?_
   refine hK42 n43 _ _ (Nat.lt_succ_self _) ?_
   have HS105 := HS94.u1.u1
   have HS106 := HS105.drop
   exact ⟨f91, (mn vg49 vt89), (w64 (x50 + 1)), (jL [.pointer (some ⟨b75, 0, none⟩), tV, .pointer (some ⟨b72, of73 + (x50 : Int).toNat * 4, none⟩), (ag_Cone (rd v3.Cones x50)), iV vg49, .pointer (some ⟨b7, 0, none⟩), .pointer (some ⟨b7, 0, none⟩), .pointer (some ⟨b7, 0, none⟩), (ag_Box n9.box), .pointer (some ⟨b75, 0, none⟩), (ag_Vec ((rd v3.Cones x50).At)), (ag_Box vt83), .pointer (some ⟨b75, 3, none⟩), iV ((rd v3.Cones x50).Cos), iV vt89, iV (mn vg49 vt89), iV (w64 (x50 + 1))]), (L45.trans (L86.trans L92)), HS106, h, kr⟩
 · have c56 : ¬ (x50 < (v3.Cones.length : Int)) := c56
   refine wpRwI 20 kr (decide_eq_false c56) ?_
   refine condF kr ?_
   refine wp_exit ?_
   refine hx35 _ _ ?_
   exact J102 f44 vg49 (jL [(j48 0), iV x50, fV, (j48 2), (j48 3), (j48 4), (j48 5), (j48 6), (j48 7), (j48 8), (j48 9), (j48 10), (j48 11), (j48 12), (j48 13), (j48 14), (j48 15), (j48 16)]) W46 _ L45 h HS47 kr

end Go.Sp.J7
