import Derived.Test.YtiibkbligihgoaaGreatProg
import Derived.Test.YtiibkbligihgoaaGreatSpCopy
import Derived.Test.YtiibkbligihgoaaGreatFJ7
import Derived.Test.YtiibkbligihgoaaGreatSpSort3P
import Derived.Test.YtiibkbligihgoaaGreatShelf
import Derived.Test.YtiibkbligihgoaaGreatSpMapR
import Derived.Test.YtiibkbligihgoaaGreatSpKeys
import Derived.Test.YtiibkbligihgoaaGreatSpNode
import Derived.Test.YtiibkbligihgoaaGreatSpKeyP
import Derived.Test.YtiibkbligihgoaaGreatSpArr
import Derived.Test.YtiibkbligihgoaaGreatSpRound
import Derived.Test.YtiibkbligihgoaaGreatKJ7n0
import Derived.Test.YtiibkbligihgoaaGreatKJ7n1
import Derived.Test.YtiibkbligihgoaaGreatKJ7n2
import Derived.Test.YtiibkbligihgoaaGreatKJ7n3
import Derived.Test.YtiibkbligihgoaaGreatKJ7n4
import Derived.Test.YtiibkbligihgoaaGreatKJ7n5
import Derived.Test.YtiibkbligihgoaaGreatKJ7n6
import Derived.Test.YtiibkbligihgoaaGreatKJ7n7
namespace Go.Sp.J7
open Go Go.Sp Go.Proofs
set_option linter.unusedVariables false
attribute [local irreducible] wpList AnyL Code.wp Calls Does Code.wpIn wpListIn CallsIn bodyPostM LeavesInM
set_option maxRecDepth 100000 in
set_option maxHeartbeats 4000000 in
theorem query_walk__query_Index_Join_2__query_Index_Join_1.r_calls (k : Nat) : ∀ (q_ : Nat) (b1 : Nat) (A12 : Option Addr) (c13 : Nat) (b3 : Nat) (b5 : Nat) (b7 : Nat) (A17 : Option Addr) (c18 : Nat) (A20 : Option Addr) (c21 : Nat) (A23 : Option Addr) (c24 : Nat) (b9 : Nat) (A27 : Option Addr) (c28 : Nat) (s29 : Seg) (A33 : Option Addr) (c34 : Nat) (v11 : S_Row) (v15 : Int) (v16 : S_Index) (v26 : List S_Pair) (l32 : List S_node) {t w : World} {f : FM} {H : List Seg} (HS : St t w f ([(b1, .cells #[.int .i64 v11.ID, .int .i64 v11.Box.X.Lo, .int .i64 v11.Box.X.Hi, .bool v11.Box.X.Unknown, .int .i64 v11.Box.Y.Lo, .int .i64 v11.Box.Y.Hi, .bool v11.Box.Y.Unknown, .int .i64 v11.Box.Z.Lo, .int .i64 v11.Box.Z.Hi, .bool v11.Box.Z.Unknown, .int .i64 v11.Flux.Lo, .int .i64 v11.Flux.Hi, .bool v11.Flux.Unknown, .int .i64 v11.When.Lo, .int .i64 v11.When.Hi, .bool v11.When.Unknown, .slice A12 v11.Frames.length c13, .int .i64 v11.Marks] 99 (0, 0))] :: [(b3, .cells #[.int .i64 v15] 23 (0, 0))] :: [(b5, .cells #[.pointer (some ⟨b7, 0, none⟩)] 66 (0, 0))] :: [(b7, .cells #[.slice A17 v16.rows.length c18, .int .i64 v16.level, .slice A20 v16.roots.length c21, .slice A23 v16.loose.length c24] 109 (0, 0))] :: [(b9, .cells #[.slice A27 v26.length c28] 73 (0, 0))] :: s29 :: H)) (HR14 : SlR (tInt .i64) f A12 c13 v11.Frames) (HR19 : SlR ty_Row f A17 c18 v16.rows) (HR22 : SlR fx_node.t f A20 c21 v16.roots) (HR25 : SlR (tInt .i64) f A23 c24 v16.loose) (HO30 : Own ty_Pair 77 f A27 c28 s29 v26) (HR35 : SlR fx_node.t f A33 c34 l32) (rr1 : Int) (rr2 : List S_Pair) (h : query_walk__query_Index_Join_2__query_Index_Join_1.r k q_ v11 v15 v16 v26 l32 = some (rr1, rr2)),
    Calls Tryz.prog 52 #[.slice A33 l32.length c34, .func (.func 59) #[] #[.pointer (some ⟨b1, 0, none⟩), .pointer (some ⟨b3, 0, none⟩)], .func (.func 58) #[] #[.pointer (some ⟨b5, 0, none⟩), .pointer (some ⟨b1, 0, none⟩), .pointer (some ⟨b3, 0, none⟩), .pointer (some ⟨b9, 0, none⟩)]] w (fun e w' => ∃ (g : FM) (A902 : Option Addr) (c903 : Nat) (s904 : Seg), e = .returned (Value.int .i64 rr1) ∧ FM.le f g ∧ St t w' g (s904 :: [(b1, .cells #[.int .i64 v11.ID, .int .i64 v11.Box.X.Lo, .int .i64 v11.Box.X.Hi, .bool v11.Box.X.Unknown, .int .i64 v11.Box.Y.Lo, .int .i64 v11.Box.Y.Hi, .bool v11.Box.Y.Unknown, .int .i64 v11.Box.Z.Lo, .int .i64 v11.Box.Z.Hi, .bool v11.Box.Z.Unknown, .int .i64 v11.Flux.Lo, .int .i64 v11.Flux.Hi, .bool v11.Flux.Unknown, .int .i64 v11.When.Lo, .int .i64 v11.When.Hi, .bool v11.When.Unknown, .slice A12 v11.Frames.length c13, .int .i64 v11.Marks] 99 (0, 0))] :: [(b3, .cells #[.int .i64 v15] 23 (0, 0))] :: [(b5, .cells #[.pointer (some ⟨b7, 0, none⟩)] 66 (0, 0))] :: [(b7, .cells #[.slice A17 v16.rows.length c18, .int .i64 v16.level, .slice A20 v16.roots.length c21, .slice A23 v16.loose.length c24] 109 (0, 0))] :: [(b9, .cells #[.slice A902 rr2.length c903] 73 (0, 0))] :: H) ∧ Own ty_Pair 77 g A902 c903 s904 rr2) := by
  intro q_
  induction q_ with
  | zero =>
    intro b1 A12 c13 b3 b5 b7 A17 c18 A20 c21 A23 c24 b9 A27 c28 s29 A33 c34 v11 v15 v16 v26 l32 t w f H HS HR14 HR19 HR22 HR25 HO30 HR35 rr1 rr2 h
    simp only [query_walk__query_Index_Join_2__query_Index_Join_1.r] at h
    exact nomatch h
  | succ q_ ih_ =>
    intro b1 A12 c13 b3 b5 b7 A17 c18 A20 c21 A23 c24 b9 A27 c28 s29 A33 c34 v11 v15 v16 v26 l32 t w f H HS HR14 HR19 HR22 HR25 HO30 HR35 rr1 rr2 h
    simp only [query_walk__query_Index_Join_2__query_Index_Join_1.r] at h
    refine enter Tryz.func52 rfl (tm := #[.slice A33 l32.length c34, .func (.func 59) #[] #[pV b1 0, pV b3 0], .func (.func 58) #[] #[pV b5 0, pV b1 0, pV b3 0, pV b9 0], uV, uV, uV, uV, uV, uV, uV, uV, uV, uV, uV, uV, uV, uV, uV, uV, uV, uV, uV, uV, uV, uV, uV, uV, uV, uV, uV, uV, uV, uV, uV, uV, uV, uV, uV, uV, uV, uV, uV, uV, uV, uV, uV, uV, uV, uV, uV, uV, uV, uV, uV]) kr ?_
    intro B hret hnor hnp
    refine wp_seq_k fun K36 hK37 => rl ?_
    refine seqL1 kr ?_
    refine nl (hK37 _ _ ?_)
    refine wp_seq_k fun K38 hK39 => rl ?_
    refine seqL3 kr ?_
    refine nl (hK39 _ _ ?_)
    refine wp_seq_k (fun K40 hK41 => ?_)
    refine wp_seq_k fun K42 hK43 => rl ?_
    refine seqL3 kr ?_
    refine nl (hK43 _ _ ?_)
    refine blockK (fun B44 hx45 hn46 hr47 ho48 hp49 => ?_)
    have hq_ := bind_some h; clear h; obtain ⟨o598, hv886, h⟩ := hq_
    have J887 : ∀ (f875 : FM) (A882 : Option Addr) (c883 : Nat) (s884 : Seg) (cost880 : Int) (x881 : List S_Pair) (j879 : Nat → Value) (W877 : World) (a_ : Act), FM.le f f875 → some ((cost880, x881)) = some o598 → St t W877 f875 ([(b1, .cells #[.int .i64 v11.ID, .int .i64 v11.Box.X.Lo, .int .i64 v11.Box.X.Hi, .bool v11.Box.X.Unknown, .int .i64 v11.Box.Y.Lo, .int .i64 v11.Box.Y.Hi, .bool v11.Box.Y.Unknown, .int .i64 v11.Box.Z.Lo, .int .i64 v11.Box.Z.Hi, .bool v11.Box.Z.Unknown, .int .i64 v11.Flux.Lo, .int .i64 v11.Flux.Hi, .bool v11.Flux.Unknown, .int .i64 v11.When.Lo, .int .i64 v11.When.Hi, .bool v11.When.Unknown, .slice A12 v11.Frames.length c13, .int .i64 v11.Marks] 99 (0, 0))] :: [(b3, .cells #[.int .i64 v15] 23 (0, 0))] :: [(b5, .cells #[.pointer (some ⟨b7, 0, none⟩)] 66 (0, 0))] :: [(b7, .cells #[.slice A17 v16.rows.length c18, .int .i64 v16.level, .slice A20 v16.roots.length c21, .slice A23 v16.loose.length c24] 109 (0, 0))] :: [(b9, .cells #[.slice A882 x881.length c883] 73 (0, 0))] :: s884 :: H) → Own ty_Pair 77 f875 A882 c883 s884 x881 → a_ = ⟨#[.slice A33 l32.length c34, .func (.func 59) #[] #[pV b1 0, pV b3 0], .func (.func 58) #[] #[pV b5 0, pV b1 0, pV b3 0, pV b9 0], uV, uV, uV, iV 0, iV cost880, uV, (j879 0), uV, (j879 1), .slice A33 l32.length c34, iV (l32.length : Int), .slice A33 l32.length c34, iV (l32.length : Int), (j879 2), (j879 3), (j879 4), (j879 5), (j879 6), (j879 7), (j879 8), (j879 9), (j879 10), (j879 11), (j879 12), (j879 13), (j879 14), (j879 15), (j879 16), (j879 17), (j879 18), (j879 19), (j879 20), (j879 21), (j879 22), (j879 23), (j879 24), (j879 25), (j879 26), (j879 27), (j879 28), (j879 29), (j879 30), (j879 31), (j879 32), (j879 33), (j879 34), (j879 35), (j879 36), (j879 37), (j879 38), uV], []⟩ → K40 a_ W877 := by
     intro f875 A882 c883 s884 cost880 x881 j879 W877 a_ L876 hj888 HS878 HO885 hfr_; subst hfr_
     injection hj888 with hj888; subst hj888; try dsimp only at h
     refine hK41 _ _ ?_
     refine wp_seq_k fun K894 hK895 => rl ?_
     refine seqL2 kr ?_
     refine nl (hK895 _ _ ?_)
     refine wp_ret ?_
     refine hret _ _ ?_
     refine ends_still (v := Value.int .i64 cost880) kr kr ?_
     have HS901 := HS878.u4.u4.u4.u4.u4.u5
     injection h with h
     injection h with h0_ h
     subst h0_ h
     exact ⟨f875, A882, c883, s884, rfl, L876, HS901, HO885⟩
    clear h; have h := hv886; clear hv886
    refine loopK (fun n_ a_ w_ => ∃ (f602 : FM) (A610 : Option Addr) (c611 : Nat) (s612 : Seg) (cost607 : Int) (x608 : Int) (x609 : List S_Pair) (j606 : Nat → Value), FM.le f f602 ∧ St t w_ f602 ([(b1, .cells #[.int .i64 v11.ID, .int .i64 v11.Box.X.Lo, .int .i64 v11.Box.X.Hi, .bool v11.Box.X.Unknown, .int .i64 v11.Box.Y.Lo, .int .i64 v11.Box.Y.Hi, .bool v11.Box.Y.Unknown, .int .i64 v11.Box.Z.Lo, .int .i64 v11.Box.Z.Hi, .bool v11.Box.Z.Unknown, .int .i64 v11.Flux.Lo, .int .i64 v11.Flux.Hi, .bool v11.Flux.Unknown, .int .i64 v11.When.Lo, .int .i64 v11.When.Hi, .bool v11.When.Unknown, .slice A12 v11.Frames.length c13, .int .i64 v11.Marks] 99 (0, 0))] :: [(b3, .cells #[.int .i64 v15] 23 (0, 0))] :: [(b5, .cells #[.pointer (some ⟨b7, 0, none⟩)] 66 (0, 0))] :: [(b7, .cells #[.slice A17 v16.rows.length c18, .int .i64 v16.level, .slice A20 v16.roots.length c21, .slice A23 v16.loose.length c24] 109 (0, 0))] :: [(b9, .cells #[.slice A610 x609.length c611] 73 (0, 0))] :: s612 :: H) ∧ Own ty_Pair 77 f602 A610 c611 s612 x609 ∧ query_walk__query_Index_Join_2__query_Index_Join_1.l0 k (query_walk__query_Index_Join_2__query_Index_Join_1.r k q_) l32 v11 v15 v16 n_ cost607 x608 x609 = some o598 ∧ a_ = ⟨#[.slice A33 l32.length c34, .func (.func 59) #[] #[pV b1 0, pV b3 0], .func (.func 58) #[] #[pV b5 0, pV b1 0, pV b3 0, pV b9 0], uV, uV, uV, iV 0, iV cost607, uV, (j606 0), uV, (j606 1), .slice A33 l32.length c34, iV (l32.length : Int), .slice A33 l32.length c34, iV (l32.length : Int), iV x608, (j606 2), (j606 3), (j606 4), (j606 5), (j606 6), (j606 7), (j606 8), (j606 9), (j606 10), (j606 11), (j606 12), (j606 13), (j606 14), (j606 15), (j606 16), (j606 17), (j606 18), (j606 19), (j606 20), (j606 21), (j606 22), (j606 23), (j606 24), (j606 25), (j606 26), (j606 27), (j606 28), (j606 29), (j606 30), (j606 31), (j606 32), (j606 33), (j606 34), (j606 35), (j606 36), (j606 37), uV], []⟩) k ⟨f, A27, c28, s29, (l32.length : Int), 0, v26, (jL []), fL, HS, HO30, h, kr⟩ ?_
    clear h
    rintro n601 _ W604 ⟨f602, A610, c611, s612, cost607, x608, x609, j606, L603, HS605, HO613, h, rfl⟩ K599 hK600
    obtain _ | n601 := n601
    · exact nomatch h
    simp only [query_walk__query_Index_Join_2__query_Index_Join_1.l0] at h
    refine wp_seq_k fun K614 hK615 => rl ?_
    refine seqL1 kr ?_
    refine nl (hK615 _ _ ?_)
    refine wp_seq_k (fun K616 hK617 => ?_)
    have hq_ := ite_some h; clear h; rcases hq_ with ⟨c619, h⟩ | ⟨c619, h⟩
    · have c619 : x608 < (l32.length : Int) := c619
      refine wpRwI 17 kr (decide_eq_true c619) ?_
      refine condT kr ?_
      refine wp_skip ?_
      refine hK617 _ _ ?_
      refine wp_seq_k (fun K620 hK621 => ?_)
      refine blockK (fun B622 hx623 hn624 hr625 ho626 hp627 => ?_)
      refine wp_seq_k fun K629 hK630 => rl ?_
      have hq_ := guard_some h; clear h; obtain ⟨c631, h⟩ := hq_
      have c631 : 0 ≤ x608 := c631
      obtain ⟨b635, of636, cs632, hA637, hr633, hc634⟩ := (HR35.mono L603).at (i := x608) c631 c619
      obtain ⟨b638, ar639, fr640, hu641, hb642, hG643⟩ := fx_node.opened hr633
      obtain rfl := hu641
      obtain ⟨A645, c645, A646, c646, ha644, HR645, HR646⟩ := hG643
      obtain rfl := arr_of ha644
      have hb642 : f602 b638 = some (.cells #[.int .i64 ((((rd l32 x608).box).X).Lo), .int .i64 ((((rd l32 x608).box).X).Hi), .bool ((((rd l32 x608).box).X).Unknown), .int .i64 ((((rd l32 x608).box).Y).Lo), .int .i64 ((((rd l32 x608).box).Y).Hi), .bool ((((rd l32 x608).box).Y).Unknown), .int .i64 ((((rd l32 x608).box).Z).Lo), .int .i64 ((((rd l32 x608).box).Z).Hi), .bool ((((rd l32 x608).box).Z).Unknown), .int .i64 (((rd l32 x608).when).Lo), .int .i64 (((rd l32 x608).when).Hi), .bool (((rd l32 x608).when).Unknown), .slice A645 ((rd l32 x608).kids).length c645, .slice A646 ((rd l32 x608).rows).length c646] 119 fr640) := hb642
      refine seqK rfl (does_run (run_indexE hA637 (sz := 1) rfl Tryz.underlying107 kr (kv (.slice A33 l32.length c34)) (kv (.int .i64 x608)) c631 c619 W604) ?_)
      refine seqK rfl (does_run (run_load rfl Tryz.underlying116 rfl (kv (.pointer (some ⟨b635, of636 + (x608 : Int).toNat * 1, none⟩))) ((hc634 fL HS605) 0 (by decide))) ?_)
      refine seqL1 kr ?_
      refine nl (hK630 _ _ ?_)
      refine wp_seq_k (fun K647 hK648 => ?_)
      refine wp_seq_k fun K649 hK650 => rl ?_
      have HS652 := HS605.u1.u1
      have hq_ := bind_some h; clear h; obtain ⟨vt653, hc654, h⟩ := hq_
      refine seqL2 kr ?_
      refine seqK rfl (does_call (f := 59) (args := #[.pointer (some ⟨b638, 0, none⟩), .pointer (some ⟨b1, 0, none⟩), .pointer (some ⟨b3, 0, none⟩)]) kr (query_Index_Join_2.calls k b1 A12 c13 b3 b638 fr640 A645 c645 A646 c646 v11 v15 (rd l32 x608) HS652 (HR14.mono L603) HR645 HR646 hb642 hr633 vt653 hc654) ?_)
      rintro _ W657 ⟨f655, rfl, L656, HS658⟩
      refine ⟨_, rfl, ?_⟩
      refine seqL1 kr ?_
      refine nl (hK650 _ _ ?_)
      have hq_ := ite_some h; clear h; rcases hq_ with ⟨c660, h⟩ | ⟨c660, h⟩
      · have c660 : ¬ (vt653 = true) := c660
        refine wpRwI 23 kr (congrArg (fun b_ => !b_) (show vt653 = false from (Bool.eq_false_iff.mpr c660)) : (!vt653) = true) ?_
        refine condT kr ?_
        refine wp_exit ?_
        refine hx623 _ _ ?_
        refine hK621 _ _ ?_
        refine rl ?_
        refine seqL2 kr ?_
        refine nl ?_
        refine hK600 n601 _ _ (Nat.lt_succ_self _) ?_
        exact ⟨f655, A610, c611, s612, cost607, (w64 (x608 + 1)), x609, (jL [.pointer (some ⟨b638, 0, none⟩), (j606 1), tV, .pointer (some ⟨b635, of636 + (x608 : Int).toNat * 1, none⟩), .pointer (some ⟨b638, 0, none⟩), .func (.func 59) #[] #[.pointer (some ⟨b1, 0, none⟩), .pointer (some ⟨b3, 0, none⟩)], .pointer (some ⟨b638, 0, none⟩), .bool vt653, tV, (j606 9), (j606 10), (j606 11), (j606 12), (j606 13), (j606 14), (j606 15), (j606 16), (j606 17), (j606 18), (j606 19), (j606 20), (j606 21), (j606 22), (j606 23), (j606 24), (j606 25), (j606 26), (j606 27), (j606 28), (j606 29), (j606 30), (j606 31), (j606 32), (j606 33), (j606 34), (j606 35), (j606 36), iV (w64 (x608 + 1))]), (L603.trans L656), HS658, (HO613.mono L656), h, kr⟩
      · have c660 : ¬ (¬ (vt653 = true)) := c660
        refine wpRwI 23 (x := (!vt653)) (v := false) kr (congrArg (fun b_ => !b_) (show vt653 = true from (Decidable.of_not_not c660)) : (!vt653) = false) ?_
        refine condF kr ?_
        refine wp_skip ?_
        refine hK648 _ _ ?_
        refine wp_seq_k (fun K661 hK662 => ?_)
        have HS668 := HS658.u5.u5.u5.u5.u5.u5
        refine heldG (S := Sg t f655 (H) [(12, [(b1, .cells #[.int .i64 v11.ID, .int .i64 v11.Box.X.Lo, .int .i64 v11.Box.X.Hi, .bool v11.Box.X.Unknown, .int .i64 v11.Box.Y.Lo, .int .i64 v11.Box.Y.Hi, .bool v11.Box.Y.Unknown, .int .i64 v11.Box.Z.Lo, .int .i64 v11.Box.Z.Hi, .bool v11.Box.Z.Unknown, .int .i64 v11.Flux.Lo, .int .i64 v11.Flux.Hi, .bool v11.Flux.Unknown, .int .i64 v11.When.Lo, .int .i64 v11.When.Hi, .bool v11.When.Unknown, .slice A12 v11.Frames.length c13, .int .i64 v11.Marks] 99 (0, 0))]), (12, [(b3, .cells #[.int .i64 v15] 23 (0, 0))]), (12, [(b5, .cells #[.pointer (some ⟨b7, 0, none⟩)] 66 (0, 0))])]) (n := 16) kr rfl HS668 ?_
        intro W669 HS670
        refine takeGL [0, 1, 2, 3] (n := 16) (fuel := 12) #[true, true, true, true, false, false, false, false, false, false, false, false, false, false, false, false] rfl kr kr kr (fun ch_ a_ w_ q_ => (fun ch_ a_ w_ q_ => hnp ch_ a_ w_ (hp49 ch_ a_ w_ q_)) ch_ a_ w_ (hp627 ch_ a_ w_ q_)) (Sg.g3 (Sx.of [[(b1, .cells #[.int .i64 v11.ID, .int .i64 v11.Box.X.Lo, .int .i64 v11.Box.X.Hi, .bool v11.Box.X.Unknown, .int .i64 v11.Box.Y.Lo, .int .i64 v11.Box.Y.Hi, .bool v11.Box.Y.Unknown, .int .i64 v11.Box.Z.Lo, .int .i64 v11.Box.Z.Hi, .bool v11.Box.Z.Unknown, .int .i64 v11.Flux.Lo, .int .i64 v11.Flux.Hi, .bool v11.Flux.Unknown, .int .i64 v11.When.Lo, .int .i64 v11.When.Hi, .bool v11.When.Unknown, .slice A12 v11.Frames.length c13, .int .i64 v11.Marks] 99 (0, 0))], [(b3, .cells #[.int .i64 v15] 23 (0, 0))], [(b5, .cells #[.pointer (some ⟨b7, 0, none⟩)] 66 (0, 0))], [(b7, .cells #[.slice A17 v16.rows.length c18, .int .i64 v16.level, .slice A20 v16.roots.length c21, .slice A23 v16.loose.length c24] 109 (0, 0))], [(b9, .cells #[.slice A610 x609.length c611] 73 (0, 0))], s612] fL HS670) (fun _ => St.only [] HS670 fL) (fun _ => St.only [[(b1, .cells #[.int .i64 v11.ID, .int .i64 v11.Box.X.Lo, .int .i64 v11.Box.X.Hi, .bool v11.Box.X.Unknown, .int .i64 v11.Box.Y.Lo, .int .i64 v11.Box.Y.Hi, .bool v11.Box.Y.Unknown, .int .i64 v11.Box.Z.Lo, .int .i64 v11.Box.Z.Hi, .bool v11.Box.Z.Unknown, .int .i64 v11.Flux.Lo, .int .i64 v11.Flux.Hi, .bool v11.Flux.Unknown, .int .i64 v11.When.Lo, .int .i64 v11.When.Hi, .bool v11.When.Unknown, .slice A12 v11.Frames.length c13, .int .i64 v11.Marks] 99 (0, 0))]] HS670 fL) (fun _ => St.only [[(b1, .cells #[.int .i64 v11.ID, .int .i64 v11.Box.X.Lo, .int .i64 v11.Box.X.Hi, .bool v11.Box.X.Unknown, .int .i64 v11.Box.Y.Lo, .int .i64 v11.Box.Y.Hi, .bool v11.Box.Y.Unknown, .int .i64 v11.Box.Z.Lo, .int .i64 v11.Box.Z.Hi, .bool v11.Box.Z.Unknown, .int .i64 v11.Flux.Lo, .int .i64 v11.Flux.Hi, .bool v11.Flux.Unknown, .int .i64 v11.When.Lo, .int .i64 v11.When.Hi, .bool v11.When.Unknown, .slice A12 v11.Frames.length c13, .int .i64 v11.Marks] 99 (0, 0))], [(b3, .cells #[.int .i64 v15] 23 (0, 0))]] HS670 fL)) ?_
        refine takeGQ 4 [] rfl kr kr kr kr kr kr (fun ch_ a_ w_ q_ => (fun ch_ a_ w_ q_ => hnp ch_ a_ w_ (hp49 ch_ a_ w_ q_)) ch_ a_ w_ (hp627 ch_ a_ w_ q_)) (Sg.g3 (Sx.of [[(b1, .cells #[.int .i64 v11.ID, .int .i64 v11.Box.X.Lo, .int .i64 v11.Box.X.Hi, .bool v11.Box.X.Unknown, .int .i64 v11.Box.Y.Lo, .int .i64 v11.Box.Y.Hi, .bool v11.Box.Y.Unknown, .int .i64 v11.Box.Z.Lo, .int .i64 v11.Box.Z.Hi, .bool v11.Box.Z.Unknown, .int .i64 v11.Flux.Lo, .int .i64 v11.Flux.Hi, .bool v11.Flux.Unknown, .int .i64 v11.When.Lo, .int .i64 v11.When.Hi, .bool v11.When.Unknown, .slice A12 v11.Frames.length c13, .int .i64 v11.Marks] 99 (0, 0))], [(b3, .cells #[.int .i64 v15] 23 (0, 0))], [(b5, .cells #[.pointer (some ⟨b7, 0, none⟩)] 66 (0, 0))], [(b7, .cells #[.slice A17 v16.rows.length c18, .int .i64 v16.level, .slice A20 v16.roots.length c21, .slice A23 v16.loose.length c24] 109 (0, 0))], [(b9, .cells #[.slice A610 x609.length c611] 73 (0, 0))], s612] fL HS670) (fun _ => St.only [] HS670 fL) (fun _ => St.only [[(b1, .cells #[.int .i64 v11.ID, .int .i64 v11.Box.X.Lo, .int .i64 v11.Box.X.Hi, .bool v11.Box.X.Unknown, .int .i64 v11.Box.Y.Lo, .int .i64 v11.Box.Y.Hi, .bool v11.Box.Y.Unknown, .int .i64 v11.Box.Z.Lo, .int .i64 v11.Box.Z.Hi, .bool v11.Box.Z.Unknown, .int .i64 v11.Flux.Lo, .int .i64 v11.Flux.Hi, .bool v11.Flux.Unknown, .int .i64 v11.When.Lo, .int .i64 v11.When.Hi, .bool v11.When.Unknown, .slice A12 v11.Frames.length c13, .int .i64 v11.Marks] 99 (0, 0))]] HS670 fL) (fun _ => St.only [[(b1, .cells #[.int .i64 v11.ID, .int .i64 v11.Box.X.Lo, .int .i64 v11.Box.X.Hi, .bool v11.Box.X.Unknown, .int .i64 v11.Box.Y.Lo, .int .i64 v11.Box.Y.Hi, .bool v11.Box.Y.Unknown, .int .i64 v11.Box.Z.Lo, .int .i64 v11.Box.Z.Hi, .bool v11.Box.Z.Unknown, .int .i64 v11.Flux.Lo, .int .i64 v11.Flux.Hi, .bool v11.Flux.Unknown, .int .i64 v11.When.Lo, .int .i64 v11.When.Hi, .bool v11.When.Unknown, .slice A12 v11.Frames.length c13, .int .i64 v11.Marks] 99 (0, 0))], [(b3, .cells #[.int .i64 v15] 23 (0, 0))]] HS670 fL)) (fun w_ hw_ => by obtain ⟨g_, hl_, hS_⟩ := hw_.st; exact run_load rfl Tryz.underlying22 rfl (kv (.pointer (some ⟨b638, 13, none⟩))) (hS_.fcell hb642 (L656.trans hl_) 13)) ?_
        refine takeGL [5, 6, 7, 8] (n := 11) (fuel := 7) #[true, true, true, true, true, true, true, true, true, false, false, false, false, false, false, false] rfl kr kr kr (fun ch_ a_ w_ q_ => (fun ch_ a_ w_ q_ => hnp ch_ a_ w_ (hp49 ch_ a_ w_ q_)) ch_ a_ w_ (hp627 ch_ a_ w_ q_)) (Sg.g3 (Sx.of [[(b1, .cells #[.int .i64 v11.ID, .int .i64 v11.Box.X.Lo, .int .i64 v11.Box.X.Hi, .bool v11.Box.X.Unknown, .int .i64 v11.Box.Y.Lo, .int .i64 v11.Box.Y.Hi, .bool v11.Box.Y.Unknown, .int .i64 v11.Box.Z.Lo, .int .i64 v11.Box.Z.Hi, .bool v11.Box.Z.Unknown, .int .i64 v11.Flux.Lo, .int .i64 v11.Flux.Hi, .bool v11.Flux.Unknown, .int .i64 v11.When.Lo, .int .i64 v11.When.Hi, .bool v11.When.Unknown, .slice A12 v11.Frames.length c13, .int .i64 v11.Marks] 99 (0, 0))], [(b3, .cells #[.int .i64 v15] 23 (0, 0))], [(b5, .cells #[.pointer (some ⟨b7, 0, none⟩)] 66 (0, 0))], [(b7, .cells #[.slice A17 v16.rows.length c18, .int .i64 v16.level, .slice A20 v16.roots.length c21, .slice A23 v16.loose.length c24] 109 (0, 0))], [(b9, .cells #[.slice A610 x609.length c611] 73 (0, 0))], s612] fL HS670) (fun _ => St.only [] HS670 fL) (fun _ => St.only [[(b1, .cells #[.int .i64 v11.ID, .int .i64 v11.Box.X.Lo, .int .i64 v11.Box.X.Hi, .bool v11.Box.X.Unknown, .int .i64 v11.Box.Y.Lo, .int .i64 v11.Box.Y.Hi, .bool v11.Box.Y.Unknown, .int .i64 v11.Box.Z.Lo, .int .i64 v11.Box.Z.Hi, .bool v11.Box.Z.Unknown, .int .i64 v11.Flux.Lo, .int .i64 v11.Flux.Hi, .bool v11.Flux.Unknown, .int .i64 v11.When.Lo, .int .i64 v11.When.Hi, .bool v11.When.Unknown, .slice A12 v11.Frames.length c13, .int .i64 v11.Marks] 99 (0, 0))]] HS670 fL) (fun _ => St.only [[(b1, .cells #[.int .i64 v11.ID, .int .i64 v11.Box.X.Lo, .int .i64 v11.Box.X.Hi, .bool v11.Box.X.Unknown, .int .i64 v11.Box.Y.Lo, .int .i64 v11.Box.Y.Hi, .bool v11.Box.Y.Unknown, .int .i64 v11.Box.Z.Lo, .int .i64 v11.Box.Z.Hi, .bool v11.Box.Z.Unknown, .int .i64 v11.Flux.Lo, .int .i64 v11.Flux.Hi, .bool v11.Flux.Unknown, .int .i64 v11.When.Lo, .int .i64 v11.When.Hi, .bool v11.When.Unknown, .slice A12 v11.Frames.length c13, .int .i64 v11.Marks] 99 (0, 0))], [(b3, .cells #[.int .i64 v15] 23 (0, 0))]] HS670 fL)) ?_
        refine takeGQ 9 [] rfl kr kr kr kr kr kr (fun ch_ a_ w_ q_ => (fun ch_ a_ w_ q_ => hnp ch_ a_ w_ (hp49 ch_ a_ w_ q_)) ch_ a_ w_ (hp627 ch_ a_ w_ q_)) (Sg.g3 (Sx.of [[(b1, .cells #[.int .i64 v11.ID, .int .i64 v11.Box.X.Lo, .int .i64 v11.Box.X.Hi, .bool v11.Box.X.Unknown, .int .i64 v11.Box.Y.Lo, .int .i64 v11.Box.Y.Hi, .bool v11.Box.Y.Unknown, .int .i64 v11.Box.Z.Lo, .int .i64 v11.Box.Z.Hi, .bool v11.Box.Z.Unknown, .int .i64 v11.Flux.Lo, .int .i64 v11.Flux.Hi, .bool v11.Flux.Unknown, .int .i64 v11.When.Lo, .int .i64 v11.When.Hi, .bool v11.When.Unknown, .slice A12 v11.Frames.length c13, .int .i64 v11.Marks] 99 (0, 0))], [(b3, .cells #[.int .i64 v15] 23 (0, 0))], [(b5, .cells #[.pointer (some ⟨b7, 0, none⟩)] 66 (0, 0))], [(b7, .cells #[.slice A17 v16.rows.length c18, .int .i64 v16.level, .slice A20 v16.roots.length c21, .slice A23 v16.loose.length c24] 109 (0, 0))], [(b9, .cells #[.slice A610 x609.length c611] 73 (0, 0))], s612] fL HS670) (fun _ => St.only [] HS670 fL) (fun _ => St.only [[(b1, .cells #[.int .i64 v11.ID, .int .i64 v11.Box.X.Lo, .int .i64 v11.Box.X.Hi, .bool v11.Box.X.Unknown, .int .i64 v11.Box.Y.Lo, .int .i64 v11.Box.Y.Hi, .bool v11.Box.Y.Unknown, .int .i64 v11.Box.Z.Lo, .int .i64 v11.Box.Z.Hi, .bool v11.Box.Z.Unknown, .int .i64 v11.Flux.Lo, .int .i64 v11.Flux.Hi, .bool v11.Flux.Unknown, .int .i64 v11.When.Lo, .int .i64 v11.When.Hi, .bool v11.When.Unknown, .slice A12 v11.Frames.length c13, .int .i64 v11.Marks] 99 (0, 0))]] HS670 fL) (fun _ => St.only [[(b1, .cells #[.int .i64 v11.ID, .int .i64 v11.Box.X.Lo, .int .i64 v11.Box.X.Hi, .bool v11.Box.X.Unknown, .int .i64 v11.Box.Y.Lo, .int .i64 v11.Box.Y.Hi, .bool v11.Box.Y.Unknown, .int .i64 v11.Box.Z.Lo, .int .i64 v11.Box.Z.Hi, .bool v11.Box.Z.Unknown, .int .i64 v11.Flux.Lo, .int .i64 v11.Flux.Hi, .bool v11.Flux.Unknown, .int .i64 v11.When.Lo, .int .i64 v11.When.Hi, .bool v11.When.Unknown, .slice A12 v11.Frames.length c13, .int .i64 v11.Marks] 99 (0, 0))], [(b3, .cells #[.int .i64 v15] 23 (0, 0))]] HS670 fL)) (fun w_ hw_ => by obtain ⟨g_, hl_, hS_⟩ := hw_.st; exact run_load rfl Tryz.underlying107 rfl (kv (.pointer (some ⟨b638, 12, none⟩))) (hS_.fcell hb642 (L656.trans hl_) 12)) ?_
        refine takeGL [10, 11] (n := 6) (fuel := 4) #[true, true, true, true, true, true, true, true, true, true, true, true, false, false, false, false] rfl kr kr kr (fun ch_ a_ w_ q_ => (fun ch_ a_ w_ q_ => hnp ch_ a_ w_ (hp49 ch_ a_ w_ q_)) ch_ a_ w_ (hp627 ch_ a_ w_ q_)) (Sg.g3 (Sx.of [[(b1, .cells #[.int .i64 v11.ID, .int .i64 v11.Box.X.Lo, .int .i64 v11.Box.X.Hi, .bool v11.Box.X.Unknown, .int .i64 v11.Box.Y.Lo, .int .i64 v11.Box.Y.Hi, .bool v11.Box.Y.Unknown, .int .i64 v11.Box.Z.Lo, .int .i64 v11.Box.Z.Hi, .bool v11.Box.Z.Unknown, .int .i64 v11.Flux.Lo, .int .i64 v11.Flux.Hi, .bool v11.Flux.Unknown, .int .i64 v11.When.Lo, .int .i64 v11.When.Hi, .bool v11.When.Unknown, .slice A12 v11.Frames.length c13, .int .i64 v11.Marks] 99 (0, 0))], [(b3, .cells #[.int .i64 v15] 23 (0, 0))], [(b5, .cells #[.pointer (some ⟨b7, 0, none⟩)] 66 (0, 0))], [(b7, .cells #[.slice A17 v16.rows.length c18, .int .i64 v16.level, .slice A20 v16.roots.length c21, .slice A23 v16.loose.length c24] 109 (0, 0))], [(b9, .cells #[.slice A610 x609.length c611] 73 (0, 0))], s612] fL HS670) (fun _ => St.only [] HS670 fL) (fun _ => St.only [[(b1, .cells #[.int .i64 v11.ID, .int .i64 v11.Box.X.Lo, .int .i64 v11.Box.X.Hi, .bool v11.Box.X.Unknown, .int .i64 v11.Box.Y.Lo, .int .i64 v11.Box.Y.Hi, .bool v11.Box.Y.Unknown, .int .i64 v11.Box.Z.Lo, .int .i64 v11.Box.Z.Hi, .bool v11.Box.Z.Unknown, .int .i64 v11.Flux.Lo, .int .i64 v11.Flux.Hi, .bool v11.Flux.Unknown, .int .i64 v11.When.Lo, .int .i64 v11.When.Hi, .bool v11.When.Unknown, .slice A12 v11.Frames.length c13, .int .i64 v11.Marks] 99 (0, 0))]] HS670 fL) (fun _ => St.only [[(b1, .cells #[.int .i64 v11.ID, .int .i64 v11.Box.X.Lo, .int .i64 v11.Box.X.Hi, .bool v11.Box.X.Unknown, .int .i64 v11.Box.Y.Lo, .int .i64 v11.Box.Y.Hi, .bool v11.Box.Y.Unknown, .int .i64 v11.Box.Z.Lo, .int .i64 v11.Box.Z.Hi, .bool v11.Box.Z.Unknown, .int .i64 v11.Flux.Lo, .int .i64 v11.Flux.Hi, .bool v11.Flux.Unknown, .int .i64 v11.When.Lo, .int .i64 v11.When.Hi, .bool v11.When.Unknown, .slice A12 v11.Frames.length c13, .int .i64 v11.Marks] 99 (0, 0))], [(b3, .cells #[.int .i64 v15] 23 (0, 0))]] HS670 fL)) ?_
        have HS676 := HS670.u5.u5.u5.u5.u5.u5
        have hq_ := bind_some h; clear h; obtain ⟨⟨vt677, vt678⟩, hc679, h⟩ := hq_
        refine takeGE 12 kr rfl kr (does_call (f := 52) (args := #[.slice A645 ((rd l32 x608).kids).length c645, .func (.func 59) #[] #[.pointer (some ⟨b1, 0, none⟩), .pointer (some ⟨b3, 0, none⟩)], .func (.func 58) #[] #[.pointer (some ⟨b5, 0, none⟩), .pointer (some ⟨b1, 0, none⟩), .pointer (some ⟨b3, 0, none⟩), .pointer (some ⟨b9, 0, none⟩)]]) kr (ih_ b1 A12 c13 b3 b5 b7 A17 c18 A20 c21 A23 c24 b9 A610 c611 s612 A645 c645 v11 v15 v16 x609 ((rd l32 x608).kids) HS676 (HR14.mono (L603.trans L656)) (HR19.mono (L603.trans L656)) (HR22.mono (L603.trans L656)) (HR25.mono (L603.trans L656)) (HO613.mono L656) (HR645.mono L656) vt677 vt678 hc679) ?_)
        rintro _ W682 ⟨f680, A684, c685, s686, rfl, L681, HS683, HO687⟩
        refine ⟨_, rfl, ?_⟩
        refine ⟨(Sg.g3 (Sx.of [s686, [(b1, .cells #[.int .i64 v11.ID, .int .i64 v11.Box.X.Lo, .int .i64 v11.Box.X.Hi, .bool v11.Box.X.Unknown, .int .i64 v11.Box.Y.Lo, .int .i64 v11.Box.Y.Hi, .bool v11.Box.Y.Unknown, .int .i64 v11.Box.Z.Lo, .int .i64 v11.Box.Z.Hi, .bool v11.Box.Z.Unknown, .int .i64 v11.Flux.Lo, .int .i64 v11.Flux.Hi, .bool v11.Flux.Unknown, .int .i64 v11.When.Lo, .int .i64 v11.When.Hi, .bool v11.When.Unknown, .slice A12 v11.Frames.length c13, .int .i64 v11.Marks] 99 (0, 0))], [(b3, .cells #[.int .i64 v15] 23 (0, 0))], [(b5, .cells #[.pointer (some ⟨b7, 0, none⟩)] 66 (0, 0))], [(b7, .cells #[.slice A17 v16.rows.length c18, .int .i64 v16.level, .slice A20 v16.roots.length c21, .slice A23 v16.loose.length c24] 109 (0, 0))], [(b9, .cells #[.slice A684 vt678.length c685] 73 (0, 0))]] L681 HS683) (fun hl_ => Bool.noConfusion (show true = false from hl_)) (fun hl_ => Bool.noConfusion (show true = false from hl_)) (fun hl_ => Bool.noConfusion (show true = false from hl_))), ?_⟩
        refine takeGL [13, 14, 15] (n := 3) (fuel := 0) #[true, true, true, true, true, true, true, true, true, true, true, true, true, true, true, true] rfl kr kr kr (fun ch_ a_ w_ q_ => (fun ch_ a_ w_ q_ => hnp ch_ a_ w_ (hp49 ch_ a_ w_ q_)) ch_ a_ w_ (hp627 ch_ a_ w_ q_)) (Sg.g3 (Sx.of [s686, [(b1, .cells #[.int .i64 v11.ID, .int .i64 v11.Box.X.Lo, .int .i64 v11.Box.X.Hi, .bool v11.Box.X.Unknown, .int .i64 v11.Box.Y.Lo, .int .i64 v11.Box.Y.Hi, .bool v11.Box.Y.Unknown, .int .i64 v11.Box.Z.Lo, .int .i64 v11.Box.Z.Hi, .bool v11.Box.Z.Unknown, .int .i64 v11.Flux.Lo, .int .i64 v11.Flux.Hi, .bool v11.Flux.Unknown, .int .i64 v11.When.Lo, .int .i64 v11.When.Hi, .bool v11.When.Unknown, .slice A12 v11.Frames.length c13, .int .i64 v11.Marks] 99 (0, 0))], [(b3, .cells #[.int .i64 v15] 23 (0, 0))], [(b5, .cells #[.pointer (some ⟨b7, 0, none⟩)] 66 (0, 0))], [(b7, .cells #[.slice A17 v16.rows.length c18, .int .i64 v16.level, .slice A20 v16.roots.length c21, .slice A23 v16.loose.length c24] 109 (0, 0))], [(b9, .cells #[.slice A684 vt678.length c685] 73 (0, 0))]] L681 HS683) (fun hl_ => Bool.noConfusion (show true = false from hl_)) (fun hl_ => Bool.noConfusion (show true = false from hl_)) (fun hl_ => Bool.noConfusion (show true = false from hl_))) ?_
        refine doneG kr ?_ _
        refine hK662 _ _ ?_
        refine wp_seq_k fun K689 hK690 => rl ?_
        refine seqL3 kr ?_
        refine seqK rfl (does_run (run_load rfl Tryz.underlying22 rfl (kv (.pointer (some ⟨b638, 13, none⟩))) (HS683.fcell hb642 (L656.trans L681) 13)) ?_)
        refine seqL2 kr ?_
        refine nl (hK690 _ _ ?_)
        refine blockK (fun B691 hx692 hn693 hr694 ho695 hp696 => ?_)
        have hq_ := bind_some h; clear h; obtain ⟨o801, hv866, h⟩ := hq_
        have J867 : ∀ (f856 : FM) (A862 : Option Addr) (c863 : Nat) (s864 : Seg) (x861 : List S_Pair) (j860 : Nat → Value) (W858 : World) (a_ : Act), FM.le f680 f856 → some (x861) = some o801 → St t W858 f856 (s864 :: [(b1, .cells #[.int .i64 v11.ID, .int .i64 v11.Box.X.Lo, .int .i64 v11.Box.X.Hi, .bool v11.Box.X.Unknown, .int .i64 v11.Box.Y.Lo, .int .i64 v11.Box.Y.Hi, .bool v11.Box.Y.Unknown, .int .i64 v11.Box.Z.Lo, .int .i64 v11.Box.Z.Hi, .bool v11.Box.Z.Unknown, .int .i64 v11.Flux.Lo, .int .i64 v11.Flux.Hi, .bool v11.Flux.Unknown, .int .i64 v11.When.Lo, .int .i64 v11.When.Hi, .bool v11.When.Unknown, .slice A12 v11.Frames.length c13, .int .i64 v11.Marks] 99 (0, 0))] :: [(b3, .cells #[.int .i64 v15] 23 (0, 0))] :: [(b5, .cells #[.pointer (some ⟨b7, 0, none⟩)] 66 (0, 0))] :: [(b7, .cells #[.slice A17 v16.rows.length c18, .int .i64 v16.level, .slice A20 v16.roots.length c21, .slice A23 v16.loose.length c24] 109 (0, 0))] :: [(b9, .cells #[.slice A862 x861.length c863] 73 (0, 0))] :: H) → Own ty_Pair 77 f856 A862 c863 s864 x861 → a_ = ⟨#[.slice A33 l32.length c34, .func (.func 59) #[] #[pV b1 0, pV b3 0], .func (.func 58) #[] #[pV b5 0, pV b1 0, pV b3 0, pV b9 0], uV, uV, uV, iV 0, iV (w64 (cost607 + (w64 ((((rd l32 x608).rows).length : Int) + vt677)))), uV, pV b638 0, uV, (j860 0), .slice A33 l32.length c34, iV (l32.length : Int), .slice A33 l32.length c34, iV (l32.length : Int), iV x608, tV, pV b635 (of636 + (x608 : Int).toNat * 1), pV b638 0, .func (.func 59) #[] #[pV b1 0, pV b3 0], pV b638 0, .bool vt653, fV, iV cost607, pV b638 0, pV b638 0, pV b638 13, .slice A646 ((rd l32 x608).rows).length c646, iV (((rd l32 x608).rows).length : Int), pV b638 0, pV b638 0, pV b638 12, .slice A645 ((rd l32 x608).kids).length c645, .func (.func 59) #[] #[pV b1 0, pV b3 0], .func (.func 58) #[] #[pV b5 0, pV b1 0, pV b3 0, pV b9 0], iV vt677, iV (w64 ((((rd l32 x608).rows).length : Int) + vt677)), iV (w64 (cost607 + (w64 ((((rd l32 x608).rows).length : Int) + vt677)))), pV b638 0, pV b638 0, pV b638 13, .slice A646 ((rd l32 x608).rows).length c646, iV (((rd l32 x608).rows).length : Int), (j860 1), (j860 2), (j860 3), (j860 4), (j860 5), (j860 6), (j860 7), (j860 8), (j606 37), uV], []⟩ → B622 Exit.normal a_ W858 := by
         intro f856 A862 c863 s864 x861 j860 W858 a_ L857 hj868 HS859 HO865 hfr_; subst hfr_
         injection hj868 with hj868; subst hj868; try dsimp only at h
         refine hn624 _ _ ?_
         refine hK621 _ _ ?_
         refine rl ?_
         refine seqL2 kr ?_
         refine nl ?_
         refine hK600 n601 _ _ (Nat.lt_succ_self _) ?_
         have HS893 := HS859.u5.u5.u5.u5.u5
         exact ⟨f856, A862, c863, s864, (w64 (cost607 + (w64 ((((rd l32 x608).rows).length : Int) + vt677)))), (w64 (x608 + 1)), x861, (jL [.pointer (some ⟨b638, 0, none⟩), (j860 0), tV, .pointer (some ⟨b635, of636 + (x608 : Int).toNat * 1, none⟩), .pointer (some ⟨b638, 0, none⟩), .func (.func 59) #[] #[.pointer (some ⟨b1, 0, none⟩), .pointer (some ⟨b3, 0, none⟩)], .pointer (some ⟨b638, 0, none⟩), .bool vt653, fV, iV cost607, .pointer (some ⟨b638, 0, none⟩), .pointer (some ⟨b638, 0, none⟩), .pointer (some ⟨b638, 13, none⟩), .slice A646 ((rd l32 x608).rows).length c646, iV (((rd l32 x608).rows).length : Int), .pointer (some ⟨b638, 0, none⟩), .pointer (some ⟨b638, 0, none⟩), .pointer (some ⟨b638, 12, none⟩), .slice A645 ((rd l32 x608).kids).length c645, .func (.func 59) #[] #[.pointer (some ⟨b1, 0, none⟩), .pointer (some ⟨b3, 0, none⟩)], .func (.func 58) #[] #[.pointer (some ⟨b5, 0, none⟩), .pointer (some ⟨b1, 0, none⟩), .pointer (some ⟨b3, 0, none⟩), .pointer (some ⟨b9, 0, none⟩)], iV vt677, iV (w64 ((((rd l32 x608).rows).length : Int) + vt677)), iV (w64 (cost607 + (w64 ((((rd l32 x608).rows).length : Int) + vt677)))), .pointer (some ⟨b638, 0, none⟩), .pointer (some ⟨b638, 0, none⟩), .pointer (some ⟨b638, 13, none⟩), .slice A646 ((rd l32 x608).rows).length c646, iV (((rd l32 x608).rows).length : Int), (j860 1), (j860 2), (j860 3), (j860 4), (j860 5), (j860 6), (j860 7), (j860 8), iV (w64 (x608 + 1))]), (L603.trans (L656.trans (L681.trans L857))), HS893, HO865, h, kr⟩
        clear h; have h := hv866; clear hv866
        refine loopK (fun n_ a_ w_ => ∃ (f805 : FM) (A812 : Option Addr) (c813 : Nat) (s814 : Seg) (x810 : Int) (x811 : List S_Pair) (j809 : Nat → Value), FM.le f680 f805 ∧ St t w_ f805 (s814 :: [(b1, .cells #[.int .i64 v11.ID, .int .i64 v11.Box.X.Lo, .int .i64 v11.Box.X.Hi, .bool v11.Box.X.Unknown, .int .i64 v11.Box.Y.Lo, .int .i64 v11.Box.Y.Hi, .bool v11.Box.Y.Unknown, .int .i64 v11.Box.Z.Lo, .int .i64 v11.Box.Z.Hi, .bool v11.Box.Z.Unknown, .int .i64 v11.Flux.Lo, .int .i64 v11.Flux.Hi, .bool v11.Flux.Unknown, .int .i64 v11.When.Lo, .int .i64 v11.When.Hi, .bool v11.When.Unknown, .slice A12 v11.Frames.length c13, .int .i64 v11.Marks] 99 (0, 0))] :: [(b3, .cells #[.int .i64 v15] 23 (0, 0))] :: [(b5, .cells #[.pointer (some ⟨b7, 0, none⟩)] 66 (0, 0))] :: [(b7, .cells #[.slice A17 v16.rows.length c18, .int .i64 v16.level, .slice A20 v16.roots.length c21, .slice A23 v16.loose.length c24] 109 (0, 0))] :: [(b9, .cells #[.slice A812 x811.length c813] 73 (0, 0))] :: H) ∧ Own ty_Pair 77 f805 A812 c813 s814 x811 ∧ query_walk__query_Index_Join_2__query_Index_Join_1.l1 k l32 x608 v16 v11 v15 n_ x810 x811 = some o801 ∧ a_ = ⟨#[.slice A33 l32.length c34, .func (.func 59) #[] #[pV b1 0, pV b3 0], .func (.func 58) #[] #[pV b5 0, pV b1 0, pV b3 0, pV b9 0], uV, uV, uV, iV 0, iV (w64 (cost607 + (w64 ((((rd l32 x608).rows).length : Int) + vt677)))), uV, pV b638 0, uV, (j809 0), .slice A33 l32.length c34, iV (l32.length : Int), .slice A33 l32.length c34, iV (l32.length : Int), iV x608, tV, pV b635 (of636 + (x608 : Int).toNat * 1), pV b638 0, .func (.func 59) #[] #[pV b1 0, pV b3 0], pV b638 0, .bool vt653, fV, iV cost607, pV b638 0, pV b638 0, pV b638 13, .slice A646 ((rd l32 x608).rows).length c646, iV (((rd l32 x608).rows).length : Int), pV b638 0, pV b638 0, pV b638 12, .slice A645 ((rd l32 x608).kids).length c645, .func (.func 59) #[] #[pV b1 0, pV b3 0], .func (.func 58) #[] #[pV b5 0, pV b1 0, pV b3 0, pV b9 0], iV vt677, iV (w64 ((((rd l32 x608).rows).length : Int) + vt677)), iV (w64 (cost607 + (w64 ((((rd l32 x608).rows).length : Int) + vt677)))), pV b638 0, pV b638 0, pV b638 13, .slice A646 ((rd l32 x608).rows).length c646, iV (((rd l32 x608).rows).length : Int), iV x810, (j809 1), (j809 2), (j809 3), (j809 4), (j809 5), (j809 6), (j809 7), (j606 37), uV], []⟩) k ⟨f680, A684, c685, s686, 0, vt678, (jL [(j606 1), (j606 30), (j606 31), (j606 32), (j606 33), (j606 34), (j606 35), (j606 36)]), fL, HS683, HO687, h, kr⟩ ?_
        clear h
        rintro n804 _ W807 ⟨f805, A812, c813, s814, x810, x811, j809, L806, HS808, HO815, h, rfl⟩ K802 hK803
        obtain _ | n804 := n804
        · exact nomatch h
        simp only [query_walk__query_Index_Join_2__query_Index_Join_1.l1] at h
        refine wp_seq_k fun K816 hK817 => rl ?_
        refine seqL1 kr ?_
        refine nl (hK817 _ _ ?_)
        refine wp_seq_k (fun K818 hK819 => ?_)
        have hq_ := ite_some h; clear h; rcases hq_ with ⟨c821, h⟩ | ⟨c821, h⟩
        · have c821 : x810 < (((rd l32 x608).rows).length : Int) := c821
          refine wpRwI 45 kr (decide_eq_true c821) ?_
          refine condT kr ?_
          refine wp_skip ?_
          refine hK819 _ _ ?_
          refine wp_seq_k (fun K822 hK823 => ?_)
          refine blockK (fun B824 hx825 hn826 hr827 ho828 hp829 => ?_)
          refine wp_seq_k fun K831 hK832 => rl ?_
          have hq_ := guard_some h; clear h; obtain ⟨c833, h⟩ := hq_
          have c833 : 0 ≤ x810 := c833
          obtain ⟨b837, of838, cs834, hA839, hr835, hc836⟩ := (HR646.mono (L656.trans (L681.trans L806))).at (i := x810) c833 c821
          obtain rfl := hr835
          refine seqK rfl (does_run (run_indexE hA839 (sz := 1) rfl Tryz.underlying22 kr (kv (.slice A646 ((rd l32 x608).rows).length c646)) (kv (.int .i64 x810)) c833 c821 W807) ?_)
          refine seqK rfl (does_run (run_load rfl Tryz.underlying3 rfl (kv (.pointer (some ⟨b837, of838 + (x810 : Int).toNat * 1, none⟩))) ((hc836 fL HS808) 0 (by decide))) ?_)
          refine seqL1 kr ?_
          refine nl (hK832 _ _ ?_)
          refine rl ?_
          have HS844 := HS808.u5.u3.u3.u5.u5
          have hq_ := bind_some h; clear h; obtain ⟨vt845, hc846, h⟩ := hq_
          refine seqL2 kr ?_
          refine seqK rfl (does_call (f := 58) (args := #[.int .i64 (rd ((rd l32 x608).rows) x810), .pointer (some ⟨b5, 0, none⟩), .pointer (some ⟨b1, 0, none⟩), .pointer (some ⟨b3, 0, none⟩), .pointer (some ⟨b9, 0, none⟩)]) kr (query_Index_Join_1.calls k b5 b7 A17 c18 A20 c21 A23 c24 b1 A12 c13 b3 b9 A812 c813 s814 v16 v11 v15 x811 (rd ((rd l32 x608).rows) x810) HS844 (HR19.mono (L603.trans (L656.trans (L681.trans L806)))) (HR22.mono (L603.trans (L656.trans (L681.trans L806)))) (HR25.mono (L603.trans (L656.trans (L681.trans L806)))) (HR14.mono (L603.trans (L656.trans (L681.trans L806)))) HO815 vt845 hc846) ?_)
          rintro _ W849 ⟨f847, A851, c852, s853, rfl, L848, HS850, HO854⟩
          refine ⟨_, rfl, ?_⟩
          refine nl ?_
          refine hn826 _ _ ?_
          refine hK823 _ _ ?_
          refine rl ?_
          refine seqL2 kr ?_
          refine nl ?_
          refine hK803 n804 _ _ (Nat.lt_succ_self _) ?_
          have HS874 := HS850.u5.u3.u3.u5.u5.u5
          exact ⟨f847, A851, c852, s853, (w64 (x810 + 1)), vt845, (jL [iV (rd ((rd l32 x608).rows) x810), tV, .pointer (some ⟨b837, of838 + (x810 : Int).toNat * 1, none⟩), iV (rd ((rd l32 x608).rows) x810), .func (.func 58) #[] #[.pointer (some ⟨b5, 0, none⟩), .pointer (some ⟨b1, 0, none⟩), .pointer (some ⟨b3, 0, none⟩), .pointer (some ⟨b9, 0, none⟩)], iV (rd ((rd l32 x608).rows) x810), .tuple #[], iV (w64 (x810 + 1))]), (L806.trans L848), HS874, HO854, h, kr⟩
        · have c821 : ¬ (x810 < (((rd l32 x608).rows).length : Int)) := c821
          refine wpRwI 45 kr (decide_eq_false c821) ?_
          refine condF kr ?_
          refine wp_exit ?_
          refine hx692 _ _ ?_
          exact J867 f805 A812 c813 s814 x811 (jL [(j809 0), iV x810, fV, (j809 2), (j809 3), (j809 4), (j809 5), (j809 6), (j809 7)]) W807 _ L806 h HS808 HO815 kr
    · have c619 : ¬ (x608 < (l32.length : Int)) := c619
      refine wpRwI 17 kr (decide_eq_false c619) ?_
      refine condF kr ?_
      refine wp_exit ?_
      refine hx45 _ _ ?_
      exact J887 f602 A610 c611 s612 cost607 x609 (jL [(j606 0), (j606 1), iV x608, fV, (j606 3), (j606 4), (j606 5), (j606 6), (j606 7), (j606 8), (j606 9), (j606 10), (j606 11), (j606 12), (j606 13), (j606 14), (j606 15), (j606 16), (j606 17), (j606 18), (j606 19), (j606 20), (j606 21), (j606 22), (j606 23), (j606 24), (j606 25), (j606 26), (j606 27), (j606 28), (j606 29), (j606 30), (j606 31), (j606 32), (j606 33), (j606 34), (j606 35), (j606 36), (j606 37)]) W604 _ L603 h HS605 HO613 kr
theorem query_walk__query_Index_Join_2__query_Index_Join_1.calls (k : Nat) (b1 : Nat) (A12 : Option Addr) (c13 : Nat) (b3 : Nat) (b5 : Nat) (b7 : Nat) (A17 : Option Addr) (c18 : Nat) (A20 : Option Addr) (c21 : Nat) (A23 : Option Addr) (c24 : Nat) (b9 : Nat) (A27 : Option Addr) (c28 : Nat) (s29 : Seg) (A33 : Option Addr) (c34 : Nat) (v11 : S_Row) (v15 : Int) (v16 : S_Index) (v26 : List S_Pair) (l32 : List S_node) {t w : World} {f : FM} {H : List Seg} (HS : St t w f ([(b1, .cells #[.int .i64 v11.ID, .int .i64 v11.Box.X.Lo, .int .i64 v11.Box.X.Hi, .bool v11.Box.X.Unknown, .int .i64 v11.Box.Y.Lo, .int .i64 v11.Box.Y.Hi, .bool v11.Box.Y.Unknown, .int .i64 v11.Box.Z.Lo, .int .i64 v11.Box.Z.Hi, .bool v11.Box.Z.Unknown, .int .i64 v11.Flux.Lo, .int .i64 v11.Flux.Hi, .bool v11.Flux.Unknown, .int .i64 v11.When.Lo, .int .i64 v11.When.Hi, .bool v11.When.Unknown, .slice A12 v11.Frames.length c13, .int .i64 v11.Marks] 99 (0, 0))] :: [(b3, .cells #[.int .i64 v15] 23 (0, 0))] :: [(b5, .cells #[.pointer (some ⟨b7, 0, none⟩)] 66 (0, 0))] :: [(b7, .cells #[.slice A17 v16.rows.length c18, .int .i64 v16.level, .slice A20 v16.roots.length c21, .slice A23 v16.loose.length c24] 109 (0, 0))] :: [(b9, .cells #[.slice A27 v26.length c28] 73 (0, 0))] :: s29 :: H)) (HR14 : SlR (tInt .i64) f A12 c13 v11.Frames) (HR19 : SlR ty_Row f A17 c18 v16.rows) (HR22 : SlR fx_node.t f A20 c21 v16.roots) (HR25 : SlR (tInt .i64) f A23 c24 v16.loose) (HO30 : Own ty_Pair 77 f A27 c28 s29 v26) (HR35 : SlR fx_node.t f A33 c34 l32) (rr1 : Int) (rr2 : List S_Pair) (h : query_walk__query_Index_Join_2__query_Index_Join_1 k v11 v15 v16 v26 l32 = some (rr1, rr2)) :
    Calls Tryz.prog 52 #[.slice A33 l32.length c34, .func (.func 59) #[] #[.pointer (some ⟨b1, 0, none⟩), .pointer (some ⟨b3, 0, none⟩)], .func (.func 58) #[] #[.pointer (some ⟨b5, 0, none⟩), .pointer (some ⟨b1, 0, none⟩), .pointer (some ⟨b3, 0, none⟩), .pointer (some ⟨b9, 0, none⟩)]] w (fun e w' => ∃ (g : FM) (A902 : Option Addr) (c903 : Nat) (s904 : Seg), e = .returned (Value.int .i64 rr1) ∧ FM.le f g ∧ St t w' g (s904 :: [(b1, .cells #[.int .i64 v11.ID, .int .i64 v11.Box.X.Lo, .int .i64 v11.Box.X.Hi, .bool v11.Box.X.Unknown, .int .i64 v11.Box.Y.Lo, .int .i64 v11.Box.Y.Hi, .bool v11.Box.Y.Unknown, .int .i64 v11.Box.Z.Lo, .int .i64 v11.Box.Z.Hi, .bool v11.Box.Z.Unknown, .int .i64 v11.Flux.Lo, .int .i64 v11.Flux.Hi, .bool v11.Flux.Unknown, .int .i64 v11.When.Lo, .int .i64 v11.When.Hi, .bool v11.When.Unknown, .slice A12 v11.Frames.length c13, .int .i64 v11.Marks] 99 (0, 0))] :: [(b3, .cells #[.int .i64 v15] 23 (0, 0))] :: [(b5, .cells #[.pointer (some ⟨b7, 0, none⟩)] 66 (0, 0))] :: [(b7, .cells #[.slice A17 v16.rows.length c18, .int .i64 v16.level, .slice A20 v16.roots.length c21, .slice A23 v16.loose.length c24] 109 (0, 0))] :: [(b9, .cells #[.slice A902 rr2.length c903] 73 (0, 0))] :: H) ∧ Own ty_Pair 77 g A902 c903 s904 rr2) := by
  exact query_walk__query_Index_Join_2__query_Index_Join_1.r_calls k k b1 A12 c13 b3 b5 b7 A17 c18 A20 c21 A23 c24 b9 A27 c28 s29 A33 c34 v11 v15 v16 v26 l32 HS HR14 HR19 HR22 HR25 HO30 HR35 rr1 rr2 h

theorem slices_SortFunc_Pair__query_Index_Join_3.calls (k : Nat) (A : Option Addr) (c : Nat) (s : Seg) (xs : List S_Pair) {t w : World} {f : FM} {H : List Seg} (HS : St t w f (s :: H)) (HO : Own ty_Pair 77 f A c s xs) (r1 : List S_Pair) (h : slices_SortFunc_Pair__query_Index_Join_3 k xs = some r1) :
    Calls Tryz.prog 60 #[.slice A xs.length c, .func (.func 61) #[] #[]] w (fun e w' => ∃ (g : FM) (s' : Seg), e = .returned (Value.tuple #[]) ∧ FM.le f g ∧ St t w' g (s' :: H) ∧ Own ty_Pair 77 g A c s' r1 ∧ r1.length = xs.length) := by
  unfold slices_SortFunc_Pair__query_Index_Join_3 at h
  have hq_ := guard_some h; clear h; obtain ⟨hB, h⟩ := hq_
  have hq_ := guard_some h; clear h; obtain ⟨hD, h⟩ := hq_
  have hq_ := guard_some h; clear h; obtain ⟨hl, h⟩ := hq_
  injection h with h; subst h
  exact sort3_own (fun x : S_Pair => x.Left) (fun x => x.Right) (fun x => x.Grade) (e := ty_Pair) rfl (fun _ _ _ => Iff.rfl) (fun blk cap zs w => sort3_calls _ _ _ blk cap zs w) sort3_none HS HO hl hB hD

set_option maxRecDepth 100000 in
set_option maxHeartbeats 4000000 in
theorem query_Index_Join.calls (k : Nat) (b1 : Nat) (A4 : Option Addr) (c5 : Nat) (A7 : Option Addr) (c8 : Nat) (A10 : Option Addr) (c11 : Nat) (A14 : Option Addr) (c15 : Nat) (x3 : S_Index) (rows13 : List S_Row) (cos17 : Int) {t w : World} {f : FM} {H : List Seg} (HS : St t w f ([(b1, .cells #[.slice A4 x3.rows.length c5, .int .i64 x3.level, .slice A7 x3.roots.length c8, .slice A10 x3.loose.length c11] 109 (0, 0))] :: H)) (HR6 : SlR ty_Row f A4 c5 x3.rows) (HR9 : SlR fx_node.t f A7 c8 x3.roots) (HR12 : SlR (tInt .i64) f A10 c11 x3.loose) (HR16 : SlR ty_Row f A14 c15 rows13) (rr1 : List S_Pair) (rr2 : Int) (h : query_Index_Join k x3 rows13 cos17 = some (rr1, rr2)) :
    Calls Tryz.prog 28 #[.pointer (some ⟨b1, 0, none⟩), .slice A14 rows13.length c15, .int .i64 cos17] w (fun e w' => ∃ (g : FM) (A600 : Option Addr) (c601 : Nat) (s602 : Seg), e = .returned (Value.tuple #[.slice A600 rr1.length c601, .int .i64 rr2]) ∧ FM.le f g ∧ St t w' g (s602 :: [(b1, .cells #[.slice A4 x3.rows.length c5, .int .i64 x3.level, .slice A7 x3.roots.length c8, .slice A10 x3.loose.length c11] 109 (0, 0))] :: H) ∧ Own ty_Pair 77 g A600 c601 s602 rr1) := by
 unfold query_Index_Join at h
 refine enter Tryz.func28 rfl (tm := #[pV b1 0, .slice A14 rows13.length c15, iV cos17, uV, uV, uV, uV, uV, uV, uV, uV, uV, uV, uV, uV, uV, uV, uV, uV, uV, uV, uV, uV, uV, uV, uV, uV, uV, uV, uV, uV, uV, uV, uV, uV, uV, uV, uV, uV, uV, uV, uV, uV, uV, uV, uV, uV, uV, uV, uV, uV, uV, uV, uV, uV, uV, uV]) kr ?_
 intro B hret hnor hnp
 refine wp_seq_k fun K18 hK19 => rl ?_
 refine seqK rfl (does_box (cs := #[.pointer (some ⟨b1, 0, none⟩)]) rfl (kv (.pointer (some ⟨b1, 0, none⟩))) rfl HS ?_)
 intro b20 W21 HS22
 refine seqK rfl (does_box (cs := #[.int .i64 cos17]) rfl (kv (.int .i64 cos17)) rfl HS22 ?_)
 intro b24 W25 HS26
 refine seqL2 kr ?_
 refine nl (hK19 _ _ ?_)
 refine wp_seq_k (fun K28 hK29 => ?_)
 refine wp_seq_k fun K30 hK31 => rl ?_
 have hq_ := bind_some h; clear h; obtain ⟨vt32, hc33, h⟩ := hq_
 refine seqL1 kr ?_
 refine seqK rfl (does_call (f := 42) (args := #[.slice A14 rows13.length c15]) kr (catalog_Check.calls k A14 c15 rows13 HS26 HR16 vt32 hc33) ?_)
 rintro _ W36 ⟨f34, rfl, L35, HS37⟩
 refine ⟨_, rfl, ?_⟩
 refine seqL1 kr ?_
 refine nl (hK31 _ _ ?_)
 refine wp_seq_k fun K38 hK39 => rl ?_
 refine seqL2 kr ?_
 refine nl (hK39 _ _ ?_)
 have hq_ := ite_some h; clear h; rcases hq_ with ⟨c41, h⟩ | ⟨c41, h⟩
 · have c41 : vt32 ≠ 0 := c41
   refine wpRwI 18 kr (bne_iff_ne.mpr c41) ?_
   refine condT kr ?_
   refine wp_seq_k fun K42 hK43 => rl ?_
   refine seqL3 kr ?_
   refine nl (hK43 _ _ ?_)
   refine wp_ret ?_
   refine hret _ _ ?_
   have HS568 := HS37.cons_nil
   refine ends_still (v := Value.tuple #[.slice none 0 0, .int .i64 vt32]) kr kr ?_
   have HS573 := HS568.u3.u1.u3.u3
   have HS574 := HS573.drop
   have HS575 := HS574.drop
   injection h with h
   injection h with h0_ h
   subst h0_ h
   exact ⟨f34, none, 0, [], rfl, L35, HS575, (Own.nil _)⟩
 · have c41 : ¬ (vt32 ≠ 0) := c41
   refine wpRwI 18 (x := (vt32 != 0)) (v := false) kr (bne_eq_false_iff_eq.mpr (Decidable.of_not_not c41)) ?_
   refine condF kr ?_
   refine wp_skip ?_
   refine hK29 _ _ ?_
   refine wp_seq_k (fun K44 hK45 => ?_)
   refine wp_seq_k fun K46 hK47 => rl ?_
   refine seqK rfl (does_run (run_load rfl Tryz.underlying23 rfl (kv (.pointer (some ⟨b24, 0, none⟩))) (HS37.cell 0)) ?_)
   refine seqL2 kr ?_
   have hq_ := ite_some h; clear h; rcases hq_ with ⟨c48, h⟩ | ⟨c48, h⟩
   · have c48 : cos17 < 0 := c48
     refine seqRwI 21 kr (decide_eq_true c48) ?_
     refine seqRwI 22 kr (decide_eq_true c48) ?_
     refine seqL3 kr ?_
     refine nl (hK47 _ _ ?_)
     refine condT kr ?_
     refine wp_seq_k fun K49 hK50 => rl ?_
     refine seqL2 kr ?_
     refine nl (hK50 _ _ ?_)
     refine wp_ret ?_
     refine hret _ _ ?_
     have HS576 := HS37.cons_nil
     refine ends_still (v := Value.tuple #[.slice none 0 0, .int .i64 4]) kr kr ?_
     have HS581 := HS576.u3.u1.u3.u3
     have HS582 := HS581.drop
     have HS583 := HS582.drop
     injection h with h
     injection h with h0_ h
     subst h0_ h
     exact ⟨f34, none, 0, [], rfl, L35, HS583, (Own.nil _)⟩
   · have c48 : ¬ (cos17 < 0) := c48
     refine seqRwI 21 kr (decide_eq_false c48) ?_
     refine seqRwI 22 kr (decide_eq_false c48) ?_
     refine seqG kr (does_run (run_load rfl Tryz.underlying23 rfl (kv (.pointer (some ⟨b24, 0, none⟩))) (HS37.cell 0)) ?_)
     refine seqL2 kr ?_
     refine nl (hK47 _ _ ?_)
     have hq_ := ite_some h; clear h; rcases hq_ with ⟨c52, h⟩ | ⟨c52, h⟩
     · have c52 : cos17 > 1073741824 := c52
       refine wpRwI 24 kr (decide_eq_true c52) ?_
       refine wpRwI 25 kr (decide_eq_true c52) ?_
       refine condT kr ?_
       refine wp_seq_k fun K53 hK54 => rl ?_
       refine seqL2 kr ?_
       refine nl (hK54 _ _ ?_)
       refine wp_ret ?_
       refine hret _ _ ?_
       have HS584 := HS37.cons_nil
       refine ends_still (v := Value.tuple #[.slice none 0 0, .int .i64 4]) kr kr ?_
       have HS589 := HS584.u3.u1.u3.u3
       have HS590 := HS589.drop
       have HS591 := HS590.drop
       injection h with h
       injection h with h0_ h
       subst h0_ h
       exact ⟨f34, none, 0, [], rfl, L35, HS591, (Own.nil _)⟩
     · have c52 : ¬ (cos17 > 1073741824) := c52
       refine wpRwI 24 kr (decide_eq_false c52) ?_
       refine wpRwI 25 kr (decide_eq_false c52) ?_
       refine condF kr ?_
       refine wp_skip ?_
       refine hK45 _ _ ?_
       refine wp_seq_k fun K55 hK56 => rl ?_
       refine seqK rfl (does_alloc (z := Value.slice none 0 0) (cs := #[.slice none 0 0]) rfl kr rfl HS37 ?_)
       intro b57 W58 HS59
       refine nl (hK56 _ _ ?_)
       refine wp_seq_k (fun K61 hK62 => ?_)
       refine wp_seq_k fun K63 hK64 => rl ?_
       refine seqL3 kr ?_
       refine nl (hK64 _ _ ?_)
       refine blockK (fun B65 hx66 hn67 hr68 ho69 hp70 => ?_)
       have hq_ := bind_some h; clear h; obtain ⟨o273, hv542, h⟩ := hq_
       have J543 : ∀ (f531 : FM) (A537 : Option Addr) (c538 : Nat) (s539 : Seg) (x536 : List S_Pair) (j535 : Nat → Value) (W533 : World) (a_ : Act), FM.le f34 f531 → some (x536) = some o273 → St t W533 f531 (s539 :: [(b57, .cells #[.slice A537 x536.length c538] 73 (0, 0))] :: [(b24, .cells #[.int .i64 cos17] 23 (0, 0))] :: [(b20, .cells #[.pointer (some ⟨b1, 0, none⟩)] 66 (0, 0))] :: [(b1, .cells #[.slice A4 x3.rows.length c5, .int .i64 x3.level, .slice A7 x3.roots.length c8, .slice A10 x3.loose.length c11] 109 (0, 0))] :: H) → Own ty_Pair 77 f531 A537 c538 s539 x536 → a_ = ⟨#[pV b1 0, .slice A14 rows13.length c15, iV cos17, pV b20 0, uV, pV b24 0, .slice none 0 0, iV 0, iV vt32, pV b57 0, uV, (j535 0), (j535 1), uV, (j535 2), .slice A14 rows13.length c15, iV vt32, iV vt32, fV, uV, iV cos17, fV, fV, iV cos17, fV, fV, .slice A14 rows13.length c15, iV (rows13.length : Int), (j535 3), (j535 4), (j535 5), (j535 6), (j535 7), (j535 8), (j535 9), (j535 10), (j535 11), (j535 12), (j535 13), (j535 14), (j535 15), (j535 16), (j535 17), (j535 18), (j535 19), (j535 20), (j535 21), (j535 22), (j535 23), (j535 24), (j535 25), (j535 26), (j535 27), (j535 28), uV, uV, uV], []⟩ → K61 a_ W533 := by
        intro f531 A537 c538 s539 x536 j535 W533 a_ L532 hj544 HS534 HO540 hfr_; subst hfr_
        injection hj544 with hj544; subst hj544; try dsimp only at h
        refine hK62 _ _ ?_
        refine wp_seq_k fun K554 hK555 => rl ?_
        refine seqK rfl (does_run (run_load rfl Tryz.underlying73 rfl (kv (.pointer (some ⟨b57, 0, none⟩))) (HS534.u1.cell 0)) ?_)
        have hq_ := bind_some h; clear h; obtain ⟨vt556, hc557, h⟩ := hq_
        refine seqK rfl (does_call (f := 60) (args := #[.slice A537 x536.length c538, .func (.func 61) #[] #[]]) kr (slices_SortFunc_Pair__query_Index_Join_3.calls k A537 c538 s539 x536 HS534 HO540 vt556 hc557) ?_)
        rintro _ W560 ⟨f558, s562, rfl, L559, HS561, HO563, HL564⟩
        refine ⟨_, rfl, ?_⟩
        have HS565 : St t W560 f558 (s562 :: [(b57, .cells #[.slice A537 vt556.length c538] 73 (0, 0))] :: [(b24, .cells #[.int .i64 cos17] 23 (0, 0))] :: [(b20, .cells #[.pointer (some ⟨b1, 0, none⟩)] 66 (0, 0))] :: [(b1, .cells #[.slice A4 x3.rows.length c5, .int .i64 x3.level, .slice A7 x3.roots.length c8, .slice A10 x3.loose.length c11] 109 (0, 0))] :: H) := by rw [show vt556.length = x536.length from HL564]; exact HS561
        refine seqRwS 54 (A := A537) (m := x536.length) (n := vt556.length) (c := c538) kr (HL564).symm ?_
        refine nl (hK555 _ _ ?_)
        refine wp_seq_k fun K566 hK567 => rl ?_
        refine seqK rfl (does_run (run_load rfl Tryz.underlying73 rfl (kv (.pointer (some ⟨b57, 0, none⟩))) (HS565.u1.cell 0)) ?_)
        refine seqL2 kr ?_
        refine nl (hK567 _ _ ?_)
        refine wp_ret ?_
        refine hret _ _ ?_
        refine ends_still (v := Value.tuple #[.slice A537 vt556.length c538, .int .i64 0]) kr kr ?_
        have HS596 := HS565.u4.u1.u4.u4.u4
        have HS597 := HS596.drop
        have HS598 := HS597.drop
        have HS599 := HS598.drop
        injection h with h
        injection h with h0_ h
        subst h0_ h
        exact ⟨f558, A537, c538, s562, rfl, (L35.trans (L532.trans L559)), HS599, HO563⟩
       clear h; have h := hv542; clear hv542
       have HS545 := HS59.cons_nil
       refine loopK (fun n_ a_ w_ => ∃ (f277 : FM) (A284 : Option Addr) (c285 : Nat) (s286 : Seg) (x282 : Int) (x283 : List S_Pair) (j281 : Nat → Value), FM.le f34 f277 ∧ St t w_ f277 (s286 :: [(b57, .cells #[.slice A284 x283.length c285] 73 (0, 0))] :: [(b24, .cells #[.int .i64 cos17] 23 (0, 0))] :: [(b20, .cells #[.pointer (some ⟨b1, 0, none⟩)] 66 (0, 0))] :: [(b1, .cells #[.slice A4 x3.rows.length c5, .int .i64 x3.level, .slice A7 x3.roots.length c8, .slice A10 x3.loose.length c11] 109 (0, 0))] :: H) ∧ Own ty_Pair 77 f277 A284 c285 s286 x283 ∧ query_Index_Join.l0 k rows13 x3 cos17 n_ x282 x283 = some o273 ∧ a_ = ⟨#[pV b1 0, .slice A14 rows13.length c15, iV cos17, pV b20 0, uV, pV b24 0, .slice none 0 0, iV 0, iV vt32, pV b57 0, uV, (j281 0), (j281 1), uV, (j281 2), .slice A14 rows13.length c15, iV vt32, iV vt32, fV, uV, iV cos17, fV, fV, iV cos17, fV, fV, .slice A14 rows13.length c15, iV (rows13.length : Int), iV x282, (j281 3), (j281 4), (j281 5), (j281 6), (j281 7), (j281 8), (j281 9), (j281 10), (j281 11), (j281 12), (j281 13), (j281 14), (j281 15), (j281 16), (j281 17), (j281 18), (j281 19), (j281 20), (j281 21), (j281 22), (j281 23), (j281 24), (j281 25), (j281 26), (j281 27), uV, uV, uV], []⟩) k ⟨f34, none, 0, [], 0, ([] : List S_Pair), (jL []), fL, HS545, (Own.nil _), h, kr⟩ ?_
       clear h
       rintro n276 _ W279 ⟨f277, A284, c285, s286, x282, x283, j281, L278, HS280, HO287, h, rfl⟩ K274 hK275
       obtain _ | n276 := n276
       · exact nomatch h
       simp only [query_Index_Join.l0] at h
       refine wp_seq_k fun K289 hK290 => rl ?_
       refine seqL1 kr ?_
       refine nl (hK290 _ _ ?_)
       refine wp_seq_k (fun K291 hK292 => ?_)
       have hq_ := ite_some h; clear h; rcases hq_ with ⟨c294, h⟩ | ⟨c294, h⟩
       · have c294 : x282 < (rows13.length : Int) := c294
         refine wpRwI 29 kr (decide_eq_true c294) ?_
         refine condT kr ?_
         refine wp_skip ?_
         refine hK292 _ _ ?_
         refine wp_seq_k (fun K295 hK296 => ?_)
         refine blockK (fun B297 hx298 hn299 hr300 ho301 hp302 => ?_)
         refine wp_seq_k fun K304 hK305 => rl ?_
         have hq_ := guard_some h; clear h; obtain ⟨c306, h⟩ := hq_
         have c306 : 0 ≤ x282 := c306
         obtain ⟨b310, of311, cs307, hA312, hr308, hc309⟩ := (HR16.mono (L35.trans L278)).at (i := x282) c306 c294
         obtain ⟨A313, c313, rfl, HR313⟩ := hr308
         refine seqK rfl (does_run (run_indexE hA312 (sz := 18) rfl Tryz.underlying45 kr (kv (.slice A14 rows13.length c15)) (kv (.int .i64 x282)) c306 c294 W279) ?_)
         refine seqK rfl (does_run (run_loadN (n := 18) rfl Tryz.underlying99 rfl kr (kv (.pointer (some ⟨b310, of311 + (x282 : Int).toNat * 18, none⟩))) (cs := [.int .i64 ((rd rows13 x282).ID), .int .i64 ((((rd rows13 x282).Box).X).Lo), .int .i64 ((((rd rows13 x282).Box).X).Hi), .bool ((((rd rows13 x282).Box).X).Unknown), .int .i64 ((((rd rows13 x282).Box).Y).Lo), .int .i64 ((((rd rows13 x282).Box).Y).Hi), .bool ((((rd rows13 x282).Box).Y).Unknown), .int .i64 ((((rd rows13 x282).Box).Z).Lo), .int .i64 ((((rd rows13 x282).Box).Z).Hi), .bool ((((rd rows13 x282).Box).Z).Unknown), .int .i64 (((rd rows13 x282).Flux).Lo), .int .i64 (((rd rows13 x282).Flux).Hi), .bool (((rd rows13 x282).Flux).Unknown), .int .i64 (((rd rows13 x282).When).Lo), .int .i64 (((rd rows13 x282).When).Hi), .bool (((rd rows13 x282).When).Unknown), .slice A313 ((rd rows13 x282).Frames).length c313, .int .i64 ((rd rows13 x282).Marks)]) rfl (fun j_ hj_ => ((hc309 fL HS280) j_ hj_))) ?_)
         refine seqK rfl (does_alloc (z := Value.agg #[.int .i64 0, .int .i64 0, .int .i64 0, .bool false, .int .i64 0, .int .i64 0, .bool false, .int .i64 0, .int .i64 0, .bool false, .int .i64 0, .int .i64 0, .bool false, .int .i64 0, .int .i64 0, .bool false, .slice none 0 0, .int .i64 0]) (cs := #[.int .i64 0, .int .i64 0, .int .i64 0, .bool false, .int .i64 0, .int .i64 0, .bool false, .int .i64 0, .int .i64 0, .bool false, .int .i64 0, .int .i64 0, .bool false, .int .i64 0, .int .i64 0, .bool false, .slice none 0 0, .int .i64 0]) rfl kr rfl HS280 ?_)
         intro b314 W315 HS316
         refine seqK rfl (does_storeA (vs := [.int .i64 ((rd rows13 x282).ID), .int .i64 ((((rd rows13 x282).Box).X).Lo), .int .i64 ((((rd rows13 x282).Box).X).Hi), .bool ((((rd rows13 x282).Box).X).Unknown), .int .i64 ((((rd rows13 x282).Box).Y).Lo), .int .i64 ((((rd rows13 x282).Box).Y).Hi), .bool ((((rd rows13 x282).Box).Y).Unknown), .int .i64 ((((rd rows13 x282).Box).Z).Lo), .int .i64 ((((rd rows13 x282).Box).Z).Hi), .bool ((((rd rows13 x282).Box).Z).Unknown), .int .i64 (((rd rows13 x282).Flux).Lo), .int .i64 (((rd rows13 x282).Flux).Hi), .bool (((rd rows13 x282).Flux).Unknown), .int .i64 (((rd rows13 x282).When).Lo), .int .i64 (((rd rows13 x282).When).Hi), .bool (((rd rows13 x282).When).Unknown), .slice A313 ((rd rows13 x282).Frames).length c313, .int .i64 ((rd rows13 x282).Marks)]) rfl kr kr kr rfl (ones rfl) HS316 kr ?_)
         intro W318 HS319
         refine nl (hK305 _ _ ?_)
         refine wp_seq_k fun K320 hK321 => rl ?_
         refine seqL2 kr ?_
         refine nl (hK321 _ _ ?_)
         refine wp_seq_k (fun K322 hK323 => ?_)
         refine wp_seq_k fun K324 hK325 => rl ?_
         refine seqK rfl (does_run (run_load rfl Tryz.underlying66 rfl (kv (.pointer (some ⟨b20, 0, none⟩))) (HS319.u4.cell 0)) ?_)
         refine seqL2 kr ?_
         refine seqK rfl (does_run (run_load rfl Tryz.underlying22 rfl (kv (.pointer (some ⟨b1, 3, none⟩))) (HS319.u5.cell 3)) ?_)
         refine seqL2 kr ?_
         refine nl (hK325 _ _ ?_)
         refine blockK (fun B326 hx327 hn328 hr329 ho330 hp331 => ?_)
         have hq_ := bind_some h; clear h; obtain ⟨o438, hv504, h⟩ := hq_
         have J505 : ∀ (f494 : FM) (A500 : Option Addr) (c501 : Nat) (s502 : Seg) (x499 : List S_Pair) (j498 : Nat → Value) (W496 : World) (a_ : Act), FM.le f277 f494 → some (x499) = some o438 → St t W496 f494 ([(b314, .cells #[.int .i64 ((rd rows13 x282).ID), .int .i64 ((((rd rows13 x282).Box).X).Lo), .int .i64 ((((rd rows13 x282).Box).X).Hi), .bool ((((rd rows13 x282).Box).X).Unknown), .int .i64 ((((rd rows13 x282).Box).Y).Lo), .int .i64 ((((rd rows13 x282).Box).Y).Hi), .bool ((((rd rows13 x282).Box).Y).Unknown), .int .i64 ((((rd rows13 x282).Box).Z).Lo), .int .i64 ((((rd rows13 x282).Box).Z).Hi), .bool ((((rd rows13 x282).Box).Z).Unknown), .int .i64 (((rd rows13 x282).Flux).Lo), .int .i64 (((rd rows13 x282).Flux).Hi), .bool (((rd rows13 x282).Flux).Unknown), .int .i64 (((rd rows13 x282).When).Lo), .int .i64 (((rd rows13 x282).When).Hi), .bool (((rd rows13 x282).When).Unknown), .slice A313 ((rd rows13 x282).Frames).length c313, .int .i64 ((rd rows13 x282).Marks)] 99 (0, 0))] :: s502 :: [(b57, .cells #[.slice A500 x499.length c501] 73 (0, 0))] :: [(b24, .cells #[.int .i64 cos17] 23 (0, 0))] :: [(b20, .cells #[.pointer (some ⟨b1, 0, none⟩)] 66 (0, 0))] :: [(b1, .cells #[.slice A4 x3.rows.length c5, .int .i64 x3.level, .slice A7 x3.roots.length c8, .slice A10 x3.loose.length c11] 109 (0, 0))] :: H) → Own ty_Pair 77 f494 A500 c501 s502 x499 → a_ = ⟨#[pV b1 0, .slice A14 rows13.length c15, iV cos17, pV b20 0, uV, pV b24 0, .slice none 0 0, iV 0, iV vt32, pV b57 0, uV, pV b314 0, .func (.func 58) #[] #[pV b20 0, pV b314 0, pV b24 0, pV b57 0], uV, (j498 0), .slice A14 rows13.length c15, iV vt32, iV vt32, fV, uV, iV cos17, fV, fV, iV cos17, fV, fV, .slice A14 rows13.length c15, iV (rows13.length : Int), iV x282, tV, pV b310 (of311 + (x282 : Int).toNat * 18), (ag_Row (rd rows13 x282) A313 c313), .func (.func 58) #[] #[pV b20 0, pV b314 0, pV b24 0, pV b57 0], pV b1 0, pV b1 0, pV b1 3, .slice A10 x3.loose.length c11, iV (x3.loose.length : Int), (j498 1), (j498 2), (j498 3), (j498 4), (j498 5), (j498 6), (j498 7), (j498 8), (j281 20), (j281 21), (j281 22), (j281 23), (j281 24), (j281 25), (j281 26), (j281 27), uV, uV, uV], []⟩ → K322 a_ W496 := by
          intro f494 A500 c501 s502 x499 j498 W496 a_ L495 hj506 HS497 HO503 hfr_; subst hfr_
          injection hj506 with hj506; subst hj506; try dsimp only at h
          refine hK323 _ _ ?_
          refine rl ?_
          refine seqK rfl (does_run (run_load rfl Tryz.underlying66 rfl (kv (.pointer (some ⟨b20, 0, none⟩))) (HS497.u4.cell 0)) ?_)
          refine seqL2 kr ?_
          refine seqK rfl (does_run (run_load rfl Tryz.underlying107 rfl (kv (.pointer (some ⟨b1, 2, none⟩))) (HS497.u5.cell 2)) ?_)
          have HS518 := HS497.u1.u2.u5.u5.u5.u5
          have hq_ := bind_some h; clear h; obtain ⟨⟨vt519, vt520⟩, hc521, h⟩ := hq_
          refine seqL2 kr ?_
          refine seqK rfl (does_call (f := 52) (args := #[.slice A7 x3.roots.length c8, .func (.func 59) #[] #[.pointer (some ⟨b314, 0, none⟩), .pointer (some ⟨b24, 0, none⟩)], .func (.func 58) #[] #[.pointer (some ⟨b20, 0, none⟩), .pointer (some ⟨b314, 0, none⟩), .pointer (some ⟨b24, 0, none⟩), .pointer (some ⟨b57, 0, none⟩)]]) kr (query_walk__query_Index_Join_2__query_Index_Join_1.calls k b314 A313 c313 b24 b20 b1 A4 c5 A7 c8 A10 c11 b57 A500 c501 s502 A7 c8 (rd rows13 x282) cos17 x3 x499 x3.roots HS518 (HR313.mono L495) (HR6.mono (L35.trans (L278.trans L495))) (HR9.mono (L35.trans (L278.trans L495))) (HR12.mono (L35.trans (L278.trans L495))) HO503 (HR9.mono (L35.trans (L278.trans L495))) vt519 vt520 hc521) ?_)
          rintro _ W524 ⟨f522, A526, c527, s528, rfl, L523, HS525, HO529⟩
          refine ⟨_, rfl, ?_⟩
          refine nl ?_
          refine hn299 _ _ ?_
          refine hK296 _ _ ?_
          refine rl ?_
          refine seqL2 kr ?_
          refine nl ?_
          refine hK275 n276 _ _ (Nat.lt_succ_self _) ?_
          have HS552 := HS525.u4.u4.u4.u5.u4.u5
          have HS553 := HS552.drop
          exact ⟨f522, A526, c527, s528, (w64 (x282 + 1)), vt520, (jL [.pointer (some ⟨b314, 0, none⟩), .func (.func 58) #[] #[.pointer (some ⟨b20, 0, none⟩), .pointer (some ⟨b314, 0, none⟩), .pointer (some ⟨b24, 0, none⟩), .pointer (some ⟨b57, 0, none⟩)], (j498 0), tV, .pointer (some ⟨b310, of311 + (x282 : Int).toNat * 18, none⟩), (ag_Row (rd rows13 x282) A313 c313), .func (.func 58) #[] #[.pointer (some ⟨b20, 0, none⟩), .pointer (some ⟨b314, 0, none⟩), .pointer (some ⟨b24, 0, none⟩), .pointer (some ⟨b57, 0, none⟩)], .pointer (some ⟨b1, 0, none⟩), .pointer (some ⟨b1, 0, none⟩), .pointer (some ⟨b1, 3, none⟩), .slice A10 x3.loose.length c11, iV (x3.loose.length : Int), (j498 1), (j498 2), (j498 3), (j498 4), (j498 5), (j498 6), (j498 7), (j498 8), .pointer (some ⟨b1, 0, none⟩), .pointer (some ⟨b1, 0, none⟩), .pointer (some ⟨b1, 2, none⟩), .slice A7 x3.roots.length c8, .func (.func 59) #[] #[.pointer (some ⟨b314, 0, none⟩), .pointer (some ⟨b24, 0, none⟩)], .func (.func 58) #[] #[.pointer (some ⟨b20, 0, none⟩), .pointer (some ⟨b314, 0, none⟩), .pointer (some ⟨b24, 0, none⟩), .pointer (some ⟨b57, 0, none⟩)], iV vt519, iV (w64 (x282 + 1))]), (L278.trans (L495.trans L523)), HS553, HO529, h, kr⟩
         clear h; have h := hv504; clear hv504
         refine loopK (fun n_ a_ w_ => ∃ (f442 : FM) (A449 : Option Addr) (c450 : Nat) (s451 : Seg) (x447 : Int) (x448 : List S_Pair) (j446 : Nat → Value), FM.le f277 f442 ∧ St t w_ f442 ([(b314, .cells #[.int .i64 ((rd rows13 x282).ID), .int .i64 ((((rd rows13 x282).Box).X).Lo), .int .i64 ((((rd rows13 x282).Box).X).Hi), .bool ((((rd rows13 x282).Box).X).Unknown), .int .i64 ((((rd rows13 x282).Box).Y).Lo), .int .i64 ((((rd rows13 x282).Box).Y).Hi), .bool ((((rd rows13 x282).Box).Y).Unknown), .int .i64 ((((rd rows13 x282).Box).Z).Lo), .int .i64 ((((rd rows13 x282).Box).Z).Hi), .bool ((((rd rows13 x282).Box).Z).Unknown), .int .i64 (((rd rows13 x282).Flux).Lo), .int .i64 (((rd rows13 x282).Flux).Hi), .bool (((rd rows13 x282).Flux).Unknown), .int .i64 (((rd rows13 x282).When).Lo), .int .i64 (((rd rows13 x282).When).Hi), .bool (((rd rows13 x282).When).Unknown), .slice A313 ((rd rows13 x282).Frames).length c313, .int .i64 ((rd rows13 x282).Marks)] 99 (0, 0))] :: s451 :: [(b57, .cells #[.slice A449 x448.length c450] 73 (0, 0))] :: [(b24, .cells #[.int .i64 cos17] 23 (0, 0))] :: [(b20, .cells #[.pointer (some ⟨b1, 0, none⟩)] 66 (0, 0))] :: [(b1, .cells #[.slice A4 x3.rows.length c5, .int .i64 x3.level, .slice A7 x3.roots.length c8, .slice A10 x3.loose.length c11] 109 (0, 0))] :: H) ∧ Own ty_Pair 77 f442 A449 c450 s451 x448 ∧ query_Index_Join.l1 k x3 rows13 x282 cos17 n_ x447 x448 = some o438 ∧ a_ = ⟨#[pV b1 0, .slice A14 rows13.length c15, iV cos17, pV b20 0, uV, pV b24 0, .slice none 0 0, iV 0, iV vt32, pV b57 0, uV, pV b314 0, .func (.func 58) #[] #[pV b20 0, pV b314 0, pV b24 0, pV b57 0], uV, (j446 0), .slice A14 rows13.length c15, iV vt32, iV vt32, fV, uV, iV cos17, fV, fV, iV cos17, fV, fV, .slice A14 rows13.length c15, iV (rows13.length : Int), iV x282, tV, pV b310 (of311 + (x282 : Int).toNat * 18), (ag_Row (rd rows13 x282) A313 c313), .func (.func 58) #[] #[pV b20 0, pV b314 0, pV b24 0, pV b57 0], pV b1 0, pV b1 0, pV b1 3, .slice A10 x3.loose.length c11, iV (x3.loose.length : Int), iV x447, (j446 1), (j446 2), (j446 3), (j446 4), (j446 5), (j446 6), (j446 7), (j281 20), (j281 21), (j281 22), (j281 23), (j281 24), (j281 25), (j281 26), (j281 27), uV, uV, uV], []⟩) k ⟨f277, A284, c285, s286, 0, x283, (jL [(j281 2), (j281 13), (j281 14), (j281 15), (j281 16), (j281 17), (j281 18), (j281 19)]), fL, HS319, HO287, h, kr⟩ ?_
         clear h
         rintro n441 _ W444 ⟨f442, A449, c450, s451, x447, x448, j446, L443, HS445, HO452, h, rfl⟩ K439 hK440
         obtain _ | n441 := n441
         · exact nomatch h
         simp only [query_Index_Join.l1] at h
         refine wp_seq_k fun K453 hK454 => rl ?_
         refine seqL1 kr ?_
         refine nl (hK454 _ _ ?_)
         refine wp_seq_k (fun K455 hK456 => ?_)
         have hq_ := ite_some h; clear h; rcases hq_ with ⟨c458, h⟩ | ⟨c458, h⟩
         · have c458 : x447 < (x3.loose.length : Int) := c458
           refine wpRwI 39 kr (decide_eq_true c458) ?_
           refine condT kr ?_
           refine wp_skip ?_
           refine hK456 _ _ ?_
           refine wp_seq_k (fun K459 hK460 => ?_)
           refine blockK (fun B461 hx462 hn463 hr464 ho465 hp466 => ?_)
           refine wp_seq_k fun K468 hK469 => rl ?_
           have hq_ := guard_some h; clear h; obtain ⟨c470, h⟩ := hq_
           have c470 : 0 ≤ x447 := c470
           obtain ⟨b474, of475, cs471, hA476, hr472, hc473⟩ := (HR12.mono (L35.trans (L278.trans L443))).at (i := x447) c470 c458
           obtain rfl := hr472
           refine seqK rfl (does_run (run_indexE hA476 (sz := 1) rfl Tryz.underlying22 kr (kv (.slice A10 x3.loose.length c11)) (kv (.int .i64 x447)) c470 c458 W444) ?_)
           refine seqK rfl (does_run (run_load rfl Tryz.underlying3 rfl (kv (.pointer (some ⟨b474, of475 + (x447 : Int).toNat * 1, none⟩))) ((hc473 fL HS445) 0 (by decide))) ?_)
           refine seqL1 kr ?_
           refine nl (hK469 _ _ ?_)
           refine rl ?_
           have HS482 := HS445.u1.u2.u3.u3.u5.u5
           have hq_ := bind_some h; clear h; obtain ⟨vt483, hc484, h⟩ := hq_
           refine seqL2 kr ?_
           refine seqK rfl (does_call (f := 58) (args := #[.int .i64 (rd x3.loose x447), .pointer (some ⟨b20, 0, none⟩), .pointer (some ⟨b314, 0, none⟩), .pointer (some ⟨b24, 0, none⟩), .pointer (some ⟨b57, 0, none⟩)]) kr (query_Index_Join_1.calls k b20 b1 A4 c5 A7 c8 A10 c11 b314 A313 c313 b24 b57 A449 c450 s451 x3 (rd rows13 x282) cos17 x448 (rd x3.loose x447) HS482 (HR6.mono (L35.trans (L278.trans L443))) (HR9.mono (L35.trans (L278.trans L443))) (HR12.mono (L35.trans (L278.trans L443))) (HR313.mono L443) HO452 vt483 hc484) ?_)
           rintro _ W487 ⟨f485, A489, c490, s491, rfl, L486, HS488, HO492⟩
           refine ⟨_, rfl, ?_⟩
           refine nl ?_
           refine hn463 _ _ ?_
           refine hK460 _ _ ?_
           refine rl ?_
           refine seqL2 kr ?_
           refine nl ?_
           refine hK440 n441 _ _ (Nat.lt_succ_self _) ?_
           have HS512 := HS488.u2.u2.u4.u5.u4.u5
           exact ⟨f485, A489, c490, s491, (w64 (x447 + 1)), vt483, (jL [iV (rd x3.loose x447), tV, .pointer (some ⟨b474, of475 + (x447 : Int).toNat * 1, none⟩), iV (rd x3.loose x447), .func (.func 58) #[] #[.pointer (some ⟨b20, 0, none⟩), .pointer (some ⟨b314, 0, none⟩), .pointer (some ⟨b24, 0, none⟩), .pointer (some ⟨b57, 0, none⟩)], iV (rd x3.loose x447), .tuple #[], iV (w64 (x447 + 1))]), (L443.trans L486), HS512, HO492, h, kr⟩
         · have c458 : ¬ (x447 < (x3.loose.length : Int)) := c458
           refine wpRwI 39 kr (decide_eq_false c458) ?_
           refine condF kr ?_
           refine wp_exit ?_
           refine hx327 _ _ ?_
           exact J505 f442 A449 c450 s451 x448 (jL [(j446 0), iV x447, fV, (j446 2), (j446 3), (j446 4), (j446 5), (j446 6), (j446 7)]) W444 _ L443 h HS445 HO452 kr
       · have c294 : ¬ (x282 < (rows13.length : Int)) := c294
         refine wpRwI 29 kr (decide_eq_false c294) ?_
         refine condF kr ?_
         refine wp_exit ?_
         refine hx66 _ _ ?_
         exact J543 f277 A284 c285 s286 x283 (jL [(j281 0), (j281 1), (j281 2), iV x282, fV, (j281 4), (j281 5), (j281 6), (j281 7), (j281 8), (j281 9), (j281 10), (j281 11), (j281 12), (j281 13), (j281 14), (j281 15), (j281 16), (j281 17), (j281 18), (j281 19), (j281 20), (j281 21), (j281 22), (j281 23), (j281 24), (j281 25), (j281 26), (j281 27)]) W279 _ L278 h HS280 HO287 kr

set_option maxRecDepth 100000 in
set_option maxHeartbeats 4000000 in
theorem slices_Index_Pair.calls (k : Nat) (A2 : Option Addr) (c3 : Nat) (s1 : List S_Pair) (v5 : S_Pair) {t w : World} {f : FM} {H : List Seg} (HS : St t w f (H)) (HR4 : SlR ty_Pair f A2 c3 s1) (rr1 : Int) (h : slices_Index_Pair k s1 v5 = some rr1) :
    Calls Tryz.prog 63 #[.slice A2 s1.length c3, .agg #[.int .i64 v5.Left, .int .i64 v5.Right, .int .i64 v5.Grade]] w (fun e w' => ∃ (g : FM), e = .returned (Value.int .i64 rr1) ∧ FM.le f g ∧ St t w' g (H)) := by
 unfold slices_Index_Pair at h
 refine enter Tryz.func63 rfl (tm := #[.slice A2 s1.length c3, (ag_Pair v5), uV, uV, uV, uV, uV, uV, uV, uV, uV, uV, uV, uV, uV, uV, uV, uV, uV]) kr ?_
 intro B hret hnor hnp
 refine wp_seq_k fun K6 hK7 => rl ?_
 refine seqK rfl (does_box (cs := #[.int .i64 v5.Left, .int .i64 v5.Right, .int .i64 v5.Grade]) rfl (kv (.agg #[.int .i64 v5.Left, .int .i64 v5.Right, .int .i64 v5.Grade])) rfl HS ?_)
 intro b8 W9 HS10
 refine seqL1 kr ?_
 refine nl (hK7 _ _ ?_)
 refine wp_seq_k (fun K12 hK13 => ?_)
 refine wp_seq_k fun K14 hK15 => rl ?_
 refine seqL3 kr ?_
 refine nl (hK15 _ _ ?_)
 refine blockK (fun B16 hx17 hn18 hr19 ho20 hp21 => ?_)
 have hq_ := bind_some h; clear h; obtain ⟨o22, hv69, h⟩ := hq_
 have JR71 : ∀ z_, some (Sum.inl z_) = some o22 → some z_ = some rr1 := by
  intro z_ e_; injection e_ with e_; subst e_; exact h
 have J70 : ∀ (f64 : FM) (j68 : Nat → Value) (W66 : World) (a_ : Act), FM.le f f64 → some (Sum.inr ()) = some o22 → St t W66 f64 ([(b8, .cells #[.int .i64 v5.Left, .int .i64 v5.Right, .int .i64 v5.Grade] 77 (0, 0))] :: H) → a_ = ⟨#[.slice A2 s1.length c3, (ag_Pair v5), uV, pV b8 0, (j68 0), (j68 1), .slice A2 s1.length c3, iV (s1.length : Int), (j68 2), (j68 3), (j68 4), (j68 5), (j68 6), (j68 7), (j68 8), (j68 9), (j68 10), (j68 11), (j68 12)], []⟩ → K12 a_ W66 := by
  intro f64 j68 W66 a_ L65 hj72 HS67  hfr_; subst hfr_
  injection hj72 with hj72; subst hj72; try dsimp only at h
  simp only [Sum.elim_inr] at h
  refine hK13 _ _ ?_
  refine wp_seq_k fun K73 hK74 => rl ?_
  refine seqL1 kr ?_
  refine nl (hK74 _ _ ?_)
  refine wp_ret ?_
  refine hret _ _ ?_
  refine ends_still (v := Value.int .i64 (-1)) kr kr ?_
  have HS76 := HS67.drop
  injection h with h
  subst h
  exact ⟨f64, rfl, L65, HS76⟩
 clear h; have h := hv69; clear hv69
 refine loopK (fun n_ a_ w_ => ∃ (f26 : FM) (x31 : Int) (j30 : Nat → Value), FM.le f f26 ∧ St t w_ f26 ([(b8, .cells #[.int .i64 v5.Left, .int .i64 v5.Right, .int .i64 v5.Grade] 77 (0, 0))] :: H) ∧ slices_Index_Pair.l0 k s1 v5 n_ x31 = some o22 ∧ a_ = ⟨#[.slice A2 s1.length c3, (ag_Pair v5), uV, pV b8 0, (j30 0), (j30 1), .slice A2 s1.length c3, iV (s1.length : Int), iV x31, (j30 2), (j30 3), (j30 4), (j30 5), (j30 6), (j30 7), (j30 8), (j30 9), (j30 10), (j30 11)], []⟩) k ⟨f, 0, (jL [iV 0]), fL, HS10, h, kr⟩ ?_
 clear h
 rintro n25 _ W28 ⟨f26, x31, j30, L27, HS29, h, rfl⟩ K23 hK24
 obtain _ | n25 := n25
 · exact nomatch h
 simp only [slices_Index_Pair.l0] at h
 refine wp_seq_k fun K32 hK33 => rl ?_
 refine seqL1 kr ?_
 refine nl (hK33 _ _ ?_)
 refine wp_seq_k (fun K34 hK35 => ?_)
 have hq_ := ite_some h; clear h; rcases hq_ with ⟨c37, h⟩ | ⟨c37, h⟩
 · have c37 : x31 < (s1.length : Int) := c37
   refine wpRwI 9 kr (decide_eq_true c37) ?_
   refine condT kr ?_
   refine wp_skip ?_
   refine hK35 _ _ ?_
   refine wp_seq_k (fun K38 hK39 => ?_)
   refine blockK (fun B40 hx41 hn42 hr43 ho44 hp45 => ?_)
   refine wp_seq_k fun K47 hK48 => rl ?_
   refine seqL2 kr ?_
   refine nl (hK48 _ _ ?_)
   refine wp_seq_k (fun K49 hK50 => ?_)
   refine heldG (S := Sg t f26 ([(b8, .cells #[.int .i64 v5.Left, .int .i64 v5.Right, .int .i64 v5.Grade] 77 (0, 0))] :: H) []) (n := 6) kr rfl HS29 ?_
   intro W51 HS52
   refine takeGQ 0 [] rfl kr kr kr kr kr kr (fun ch_ a_ w_ q_ => (fun ch_ a_ w_ q_ => hnp ch_ a_ w_ (hp21 ch_ a_ w_ q_)) ch_ a_ w_ (hp45 ch_ a_ w_ q_)) (Sg.g0 (Sx.of [] fL HS52)) (fun w_ hw_ => by obtain ⟨g_, hl_, hS_⟩ := hw_.st; exact run_loadN (n := 3) rfl Tryz.underlying77 rfl kr (kv (.pointer (some ⟨b8, 0, none⟩))) (cs := [.int .i64 v5.Left, .int .i64 v5.Right, .int .i64 v5.Grade]) rfl (hS_.cells 0 3 _ rfl)) ?_
   have hq_ := guard_some h; clear h; obtain ⟨c53, h⟩ := hq_
   have c53 : 0 ≤ x31 := c53
   obtain ⟨b57, of58, cs54, hA59, hr55, hc56⟩ := (HR4.mono L27).at (i := x31) c53 c37
   obtain rfl := hr55
   refine takeGL [1, 2] (n := 5) (fuel := 3) #[true, true, true, false, false, false] rfl kr kr kr (fun ch_ a_ w_ q_ => (fun ch_ a_ w_ q_ => hnp ch_ a_ w_ (hp21 ch_ a_ w_ q_)) ch_ a_ w_ (hp45 ch_ a_ w_ q_)) (Sg.g0 (Sx.of [] fL HS52)) ?_
   refine takeGQ 3 [] rfl kr kr kr kr kr kr (fun ch_ a_ w_ q_ => (fun ch_ a_ w_ q_ => hnp ch_ a_ w_ (hp21 ch_ a_ w_ q_)) ch_ a_ w_ (hp45 ch_ a_ w_ q_)) (Sg.g0 (Sx.of [] fL HS52)) (fun w_ hw_ => by obtain ⟨g_, hl_, hS_⟩ := hw_.st; exact run_indexE hA59 (sz := 3) rfl Tryz.underlying73 kr (kv (.slice A2 s1.length c3)) (kv (.int .i64 x31)) c53 c37 w_) ?_
   refine takeGQ 4 [] rfl kr kr kr kr kr kr (fun ch_ a_ w_ q_ => (fun ch_ a_ w_ q_ => hnp ch_ a_ w_ (hp21 ch_ a_ w_ q_)) ch_ a_ w_ (hp45 ch_ a_ w_ q_)) (Sg.g0 (Sx.of [] fL HS52)) (fun w_ hw_ => by obtain ⟨g_, hl_, hS_⟩ := hw_.st; exact run_loadN (n := 3) rfl Tryz.underlying77 rfl kr (kv (.pointer (some ⟨b57, of58 + (x31 : Int).toNat * 3, none⟩))) (cs := [.int .i64 ((rd s1 x31).Left), .int .i64 ((rd s1 x31).Right), .int .i64 ((rd s1 x31).Grade)]) rfl (fun j_ hj_ => ((hc56 hl_ hS_) j_ hj_))) ?_
   refine takeGQ 5 [] rfl kr kr kr kr kr kr (fun ch_ a_ w_ q_ => (fun ch_ a_ w_ q_ => hnp ch_ a_ w_ (hp21 ch_ a_ w_ q_)) ch_ a_ w_ (hp45 ch_ a_ w_ q_)) (Sg.g0 (Sx.of [] fL HS52)) (fun w_ hw_ => by obtain ⟨g_, hl_, hS_⟩ := hw_.st; exact run_eqS (b := ((v5.Left == ((rd s1 x31).Left)) && ((v5.Right == ((rd s1 x31).Right)) && ((v5.Grade == ((rd s1 x31).Grade)) && true)))) rfl (kv (.agg #[.int .i64 v5.Left, .int .i64 v5.Right, .int .i64 v5.Grade])) (kv (.agg #[.int .i64 ((rd s1 x31).Left), .int .i64 ((rd s1 x31).Right), .int .i64 ((rd s1 x31).Grade)])) kr kr w_) ?_
   refine doneG kr ?_ _
   refine hK50 _ _ ?_
   have hq_ := ite_some h; clear h; rcases hq_ with ⟨c61, h⟩ | ⟨c61, h⟩
   · have c61 : ((v5.Left == ((rd s1 x31).Left)) && ((v5.Right == ((rd s1 x31).Right)) && ((v5.Grade == ((rd s1 x31).Grade)) && true))) = true := c61
     refine wpRwI 16 kr c61 ?_
     refine condT kr ?_
     refine wp_seq_k fun K62 hK63 => rl ?_
     refine seqL2 kr ?_
     refine nl (hK63 _ _ ?_)
     refine wp_ret ?_
     refine hr43 _ _ ?_
     refine hr19 _ _ ?_
     refine hret _ _ ?_
     refine ends_still (v := Value.int .i64 x31) kr kr ?_
     have HS75 := HS52.drop
     replace h := JR71 _ h
     injection h with h
     subst h
     exact ⟨f26, rfl, L27, HS75⟩
   · have c61 : ¬ (((v5.Left == ((rd s1 x31).Left)) && ((v5.Right == ((rd s1 x31).Right)) && ((v5.Grade == ((rd s1 x31).Grade)) && true))) = true) := c61
     refine wpRwI 16 kr (Bool.eq_false_iff.mpr c61) ?_
     refine condF kr ?_
     refine wp_skip ?_
     refine hn42 _ _ ?_
     refine hK39 _ _ ?_
     refine rl ?_
     refine seqL2 kr ?_
     refine nl ?_
     refine hK24 n25 _ _ (Nat.lt_succ_self _) ?_
     exact ⟨f26, (w64 (x31 + 1)), (jL [(j30 0), iV x31, tV, iV x31, (ag_Pair v5), .slice A2 s1.length c3, iV x31, .pointer (some ⟨b57, of58 + (x31 : Int).toNat * 3, none⟩), (ag_Pair (rd s1 x31)), fV, (j30 10), iV (w64 (x31 + 1))]), L27, HS52, h, kr⟩
 · have c37 : ¬ (x31 < (s1.length : Int)) := c37
   refine wpRwI 9 kr (decide_eq_false c37) ?_
   refine condF kr ?_
   refine wp_exit ?_
   refine hx17 _ _ ?_
   exact J70 f26 (jL [(j30 0), (j30 1), iV x31, fV, (j30 3), (j30 4), (j30 5), (j30 6), (j30 7), (j30 8), (j30 9), (j30 10), (j30 11)]) W28 _ L27 h HS29 kr

set_option maxRecDepth 100000 in
set_option maxHeartbeats 4000000 in
theorem slices_Contains_Pair.calls (k : Nat) (A2 : Option Addr) (c3 : Nat) (s1 : List S_Pair) (v5 : S_Pair) {t w : World} {f : FM} {H : List Seg} (HS : St t w f (H)) (HR4 : SlR ty_Pair f A2 c3 s1) (rr1 : Bool) (h : slices_Contains_Pair k s1 v5 = some rr1) :
    Calls Tryz.prog 29 #[.slice A2 s1.length c3, .agg #[.int .i64 v5.Left, .int .i64 v5.Right, .int .i64 v5.Grade]] w (fun e w' => ∃ (g : FM), e = .returned (Value.bool rr1) ∧ FM.le f g ∧ St t w' g (H)) := by
 unfold slices_Contains_Pair at h
 refine enter Tryz.func29 rfl (tm := #[.slice A2 s1.length c3, (ag_Pair v5), uV, uV, uV, uV, uV, uV, uV]) kr ?_
 intro B hret hnor hnp
 refine wp_seq_k fun K6 hK7 => rl ?_
 refine seqK rfl (does_box (cs := #[.int .i64 v5.Left, .int .i64 v5.Right, .int .i64 v5.Grade]) rfl (kv (.agg #[.int .i64 v5.Left, .int .i64 v5.Right, .int .i64 v5.Grade])) rfl HS ?_)
 intro b8 W9 HS10
 refine seqL1 kr ?_
 refine nl (hK7 _ _ ?_)
 refine wp_seq_k fun K12 hK13 => rl ?_
 refine seqL1 kr ?_
 refine seqK rfl (does_run (run_loadN (n := 3) rfl Tryz.underlying77 rfl kr (kv (.pointer (some ⟨b8, 0, none⟩))) (cs := [.int .i64 v5.Left, .int .i64 v5.Right, .int .i64 v5.Grade]) rfl (HS10.cells 0 3 _ rfl)) ?_)
 have hq_ := bind_some h; clear h; obtain ⟨vt14, hc15, h⟩ := hq_
 refine seqK rfl (does_call (f := 63) (args := #[.slice A2 s1.length c3, .agg #[.int .i64 v5.Left, .int .i64 v5.Right, .int .i64 v5.Grade]]) kr (slices_Index_Pair.calls k A2 c3 s1 v5 HS10 HR4 vt14 hc15) ?_)
 rintro _ W18 ⟨f16, rfl, L17, HS19⟩
 refine ⟨_, rfl, ?_⟩
 refine seqL2 kr ?_
 refine nl (hK13 _ _ ?_)
 refine wp_ret ?_
 refine hret _ _ ?_
 refine ends_still (v := Value.bool (decide (vt14 ≥ 0))) kr kr ?_
 have HS20 := HS19.drop
 injection h with h
 subst h
 exact ⟨f16, rfl, L17, HS20⟩

set_option maxRecDepth 100000 in
set_option maxHeartbeats 4000000 in
theorem spykeep3_QueryJoinsTurn.calls (k : Nat) (A2 : Option Addr) (c3 : Nat) (l1 : List Int) (deep5 : Int) (cos6 : Int) {t w : World} {f : FM} {H : List Seg} (HS : St t w f (H)) (HR4 : SlR (tInt .i64) f A2 c3 l1) (rr1 : Bool) (h : spykeep3_QueryJoinsTurn k l1 deep5 cos6 = some rr1) :
    Calls Tryz.prog 7 #[.slice A2 l1.length c3, .int .i64 deep5, .int .i64 cos6] w (fun e w' => ∃ (g : FM), e = .returned (Value.bool rr1) ∧ FM.le f g ∧ St t w' g (H)) := by
 unfold spykeep3_QueryJoinsTurn at h
 refine enter Tryz.func7 rfl (tm := #[.slice A2 l1.length c3, iV deep5, iV cos6, uV, uV, uV, uV, uV, uV, uV, uV, uV, uV, uV, uV, uV, uV, uV, uV, uV, uV, uV, uV, uV, uV, uV, uV, uV, uV, uV, uV, uV, uV, uV, uV, uV, uV, uV, uV, uV, uV, uV, uV, uV, uV, uV, uV, uV, uV, uV, uV, uV, uV, uV, uV, uV, uV, uV, uV, uV, uV, uV, uV, uV, uV, uV, uV, uV, uV, uV, uV, uV, uV, uV, uV, uV, uV, uV, uV, uV, uV, uV, uV, uV, uV, uV, uV, uV, uV, uV, uV, uV, uV, uV, uV, uV, uV, uV, uV, uV, uV, uV, uV, uV, uV, uV, uV, uV, uV, uV]) kr ?_
 intro B hret hnor hnp
 refine wp_seq_k fun K7 hK8 => rl ?_
 refine seqL1 kr ?_
 refine nl (hK8 _ _ ?_)
 refine wp_seq_k fun K9 hK10 => rl ?_
 refine seqL2 kr ?_
 refine seqK rfl (does_box (cs := #[.slice A2 l1.length c3, .int .i64 0]) rfl (kv (.agg #[.slice A2 l1.length c3, .int .i64 0])) rfl HS ?_)
 intro b11 W12 HS13
 refine seqL1 kr ?_
 refine nl (hK10 _ _ ?_)
 refine wp_seq_k fun K15 hK16 => rl ?_
 have hq_ := bind_some h; clear h; obtain ⟨⟨vt17, vt18⟩, hc19, h⟩ := hq_
 refine seqL1 kr ?_
 refine seqK rfl (does_call (f := 17) (args := #[.pointer (some ⟨b11, 0, none⟩), .int .i64 8]) kr (spymake_Stream_Rows.calls k b11 A2 c3 (⟨l1, 0⟩ : S_Stream) 8 HS13 HR4 vt17 vt18 hc19) ?_)
 rintro _ W22 ⟨f20, A24, c25, s26, rfl, L21, HS23, HO27⟩
 refine ⟨_, rfl, ?_⟩
 have HS29 := HS23.u1
 have hq_ := bind_some h; clear h; obtain ⟨⟨vt30, vt31⟩, hc32, h⟩ := hq_
 refine seqL1 kr ?_
 refine seqK rfl (does_call (f := 17) (args := #[.pointer (some ⟨b11, 0, none⟩), .int .i64 8]) kr (spymake_Stream_Rows.calls k b11 A2 c3 (⟨l1, vt18⟩ : S_Stream) 8 HS29 (HR4.mono L21) vt30 vt31 hc32) ?_)
 rintro _ W35 ⟨f33, A37, c38, s39, rfl, L34, HS36, HO40⟩
 refine ⟨_, rfl, ?_⟩
 refine seqL2 kr ?_
 refine nl (hK16 _ _ ?_)
 refine wp_seq_k fun K42 hK43 => rl ?_
 have HS44 := HS36.u1
 have hq_ := bind_some h; clear h; obtain ⟨⟨vt45, vt46⟩, hc47, h⟩ := hq_
 refine seqL2 kr ?_
 refine seqK rfl (does_call (f := 27) (args := #[.pointer (some ⟨b11, 0, none⟩), .int .i64 1, .int .i64 30]) kr (spymake_Stream_Range.calls k b11 A2 c3 (⟨l1, vt31⟩ : S_Stream) 1 30 HS44 (HR4.mono (L21.trans L34)) vt45 vt46 hc47) ?_)
 rintro _ W50 ⟨f48, rfl, L49, HS51⟩
 refine ⟨_, rfl, ?_⟩
 have hq_ := guard_some h; clear h; obtain ⟨c52, h⟩ := hq_
 have c52 : ¬ (vt45 < 0) := c52
 refine seqK rfl (does_run (run_shl rfl (kv (.int .i64 1)) (kv (.int .i64 vt45)) c52 W50) ?_)
 have hq_ := bind_some h; clear h; obtain ⟨vt53, hc54, h⟩ := hq_
 refine seqK rfl (does_call (f := 9) (args := #[.int .i64 cos6, .int .i64 (w64 (1 * 2 ^ (min (vt45).toNat 64)))]) kr (spymake_Below.calls k cos6 (w64 (1 * 2 ^ (min (vt45).toNat 64))) HS51 vt53 hc54) ?_)
 rintro _ W57 ⟨f55, rfl, L56, HS58⟩
 refine ⟨_, rfl, ?_⟩
 refine seqL2 kr ?_
 refine nl (hK43 _ _ ?_)
 refine wp_seq_k fun K59 hK60 => rl ?_
 have hq_ := bind_some h; clear h; obtain ⟨vt61, hc62, h⟩ := hq_
 refine seqL2 kr ?_
 refine seqK rfl (does_call (f := 9) (args := #[.int .i64 deep5, .int .i64 9]) kr (spymake_Below.calls k deep5 9 HS58 vt61 hc62) ?_)
 rintro _ W65 ⟨f63, rfl, L64, HS66⟩
 refine ⟨_, rfl, ?_⟩
 have HS67 := HS66.u2
 obtain ⟨f68, L69, HS70, HR71⟩ := (HO27.mono (L34.trans (L49.trans (L56.trans L64)))).freeze HS67
 have hq_ := bind_some h; clear h; obtain ⟨⟨vt72, vt73⟩, hc74, h⟩ := hq_
 refine seqK rfl (does_call (f := 24) (args := #[.slice A24 vt17.length c25, .int .i64 vt61]) kr (query_New.calls k A24 c25 vt17 vt61 HS70 HR71 vt72 vt73 hc74) ?_)
 rintro _ W77 ⟨f75, A79, c80, A82, c83, A85, c86, b88, rfl, L76, HS78, HR81, HR84, HR87⟩
 refine ⟨_, rfl, ?_⟩
 refine seqL5 kr ?_
 refine nl (hK60 _ _ ?_)
 refine wp_seq_k fun K90 hK91 => rl ?_
 have hq_ := bind_some h; clear h; obtain ⟨vt92, hc93, h⟩ := hq_
 refine seqL3 kr ?_
 refine seqK rfl (does_call (f := 9) (args := #[.int .i64 (w64 (Int.tdiv deep5 9)), .int .i64 9]) kr (spymake_Below.calls k (w64 (Int.tdiv deep5 9)) 9 HS78 vt92 hc93) ?_)
 rintro _ W96 ⟨f94, rfl, L95, HS97⟩
 refine ⟨_, rfl, ?_⟩
 have HS98 := HS97.u2
 obtain ⟨f99, L100, HS101, HR102⟩ := (HO40.mono (L49.trans (L56.trans (L64.trans (L69.trans (L76.trans L95)))))).freeze HS98
 have hq_ := bind_some h; clear h; obtain ⟨⟨vt103, vt104⟩, hc105, h⟩ := hq_
 refine seqK rfl (does_call (f := 24) (args := #[.slice A37 vt30.length c38, .int .i64 vt92]) kr (query_New.calls k A37 c38 vt30 vt92 HS101 HR102 vt103 vt104 hc105) ?_)
 rintro _ W108 ⟨f106, A110, c111, A113, c114, A116, c117, b119, rfl, L107, HS109, HR112, HR115, HR118⟩
 refine ⟨_, rfl, ?_⟩
 refine seqL5 kr ?_
 refine nl (hK91 _ _ ?_)
 refine wp_seq_k (fun K121 hK122 => ?_)
 refine wp_seq_k fun K123 hK124 => rl ?_
 have hq_ := bind_some h; clear h; obtain ⟨vt125, hc126, h⟩ := hq_
 refine seqK rfl (does_call (f := 12) (args := #[]) kr (spykeep3_asked.calls k  HS109 vt125 hc126) ?_)
 rintro _ W129 ⟨f127, rfl, L128, HS130⟩
 refine ⟨_, rfl, ?_⟩
 refine seqL2 kr ?_
 have hq_ := ite_some h; clear h; rcases hq_ with ⟨c131, h⟩ | ⟨c131, h⟩
 · have c131 : ¬ (vt125 = true) := c131
   refine seqRwI 49 kr (congrArg (fun b_ => !b_) (show vt125 = false from (Bool.eq_false_iff.mpr c131)) : (!vt125) = true) ?_
   refine seqRwI 50 kr (congrArg (fun b_ => !b_) (show vt125 = false from (Bool.eq_false_iff.mpr c131)) : (!vt125) = true) ?_
   refine seqL15 kr ?_
   refine nl (hK124 _ _ ?_)
   refine condT kr ?_
   refine wp_seq_k fun K132 hK133 => rl ?_
   refine seqL1 kr ?_
   refine nl (hK133 _ _ ?_)
   refine wp_ret ?_
   refine hret _ _ ?_
   refine ends_still (v := Value.bool false) kr kr ?_
   have HS273 := HS130.drop
   have HS274 := HS273.drop
   have HS275 := HS274.drop
   injection h with h
   subst h
   exact ⟨f127, rfl, (L21.trans (L34.trans (L49.trans (L56.trans (L64.trans (L69.trans (L76.trans (L95.trans (L100.trans (L107.trans L128)))))))))), HS275⟩
 · have c131 : ¬ (¬ (vt125 = true)) := c131
   refine seqRwI 49 (x := (!vt125)) (v := false) kr (congrArg (fun b_ => !b_) (show vt125 = true from (Decidable.of_not_not c131)) : (!vt125) = false) ?_
   refine seqRwI 50 (x := (!vt125)) (v := false) kr (congrArg (fun b_ => !b_) (show vt125 = true from (Decidable.of_not_not c131)) : (!vt125) = false) ?_
   refine seqL4 kr ?_
   have hq_ := ite_some h; clear h; rcases hq_ with ⟨c134, h⟩ | ⟨c134, h⟩
   · have c134 : vt73 ≠ 0 := c134
     refine seqRwI 52 kr (bne_iff_ne.mpr c134) ?_
     refine seqRwI 53 kr (bne_iff_ne.mpr c134) ?_
     refine seqRwI 54 kr (bne_iff_ne.mpr c134) ?_
     refine seqL11 kr ?_
     refine nl (hK124 _ _ ?_)
     refine condT kr ?_
     refine wp_seq_k fun K135 hK136 => rl ?_
     refine seqL1 kr ?_
     refine nl (hK136 _ _ ?_)
     refine wp_ret ?_
     refine hret _ _ ?_
     refine ends_still (v := Value.bool false) kr kr ?_
     have HS276 := HS130.drop
     have HS277 := HS276.drop
     have HS278 := HS277.drop
     injection h with h
     subst h
     exact ⟨f127, rfl, (L21.trans (L34.trans (L49.trans (L56.trans (L64.trans (L69.trans (L76.trans (L95.trans (L100.trans (L107.trans L128)))))))))), HS278⟩
   · have c134 : ¬ (vt73 ≠ 0) := c134
     refine seqRwI 52 (x := (vt73 != 0)) (v := false) kr (bne_eq_false_iff_eq.mpr (Decidable.of_not_not c134)) ?_
     refine seqRwI 53 (x := (vt73 != 0)) (v := false) kr (bne_eq_false_iff_eq.mpr (Decidable.of_not_not c134)) ?_
     refine seqRwI 54 (x := (vt73 != 0)) (v := false) kr (bne_eq_false_iff_eq.mpr (Decidable.of_not_not c134)) ?_
     refine seqL4 kr ?_
     have hq_ := ite_some h; clear h; rcases hq_ with ⟨c137, h⟩ | ⟨c137, h⟩
     · have c137 : vt104 ≠ 0 := c137
       refine seqRwI 56 kr (bne_iff_ne.mpr c137) ?_
       refine seqRwI 57 kr (bne_iff_ne.mpr c137) ?_
       refine seqRwI 58 kr (bne_iff_ne.mpr c137) ?_
       refine seqL7 kr ?_
       refine nl (hK124 _ _ ?_)
       refine condT kr ?_
       refine wp_seq_k fun K138 hK139 => rl ?_
       refine seqL1 kr ?_
       refine nl (hK139 _ _ ?_)
       refine wp_ret ?_
       refine hret _ _ ?_
       refine ends_still (v := Value.bool false) kr kr ?_
       have HS279 := HS130.drop
       have HS280 := HS279.drop
       have HS281 := HS280.drop
       injection h with h
       subst h
       exact ⟨f127, rfl, (L21.trans (L34.trans (L49.trans (L56.trans (L64.trans (L69.trans (L76.trans (L95.trans (L100.trans (L107.trans L128)))))))))), HS281⟩
     · have c137 : ¬ (vt104 ≠ 0) := c137
       refine seqRwI 56 (x := (vt104 != 0)) (v := false) kr (bne_eq_false_iff_eq.mpr (Decidable.of_not_not c137)) ?_
       refine seqRwI 57 (x := (vt104 != 0)) (v := false) kr (bne_eq_false_iff_eq.mpr (Decidable.of_not_not c137)) ?_
       refine seqRwI 58 (x := (vt104 != 0)) (v := false) kr (bne_eq_false_iff_eq.mpr (Decidable.of_not_not c137)) ?_
       refine seqL7 kr ?_
       refine nl (hK124 _ _ ?_)
       refine condF kr ?_
       refine wp_skip ?_
       refine hK122 _ _ ?_
       refine wp_seq_k fun K140 hK141 => rl ?_
       have HS142 := HS130.u1
       have hq_ := bind_some h; clear h; obtain ⟨⟨vt143, vt144⟩, hc145, h⟩ := hq_
       refine seqL3 kr ?_
       refine seqK rfl (does_call (f := 28) (args := #[.pointer (some ⟨b88, 0, none⟩), .slice A37 vt30.length c38, .int .i64 (w64 (1073741824 - vt53))]) kr (query_Index_Join.calls k b88 A79 c80 A82 c83 A85 c86 A37 c38 vt72 vt30 (w64 (1073741824 - vt53)) HS142 (HR81.mono (L95.trans (L100.trans (L107.trans L128)))) (HR84.mono (L95.trans (L100.trans (L107.trans L128)))) (HR87.mono (L95.trans (L100.trans (L107.trans L128)))) (HR102.mono (L107.trans L128)) vt143 vt144 hc145) ?_)
       rintro _ W148 ⟨f146, A150, c151, s152, rfl, L147, HS149, HO153⟩
       refine ⟨_, rfl, ?_⟩
       refine seqL5 kr ?_
       refine nl (hK141 _ _ ?_)
       refine wp_seq_k fun K155 hK156 => rl ?_
       have HS157 := HS149.u2
       have hq_ := bind_some h; clear h; obtain ⟨⟨vt158, vt159⟩, hc160, h⟩ := hq_
       refine seqL3 kr ?_
       refine seqK rfl (does_call (f := 28) (args := #[.pointer (some ⟨b119, 0, none⟩), .slice A24 vt17.length c25, .int .i64 (w64 (1073741824 - vt53))]) kr (query_Index_Join.calls k b119 A110 c111 A113 c114 A116 c117 A24 c25 vt103 vt17 (w64 (1073741824 - vt53)) HS157 (HR112.mono (L128.trans L147)) (HR115.mono (L128.trans L147)) (HR118.mono (L128.trans L147)) (HR71.mono (L76.trans (L95.trans (L100.trans (L107.trans (L128.trans L147)))))) vt158 vt159 hc160) ?_)
       rintro _ W163 ⟨f161, A165, c166, s167, rfl, L162, HS164, HO168⟩
       refine ⟨_, rfl, ?_⟩
       refine seqL5 kr ?_
       refine nl (hK156 _ _ ?_)
       refine wp_seq_k (fun K170 hK171 => ?_)
       refine wp_seq_k fun K172 hK173 => rl ?_
       refine seqS3 (a' := ⟨#[.slice A2 l1.length c3, iV deep5, iV (w64 (1073741824 - vt53)), uV, uV, uV, fV, pV b11 0, .slice A24 vt17.length c25, .slice A37 vt30.length c38, pV b88 0, iV vt73, pV b119 0, iV vt104, .slice A150 vt143.length c151, iV vt144, .slice A165 vt158.length c166, iV vt159, uV, uV, .slice A2 l1.length c3, .agg #[.slice A2 l1.length c3, iV 0], pV b11 0, pV b11 0, .slice A24 vt17.length c25, pV b11 0, .slice A37 vt30.length c38, iV cos6, pV b11 0, iV vt45, iV (w64 (1 * 2 ^ (min (vt45).toNat 64))), iV vt53, iV (w64 (1073741824 - vt53)), .tuple #[pV b88 0, iV vt73], .slice A24 vt17.length c25, iV deep5, iV vt61, .tuple #[pV b88 0, iV vt73], pV b88 0, iV vt73, .tuple #[pV b119 0, iV vt104], .slice A37 vt30.length c38, iV deep5, iV (w64 (Int.tdiv deep5 9)), iV vt92, .tuple #[pV b119 0, iV vt104], pV b119 0, iV vt104, .bool vt125, fV, fV, iV vt73, fV, fV, fV, iV vt104, fV, fV, fV, pV b88 0, fV, fV, fV, pV b119 0, fV, fV, .tuple #[.slice A150 vt143.length c151, iV vt144], pV b88 0, .slice A37 vt30.length c38, iV (w64 (1073741824 - vt53)), .tuple #[.slice A150 vt143.length c151, iV vt144], .slice A150 vt143.length c151, iV vt144, .tuple #[.slice A165 vt158.length c166, iV vt159], pV b119 0, .slice A24 vt17.length c25, iV (w64 (1073741824 - vt53)), .tuple #[.slice A165 vt158.length c166, iV vt159], .slice A165 vt158.length c166, iV vt159, iV vt144, .bool (vt144 != 0), .bool (vt144 != 0), uV, uV, uV, uV, uV, uV, uV, uV, uV, uV, uV, uV, uV, uV, uV, uV, uV, uV, uV, uV, uV, uV, uV, uV, uV, uV, uV], []⟩) kr ?_
       have hq_ := ite_some h; clear h; rcases hq_ with ⟨c174, h⟩ | ⟨c174, h⟩
       · have c174 : vt144 ≠ 0 := c174
         refine seqRwI 81 kr (bne_iff_ne.mpr c174) ?_
         refine seqRwI 82 kr (bne_iff_ne.mpr c174) ?_
         refine seqL10 kr ?_
         refine nl (hK173 _ _ ?_)
         refine condT kr ?_
         refine wp_seq_k fun K175 hK176 => rl ?_
         refine seqL1 kr ?_
         refine nl (hK176 _ _ ?_)
         refine wp_ret ?_
         refine hret _ _ ?_
         refine ends_still (v := Value.bool false) kr kr ?_
         have HS282 := HS164.drop
         have HS283 := HS282.drop
         have HS284 := HS283.drop
         have HS285 := HS284.drop
         have HS286 := HS285.drop
         injection h with h
         subst h
         exact ⟨f161, rfl, (L21.trans (L34.trans (L49.trans (L56.trans (L64.trans (L69.trans (L76.trans (L95.trans (L100.trans (L107.trans (L128.trans (L147.trans L162)))))))))))), HS286⟩
       · have c174 : ¬ (vt144 ≠ 0) := c174
         refine seqRwI 81 (x := (vt144 != 0)) (v := false) kr (bne_eq_false_iff_eq.mpr (Decidable.of_not_not c174)) ?_
         refine seqRwI 82 (x := (vt144 != 0)) (v := false) kr (bne_eq_false_iff_eq.mpr (Decidable.of_not_not c174)) ?_
         refine seqL4 kr ?_
         have hq_ := ite_some h; clear h; rcases hq_ with ⟨c177, h⟩ | ⟨c177, h⟩
         · have c177 : vt159 ≠ 0 := c177
           refine seqRwI 84 kr (bne_iff_ne.mpr c177) ?_
           refine seqRwI 85 kr (bne_iff_ne.mpr c177) ?_
           refine seqRwI 86 kr (bne_iff_ne.mpr c177) ?_
           refine seqL6 kr ?_
           refine nl (hK173 _ _ ?_)
           refine condT kr ?_
           refine wp_seq_k fun K178 hK179 => rl ?_
           refine seqL1 kr ?_
           refine nl (hK179 _ _ ?_)
           refine wp_ret ?_
           refine hret _ _ ?_
           refine ends_still (v := Value.bool false) kr kr ?_
           have HS287 := HS164.drop
           have HS288 := HS287.drop
           have HS289 := HS288.drop
           have HS290 := HS289.drop
           have HS291 := HS290.drop
           injection h with h
           subst h
           exact ⟨f161, rfl, (L21.trans (L34.trans (L49.trans (L56.trans (L64.trans (L69.trans (L76.trans (L95.trans (L100.trans (L107.trans (L128.trans (L147.trans L162)))))))))))), HS291⟩
         · have c177 : ¬ (vt159 ≠ 0) := c177
           refine seqRwI 84 (x := (vt159 != 0)) (v := false) kr (bne_eq_false_iff_eq.mpr (Decidable.of_not_not c177)) ?_
           refine seqRwI 85 (x := (vt159 != 0)) (v := false) kr (bne_eq_false_iff_eq.mpr (Decidable.of_not_not c177)) ?_
           refine seqRwI 86 (x := (vt159 != 0)) (v := false) kr (bne_eq_false_iff_eq.mpr (Decidable.of_not_not c177)) ?_
           refine seqL6 kr ?_
           refine nl (hK173 _ _ ?_)
           have hq_ := ite_some h; clear h; rcases hq_ with ⟨c181, h⟩ | ⟨c181, h⟩
           · have c181 : (vt143.length : Int) ≠ (vt158.length : Int) := c181
             refine wpRwI 91 kr (bne_iff_ne.mpr c181) ?_
             refine wpRwI 92 kr (bne_iff_ne.mpr c181) ?_
             refine condT kr ?_
             refine wp_seq_k fun K182 hK183 => rl ?_
             refine seqL1 kr ?_
             refine nl (hK183 _ _ ?_)
             refine wp_ret ?_
             refine hret _ _ ?_
             refine ends_still (v := Value.bool false) kr kr ?_
             have HS292 := HS164.drop
             have HS293 := HS292.drop
             have HS294 := HS293.drop
             have HS295 := HS294.drop
             have HS296 := HS295.drop
             injection h with h
             subst h
             exact ⟨f161, rfl, (L21.trans (L34.trans (L49.trans (L56.trans (L64.trans (L69.trans (L76.trans (L95.trans (L100.trans (L107.trans (L128.trans (L147.trans L162)))))))))))), HS296⟩
           · have c181 : ¬ ((vt143.length : Int) ≠ (vt158.length : Int)) := c181
             refine wpRwI 91 (x := ((vt143.length : Int) != (vt158.length : Int))) (v := false) kr (bne_eq_false_iff_eq.mpr (Decidable.of_not_not c181)) ?_
             refine wpRwI 92 (x := ((vt143.length : Int) != (vt158.length : Int))) (v := false) kr (bne_eq_false_iff_eq.mpr (Decidable.of_not_not c181)) ?_
             refine condF kr ?_
             refine wp_skip ?_
             refine hK171 _ _ ?_
             refine wp_seq_k (fun K184 hK185 => ?_)
             refine wp_seq_k fun K186 hK187 => rl ?_
             refine seqL3 kr ?_
             refine nl (hK187 _ _ ?_)
             refine blockK (fun B188 hx189 hn190 hr191 ho192 hp193 => ?_)
             have hq_ := bind_some h; clear h; obtain ⟨o194, hv260, h⟩ := hq_
             have JR262 : ∀ z_, some (Sum.inl z_) = some o194 → some z_ = some rr1 := by
              intro z_ e_; injection e_ with e_; subst e_; exact h
             have J261 : ∀ (f255 : FM) (j259 : Nat → Value) (W257 : World) (a_ : Act), FM.le f161 f255 → some (Sum.inr ()) = some o194 → St t W257 f255 (s167 :: [(b119, .cells #[.slice A110 vt103.rows.length c111, .int .i64 vt103.level, .slice A113 vt103.roots.length c114, .slice A116 vt103.loose.length c117] 109 (0, 0))] :: s152 :: [(b88, .cells #[.slice A79 vt72.rows.length c80, .int .i64 vt72.level, .slice A82 vt72.roots.length c83, .slice A85 vt72.loose.length c86] 109 (0, 0))] :: [(b11, .cells #[.slice A2 l1.length c3, .int .i64 vt46] 26 (0, 0))] :: H) → a_ = ⟨#[.slice A2 l1.length c3, iV deep5, iV (w64 (1073741824 - vt53)), uV, uV, uV, (j259 0), pV b11 0, .slice A24 vt17.length c25, .slice A37 vt30.length c38, pV b88 0, iV vt73, pV b119 0, iV vt104, .slice A150 vt143.length c151, iV vt144, .slice A165 vt158.length c166, iV vt159, uV, (j259 1), .slice A2 l1.length c3, .agg #[.slice A2 l1.length c3, iV 0], pV b11 0, pV b11 0, .slice A24 vt17.length c25, pV b11 0, .slice A37 vt30.length c38, iV cos6, pV b11 0, iV vt45, iV (w64 (1 * 2 ^ (min (vt45).toNat 64))), iV vt53, iV (w64 (1073741824 - vt53)), .tuple #[pV b88 0, iV vt73], .slice A24 vt17.length c25, iV deep5, iV vt61, .tuple #[pV b88 0, iV vt73], pV b88 0, iV vt73, .tuple #[pV b119 0, iV vt104], .slice A37 vt30.length c38, iV deep5, iV (w64 (Int.tdiv deep5 9)), iV vt92, .tuple #[pV b119 0, iV vt104], pV b119 0, iV vt104, .bool vt125, fV, fV, iV vt73, fV, fV, fV, iV vt104, fV, fV, fV, pV b88 0, fV, fV, fV, pV b119 0, fV, fV, .tuple #[.slice A150 vt143.length c151, iV vt144], pV b88 0, .slice A37 vt30.length c38, iV (w64 (1073741824 - vt53)), .tuple #[.slice A150 vt143.length c151, iV vt144], .slice A150 vt143.length c151, iV vt144, .tuple #[.slice A165 vt158.length c166, iV vt159], pV b119 0, .slice A24 vt17.length c25, iV (w64 (1073741824 - vt53)), .tuple #[.slice A165 vt158.length c166, iV vt159], .slice A165 vt158.length c166, iV vt159, iV vt144, fV, fV, iV vt159, fV, fV, fV, .slice A150 vt143.length c151, iV (vt143.length : Int), .slice A165 vt158.length c166, iV (vt158.length : Int), fV, fV, .slice A150 vt143.length c151, iV (vt143.length : Int), (j259 2), (j259 3), (j259 4), (j259 5), (j259 6), (j259 7), (j259 8), (j259 9), (j259 10), (j259 11), (j259 12), (j259 13), (j259 14), (j259 15), (j259 16)], []⟩ → K184 a_ W257 := by
              intro f255 j259 W257 a_ L256 hj263 HS258  hfr_; subst hfr_
              injection hj263 with hj263; subst hj263; try dsimp only at h
              simp only [Sum.elim_inr] at h
              refine hK185 _ _ ?_
              refine wp_seq_k fun K271 hK272 => rl ?_
              refine seqL1 kr ?_
              refine nl (hK272 _ _ ?_)
              refine wp_ret ?_
              refine hret _ _ ?_
              refine ends_still (v := Value.bool true) kr kr ?_
              have HS303 := HS258.drop
              have HS304 := HS303.drop
              have HS305 := HS304.drop
              have HS306 := HS305.drop
              have HS307 := HS306.drop
              injection h with h
              subst h
              exact ⟨f255, rfl, (L21.trans (L34.trans (L49.trans (L56.trans (L64.trans (L69.trans (L76.trans (L95.trans (L100.trans (L107.trans (L128.trans (L147.trans (L162.trans L256))))))))))))), HS307⟩
             clear h; have h := hv260; clear hv260
             refine loopK (fun n_ a_ w_ => ∃ (f198 : FM) (x203 : Int) (j202 : Nat → Value), FM.le f161 f198 ∧ St t w_ f198 (s167 :: [(b119, .cells #[.slice A110 vt103.rows.length c111, .int .i64 vt103.level, .slice A113 vt103.roots.length c114, .slice A116 vt103.loose.length c117] 109 (0, 0))] :: s152 :: [(b88, .cells #[.slice A79 vt72.rows.length c80, .int .i64 vt72.level, .slice A82 vt72.roots.length c83, .slice A85 vt72.loose.length c86] 109 (0, 0))] :: [(b11, .cells #[.slice A2 l1.length c3, .int .i64 vt46] 26 (0, 0))] :: H) ∧ spykeep3_QueryJoinsTurn.l0 k vt143 vt158 n_ x203 = some o194 ∧ a_ = ⟨#[.slice A2 l1.length c3, iV deep5, iV (w64 (1073741824 - vt53)), uV, uV, uV, (j202 0), pV b11 0, .slice A24 vt17.length c25, .slice A37 vt30.length c38, pV b88 0, iV vt73, pV b119 0, iV vt104, .slice A150 vt143.length c151, iV vt144, .slice A165 vt158.length c166, iV vt159, uV, (j202 1), .slice A2 l1.length c3, .agg #[.slice A2 l1.length c3, iV 0], pV b11 0, pV b11 0, .slice A24 vt17.length c25, pV b11 0, .slice A37 vt30.length c38, iV cos6, pV b11 0, iV vt45, iV (w64 (1 * 2 ^ (min (vt45).toNat 64))), iV vt53, iV (w64 (1073741824 - vt53)), .tuple #[pV b88 0, iV vt73], .slice A24 vt17.length c25, iV deep5, iV vt61, .tuple #[pV b88 0, iV vt73], pV b88 0, iV vt73, .tuple #[pV b119 0, iV vt104], .slice A37 vt30.length c38, iV deep5, iV (w64 (Int.tdiv deep5 9)), iV vt92, .tuple #[pV b119 0, iV vt104], pV b119 0, iV vt104, .bool vt125, fV, fV, iV vt73, fV, fV, fV, iV vt104, fV, fV, fV, pV b88 0, fV, fV, fV, pV b119 0, fV, fV, .tuple #[.slice A150 vt143.length c151, iV vt144], pV b88 0, .slice A37 vt30.length c38, iV (w64 (1073741824 - vt53)), .tuple #[.slice A150 vt143.length c151, iV vt144], .slice A150 vt143.length c151, iV vt144, .tuple #[.slice A165 vt158.length c166, iV vt159], pV b119 0, .slice A24 vt17.length c25, iV (w64 (1073741824 - vt53)), .tuple #[.slice A165 vt158.length c166, iV vt159], .slice A165 vt158.length c166, iV vt159, iV vt144, fV, fV, iV vt159, fV, fV, fV, .slice A150 vt143.length c151, iV (vt143.length : Int), .slice A165 vt158.length c166, iV (vt158.length : Int), fV, fV, .slice A150 vt143.length c151, iV (vt143.length : Int), iV x203, (j202 2), (j202 3), (j202 4), (j202 5), (j202 6), (j202 7), (j202 8), (j202 9), (j202 10), (j202 11), (j202 12), (j202 13), (j202 14), (j202 15)], []⟩) k ⟨f161, 0, (jL [fV]), fL, HS164, h, kr⟩ ?_
             clear h
             rintro n197 _ W200 ⟨f198, x203, j202, L199, HS201, h, rfl⟩ K195 hK196
             obtain _ | n197 := n197
             · exact nomatch h
             simp only [spykeep3_QueryJoinsTurn.l0] at h
             refine wp_seq_k fun K204 hK205 => rl ?_
             refine seqL1 kr ?_
             refine nl (hK205 _ _ ?_)
             refine wp_seq_k (fun K206 hK207 => ?_)
             have hq_ := ite_some h; clear h; rcases hq_ with ⟨c209, h⟩ | ⟨c209, h⟩
             · have c209 : x203 < (vt143.length : Int) := c209
               refine wpRwI 96 kr (decide_eq_true c209) ?_
               refine condT kr ?_
               refine wp_skip ?_
               refine hK207 _ _ ?_
               refine wp_seq_k (fun K210 hK211 => ?_)
               refine blockK (fun B212 hx213 hn214 hr215 ho216 hp217 => ?_)
               refine wp_seq_k fun K219 hK220 => rl ?_
               have hq_ := guard_some h; clear h; obtain ⟨c221, h⟩ := hq_
               have c221 : 0 ≤ x203 := c221
               obtain ⟨b225, of226, cs222, hA227, hr223, hc224⟩ := (HO153.mono (L162.trans L199)).at (i := x203) c221 c209
               obtain rfl := hr223
               refine seqK rfl (does_run (run_indexE hA227 (sz := 3) rfl Tryz.underlying73 kr (kv (.slice A150 vt143.length c151)) (kv (.int .i64 x203)) c221 c209 W200) ?_)
               refine seqK rfl (does_run (run_loadN (n := 3) rfl Tryz.underlying77 rfl kr (kv (.pointer (some ⟨b225, of226 + (x203 : Int).toNat * 3, none⟩))) (cs := [.int .i64 ((rd vt143 x203).Left), .int .i64 ((rd vt143 x203).Right), .int .i64 ((rd vt143 x203).Grade)]) rfl (fun j_ hj_ => ((hc224 HS201.u2) j_ hj_))) ?_)
               refine seqK rfl (does_alloc (z := Value.agg #[.int .i64 0, .int .i64 0, .int .i64 0]) (cs := #[.int .i64 0, .int .i64 0, .int .i64 0]) rfl kr rfl HS201 ?_)
               intro b228 W229 HS230
               refine seqK rfl (does_storeA (vs := [.int .i64 ((rd vt143 x203).Left), .int .i64 ((rd vt143 x203).Right), .int .i64 ((rd vt143 x203).Grade)]) rfl kr kr kr rfl (ones rfl) HS230 kr ?_)
               intro W232 HS233
               refine nl (hK220 _ _ ?_)
               refine wp_seq_k fun K234 hK235 => rl ?_
               refine seqL2 kr ?_
               refine seqK rfl (does_run (run_load rfl Tryz.underlying3 rfl (kv (.pointer (some ⟨b228, 1, none⟩))) (HS233.cell 1)) ?_)
               refine seqL1 kr ?_
               refine seqK rfl (does_run (run_load rfl Tryz.underlying3 rfl (kv (.pointer (some ⟨b228, 0, none⟩))) (HS233.cell 0)) ?_)
               refine seqL1 kr ?_
               refine seqK rfl (does_run (run_load rfl Tryz.underlying3 rfl (kv (.pointer (some ⟨b228, 2, none⟩))) (HS233.cell 2)) ?_)
               have HS236 := HS233.u1
               obtain ⟨f237, L238, HS239, HR240, th241⟩ := (HO168.mono L199).lend HS236
               have hq_ := bind_some h; clear h; obtain ⟨vt242, hc243, h⟩ := hq_
               refine seqL1 kr ?_
               refine seqK rfl (does_call (f := 29) (args := #[.slice A165 vt158.length c166, .agg #[.int .i64 ((rd vt143 x203).Right), .int .i64 ((rd vt143 x203).Left), .int .i64 ((rd vt143 x203).Grade)]]) kr (slices_Contains_Pair.calls k A165 c166 vt158 (⟨(rd vt143 x203).Right, (rd vt143 x203).Left, (rd vt143 x203).Grade⟩ : S_Pair) HS239 HR240 vt242 hc243) ?_)
               rintro _ W246 ⟨f244, rfl, L245, HS247⟩
               refine ⟨_, rfl, ?_⟩
               obtain ⟨f248, L249, HS250⟩ := th241 L245 HS247
               refine seqL1 kr ?_
               refine nl (hK235 _ _ ?_)
               have hq_ := ite_some h; clear h; rcases hq_ with ⟨c252, h⟩ | ⟨c252, h⟩
               · have c252 : ¬ (vt242 = true) := c252
                 refine wpRwI 108 kr (congrArg (fun b_ => !b_) (show vt242 = false from (Bool.eq_false_iff.mpr c252)) : (!vt242) = true) ?_
                 refine condT kr ?_
                 refine wp_seq_k fun K253 hK254 => rl ?_
                 refine seqL1 kr ?_
                 refine nl (hK254 _ _ ?_)
                 refine wp_ret ?_
                 refine hr215 _ _ ?_
                 refine hr191 _ _ ?_
                 refine hret _ _ ?_
                 refine ends_still (v := Value.bool false) kr kr ?_
                 have HS297 := HS250.drop
                 have HS298 := HS297.drop
                 have HS299 := HS298.drop
                 have HS300 := HS299.drop
                 have HS301 := HS300.drop
                 have HS302 := HS301.drop
                 replace h := JR262 _ h
                 injection h with h
                 subst h
                 exact ⟨f248, rfl, (L21.trans (L34.trans (L49.trans (L56.trans (L64.trans (L69.trans (L76.trans (L95.trans (L100.trans (L107.trans (L128.trans (L147.trans (L162.trans (L199.trans L249)))))))))))))), HS302⟩
               · have c252 : ¬ (¬ (vt242 = true)) := c252
                 refine wpRwI 108 (x := (!vt242)) (v := false) kr (congrArg (fun b_ => !b_) (show vt242 = true from (Decidable.of_not_not c252)) : (!vt242) = false) ?_
                 refine condF kr ?_
                 refine wp_skip ?_
                 refine hn214 _ _ ?_
                 refine hK211 _ _ ?_
                 refine rl ?_
                 refine seqL2 kr ?_
                 refine nl ?_
                 refine hK196 n197 _ _ (Nat.lt_succ_self _) ?_
                 have HS269 := HS250.u5.u5.u5.u5.u4.u5
                 have HS270 := HS269.drop
                 exact ⟨f248, (w64 (x203 + 1)), (jL [(j202 0), .pointer (some ⟨b228, 0, none⟩), tV, .pointer (some ⟨b225, of226 + (x203 : Int).toNat * 3, none⟩), (ag_Pair (rd vt143 x203)), .slice A165 vt158.length c166, .pointer (some ⟨b228, 1, none⟩), iV ((rd vt143 x203).Right), .pointer (some ⟨b228, 0, none⟩), iV ((rd vt143 x203).Left), .pointer (some ⟨b228, 2, none⟩), iV ((rd vt143 x203).Grade), .agg #[.int .i64 ((rd vt143 x203).Right), .int .i64 ((rd vt143 x203).Left), .int .i64 ((rd vt143 x203).Grade)], .bool vt242, fV, iV (w64 (x203 + 1))]), (L199.trans L249), HS270, h, kr⟩
             · have c209 : ¬ (x203 < (vt143.length : Int)) := c209
               refine wpRwI 96 kr (decide_eq_false c209) ?_
               refine condF kr ?_
               refine wp_exit ?_
               refine hx189 _ _ ?_
               exact J261 f198 (jL [(j202 0), (j202 1), iV x203, fV, (j202 3), (j202 4), (j202 5), (j202 6), (j202 7), (j202 8), (j202 9), (j202 10), (j202 11), (j202 12), (j202 13), (j202 14), (j202 15)]) W200 _ L199 h HS201 kr

end Go.Sp.J7
