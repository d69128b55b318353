import Derived.Test.YtiibkbligihgoaaGreatProg
import Derived.Test.YtiibkbligihgoaaGreatSpCopy
import Derived.Test.YtiibkbligihgoaaGreatFJ7
import Derived.Test.YtiibkbligihgoaaGreatSpSort3P
import Derived.Test.YtiibkbligihgoaaGreatShelf
import Derived.Test.YtiibkbligihgoaaGreatSpMapR
import Derived.Test.YtiibkbligihgoaaGreatSpKeys
import Derived.Test.YtiibkbligihgoaaGreatSpNode
import Derived.Test.YtiibkbligihgoaaGreatSpKeyP
import Derived.Test.YtiibkbligihgoaaGreatSpArr
import Derived.Test.YtiibkbligihgoaaGreatSpRound
import Derived.Test.YtiibkbligihgoaaGreatKJ7n0
import Derived.Test.YtiibkbligihgoaaGreatKJ7n1
import Derived.Test.YtiibkbligihgoaaGreatKJ7n2
import Derived.Test.YtiibkbligihgoaaGreatKJ7n3
import Derived.Test.YtiibkbligihgoaaGreatKJ7n4
import Derived.Test.YtiibkbligihgoaaGreatKJ7n5
namespace Go.Sp.J7
open Go Go.Sp Go.Proofs
set_option linter.unusedVariables false
attribute [local irreducible] wpList AnyL Code.wp Calls Does Code.wpIn wpListIn CallsIn bodyPostM LeavesInM
set_option maxRecDepth 100000 in
set_option maxHeartbeats 4000000 in
theorem query_walk__query_Index_Run_2__query_Index_Run_1.r_calls (k : Nat) : ∀ (q_ : Nat) (b1 : Nat) (A10 : Option Addr) (c11 : Nat) (b3 : Nat) (b5 : Nat) (A14 : Option Addr) (c15 : Nat) (A17 : Option Addr) (c18 : Nat) (A20 : Option Addr) (c21 : Nat) (b7 : Nat) (A24 : Option Addr) (c25 : Nat) (s26 : Seg) (A30 : Option Addr) (c31 : Nat) (v9 : S_Ask) (v13 : S_Index) (v23 : List S_Answer) (l29 : List S_node) {t w : World} {f : FM} {H : List Seg} (HS : St t w f ([(b1, .cells #[.slice A10 v9.Cones.length c11, .int .i64 v9.From, .int .i64 v9.To, .int .i64 v9.Least, .int .i64 v9.Ban] 51 (0, 0))] :: [(b3, .cells #[.pointer (some ⟨b5, 0, none⟩)] 66 (0, 0))] :: [(b5, .cells #[.slice A14 v13.rows.length c15, .int .i64 v13.level, .slice A17 v13.roots.length c18, .slice A20 v13.loose.length c21] 109 (0, 0))] :: [(b7, .cells #[.slice A24 v23.length c25] 57 (0, 0))] :: s26 :: H)) (HR12 : SlR ty_Cone f A10 c11 v9.Cones) (HR16 : SlR ty_Row f A14 c15 v13.rows) (HR19 : SlR fx_node.t f A17 c18 v13.roots) (HR22 : SlR (tInt .i64) f A20 c21 v13.loose) (HO27 : Own ty_Answer 62 f A24 c25 s26 v23) (HR32 : SlR fx_node.t f A30 c31 l29) (rr1 : Int) (rr2 : List S_Answer) (h : query_walk__query_Index_Run_2__query_Index_Run_1.r k q_ v9 v13 v23 l29 = some (rr1, rr2)),
    Calls Tryz.prog 52 #[.slice A30 l29.length c31, .func (.func 53) #[] #[.pointer (some ⟨b1, 0, none⟩)], .func (.func 51) #[] #[.pointer (some ⟨b3, 0, none⟩), .pointer (some ⟨b1, 0, none⟩), .pointer (some ⟨b7, 0, none⟩)]] w (fun e w' => ∃ (g : FM) (A873 : Option Addr) (c874 : Nat) (s875 : Seg), e = .returned (Value.int .i64 rr1) ∧ FM.le f g ∧ St t w' g (s875 :: [(b1, .cells #[.slice A10 v9.Cones.length c11, .int .i64 v9.From, .int .i64 v9.To, .int .i64 v9.Least, .int .i64 v9.Ban] 51 (0, 0))] :: [(b3, .cells #[.pointer (some ⟨b5, 0, none⟩)] 66 (0, 0))] :: [(b5, .cells #[.slice A14 v13.rows.length c15, .int .i64 v13.level, .slice A17 v13.roots.length c18, .slice A20 v13.loose.length c21] 109 (0, 0))] :: [(b7, .cells #[.slice A873 rr2.length c874] 57 (0, 0))] :: H) ∧ Own ty_Answer 62 g A873 c874 s875 rr2) := by
  intro q_
  induction q_ with
  | zero =>
    intro b1 A10 c11 b3 b5 A14 c15 A17 c18 A20 c21 b7 A24 c25 s26 A30 c31 v9 v13 v23 l29 t w f H HS HR12 HR16 HR19 HR22 HO27 HR32 rr1 rr2 h
    simp only [query_walk__query_Index_Run_2__query_Index_Run_1.r] at h
    exact nomatch h
  | succ q_ ih_ =>
    intro b1 A10 c11 b3 b5 A14 c15 A17 c18 A20 c21 b7 A24 c25 s26 A30 c31 v9 v13 v23 l29 t w f H HS HR12 HR16 HR19 HR22 HO27 HR32 rr1 rr2 h
    simp only [query_walk__query_Index_Run_2__query_Index_Run_1.r] at h
    refine enter Tryz.func52 rfl (tm := #[.slice A30 l29.length c31, .func (.func 53) #[] #[pV b1 0], .func (.func 51) #[] #[pV b3 0, pV b1 0, pV b7 0], uV, uV, uV, uV, uV, uV, uV, uV, uV, uV, uV, uV, uV, uV, uV, uV, uV, uV, uV, uV, uV, uV, uV, uV, uV, uV, uV, uV, uV, uV, uV, uV, uV, uV, uV, uV, uV, uV, uV, uV, uV, uV, uV, uV, uV, uV, uV, uV, uV, uV, uV]) kr ?_
    intro B hret hnor hnp
    refine wp_seq_k fun K33 hK34 => rl ?_
    refine seqL1 kr ?_
    refine nl (hK34 _ _ ?_)
    refine wp_seq_k fun K35 hK36 => rl ?_
    refine seqL3 kr ?_
    refine nl (hK36 _ _ ?_)
    refine wp_seq_k (fun K37 hK38 => ?_)
    refine wp_seq_k fun K39 hK40 => rl ?_
    refine seqL3 kr ?_
    refine nl (hK40 _ _ ?_)
    refine blockK (fun B41 hx42 hn43 hr44 ho45 hp46 => ?_)
    have hq_ := bind_some h; clear h; obtain ⟨o579, hv859, h⟩ := hq_
    have J860 : ∀ (f848 : FM) (A855 : Option Addr) (c856 : Nat) (s857 : Seg) (cost853 : Int) (x854 : List S_Answer) (j852 : Nat → Value) (W850 : World) (a_ : Act), FM.le f f848 → some ((cost853, x854)) = some o579 → St t W850 f848 ([(b1, .cells #[.slice A10 v9.Cones.length c11, .int .i64 v9.From, .int .i64 v9.To, .int .i64 v9.Least, .int .i64 v9.Ban] 51 (0, 0))] :: [(b3, .cells #[.pointer (some ⟨b5, 0, none⟩)] 66 (0, 0))] :: [(b5, .cells #[.slice A14 v13.rows.length c15, .int .i64 v13.level, .slice A17 v13.roots.length c18, .slice A20 v13.loose.length c21] 109 (0, 0))] :: [(b7, .cells #[.slice A855 x854.length c856] 57 (0, 0))] :: s857 :: H) → Own ty_Answer 62 f848 A855 c856 s857 x854 → a_ = ⟨#[.slice A30 l29.length c31, .func (.func 53) #[] #[pV b1 0], .func (.func 51) #[] #[pV b3 0, pV b1 0, pV b7 0], uV, uV, uV, iV 0, iV cost853, uV, (j852 0), uV, (j852 1), .slice A30 l29.length c31, iV (l29.length : Int), .slice A30 l29.length c31, iV (l29.length : Int), (j852 2), (j852 3), (j852 4), (j852 5), (j852 6), (j852 7), (j852 8), (j852 9), (j852 10), (j852 11), (j852 12), (j852 13), (j852 14), (j852 15), (j852 16), (j852 17), (j852 18), (j852 19), (j852 20), (j852 21), (j852 22), (j852 23), (j852 24), (j852 25), (j852 26), (j852 27), (j852 28), (j852 29), (j852 30), (j852 31), (j852 32), (j852 33), (j852 34), (j852 35), (j852 36), (j852 37), (j852 38), uV], []⟩ → K37 a_ W850 := by
     intro f848 A855 c856 s857 cost853 x854 j852 W850 a_ L849 hj861 HS851 HO858 hfr_; subst hfr_
     injection hj861 with hj861; subst hj861; try dsimp only at h
     refine hK38 _ _ ?_
     refine wp_seq_k fun K866 hK867 => rl ?_
     refine seqL2 kr ?_
     refine nl (hK867 _ _ ?_)
     refine wp_ret ?_
     refine hret _ _ ?_
     refine ends_still (v := Value.int .i64 cost853) kr kr ?_
     have HS872 := HS851.u3.u3.u3.u3.u4
     injection h with h
     injection h with h0_ h
     subst h0_ h
     exact ⟨f848, A855, c856, s857, rfl, L849, HS872, HO858⟩
    clear h; have h := hv859; clear hv859
    refine loopK (fun n_ a_ w_ => ∃ (f583 : FM) (A591 : Option Addr) (c592 : Nat) (s593 : Seg) (cost588 : Int) (x589 : Int) (x590 : List S_Answer) (j587 : Nat → Value), FM.le f f583 ∧ St t w_ f583 ([(b1, .cells #[.slice A10 v9.Cones.length c11, .int .i64 v9.From, .int .i64 v9.To, .int .i64 v9.Least, .int .i64 v9.Ban] 51 (0, 0))] :: [(b3, .cells #[.pointer (some ⟨b5, 0, none⟩)] 66 (0, 0))] :: [(b5, .cells #[.slice A14 v13.rows.length c15, .int .i64 v13.level, .slice A17 v13.roots.length c18, .slice A20 v13.loose.length c21] 109 (0, 0))] :: [(b7, .cells #[.slice A591 x590.length c592] 57 (0, 0))] :: s593 :: H) ∧ Own ty_Answer 62 f583 A591 c592 s593 x590 ∧ query_walk__query_Index_Run_2__query_Index_Run_1.l0 k (query_walk__query_Index_Run_2__query_Index_Run_1.r k q_) l29 v9 v13 n_ cost588 x589 x590 = some o579 ∧ a_ = ⟨#[.slice A30 l29.length c31, .func (.func 53) #[] #[pV b1 0], .func (.func 51) #[] #[pV b3 0, pV b1 0, pV b7 0], uV, uV, uV, iV 0, iV cost588, uV, (j587 0), uV, (j587 1), .slice A30 l29.length c31, iV (l29.length : Int), .slice A30 l29.length c31, iV (l29.length : Int), iV x589, (j587 2), (j587 3), (j587 4), (j587 5), (j587 6), (j587 7), (j587 8), (j587 9), (j587 10), (j587 11), (j587 12), (j587 13), (j587 14), (j587 15), (j587 16), (j587 17), (j587 18), (j587 19), (j587 20), (j587 21), (j587 22), (j587 23), (j587 24), (j587 25), (j587 26), (j587 27), (j587 28), (j587 29), (j587 30), (j587 31), (j587 32), (j587 33), (j587 34), (j587 35), (j587 36), (j587 37), uV], []⟩) k ⟨f, A24, c25, s26, (l29.length : Int), 0, v23, (jL []), fL, HS, HO27, h, kr⟩ ?_
    clear h
    rintro n582 _ W585 ⟨f583, A591, c592, s593, cost588, x589, x590, j587, L584, HS586, HO594, h, rfl⟩ K580 hK581
    obtain _ | n582 := n582
    · exact nomatch h
    simp only [query_walk__query_Index_Run_2__query_Index_Run_1.l0] at h
    refine wp_seq_k fun K595 hK596 => rl ?_
    refine seqL1 kr ?_
    refine nl (hK596 _ _ ?_)
    refine wp_seq_k (fun K597 hK598 => ?_)
    have hq_ := ite_some h; clear h; rcases hq_ with ⟨c600, h⟩ | ⟨c600, h⟩
    · have c600 : x589 < (l29.length : Int) := c600
      refine wpRwI 17 kr (decide_eq_true c600) ?_
      refine condT kr ?_
      refine wp_skip ?_
      refine hK598 _ _ ?_
      refine wp_seq_k (fun K601 hK602 => ?_)
      refine blockK (fun B603 hx604 hn605 hr606 ho607 hp608 => ?_)
      refine wp_seq_k fun K610 hK611 => rl ?_
      have hq_ := guard_some h; clear h; obtain ⟨c612, h⟩ := hq_
      have c612 : 0 ≤ x589 := c612
      obtain ⟨b616, of617, cs613, hA618, hr614, hc615⟩ := (HR32.mono L584).at (i := x589) c612 c600
      obtain ⟨b619, ar620, fr621, hu622, hb623, hG624⟩ := fx_node.opened hr614
      obtain rfl := hu622
      obtain ⟨A626, c626, A627, c627, ha625, HR626, HR627⟩ := hG624
      obtain rfl := arr_of ha625
      have hb623 : f583 b619 = some (.cells #[.int .i64 ((((rd l29 x589).box).X).Lo), .int .i64 ((((rd l29 x589).box).X).Hi), .bool ((((rd l29 x589).box).X).Unknown), .int .i64 ((((rd l29 x589).box).Y).Lo), .int .i64 ((((rd l29 x589).box).Y).Hi), .bool ((((rd l29 x589).box).Y).Unknown), .int .i64 ((((rd l29 x589).box).Z).Lo), .int .i64 ((((rd l29 x589).box).Z).Hi), .bool ((((rd l29 x589).box).Z).Unknown), .int .i64 (((rd l29 x589).when).Lo), .int .i64 (((rd l29 x589).when).Hi), .bool (((rd l29 x589).when).Unknown), .slice A626 ((rd l29 x589).kids).length c626, .slice A627 ((rd l29 x589).rows).length c627] 119 fr621) := hb623
      refine seqK rfl (does_run (run_indexE hA618 (sz := 1) rfl Tryz.underlying107 kr (kv (.slice A30 l29.length c31)) (kv (.int .i64 x589)) c612 c600 W585) ?_)
      refine seqK rfl (does_run (run_load rfl Tryz.underlying116 rfl (kv (.pointer (some ⟨b616, of617 + (x589 : Int).toNat * 1, none⟩))) ((hc615 fL HS586) 0 (by decide))) ?_)
      refine seqL1 kr ?_
      refine nl (hK611 _ _ ?_)
      refine wp_seq_k (fun K628 hK629 => ?_)
      refine wp_seq_k fun K630 hK631 => rl ?_
      have hq_ := bind_some h; clear h; obtain ⟨vt632, hc633, h⟩ := hq_
      refine seqL2 kr ?_
      refine seqK rfl (does_call (f := 53) (args := #[.pointer (some ⟨b619, 0, none⟩), .pointer (some ⟨b1, 0, none⟩)]) kr (query_Index_Run_2.calls k b1 A10 c11 b619 fr621 A626 c626 A627 c627 v9 (rd l29 x589) HS586 (HR12.mono L584) HR626 HR627 hb623 hr614 vt632 hc633) ?_)
      rintro _ W636 ⟨f634, rfl, L635, HS637⟩
      refine ⟨_, rfl, ?_⟩
      refine seqL1 kr ?_
      refine nl (hK631 _ _ ?_)
      have hq_ := ite_some h; clear h; rcases hq_ with ⟨c639, h⟩ | ⟨c639, h⟩
      · have c639 : ¬ (vt632 = true) := c639
        refine wpRwI 23 kr (congrArg (fun b_ => !b_) (show vt632 = false from (Bool.eq_false_iff.mpr c639)) : (!vt632) = true) ?_
        refine condT kr ?_
        refine wp_exit ?_
        refine hx604 _ _ ?_
        refine hK602 _ _ ?_
        refine rl ?_
        refine seqL2 kr ?_
        refine nl ?_
        refine hK581 n582 _ _ (Nat.lt_succ_self _) ?_
        exact ⟨f634, A591, c592, s593, cost588, (w64 (x589 + 1)), x590, (jL [.pointer (some ⟨b619, 0, none⟩), (j587 1), tV, .pointer (some ⟨b616, of617 + (x589 : Int).toNat * 1, none⟩), .pointer (some ⟨b619, 0, none⟩), .func (.func 53) #[] #[.pointer (some ⟨b1, 0, none⟩)], .pointer (some ⟨b619, 0, none⟩), .bool vt632, tV, (j587 9), (j587 10), (j587 11), (j587 12), (j587 13), (j587 14), (j587 15), (j587 16), (j587 17), (j587 18), (j587 19), (j587 20), (j587 21), (j587 22), (j587 23), (j587 24), (j587 25), (j587 26), (j587 27), (j587 28), (j587 29), (j587 30), (j587 31), (j587 32), (j587 33), (j587 34), (j587 35), (j587 36), iV (w64 (x589 + 1))]), (L584.trans L635), HS637, (HO594.mono L635), h, kr⟩
      · have c639 : ¬ (¬ (vt632 = true)) := c639
        refine wpRwI 23 (x := (!vt632)) (v := false) kr (congrArg (fun b_ => !b_) (show vt632 = true from (Decidable.of_not_not c639)) : (!vt632) = false) ?_
        refine condF kr ?_
        refine wp_skip ?_
        refine hK629 _ _ ?_
        refine wp_seq_k (fun K640 hK641 => ?_)
        have HS646 := HS637.u4.u4.u4.u4.u4
        refine heldG (S := Sg t f634 (H) [(12, [(b1, .cells #[.slice A10 v9.Cones.length c11, .int .i64 v9.From, .int .i64 v9.To, .int .i64 v9.Least, .int .i64 v9.Ban] 51 (0, 0))]), (12, [(b3, .cells #[.pointer (some ⟨b5, 0, none⟩)] 66 (0, 0))]), (12, [(b5, .cells #[.slice A14 v13.rows.length c15, .int .i64 v13.level, .slice A17 v13.roots.length c18, .slice A20 v13.loose.length c21] 109 (0, 0))])]) (n := 16) kr rfl HS646 ?_
        intro W647 HS648
        refine takeGL [0, 1, 2, 3] (n := 16) (fuel := 12) #[true, true, true, true, false, false, false, false, false, false, false, false, false, false, false, false] rfl kr kr kr (fun ch_ a_ w_ q_ => (fun ch_ a_ w_ q_ => hnp ch_ a_ w_ (hp46 ch_ a_ w_ q_)) ch_ a_ w_ (hp608 ch_ a_ w_ q_)) (Sg.g3 (Sx.of [[(b1, .cells #[.slice A10 v9.Cones.length c11, .int .i64 v9.From, .int .i64 v9.To, .int .i64 v9.Least, .int .i64 v9.Ban] 51 (0, 0))], [(b3, .cells #[.pointer (some ⟨b5, 0, none⟩)] 66 (0, 0))], [(b5, .cells #[.slice A14 v13.rows.length c15, .int .i64 v13.level, .slice A17 v13.roots.length c18, .slice A20 v13.loose.length c21] 109 (0, 0))], [(b7, .cells #[.slice A591 x590.length c592] 57 (0, 0))], s593] fL HS648) (fun _ => St.only [] HS648 fL) (fun _ => St.only [[(b1, .cells #[.slice A10 v9.Cones.length c11, .int .i64 v9.From, .int .i64 v9.To, .int .i64 v9.Least, .int .i64 v9.Ban] 51 (0, 0))]] HS648 fL) (fun _ => St.only [[(b1, .cells #[.slice A10 v9.Cones.length c11, .int .i64 v9.From, .int .i64 v9.To, .int .i64 v9.Least, .int .i64 v9.Ban] 51 (0, 0))], [(b3, .cells #[.pointer (some ⟨b5, 0, none⟩)] 66 (0, 0))]] HS648 fL)) ?_
        refine takeGQ 4 [] rfl kr kr kr kr kr kr (fun ch_ a_ w_ q_ => (fun ch_ a_ w_ q_ => hnp ch_ a_ w_ (hp46 ch_ a_ w_ q_)) ch_ a_ w_ (hp608 ch_ a_ w_ q_)) (Sg.g3 (Sx.of [[(b1, .cells #[.slice A10 v9.Cones.length c11, .int .i64 v9.From, .int .i64 v9.To, .int .i64 v9.Least, .int .i64 v9.Ban] 51 (0, 0))], [(b3, .cells #[.pointer (some ⟨b5, 0, none⟩)] 66 (0, 0))], [(b5, .cells #[.slice A14 v13.rows.length c15, .int .i64 v13.level, .slice A17 v13.roots.length c18, .slice A20 v13.loose.length c21] 109 (0, 0))], [(b7, .cells #[.slice A591 x590.length c592] 57 (0, 0))], s593] fL HS648) (fun _ => St.only [] HS648 fL) (fun _ => St.only [[(b1, .cells #[.slice A10 v9.Cones.length c11, .int .i64 v9.From, .int .i64 v9.To, .int .i64 v9.Least, .int .i64 v9.Ban] 51 (0, 0))]] HS648 fL) (fun _ => St.only [[(b1, .cells #[.slice A10 v9.Cones.length c11, .int .i64 v9.From, .int .i64 v9.To, .int .i64 v9.Least, .int .i64 v9.Ban] 51 (0, 0))], [(b3, .cells #[.pointer (some ⟨b5, 0, none⟩)] 66 (0, 0))]] HS648 fL)) (fun w_ hw_ => by obtain ⟨g_, hl_, hS_⟩ := hw_.st; exact run_load rfl Tryz.underlying22 rfl (kv (.pointer (some ⟨b619, 13, none⟩))) (hS_.fcell hb623 (L635.trans hl_) 13)) ?_
        refine takeGL [5, 6, 7, 8] (n := 11) (fuel := 7) #[true, true, true, true, true, true, true, true, true, false, false, false, false, false, false, false] rfl kr kr kr (fun ch_ a_ w_ q_ => (fun ch_ a_ w_ q_ => hnp ch_ a_ w_ (hp46 ch_ a_ w_ q_)) ch_ a_ w_ (hp608 ch_ a_ w_ q_)) (Sg.g3 (Sx.of [[(b1, .cells #[.slice A10 v9.Cones.length c11, .int .i64 v9.From, .int .i64 v9.To, .int .i64 v9.Least, .int .i64 v9.Ban] 51 (0, 0))], [(b3, .cells #[.pointer (some ⟨b5, 0, none⟩)] 66 (0, 0))], [(b5, .cells #[.slice A14 v13.rows.length c15, .int .i64 v13.level, .slice A17 v13.roots.length c18, .slice A20 v13.loose.length c21] 109 (0, 0))], [(b7, .cells #[.slice A591 x590.length c592] 57 (0, 0))], s593] fL HS648) (fun _ => St.only [] HS648 fL) (fun _ => St.only [[(b1, .cells #[.slice A10 v9.Cones.length c11, .int .i64 v9.From, .int .i64 v9.To, .int .i64 v9.Least, .int .i64 v9.Ban] 51 (0, 0))]] HS648 fL) (fun _ => St.only [[(b1, .cells #[.slice A10 v9.Cones.length c11, .int .i64 v9.From, .int .i64 v9.To, .int .i64 v9.Least, .int .i64 v9.Ban] 51 (0, 0))], [(b3, .cells #[.pointer (some ⟨b5, 0, none⟩)] 66 (0, 0))]] HS648 fL)) ?_
        refine takeGQ 9 [] rfl kr kr kr kr kr kr (fun ch_ a_ w_ q_ => (fun ch_ a_ w_ q_ => hnp ch_ a_ w_ (hp46 ch_ a_ w_ q_)) ch_ a_ w_ (hp608 ch_ a_ w_ q_)) (Sg.g3 (Sx.of [[(b1, .cells #[.slice A10 v9.Cones.length c11, .int .i64 v9.From, .int .i64 v9.To, .int .i64 v9.Least, .int .i64 v9.Ban] 51 (0, 0))], [(b3, .cells #[.pointer (some ⟨b5, 0, none⟩)] 66 (0, 0))], [(b5, .cells #[.slice A14 v13.rows.length c15, .int .i64 v13.level, .slice A17 v13.roots.length c18, .slice A20 v13.loose.length c21] 109 (0, 0))], [(b7, .cells #[.slice A591 x590.length c592] 57 (0, 0))], s593] fL HS648) (fun _ => St.only [] HS648 fL) (fun _ => St.only [[(b1, .cells #[.slice A10 v9.Cones.length c11, .int .i64 v9.From, .int .i64 v9.To, .int .i64 v9.Least, .int .i64 v9.Ban] 51 (0, 0))]] HS648 fL) (fun _ => St.only [[(b1, .cells #[.slice A10 v9.Cones.length c11, .int .i64 v9.From, .int .i64 v9.To, .int .i64 v9.Least, .int .i64 v9.Ban] 51 (0, 0))], [(b3, .cells #[.pointer (some ⟨b5, 0, none⟩)] 66 (0, 0))]] HS648 fL)) (fun w_ hw_ => by obtain ⟨g_, hl_, hS_⟩ := hw_.st; exact run_load rfl Tryz.underlying107 rfl (kv (.pointer (some ⟨b619, 12, none⟩))) (hS_.fcell hb623 (L635.trans hl_) 12)) ?_
        refine takeGL [10, 11] (n := 6) (fuel := 4) #[true, true, true, true, true, true, true, true, true, true, true, true, false, false, false, false] rfl kr kr kr (fun ch_ a_ w_ q_ => (fun ch_ a_ w_ q_ => hnp ch_ a_ w_ (hp46 ch_ a_ w_ q_)) ch_ a_ w_ (hp608 ch_ a_ w_ q_)) (Sg.g3 (Sx.of [[(b1, .cells #[.slice A10 v9.Cones.length c11, .int .i64 v9.From, .int .i64 v9.To, .int .i64 v9.Least, .int .i64 v9.Ban] 51 (0, 0))], [(b3, .cells #[.pointer (some ⟨b5, 0, none⟩)] 66 (0, 0))], [(b5, .cells #[.slice A14 v13.rows.length c15, .int .i64 v13.level, .slice A17 v13.roots.length c18, .slice A20 v13.loose.length c21] 109 (0, 0))], [(b7, .cells #[.slice A591 x590.length c592] 57 (0, 0))], s593] fL HS648) (fun _ => St.only [] HS648 fL) (fun _ => St.only [[(b1, .cells #[.slice A10 v9.Cones.length c11, .int .i64 v9.From, .int .i64 v9.To, .int .i64 v9.Least, .int .i64 v9.Ban] 51 (0, 0))]] HS648 fL) (fun _ => St.only [[(b1, .cells #[.slice A10 v9.Cones.length c11, .int .i64 v9.From, .int .i64 v9.To, .int .i64 v9.Least, .int .i64 v9.Ban] 51 (0, 0))], [(b3, .cells #[.pointer (some ⟨b5, 0, none⟩)] 66 (0, 0))]] HS648 fL)) ?_
        have HS653 := HS648.u4.u4.u4.u4.u4
        have hq_ := bind_some h; clear h; obtain ⟨⟨vt654, vt655⟩, hc656, h⟩ := hq_
        refine takeGE 12 kr rfl kr (does_call (f := 52) (args := #[.slice A626 ((rd l29 x589).kids).length c626, .func (.func 53) #[] #[.pointer (some ⟨b1, 0, none⟩)], .func (.func 51) #[] #[.pointer (some ⟨b3, 0, none⟩), .pointer (some ⟨b1, 0, none⟩), .pointer (some ⟨b7, 0, none⟩)]]) kr (ih_ b1 A10 c11 b3 b5 A14 c15 A17 c18 A20 c21 b7 A591 c592 s593 A626 c626 v9 v13 x590 ((rd l29 x589).kids) HS653 (HR12.mono (L584.trans L635)) (HR16.mono (L584.trans L635)) (HR19.mono (L584.trans L635)) (HR22.mono (L584.trans L635)) (HO594.mono L635) (HR626.mono L635) vt654 vt655 hc656) ?_)
        rintro _ W659 ⟨f657, A661, c662, s663, rfl, L658, HS660, HO664⟩
        refine ⟨_, rfl, ?_⟩
        refine ⟨(Sg.g3 (Sx.of [s663, [(b1, .cells #[.slice A10 v9.Cones.length c11, .int .i64 v9.From, .int .i64 v9.To, .int .i64 v9.Least, .int .i64 v9.Ban] 51 (0, 0))], [(b3, .cells #[.pointer (some ⟨b5, 0, none⟩)] 66 (0, 0))], [(b5, .cells #[.slice A14 v13.rows.length c15, .int .i64 v13.level, .slice A17 v13.roots.length c18, .slice A20 v13.loose.length c21] 109 (0, 0))], [(b7, .cells #[.slice A661 vt655.length c662] 57 (0, 0))]] L658 HS660) (fun hl_ => Bool.noConfusion (show true = false from hl_)) (fun hl_ => Bool.noConfusion (show true = false from hl_)) (fun hl_ => Bool.noConfusion (show true = false from hl_))), ?_⟩
        refine takeGL [13, 14, 15] (n := 3) (fuel := 0) #[true, true, true, true, true, true, true, true, true, true, true, true, true, true, true, true] rfl kr kr kr (fun ch_ a_ w_ q_ => (fun ch_ a_ w_ q_ => hnp ch_ a_ w_ (hp46 ch_ a_ w_ q_)) ch_ a_ w_ (hp608 ch_ a_ w_ q_)) (Sg.g3 (Sx.of [s663, [(b1, .cells #[.slice A10 v9.Cones.length c11, .int .i64 v9.From, .int .i64 v9.To, .int .i64 v9.Least, .int .i64 v9.Ban] 51 (0, 0))], [(b3, .cells #[.pointer (some ⟨b5, 0, none⟩)] 66 (0, 0))], [(b5, .cells #[.slice A14 v13.rows.length c15, .int .i64 v13.level, .slice A17 v13.roots.length c18, .slice A20 v13.loose.length c21] 109 (0, 0))], [(b7, .cells #[.slice A661 vt655.length c662] 57 (0, 0))]] L658 HS660) (fun hl_ => Bool.noConfusion (show true = false from hl_)) (fun hl_ => Bool.noConfusion (show true = false from hl_)) (fun hl_ => Bool.noConfusion (show true = false from hl_))) ?_
        refine doneG kr ?_ _
        refine hK641 _ _ ?_
        refine wp_seq_k fun K666 hK667 => rl ?_
        refine seqL3 kr ?_
        refine seqK rfl (does_run (run_load rfl Tryz.underlying22 rfl (kv (.pointer (some ⟨b619, 13, none⟩))) (HS660.fcell hb623 (L635.trans L658) 13)) ?_)
        refine seqL2 kr ?_
        refine nl (hK667 _ _ ?_)
        refine blockK (fun B668 hx669 hn670 hr671 ho672 hp673 => ?_)
        have hq_ := bind_some h; clear h; obtain ⟨o776, hv840, h⟩ := hq_
        have J841 : ∀ (f830 : FM) (A836 : Option Addr) (c837 : Nat) (s838 : Seg) (x835 : List S_Answer) (j834 : Nat → Value) (W832 : World) (a_ : Act), FM.le f657 f830 → some (x835) = some o776 → St t W832 f830 (s838 :: [(b1, .cells #[.slice A10 v9.Cones.length c11, .int .i64 v9.From, .int .i64 v9.To, .int .i64 v9.Least, .int .i64 v9.Ban] 51 (0, 0))] :: [(b3, .cells #[.pointer (some ⟨b5, 0, none⟩)] 66 (0, 0))] :: [(b5, .cells #[.slice A14 v13.rows.length c15, .int .i64 v13.level, .slice A17 v13.roots.length c18, .slice A20 v13.loose.length c21] 109 (0, 0))] :: [(b7, .cells #[.slice A836 x835.length c837] 57 (0, 0))] :: H) → Own ty_Answer 62 f830 A836 c837 s838 x835 → a_ = ⟨#[.slice A30 l29.length c31, .func (.func 53) #[] #[pV b1 0], .func (.func 51) #[] #[pV b3 0, pV b1 0, pV b7 0], uV, uV, uV, iV 0, iV (w64 (cost588 + (w64 ((((rd l29 x589).rows).length : Int) + vt654)))), uV, pV b619 0, uV, (j834 0), .slice A30 l29.length c31, iV (l29.length : Int), .slice A30 l29.length c31, iV (l29.length : Int), iV x589, tV, pV b616 (of617 + (x589 : Int).toNat * 1), pV b619 0, .func (.func 53) #[] #[pV b1 0], pV b619 0, .bool vt632, fV, iV cost588, pV b619 0, pV b619 0, pV b619 13, .slice A627 ((rd l29 x589).rows).length c627, iV (((rd l29 x589).rows).length : Int), pV b619 0, pV b619 0, pV b619 12, .slice A626 ((rd l29 x589).kids).length c626, .func (.func 53) #[] #[pV b1 0], .func (.func 51) #[] #[pV b3 0, pV b1 0, pV b7 0], iV vt654, iV (w64 ((((rd l29 x589).rows).length : Int) + vt654)), iV (w64 (cost588 + (w64 ((((rd l29 x589).rows).length : Int) + vt654)))), pV b619 0, pV b619 0, pV b619 13, .slice A627 ((rd l29 x589).rows).length c627, iV (((rd l29 x589).rows).length : Int), (j834 1), (j834 2), (j834 3), (j834 4), (j834 5), (j834 6), (j834 7), (j834 8), (j587 37), uV], []⟩ → B603 Exit.normal a_ W832 := by
         intro f830 A836 c837 s838 x835 j834 W832 a_ L831 hj842 HS833 HO839 hfr_; subst hfr_
         injection hj842 with hj842; subst hj842; try dsimp only at h
         refine hn605 _ _ ?_
         refine hK602 _ _ ?_
         refine rl ?_
         refine seqL2 kr ?_
         refine nl ?_
         refine hK581 n582 _ _ (Nat.lt_succ_self _) ?_
         have HS865 := HS833.u4.u4.u4.u4
         exact ⟨f830, A836, c837, s838, (w64 (cost588 + (w64 ((((rd l29 x589).rows).length : Int) + vt654)))), (w64 (x589 + 1)), x835, (jL [.pointer (some ⟨b619, 0, none⟩), (j834 0), tV, .pointer (some ⟨b616, of617 + (x589 : Int).toNat * 1, none⟩), .pointer (some ⟨b619, 0, none⟩), .func (.func 53) #[] #[.pointer (some ⟨b1, 0, none⟩)], .pointer (some ⟨b619, 0, none⟩), .bool vt632, fV, iV cost588, .pointer (some ⟨b619, 0, none⟩), .pointer (some ⟨b619, 0, none⟩), .pointer (some ⟨b619, 13, none⟩), .slice A627 ((rd l29 x589).rows).length c627, iV (((rd l29 x589).rows).length : Int), .pointer (some ⟨b619, 0, none⟩), .pointer (some ⟨b619, 0, none⟩), .pointer (some ⟨b619, 12, none⟩), .slice A626 ((rd l29 x589).kids).length c626, .func (.func 53) #[] #[.pointer (some ⟨b1, 0, none⟩)], .func (.func 51) #[] #[.pointer (some ⟨b3, 0, none⟩), .pointer (some ⟨b1, 0, none⟩), .pointer (some ⟨b7, 0, none⟩)], iV vt654, iV (w64 ((((rd l29 x589).rows).length : Int) + vt654)), iV (w64 (cost588 + (w64 ((((rd l29 x589).rows).length : Int) + vt654)))), .pointer (some ⟨b619, 0, none⟩), .pointer (some ⟨b619, 0, none⟩), .pointer (some ⟨b619, 13, none⟩), .slice A627 ((rd l29 x589).rows).length c627, iV (((rd l29 x589).rows).length : Int), (j834 1), (j834 2), (j834 3), (j834 4), (j834 5), (j834 6), (j834 7), (j834 8), iV (w64 (x589 + 1))]), (L584.trans (L635.trans (L658.trans L831))), HS865, HO839, h, kr⟩
        clear h; have h := hv840; clear hv840
        refine loopK (fun n_ a_ w_ => ∃ (f780 : FM) (A787 : Option Addr) (c788 : Nat) (s789 : Seg) (x785 : Int) (x786 : List S_Answer) (j784 : Nat → Value), FM.le f657 f780 ∧ St t w_ f780 (s789 :: [(b1, .cells #[.slice A10 v9.Cones.length c11, .int .i64 v9.From, .int .i64 v9.To, .int .i64 v9.Least, .int .i64 v9.Ban] 51 (0, 0))] :: [(b3, .cells #[.pointer (some ⟨b5, 0, none⟩)] 66 (0, 0))] :: [(b5, .cells #[.slice A14 v13.rows.length c15, .int .i64 v13.level, .slice A17 v13.roots.length c18, .slice A20 v13.loose.length c21] 109 (0, 0))] :: [(b7, .cells #[.slice A787 x786.length c788] 57 (0, 0))] :: H) ∧ Own ty_Answer 62 f780 A787 c788 s789 x786 ∧ query_walk__query_Index_Run_2__query_Index_Run_1.l1 k l29 x589 v13 v9 n_ x785 x786 = some o776 ∧ a_ = ⟨#[.slice A30 l29.length c31, .func (.func 53) #[] #[pV b1 0], .func (.func 51) #[] #[pV b3 0, pV b1 0, pV b7 0], uV, uV, uV, iV 0, iV (w64 (cost588 + (w64 ((((rd l29 x589).rows).length : Int) + vt654)))), uV, pV b619 0, uV, (j784 0), .slice A30 l29.length c31, iV (l29.length : Int), .slice A30 l29.length c31, iV (l29.length : Int), iV x589, tV, pV b616 (of617 + (x589 : Int).toNat * 1), pV b619 0, .func (.func 53) #[] #[pV b1 0], pV b619 0, .bool vt632, fV, iV cost588, pV b619 0, pV b619 0, pV b619 13, .slice A627 ((rd l29 x589).rows).length c627, iV (((rd l29 x589).rows).length : Int), pV b619 0, pV b619 0, pV b619 12, .slice A626 ((rd l29 x589).kids).length c626, .func (.func 53) #[] #[pV b1 0], .func (.func 51) #[] #[pV b3 0, pV b1 0, pV b7 0], iV vt654, iV (w64 ((((rd l29 x589).rows).length : Int) + vt654)), iV (w64 (cost588 + (w64 ((((rd l29 x589).rows).length : Int) + vt654)))), pV b619 0, pV b619 0, pV b619 13, .slice A627 ((rd l29 x589).rows).length c627, iV (((rd l29 x589).rows).length : Int), iV x785, (j784 1), (j784 2), (j784 3), (j784 4), (j784 5), (j784 6), (j784 7), (j587 37), uV], []⟩) k ⟨f657, A661, c662, s663, 0, vt655, (jL [(j587 1), (j587 30), (j587 31), (j587 32), (j587 33), (j587 34), (j587 35), (j587 36)]), fL, HS660, HO664, h, kr⟩ ?_
        clear h
        rintro n779 _ W782 ⟨f780, A787, c788, s789, x785, x786, j784, L781, HS783, HO790, h, rfl⟩ K777 hK778
        obtain _ | n779 := n779
        · exact nomatch h
        simp only [query_walk__query_Index_Run_2__query_Index_Run_1.l1] at h
        refine wp_seq_k fun K791 hK792 => rl ?_
        refine seqL1 kr ?_
        refine nl (hK792 _ _ ?_)
        refine wp_seq_k (fun K793 hK794 => ?_)
        have hq_ := ite_some h; clear h; rcases hq_ with ⟨c796, h⟩ | ⟨c796, h⟩
        · have c796 : x785 < (((rd l29 x589).rows).length : Int) := c796
          refine wpRwI 45 kr (decide_eq_true c796) ?_
          refine condT kr ?_
          refine wp_skip ?_
          refine hK794 _ _ ?_
          refine wp_seq_k (fun K797 hK798 => ?_)
          refine blockK (fun B799 hx800 hn801 hr802 ho803 hp804 => ?_)
          refine wp_seq_k fun K806 hK807 => rl ?_
          have hq_ := guard_some h; clear h; obtain ⟨c808, h⟩ := hq_
          have c808 : 0 ≤ x785 := c808
          obtain ⟨b812, of813, cs809, hA814, hr810, hc811⟩ := (HR627.mono (L635.trans (L658.trans L781))).at (i := x785) c808 c796
          obtain rfl := hr810
          refine seqK rfl (does_run (run_indexE hA814 (sz := 1) rfl Tryz.underlying22 kr (kv (.slice A627 ((rd l29 x589).rows).length c627)) (kv (.int .i64 x785)) c808 c796 W782) ?_)
          refine seqK rfl (does_run (run_load rfl Tryz.underlying3 rfl (kv (.pointer (some ⟨b812, of813 + (x785 : Int).toNat * 1, none⟩))) ((hc811 fL HS783) 0 (by decide))) ?_)
          refine seqL1 kr ?_
          refine nl (hK807 _ _ ?_)
          refine rl ?_
          have HS818 := HS783.u4.u2.u4.u4
          have hq_ := bind_some h; clear h; obtain ⟨vt819, hc820, h⟩ := hq_
          refine seqL2 kr ?_
          refine seqK rfl (does_call (f := 51) (args := #[.int .i64 (rd ((rd l29 x589).rows) x785), .pointer (some ⟨b3, 0, none⟩), .pointer (some ⟨b1, 0, none⟩), .pointer (some ⟨b7, 0, none⟩)]) kr (query_Index_Run_1.calls k b3 b5 A14 c15 A17 c18 A20 c21 b1 A10 c11 b7 A787 c788 s789 v13 v9 x786 (rd ((rd l29 x589).rows) x785) HS818 (HR16.mono (L584.trans (L635.trans (L658.trans L781)))) (HR19.mono (L584.trans (L635.trans (L658.trans L781)))) (HR22.mono (L584.trans (L635.trans (L658.trans L781)))) (HR12.mono (L584.trans (L635.trans (L658.trans L781)))) HO790 vt819 hc820) ?_)
          rintro _ W823 ⟨f821, A825, c826, s827, rfl, L822, HS824, HO828⟩
          refine ⟨_, rfl, ?_⟩
          refine nl ?_
          refine hn801 _ _ ?_
          refine hK798 _ _ ?_
          refine rl ?_
          refine seqL2 kr ?_
          refine nl ?_
          refine hK778 n779 _ _ (Nat.lt_succ_self _) ?_
          have HS847 := HS824.u4.u3.u3.u4.u4
          exact ⟨f821, A825, c826, s827, (w64 (x785 + 1)), vt819, (jL [iV (rd ((rd l29 x589).rows) x785), tV, .pointer (some ⟨b812, of813 + (x785 : Int).toNat * 1, none⟩), iV (rd ((rd l29 x589).rows) x785), .func (.func 51) #[] #[.pointer (some ⟨b3, 0, none⟩), .pointer (some ⟨b1, 0, none⟩), .pointer (some ⟨b7, 0, none⟩)], iV (rd ((rd l29 x589).rows) x785), .tuple #[], iV (w64 (x785 + 1))]), (L781.trans L822), HS847, HO828, h, kr⟩
        · have c796 : ¬ (x785 < (((rd l29 x589).rows).length : Int)) := c796
          refine wpRwI 45 kr (decide_eq_false c796) ?_
          refine condF kr ?_
          refine wp_exit ?_
          refine hx669 _ _ ?_
          exact J841 f780 A787 c788 s789 x786 (jL [(j784 0), iV x785, fV, (j784 2), (j784 3), (j784 4), (j784 5), (j784 6), (j784 7)]) W782 _ L781 h HS783 HO790 kr
    · have c600 : ¬ (x589 < (l29.length : Int)) := c600
      refine wpRwI 17 kr (decide_eq_false c600) ?_
      refine condF kr ?_
      refine wp_exit ?_
      refine hx42 _ _ ?_
      exact J860 f583 A591 c592 s593 cost588 x590 (jL [(j587 0), (j587 1), iV x589, fV, (j587 3), (j587 4), (j587 5), (j587 6), (j587 7), (j587 8), (j587 9), (j587 10), (j587 11), (j587 12), (j587 13), (j587 14), (j587 15), (j587 16), (j587 17), (j587 18), (j587 19), (j587 20), (j587 21), (j587 22), (j587 23), (j587 24), (j587 25), (j587 26), (j587 27), (j587 28), (j587 29), (j587 30), (j587 31), (j587 32), (j587 33), (j587 34), (j587 35), (j587 36), (j587 37)]) W585 _ L584 h HS586 HO594 kr
theorem query_walk__query_Index_Run_2__query_Index_Run_1.calls (k : Nat) (b1 : Nat) (A10 : Option Addr) (c11 : Nat) (b3 : Nat) (b5 : Nat) (A14 : Option Addr) (c15 : Nat) (A17 : Option Addr) (c18 : Nat) (A20 : Option Addr) (c21 : Nat) (b7 : Nat) (A24 : Option Addr) (c25 : Nat) (s26 : Seg) (A30 : Option Addr) (c31 : Nat) (v9 : S_Ask) (v13 : S_Index) (v23 : List S_Answer) (l29 : List S_node) {t w : World} {f : FM} {H : List Seg} (HS : St t w f ([(b1, .cells #[.slice A10 v9.Cones.length c11, .int .i64 v9.From, .int .i64 v9.To, .int .i64 v9.Least, .int .i64 v9.Ban] 51 (0, 0))] :: [(b3, .cells #[.pointer (some ⟨b5, 0, none⟩)] 66 (0, 0))] :: [(b5, .cells #[.slice A14 v13.rows.length c15, .int .i64 v13.level, .slice A17 v13.roots.length c18, .slice A20 v13.loose.length c21] 109 (0, 0))] :: [(b7, .cells #[.slice A24 v23.length c25] 57 (0, 0))] :: s26 :: H)) (HR12 : SlR ty_Cone f A10 c11 v9.Cones) (HR16 : SlR ty_Row f A14 c15 v13.rows) (HR19 : SlR fx_node.t f A17 c18 v13.roots) (HR22 : SlR (tInt .i64) f A20 c21 v13.loose) (HO27 : Own ty_Answer 62 f A24 c25 s26 v23) (HR32 : SlR fx_node.t f A30 c31 l29) (rr1 : Int) (rr2 : List S_Answer) (h : query_walk__query_Index_Run_2__query_Index_Run_1 k v9 v13 v23 l29 = some (rr1, rr2)) :
    Calls Tryz.prog 52 #[.slice A30 l29.length c31, .func (.func 53) #[] #[.pointer (some ⟨b1, 0, none⟩)], .func (.func 51) #[] #[.pointer (some ⟨b3, 0, none⟩), .pointer (some ⟨b1, 0, none⟩), .pointer (some ⟨b7, 0, none⟩)]] w (fun e w' => ∃ (g : FM) (A873 : Option Addr) (c874 : Nat) (s875 : Seg), e = .returned (Value.int .i64 rr1) ∧ FM.le f g ∧ St t w' g (s875 :: [(b1, .cells #[.slice A10 v9.Cones.length c11, .int .i64 v9.From, .int .i64 v9.To, .int .i64 v9.Least, .int .i64 v9.Ban] 51 (0, 0))] :: [(b3, .cells #[.pointer (some ⟨b5, 0, none⟩)] 66 (0, 0))] :: [(b5, .cells #[.slice A14 v13.rows.length c15, .int .i64 v13.level, .slice A17 v13.roots.length c18, .slice A20 v13.loose.length c21] 109 (0, 0))] :: [(b7, .cells #[.slice A873 rr2.length c874] 57 (0, 0))] :: H) ∧ Own ty_Answer 62 g A873 c874 s875 rr2) := by
  exact query_walk__query_Index_Run_2__query_Index_Run_1.r_calls k k b1 A10 c11 b3 b5 A14 c15 A17 c18 A20 c21 b7 A24 c25 s26 A30 c31 v9 v13 v23 l29 HS HR12 HR16 HR19 HR22 HO27 HR32 rr1 rr2 h

set_option maxRecDepth 100000 in
set_option maxHeartbeats 4000000 in
theorem bits_Len64.calls (k : Nat)  (x1 : Int) {t w : World} {f : FM} {H : List Seg} (HS : St t w f (H)) (rr1 : Int) (h : bits_Len64 k x1 = some rr1) :
    Calls Tryz.prog 111 #[.int .u64 x1] w (fun e w' => ∃ (g : FM), e = .returned (Value.int .i64 rr1) ∧ FM.le f g ∧ St t w' g (H)) := by
 unfold bits_Len64 at h
 refine enter Tryz.func111 rfl (tm := #[.int .u64 x1, uV, uV, uV, uV, uV, uV, uV, uV, uV, uV, uV, uV, uV, uV, uV, uV, uV, uV, uV, uV, uV, uV, uV, uV]) kr ?_
 intro B hret hnor hnp
 refine wp_seq_k fun K2 hK3 => rl ?_
 refine seqL1 kr ?_
 refine nl (hK3 _ _ ?_)
 refine wp_seq_k (fun K4 hK5 => ?_)
 refine wp_seq_k fun K6 hK7 => rl ?_
 refine seqL2 kr ?_
 refine nl (hK7 _ _ ?_)
 have hq_ := bind_some h; clear h; obtain ⟨v8, hv19, h⟩ := hq_
 have J20 : ∀ (f12 : FM) (x17 : Int) (n18 : Int) (j16 : Nat → Value) (W14 : World) (a_ : Act), FM.le f f12 → some ((x17, n18)) = some v8 → St t W14 f12 (H) → a_ = ⟨#[.int .u64 x17, uV, iV n18, .int .u64 x1, .bool (decide (x1 ≥ 4294967296)), (j16 0), (j16 1), uV, uV, uV, uV, uV, uV, uV, uV, uV, uV, uV, uV, uV, uV, uV, uV, uV, uV], []⟩ → K4 a_ W14 := by
  intro f12 x17 n18 j16 W14 a_ L13 hj21 HS15  hfr_; subst hfr_
  injection hj21 with hj21; subst hj21; try dsimp only at h
  refine hK5 _ _ ?_
  refine wp_seq_k (fun K22 hK23 => ?_)
  refine wp_seq_k fun K24 hK25 => rl ?_
  refine seqL2 kr ?_
  refine nl (hK25 _ _ ?_)
  have hq_ := bind_some h; clear h; obtain ⟨v26, hv37, h⟩ := hq_
  have J38 : ∀ (f30 : FM) (x35 : Int) (n36 : Int) (j34 : Nat → Value) (W32 : World) (a_ : Act), FM.le f12 f30 → some ((x35, n36)) = some v26 → St t W32 f30 (H) → a_ = ⟨#[.int .u64 x35, uV, iV n36, .int .u64 x1, .bool (decide (x1 ≥ 4294967296)), (j16 0), (j16 1), .int .u64 x17, .bool (decide (x17 ≥ 65536)), (j34 0), (j34 1), (j34 2), (j34 3), uV, uV, uV, uV, uV, uV, uV, uV, uV, uV, uV, uV], []⟩ → K22 a_ W32 := by
   intro f30 x35 n36 j34 W32 a_ L31 hj39 HS33  hfr_; subst hfr_
   injection hj39 with hj39; subst hj39; try dsimp only at h
   refine hK23 _ _ ?_
   refine wp_seq_k (fun K40 hK41 => ?_)
   refine wp_seq_k fun K42 hK43 => rl ?_
   refine seqL2 kr ?_
   refine nl (hK43 _ _ ?_)
   have hq_ := ite_some h; clear h; rcases hq_ with ⟨c45, h⟩ | ⟨c45, h⟩
   · have c45 : x35 ≥ 256 := c45
     refine wpRwI 14 kr (decide_eq_true c45) ?_
     refine condT kr ?_
     refine wp_seq_k fun K46 hK47 => rl ?_
     refine seqL3 kr ?_
     refine nl (hK47 _ _ ?_)
     refine rl ?_
     refine seqL3 kr ?_
     refine nl (hK41 _ _ ?_)
     refine wp_seq_k fun K48 hK49 => rl ?_
     have hq_ := guard_some h; clear h; obtain ⟨c50, h⟩ := hq_
     have c50 : 0 ≤ (u8 (shr x35 8)) := c50
     have hq_ := guard_some h; clear h; obtain ⟨c51, h⟩ := hq_
     have c51 : (u8 (shr x35 8)) < (str0.size : Int) := c51
     refine seqL3 kr ?_
     refine seqK rfl (does_run (run_byte rfl Tryz.underlying9 (kv (.string str0)) (kv (.int .u8 (u8 (shr x35 8)))) c50 c51 W32) ?_)
     refine seqL3 kr ?_
     refine nl (hK49 _ _ ?_)
     refine wp_ret ?_
     refine hret _ _ ?_
     refine ends_still (v := Value.int .i64 (w64 ((w64 (n36 + 8)) + (w64 ((bt str0 (u8 (shr x35 8)))))))) kr kr ?_
     injection h with h
     subst h
     exact ⟨f30, rfl, (L13.trans L31), HS33⟩
   · have c45 : ¬ (x35 ≥ 256) := c45
     refine wpRwI 14 kr (decide_eq_false c45) ?_
     refine condF kr ?_
     refine wp_skip ?_
     refine hK41 _ _ ?_
     refine wp_seq_k fun K52 hK53 => rl ?_
     have hq_ := guard_some h; clear h; obtain ⟨c54, h⟩ := hq_
     have c54 : 0 ≤ (u8 (x35)) := c54
     have hq_ := guard_some h; clear h; obtain ⟨c55, h⟩ := hq_
     have c55 : (u8 (x35)) < (str0.size : Int) := c55
     refine seqL3 kr ?_
     refine seqK rfl (does_run (run_byte rfl Tryz.underlying9 (kv (.string str0)) (kv (.int .u8 (u8 (x35)))) c54 c55 W32) ?_)
     refine seqL3 kr ?_
     refine nl (hK53 _ _ ?_)
     refine wp_ret ?_
     refine hret _ _ ?_
     refine ends_still (v := Value.int .i64 (w64 (n36 + (w64 ((bt str0 (u8 (x35)))))))) kr kr ?_
     injection h with h
     subst h
     exact ⟨f30, rfl, (L13.trans L31), HS33⟩
  clear h; have h := hv37; clear hv37
  have hq_ := ite_some h; clear h; rcases hq_ with ⟨c27, h⟩ | ⟨c27, h⟩
  · have c27 : x17 ≥ 65536 := c27
    refine wpRwI 8 kr (decide_eq_true c27) ?_
    refine condT kr ?_
    refine wp_seq_k fun K28 hK29 => rl ?_
    refine seqL3 kr ?_
    refine nl (hK29 _ _ ?_)
    refine rl ?_
    refine seqL3 kr ?_
    refine nl ?_
    refine fnRwI (F := K22) 8 (x := true) (v := (decide (x17 ≥ 65536))) kr (Eq.symm (decide_eq_true c27)) ?_
    exact J38 f12 (shr x17 16) (w64 (n18 + 16)) (jL [.int .u64 x17, .int .u64 (shr x17 16), iV n18, iV (w64 (n18 + 16))]) W14 _ fL h HS15 kr
  · have c27 : ¬ (x17 ≥ 65536) := c27
    refine wpRwI 8 kr (decide_eq_false c27) ?_
    refine condF kr ?_
    refine wp_skip ?_
    refine fnRwI (F := K22) 8 (x := false) (v := (decide (x17 ≥ 65536))) kr (Eq.symm (decide_eq_false c27)) ?_
    exact J38 f12 x17 n18 (jL []) W14 _ fL h HS15 kr
 clear h; have h := hv19; clear hv19
 have hq_ := ite_some h; clear h; rcases hq_ with ⟨c9, h⟩ | ⟨c9, h⟩
 · have c9 : x1 ≥ 4294967296 := c9
   refine wpRwI 4 kr (decide_eq_true c9) ?_
   refine condT kr ?_
   refine wp_seq_k fun K10 hK11 => rl ?_
   refine seqL3 kr ?_
   refine nl (hK11 _ _ ?_)
   refine rl ?_
   refine seqL1 kr ?_
   refine nl ?_
   refine fnRwI (F := K4) 4 (x := true) (v := (decide (x1 ≥ 4294967296))) kr (Eq.symm (decide_eq_true c9)) ?_
   exact J20 f (shr x1 32) 32 (jL [.int .u64 x1, .int .u64 (shr x1 32)]) w _ fL h HS kr
 · have c9 : ¬ (x1 ≥ 4294967296) := c9
   refine wpRwI 4 kr (decide_eq_false c9) ?_
   refine condF kr ?_
   refine wp_skip ?_
   refine fnRwI (F := K4) 4 (x := false) (v := (decide (x1 ≥ 4294967296))) kr (Eq.symm (decide_eq_false c9)) ?_
   exact J20 f x1 0 (jL []) w _ fL h HS kr

set_option maxRecDepth 100000 in
set_option maxHeartbeats 4000000 in
theorem bits_Len.calls (k : Nat)  (x1 : Int) {t w : World} {f : FM} {H : List Seg} (HS : St t w f (H)) (rr1 : Int) (h : bits_Len k x1 = some rr1) :
    Calls Tryz.prog 89 #[.int .u64 x1] w (fun e w' => ∃ (g : FM), e = .returned (Value.int .i64 rr1) ∧ FM.le f g ∧ St t w' g (H)) := by
 unfold bits_Len at h
 refine enter Tryz.func89 rfl (tm := #[.int .u64 x1, uV, uV, uV, uV, uV, uV, uV]) kr ?_
 intro B hret hnor hnp
 refine wp_seq_k fun K2 hK3 => rl ?_
 refine seqL1 kr ?_
 refine nl (hK3 _ _ ?_)
 refine wp_seq_k (fun K4 hK5 => ?_)
 refine condF kr ?_
 refine wp_skip ?_
 refine hK5 _ _ ?_
 refine wp_seq_k fun K6 hK7 => rl ?_
 have hq_ := bind_some h; clear h; obtain ⟨vt8, hc9, h⟩ := hq_
 refine seqL1 kr ?_
 refine seqK rfl (does_call (f := 111) (args := #[.int .u64 x1]) kr (bits_Len64.calls k x1 HS vt8 hc9) ?_)
 rintro _ W12 ⟨f10, rfl, L11, HS13⟩
 refine ⟨_, rfl, ?_⟩
 refine seqL1 kr ?_
 refine nl (hK7 _ _ ?_)
 refine wp_ret ?_
 refine hret _ _ ?_
 refine ends_still (v := Value.int .i64 vt8) kr kr ?_
 injection h with h
 subst h
 exact ⟨f10, rfl, L11, HS13⟩

set_option maxRecDepth 100000 in
set_option maxHeartbeats 4000000 in
theorem query_Index_Run_3.calls (k : Nat)  (a1 : S_Answer) (b2 : S_Answer) {t w : World} {f : FM} {H : List Seg} (HS : St t w f (H)) (rr1 : Int) (h : query_Index_Run_3 k a1 b2 = some rr1) :
    Calls Tryz.prog 57 #[.agg #[.int .i64 a1.ID, .int .i64 a1.Grade], .agg #[.int .i64 b2.ID, .int .i64 b2.Grade]] w (fun e w' => ∃ (g : FM), e = .returned (Value.int .i64 rr1) ∧ FM.le f g ∧ St t w' g (H)) := by
 unfold query_Index_Run_3 at h
 refine enter Tryz.func57 rfl (tm := #[.agg #[iV a1.ID, iV a1.Grade], .agg #[iV b2.ID, iV b2.Grade], uV, uV, uV, uV, uV, uV, uV, uV]) kr ?_
 intro B hret hnor hnp
 refine wp_seq_k fun K3 hK4 => rl ?_
 refine seqK rfl (does_box (cs := #[.int .i64 a1.ID, .int .i64 a1.Grade]) rfl (kv (.agg #[.int .i64 a1.ID, .int .i64 a1.Grade])) rfl HS ?_)
 intro b5 W6 HS7
 refine seqK rfl (does_box (cs := #[.int .i64 b2.ID, .int .i64 b2.Grade]) rfl (kv (.agg #[.int .i64 b2.ID, .int .i64 b2.Grade])) rfl HS7 ?_)
 intro b9 W10 HS11
 refine seqL1 kr ?_
 refine nl (hK4 _ _ ?_)
 refine wp_seq_k fun K13 hK14 => rl ?_
 refine seqL1 kr ?_
 refine seqK rfl (does_run (run_load rfl Tryz.underlying3 rfl (kv (.pointer (some ⟨b5, 0, none⟩))) (HS11.u1.cell 0)) ?_)
 refine seqL1 kr ?_
 refine seqK rfl (does_run (run_load rfl Tryz.underlying3 rfl (kv (.pointer (some ⟨b9, 0, none⟩))) (HS11.cell 0)) ?_)
 refine seqL2 kr ?_
 refine nl (hK14 _ _ ?_)
 refine wp_ret ?_
 refine hret _ _ ?_
 refine ends_still (v := Value.int .i64 (w64 (a1.ID - b2.ID))) kr kr ?_
 have HS15 := HS11.drop
 have HS16 := HS15.drop
 injection h with h
 subst h
 exact ⟨f, rfl, FM.le.refl _, HS16⟩

set_option maxRecDepth 100000 in
set_option maxHeartbeats 4000000 in
theorem slices_insertionSortCmpFunc_Answer__query_Index_Run_3.calls (k : Nat) (A1 : Option Addr) (c2 : Nat) (s3 : Seg) (data5 : List S_Answer) (a7 : Int) (b8 : Int) {t w : World} {f : FM} {H : List Seg} (HS : St t w f (s3 :: H)) (HO4 : Own ty_Answer 62 f A1 c2 s3 data5) (rr1 : List S_Answer) (h : slices_insertionSortCmpFunc_Answer__query_Index_Run_3 k data5 a7 b8 = some rr1) :
    Calls Tryz.prog 102 #[.slice A1 data5.length c2, .int .i64 a7, .int .i64 b8, .func (.func 57) #[] #[]] w (fun e w' => ∃ (g : FM) (s399 : Seg), e = .returned (Value.tuple #[]) ∧ FM.le f g ∧ St t w' g (s399 :: H) ∧ Own ty_Answer 62 g A1 c2 s399 rr1 ∧ rr1.length = data5.length) := by
 unfold slices_insertionSortCmpFunc_Answer__query_Index_Run_3 at h
 refine enter Tryz.func102 rfl (tm := #[.slice A1 data5.length c2, iV a7, iV b8, .func (.func 57) #[] #[], uV, uV, uV, uV, uV, uV, uV, uV, uV, uV, uV, uV, uV, uV, uV, uV, uV, uV, uV, uV, uV, uV, uV, uV, uV, uV, uV, uV, uV, uV, uV, uV, uV, uV, uV, uV, uV, uV, uV, uV, uV, uV, uV, uV, uV, uV, uV, uV, uV]) kr ?_
 intro B hret hnor hnp
 refine wp_seq_k fun K9 hK10 => rl ?_
 refine seqL3 kr ?_
 refine nl (hK10 _ _ ?_)
 refine blockK (fun B11 hx12 hn13 hr14 ho15 hp16 => ?_)
 have hq_ := bind_some h; clear h; obtain ⟨o200, hv396, h⟩ := hq_
 have J397 : ∀ (f387 : FM) (s393 : Seg) (data392 : List S_Answer) (j391 : Nat → Value) (W389 : World) (a_ : Act), FM.le f f387 → some (data392) = some o200 → St t W389 f387 (s393 :: H) → Own ty_Answer 62 f387 A1 c2 s393 data392 → data392.length = data5.length → a_ = ⟨#[.slice A1 data392.length c2, iV a7, iV b8, .func (.func 57) #[] #[], uV, uV, uV, uV, (j391 0), (j391 1), iV a7, iV (w64 (a7 + 1)), (j391 2), (j391 3), (j391 4), (j391 5), (j391 6), (j391 7), (j391 8), (j391 9), (j391 10), (j391 11), (j391 12), (j391 13), (j391 14), (j391 15), (j391 16), (j391 17), (j391 18), (j391 19), (j391 20), (j391 21), (j391 22), (j391 23), (j391 24), (j391 25), (j391 26), (j391 27), (j391 28), (j391 29), (j391 30), (j391 31), (j391 32), (j391 33), (j391 34), (j391 35), (j391 36), (j391 37), (j391 38), (j391 39), (j391 40), (j391 41), (j391 42)], []⟩ → B Exit.normal a_ W389 := by
  intro f387 s393 data392 j391 W389 a_ L388 hj398 HS390 HO394 HL395 hfr_; subst hfr_
  injection hj398 with hj398; subst hj398; try dsimp only at h
  refine hnor _ _ ?_
  refine ends_still (v := Value.tuple #[]) kr kr ?_
  injection h with h
  subst h
  exact ⟨f387, s393, rfl, L388, HS390, HO394, HL395⟩
 clear h; have h := hv396; clear hv396
 refine loopK (fun n_ a_ w_ => ∃ (f204 : FM) (s210 : Seg) (data209 : List S_Answer) (i213 : Int) (j208 : Nat → Value), FM.le f f204 ∧ St t w_ f204 (s210 :: H) ∧ Own ty_Answer 62 f204 A1 c2 s210 data209 ∧ data209.length = data5.length ∧ slices_insertionSortCmpFunc_Answer__query_Index_Run_3.l0 k b8 a7 n_ data209 i213 = some o200 ∧ a_ = ⟨#[.slice A1 data209.length c2, iV a7, iV b8, .func (.func 57) #[] #[], uV, uV, uV, uV, iV i213, (j208 0), iV a7, iV (w64 (a7 + 1)), (j208 1), (j208 2), (j208 3), (j208 4), (j208 5), (j208 6), (j208 7), (j208 8), (j208 9), (j208 10), (j208 11), (j208 12), (j208 13), (j208 14), (j208 15), (j208 16), (j208 17), (j208 18), (j208 19), (j208 20), (j208 21), (j208 22), (j208 23), (j208 24), (j208 25), (j208 26), (j208 27), (j208 28), (j208 29), (j208 30), (j208 31), (j208 32), (j208 33), (j208 34), (j208 35), (j208 36), (j208 37), (j208 38), (j208 39), (j208 40), (j208 41)], []⟩) k ⟨f, s3, data5, (w64 (a7 + 1)), (jL []), fL, HS, HO4, rfl, h, kr⟩ ?_
 clear h
 rintro n203 _ W206 ⟨f204, s210, data209, i213, j208, L205, HS207, HO211, HL212, h, rfl⟩ K201 hK202
 obtain _ | n203 := n203
 · exact nomatch h
 simp only [slices_insertionSortCmpFunc_Answer__query_Index_Run_3.l0] at h
 refine wp_seq_k (fun K214 hK215 => ?_)
 refine wp_seq_k fun K216 hK217 => rl ?_
 refine seqL3 kr ?_
 refine nl (hK217 _ _ ?_)
 have hq_ := ite_some h; clear h; rcases hq_ with ⟨c219, h⟩ | ⟨c219, h⟩
 · have c219 : i213 < b8 := c219
   refine wpRwI 14 kr (decide_eq_true c219) ?_
   refine condT kr ?_
   refine wp_skip ?_
   refine hK215 _ _ ?_
   refine wp_seq_k (fun K220 hK221 => ?_)
   refine blockK (fun B222 hx223 hn224 hr225 ho226 hp227 => ?_)
   refine wp_seq_k fun K229 hK230 => rl ?_
   refine seqL2 kr ?_
   refine nl (hK230 _ _ ?_)
   refine blockK (fun B231 hx232 hn233 hr234 ho235 hp236 => ?_)
   have hq_ := bind_some h; clear h; obtain ⟨o304, hv384, h⟩ := hq_
   have J385 : ∀ (f375 : FM) (s381 : Seg) (data380 : List S_Answer) (j379 : Nat → Value) (W377 : World) (a_ : Act), FM.le f204 f375 → some (data380) = some o304 → St t W377 f375 (s381 :: H) → Own ty_Answer 62 f375 A1 c2 s381 data380 → data380.length = data209.length → a_ = ⟨#[.slice A1 data380.length c2, iV a7, iV b8, .func (.func 57) #[] #[], uV, uV, uV, uV, iV i213, (j379 0), iV a7, iV (w64 (a7 + 1)), iV i213, iV b8, tV, (j208 4), (j208 5), iV i213, (j379 1), (j379 2), (j379 3), (j379 4), (j379 5), (j379 6), (j379 7), (j379 8), (j379 9), (j379 10), (j379 11), (j379 12), (j379 13), (j379 14), (j379 15), (j379 16), (j379 17), (j379 18), (j379 19), (j379 20), (j379 21), (j379 22), (j379 23), (j379 24), (j379 25), (j379 26), (j379 27), (j379 28), (j379 29), (j379 30), (j379 31), (j379 32), (j379 33), (j379 34), (j379 35)], []⟩ → B222 Exit.normal a_ W377 := by
    intro f375 s381 data380 j379 W377 a_ L376 hj386 HS378 HO382 HL383 hfr_; subst hfr_
    injection hj386 with hj386; subst hj386; try dsimp only at h
    refine hn224 _ _ ?_
    refine hK221 _ _ ?_
    refine rl ?_
    refine seqL3 kr ?_
    refine nl ?_
    refine hK202 n203 _ _ (Nat.lt_succ_self _) ?_
    exact ⟨f375, s381, data380, (w64 (i213 + 1)), (jL [(j379 0), iV i213, iV b8, tV, iV i213, iV (w64 (i213 + 1)), iV i213, (j379 1), (j379 2), (j379 3), (j379 4), (j379 5), (j379 6), (j379 7), (j379 8), (j379 9), (j379 10), (j379 11), (j379 12), (j379 13), (j379 14), (j379 15), (j379 16), (j379 17), (j379 18), (j379 19), (j379 20), (j379 21), (j379 22), (j379 23), (j379 24), (j379 25), (j379 26), (j379 27), (j379 28), (j379 29), (j379 30), (j379 31), (j379 32), (j379 33), (j379 34), (j379 35)]), (L205.trans L376), HS378, HO382, (HL383.trans HL212), h, kr⟩
   clear h; have h := hv384; clear hv384
   refine loopK (fun n_ a_ w_ => ∃ (f308 : FM) (s314 : Seg) (data313 : List S_Answer) (j317 : Int) (j312 : Nat → Value), FM.le f204 f308 ∧ St t w_ f308 (s314 :: H) ∧ Own ty_Answer 62 f308 A1 c2 s314 data313 ∧ data313.length = data209.length ∧ slices_insertionSortCmpFunc_Answer__query_Index_Run_3.l1 k a7 n_ data313 j317 = some o304 ∧ a_ = ⟨#[.slice A1 data313.length c2, iV a7, iV b8, .func (.func 57) #[] #[], uV, uV, uV, uV, iV i213, iV j317, iV a7, iV (w64 (a7 + 1)), iV i213, iV b8, tV, (j208 4), (j208 5), iV i213, (j312 0), (j312 1), (j312 2), (j312 3), (j312 4), (j312 5), (j312 6), (j312 7), (j312 8), (j312 9), (j312 10), (j312 11), (j312 12), (j312 13), (j312 14), (j312 15), (j312 16), (j312 17), (j312 18), (j312 19), (j312 20), (j312 21), (j312 22), (j312 23), (j312 24), (j312 25), (j312 26), (j312 27), (j312 28), (j312 29), (j312 30), (j312 31), (j312 32), (j312 33), (j312 34)], []⟩) k ⟨f204, s210, data209, i213, (jL [(j208 7), (j208 8), (j208 9), (j208 10), (j208 11), (j208 12), (j208 13), (j208 14), (j208 15), (j208 16), (j208 17), (j208 18), (j208 19), (j208 20), (j208 21), (j208 22), (j208 23), (j208 24), (j208 25), (j208 26), (j208 27), (j208 28), (j208 29), (j208 30), (j208 31), (j208 32), (j208 33), (j208 34), (j208 35), (j208 36), (j208 37), (j208 38), (j208 39), (j208 40), (j208 41)]), fL, HS207, HO211, rfl, h, kr⟩ ?_
   clear h
   rintro n307 _ W310 ⟨f308, s314, data313, j317, j312, L309, HS311, HO315, HL316, h, rfl⟩ K305 hK306
   obtain _ | n307 := n307
   · exact nomatch h
   simp only [slices_insertionSortCmpFunc_Answer__query_Index_Run_3.l1] at h
   refine wp_seq_k (fun K318 hK319 => ?_)
   refine wp_seq_k (fun K320 hK321 => ?_)
   refine heldG (S := Sg t f308 (s314 :: H) []) (n := 17) kr rfl HS311 ?_
   intro W322 HS323
   refine takeGL [0, 1, 2, 3] (n := 17) (fuel := 13) #[true, true, true, true, false, false, false, false, false, false, false, false, false, false, false, false, false] rfl kr kr kr (fun ch_ a_ w_ q_ => (fun ch_ a_ w_ q_ => (fun ch_ a_ w_ q_ => hnp ch_ a_ w_ (hp16 ch_ a_ w_ q_)) ch_ a_ w_ (hp227 ch_ a_ w_ q_)) ch_ a_ w_ (hp236 ch_ a_ w_ q_)) (Sg.g0 (Sx.of [] fL HS323)) ?_
   have hq_ := ite_some h; clear h; rcases hq_ with ⟨c324, h⟩ | ⟨c324, h⟩
   · have c324 : j317 > a7 := c324
     refine gateRwI 20 (x := (decide (j317 > a7))) (v := true) kr (decide_eq_true c324) ?_
     refine gateRwI 21 (x := (decide (j317 > a7))) (v := true) kr (decide_eq_true c324) ?_
     have hq_ := guard_some h; clear h; obtain ⟨c325, h⟩ := hq_
     have c325 : 0 ≤ j317 := c325
     have hq_ := guard_some h; clear h; obtain ⟨c326, h⟩ := hq_
     have c326 : j317 < (data313.length : Int) := c326
     obtain ⟨b330, of331, cs327, hA332, hr328, hc329⟩ := HO315.at (i := j317) c325 c326
     obtain rfl := hr328
     refine takeGL [4, 5, 6] (n := 13) (fuel := 10) #[true, true, true, true, true, true, true, false, false, false, false, false, false, false, false, false, false] rfl kr kr kr (fun ch_ a_ w_ q_ => (fun ch_ a_ w_ q_ => (fun ch_ a_ w_ q_ => hnp ch_ a_ w_ (hp16 ch_ a_ w_ q_)) ch_ a_ w_ (hp227 ch_ a_ w_ q_)) ch_ a_ w_ (hp236 ch_ a_ w_ q_)) (Sg.g0 (Sx.of [] fL HS323)) ?_
     refine takeGQ 7 [] rfl kr kr kr kr kr kr (fun ch_ a_ w_ q_ => (fun ch_ a_ w_ q_ => (fun ch_ a_ w_ q_ => hnp ch_ a_ w_ (hp16 ch_ a_ w_ q_)) ch_ a_ w_ (hp227 ch_ a_ w_ q_)) ch_ a_ w_ (hp236 ch_ a_ w_ q_)) (Sg.g0 (Sx.of [] fL HS323)) (fun w_ hw_ => by obtain ⟨g_, hl_, hS_⟩ := hw_.st; exact run_indexE hA332 (sz := 2) rfl Tryz.underlying57 kr (kv (.slice A1 data313.length c2)) (kv (.int .i64 j317)) c325 c326 w_) ?_
     refine takeGQ 8 [] rfl kr kr kr kr kr kr (fun ch_ a_ w_ q_ => (fun ch_ a_ w_ q_ => (fun ch_ a_ w_ q_ => hnp ch_ a_ w_ (hp16 ch_ a_ w_ q_)) ch_ a_ w_ (hp227 ch_ a_ w_ q_)) ch_ a_ w_ (hp236 ch_ a_ w_ q_)) (Sg.g0 (Sx.of [] fL HS323)) (fun w_ hw_ => by obtain ⟨g_, hl_, hS_⟩ := hw_.st; exact run_loadN (n := 2) rfl Tryz.underlying62 rfl kr (kv (.pointer (some ⟨b330, of331 + (j317 : Int).toNat * 2, none⟩))) (cs := [.int .i64 ((rd data313 j317).ID), .int .i64 ((rd data313 j317).Grade)]) rfl (fun j_ hj_ => ((hc329 hS_) j_ hj_))) ?_
     have hq_ := guard_some h; clear h; obtain ⟨c333, h⟩ := hq_
     have c333 : 0 ≤ (w64 (j317 - 1)) := c333
     have hq_ := guard_some h; clear h; obtain ⟨c334, h⟩ := hq_
     have c334 : (w64 (j317 - 1)) < (data313.length : Int) := c334
     obtain ⟨b338, of339, cs335, hA340, hr336, hc337⟩ := HO315.at (i := w64 (j317 - 1)) c333 c334
     obtain rfl := hr336
     refine takeGL [9, 10, 11] (n := 8) (fuel := 5) #[true, true, true, true, true, true, true, true, true, true, true, true, false, false, false, false, false] rfl kr kr kr (fun ch_ a_ w_ q_ => (fun ch_ a_ w_ q_ => (fun ch_ a_ w_ q_ => hnp ch_ a_ w_ (hp16 ch_ a_ w_ q_)) ch_ a_ w_ (hp227 ch_ a_ w_ q_)) ch_ a_ w_ (hp236 ch_ a_ w_ q_)) (Sg.g0 (Sx.of [] fL HS323)) ?_
     refine takeGQ 12 [] rfl kr kr kr kr kr kr (fun ch_ a_ w_ q_ => (fun ch_ a_ w_ q_ => (fun ch_ a_ w_ q_ => hnp ch_ a_ w_ (hp16 ch_ a_ w_ q_)) ch_ a_ w_ (hp227 ch_ a_ w_ q_)) ch_ a_ w_ (hp236 ch_ a_ w_ q_)) (Sg.g0 (Sx.of [] fL HS323)) (fun w_ hw_ => by obtain ⟨g_, hl_, hS_⟩ := hw_.st; exact run_indexE hA340 (sz := 2) rfl Tryz.underlying57 kr (kv (.slice A1 data313.length c2)) (kv (.int .i64 (w64 (j317 - 1)))) c333 c334 w_) ?_
     refine takeGQ 13 [] rfl kr kr kr kr kr kr (fun ch_ a_ w_ q_ => (fun ch_ a_ w_ q_ => (fun ch_ a_ w_ q_ => hnp ch_ a_ w_ (hp16 ch_ a_ w_ q_)) ch_ a_ w_ (hp227 ch_ a_ w_ q_)) ch_ a_ w_ (hp236 ch_ a_ w_ q_)) (Sg.g0 (Sx.of [] fL HS323)) (fun w_ hw_ => by obtain ⟨g_, hl_, hS_⟩ := hw_.st; exact run_loadN (n := 2) rfl Tryz.underlying62 rfl kr (kv (.pointer (some ⟨b338, of339 + (w64 (j317 - 1) : Int).toNat * 2, none⟩))) (cs := [.int .i64 ((rd data313 (w64 (j317 - 1))).ID), .int .i64 ((rd data313 (w64 (j317 - 1))).Grade)]) rfl (fun j_ hj_ => ((hc337 hS_) j_ hj_))) ?_
     have hq_ := bind_some h; clear h; obtain ⟨vt341, hc342, h⟩ := hq_
     refine takeGE 14 kr rfl kr (does_call (f := 57) (args := #[.agg #[.int .i64 ((rd data313 j317).ID), .int .i64 ((rd data313 j317).Grade)], .agg #[.int .i64 ((rd data313 (w64 (j317 - 1))).ID), .int .i64 ((rd data313 (w64 (j317 - 1))).Grade)]]) kr (query_Index_Run_3.calls k (rd data313 j317) (rd data313 (w64 (j317 - 1))) HS323 vt341 hc342) ?_)
     rintro _ W345 ⟨f343, rfl, L344, HS346⟩
     refine ⟨_, rfl, ?_⟩
     refine ⟨(Sg.g0 (Sx.of [] L344 HS346)), ?_⟩
     refine takeGL [15, 16] (n := 2) (fuel := 0) #[true, true, true, true, true, true, true, true, true, true, true, true, true, true, true, true, true] rfl kr kr kr (fun ch_ a_ w_ q_ => (fun ch_ a_ w_ q_ => (fun ch_ a_ w_ q_ => hnp ch_ a_ w_ (hp16 ch_ a_ w_ q_)) ch_ a_ w_ (hp227 ch_ a_ w_ q_)) ch_ a_ w_ (hp236 ch_ a_ w_ q_)) (Sg.g0 (Sx.of [] L344 HS346)) ?_
     refine doneG kr ?_ _
     refine hK321 _ _ ?_
     have hq_ := ite_some h; clear h; rcases hq_ with ⟨c348, h⟩ | ⟨c348, h⟩
     · have c348 : vt341 < 0 := c348
       refine wpRwI 33 kr (decide_eq_true c348) ?_
       refine wpRwI 34 kr (decide_eq_true c348) ?_
       refine condT kr ?_
       refine wp_skip ?_
       refine hK319 _ _ ?_
       refine wp_seq_k (fun K349 hK350 => ?_)
       refine blockK (fun B351 hx352 hn353 hr354 ho355 hp356 => ?_)
       refine heldG (S := Sg t f343 (H) [(15, s314)]) (n := 18) kr rfl HS346 ?_
       intro W358 HS359
       refine takeGL [0, 1, 2, 3, 4, 5, 6, 7] (n := 18) (fuel := 10) #[true, true, true, true, true, true, true, true, false, false, false, false, false, false, false, false, false, false] rfl kr kr kr (fun ch_ a_ w_ q_ => (fun ch_ a_ w_ q_ => (fun ch_ a_ w_ q_ => (fun ch_ a_ w_ q_ => hnp ch_ a_ w_ (hp16 ch_ a_ w_ q_)) ch_ a_ w_ (hp227 ch_ a_ w_ q_)) ch_ a_ w_ (hp236 ch_ a_ w_ q_)) ch_ a_ w_ (hp356 ch_ a_ w_ q_)) (Sg.g1 (Sx.of [s314] fL HS359) (fun _ => St.only [] HS359 fL)) ?_
       refine takeGQ 8 [] rfl kr kr kr kr kr kr (fun ch_ a_ w_ q_ => (fun ch_ a_ w_ q_ => (fun ch_ a_ w_ q_ => (fun ch_ a_ w_ q_ => hnp ch_ a_ w_ (hp16 ch_ a_ w_ q_)) ch_ a_ w_ (hp227 ch_ a_ w_ q_)) ch_ a_ w_ (hp236 ch_ a_ w_ q_)) ch_ a_ w_ (hp356 ch_ a_ w_ q_)) (Sg.g1 (Sx.of [s314] fL HS359) (fun _ => St.only [] HS359 fL)) (fun w_ hw_ => by obtain ⟨g_, hl_, hS_⟩ := hw_.st; exact run_indexE hA340 (sz := 2) rfl Tryz.underlying57 kr (kv (.slice A1 data313.length c2)) (kv (.int .i64 (w64 (j317 - 1)))) c333 c334 w_) ?_
       refine takeGQ 9 [15] rfl kr kr kr kr kr kr (fun ch_ a_ w_ q_ => (fun ch_ a_ w_ q_ => (fun ch_ a_ w_ q_ => (fun ch_ a_ w_ q_ => hnp ch_ a_ w_ (hp16 ch_ a_ w_ q_)) ch_ a_ w_ (hp227 ch_ a_ w_ q_)) ch_ a_ w_ (hp236 ch_ a_ w_ q_)) ch_ a_ w_ (hp356 ch_ a_ w_ q_)) (Sg.g1 (Sx.of [s314] fL HS359) (fun _ => St.only [] HS359 fL)) (fun w_ hw_ => by obtain ⟨g_, hl_, hS_⟩ := hw_.seg (j := 15) (s := s314) (by simp) (by simp); exact run_loadN (n := 2) rfl Tryz.underlying62 rfl kr (kv (.pointer (some ⟨b338, of339 + (w64 (j317 - 1) : Int).toNat * 2, none⟩))) (cs := [.int .i64 ((rd data313 (w64 (j317 - 1))).ID), .int .i64 ((rd data313 (w64 (j317 - 1))).Grade)]) rfl (fun j_ hj_ => ((hc337 hS_) j_ hj_))) ?_
       refine takeGL [10, 11] (n := 8) (fuel := 6) #[true, true, true, true, true, true, true, true, true, true, true, true, false, false, false, false, false, false] rfl kr kr kr (fun ch_ a_ w_ q_ => (fun ch_ a_ w_ q_ => (fun ch_ a_ w_ q_ => (fun ch_ a_ w_ q_ => hnp ch_ a_ w_ (hp16 ch_ a_ w_ q_)) ch_ a_ w_ (hp227 ch_ a_ w_ q_)) ch_ a_ w_ (hp236 ch_ a_ w_ q_)) ch_ a_ w_ (hp356 ch_ a_ w_ q_)) (Sg.g1 (Sx.of [s314] fL HS359) (fun _ => St.only [] HS359 fL)) ?_
       refine takeGQ 12 [] rfl kr kr kr kr kr kr (fun ch_ a_ w_ q_ => (fun ch_ a_ w_ q_ => (fun ch_ a_ w_ q_ => (fun ch_ a_ w_ q_ => hnp ch_ a_ w_ (hp16 ch_ a_ w_ q_)) ch_ a_ w_ (hp227 ch_ a_ w_ q_)) ch_ a_ w_ (hp236 ch_ a_ w_ q_)) ch_ a_ w_ (hp356 ch_ a_ w_ q_)) (Sg.g1 (Sx.of [s314] fL HS359) (fun _ => St.only [] HS359 fL)) (fun w_ hw_ => by obtain ⟨g_, hl_, hS_⟩ := hw_.st; exact run_indexE hA332 (sz := 2) rfl Tryz.underlying57 kr (kv (.slice A1 data313.length c2)) (kv (.int .i64 j317)) c325 c326 w_) ?_
       refine takeGQ 13 [15] rfl kr kr kr kr kr kr (fun ch_ a_ w_ q_ => (fun ch_ a_ w_ q_ => (fun ch_ a_ w_ q_ => (fun ch_ a_ w_ q_ => hnp ch_ a_ w_ (hp16 ch_ a_ w_ q_)) ch_ a_ w_ (hp227 ch_ a_ w_ q_)) ch_ a_ w_ (hp236 ch_ a_ w_ q_)) ch_ a_ w_ (hp356 ch_ a_ w_ q_)) (Sg.g1 (Sx.of [s314] fL HS359) (fun _ => St.only [] HS359 fL)) (fun w_ hw_ => by obtain ⟨g_, hl_, hS_⟩ := hw_.seg (j := 15) (s := s314) (by simp) (by simp); exact run_loadN (n := 2) rfl Tryz.underlying62 rfl kr (kv (.pointer (some ⟨b330, of331 + (j317 : Int).toNat * 2, none⟩))) (cs := [.int .i64 ((rd data313 j317).ID), .int .i64 ((rd data313 j317).Grade)]) rfl (fun j_ hj_ => ((hc329 hS_) j_ hj_))) ?_
       refine takeGQ 14 [] rfl kr kr kr kr kr kr (fun ch_ a_ w_ q_ => (fun ch_ a_ w_ q_ => (fun ch_ a_ w_ q_ => (fun ch_ a_ w_ q_ => hnp ch_ a_ w_ (hp16 ch_ a_ w_ q_)) ch_ a_ w_ (hp227 ch_ a_ w_ q_)) ch_ a_ w_ (hp236 ch_ a_ w_ q_)) ch_ a_ w_ (hp356 ch_ a_ w_ q_)) (Sg.g1 (Sx.of [s314] fL HS359) (fun _ => St.only [] HS359 fL)) (fun w_ hw_ => by obtain ⟨g_, hl_, hS_⟩ := hw_.st; exact run_indexE hA332 (sz := 2) rfl Tryz.underlying57 kr (kv (.slice A1 data313.length c2)) (kv (.int .i64 j317)) c325 c326 w_) ?_
       refine takeGE 15 kr rfl kr (does_put (e := ty_Answer) (E := 62) (vs := [.int .i64 ((rd data313 (w64 (j317 - 1))).ID), .int .i64 ((rd data313 (w64 (j317 - 1))).Grade)]) (u := (rd data313 (w64 (j317 - 1)))) (i := j317) rfl kr (HO315.mono L344) HS359 hA332 (kv (.pointer (some ⟨b330, of331 + (j317 : Int).toNat * 2, none⟩))) (kv (.agg #[.int .i64 ((rd data313 (w64 (j317 - 1))).ID), .int .i64 ((rd data313 (w64 (j317 - 1))).Grade)])) rfl rfl c325 c326 ?_)
       intro W360 s361 HS362 HO363
       refine ⟨(Sg.g1 (Sx.of [s361] fL HS362) (fun hl_ => Bool.noConfusion (show true = false from hl_))), ?_⟩
       refine gateRwS 0 (A := A1) (m := data313.length) (n := (data313.set (j317).toNat (rd data313 (w64 (j317 - 1)))).length) (c := c2) kr (List.length_set).symm ?_
       refine gateRwS 23 (A := A1) (m := data313.length) (n := (data313.set (j317).toNat (rd data313 (w64 (j317 - 1)))).length) (c := c2) kr (List.length_set).symm ?_
       refine gateRwS 27 (A := A1) (m := data313.length) (n := (data313.set (j317).toNat (rd data313 (w64 (j317 - 1)))).length) (c := c2) kr (List.length_set).symm ?_
       refine gateRwS 37 (A := A1) (m := data313.length) (n := (data313.set (j317).toNat (rd data313 (w64 (j317 - 1)))).length) (c := c2) kr (List.length_set).symm ?_
       refine gateRwS 39 (A := A1) (m := data313.length) (n := (data313.set (j317).toNat (rd data313 (w64 (j317 - 1)))).length) (c := c2) kr (List.length_set).symm ?_
       refine gateRwS 42 (A := A1) (m := data313.length) (n := (data313.set (j317).toNat (rd data313 (w64 (j317 - 1)))).length) (c := c2) kr (List.length_set).symm ?_
       refine gateRwS 47 (A := A1) (m := data313.length) (n := (data313.set (j317).toNat (rd data313 (w64 (j317 - 1)))).length) (c := c2) kr (List.length_set).symm ?_
       have hq_ := guard_some h; clear h; obtain ⟨c364, h⟩ := hq_
       have c364 : (w64 (j317 - 1)) < ((data313.set (j317).toNat (rd data313 (w64 (j317 - 1)))).length : Int) := c364
       obtain ⟨b368, of369, cs365, hA370, hr366, hc367⟩ := HO363.at (i := w64 (j317 - 1)) c333 c364
       obtain rfl := hr366
       refine takeGQ 16 [] rfl kr kr kr kr kr kr (fun ch_ a_ w_ q_ => (fun ch_ a_ w_ q_ => (fun ch_ a_ w_ q_ => (fun ch_ a_ w_ q_ => hnp ch_ a_ w_ (hp16 ch_ a_ w_ q_)) ch_ a_ w_ (hp227 ch_ a_ w_ q_)) ch_ a_ w_ (hp236 ch_ a_ w_ q_)) ch_ a_ w_ (hp356 ch_ a_ w_ q_)) (Sg.g1 (Sx.of [s361] fL HS362) (fun hl_ => Bool.noConfusion (show true = false from hl_))) (fun w_ hw_ => by obtain ⟨g_, hl_, hS_⟩ := hw_.st; exact run_indexE hA370 (sz := 2) rfl Tryz.underlying57 kr (kv (.slice A1 (data313.set (j317).toNat (rd data313 (w64 (j317 - 1)))).length c2)) (kv (.int .i64 (w64 (j317 - 1)))) c333 c364 w_) ?_
       refine takeGE 17 kr rfl kr (does_put (e := ty_Answer) (E := 62) (vs := [.int .i64 ((rd data313 j317).ID), .int .i64 ((rd data313 j317).Grade)]) (u := (rd data313 j317)) (i := w64 (j317 - 1)) rfl kr HO363 HS362 hA370 (kv (.pointer (some ⟨b368, of369 + (w64 (j317 - 1) : Int).toNat * 2, none⟩))) (kv (.agg #[.int .i64 ((rd data313 j317).ID), .int .i64 ((rd data313 j317).Grade)])) rfl rfl c333 c364 ?_)
       intro W371 s372 HS373 HO374
       refine ⟨(Sg.g1 (Sx.of [s372] fL HS373) (fun hl_ => Bool.noConfusion (show true = false from hl_))), ?_⟩
       refine gateRwS 0 (A := A1) (m := (data313.set (j317).toNat (rd data313 (w64 (j317 - 1)))).length) (n := ((data313.set (j317).toNat (rd data313 (w64 (j317 - 1)))).set (w64 (j317 - 1)).toNat (rd data313 j317)).length) (c := c2) kr (List.length_set).symm ?_
       refine gateRwS 23 (A := A1) (m := (data313.set (j317).toNat (rd data313 (w64 (j317 - 1)))).length) (n := ((data313.set (j317).toNat (rd data313 (w64 (j317 - 1)))).set (w64 (j317 - 1)).toNat (rd data313 j317)).length) (c := c2) kr (List.length_set).symm ?_
       refine gateRwS 27 (A := A1) (m := (data313.set (j317).toNat (rd data313 (w64 (j317 - 1)))).length) (n := ((data313.set (j317).toNat (rd data313 (w64 (j317 - 1)))).set (w64 (j317 - 1)).toNat (rd data313 j317)).length) (c := c2) kr (List.length_set).symm ?_
       refine gateRwS 37 (A := A1) (m := (data313.set (j317).toNat (rd data313 (w64 (j317 - 1)))).length) (n := ((data313.set (j317).toNat (rd data313 (w64 (j317 - 1)))).set (w64 (j317 - 1)).toNat (rd data313 j317)).length) (c := c2) kr (List.length_set).symm ?_
       refine gateRwS 39 (A := A1) (m := (data313.set (j317).toNat (rd data313 (w64 (j317 - 1)))).length) (n := ((data313.set (j317).toNat (rd data313 (w64 (j317 - 1)))).set (w64 (j317 - 1)).toNat (rd data313 j317)).length) (c := c2) kr (List.length_set).symm ?_
       refine gateRwS 42 (A := A1) (m := (data313.set (j317).toNat (rd data313 (w64 (j317 - 1)))).length) (n := ((data313.set (j317).toNat (rd data313 (w64 (j317 - 1)))).set (w64 (j317 - 1)).toNat (rd data313 j317)).length) (c := c2) kr (List.length_set).symm ?_
       refine gateRwS 47 (A := A1) (m := (data313.set (j317).toNat (rd data313 (w64 (j317 - 1)))).length) (n := ((data313.set (j317).toNat (rd data313 (w64 (j317 - 1)))).set (w64 (j317 - 1)).toNat (rd data313 j317)).length) (c := c2) kr (List.length_set).symm ?_
       refine doneG kr ?_ _
       refine hn353 _ _ ?_
       refine hK350 _ _ ?_
       refine rl ?_
       refine seqL3 kr ?_
       refine nl ?_
       refine hK306 n307 _ _ (Nat.lt_succ_self _) ?_
       exact ⟨f343, s372, ((data313.set (j317).toNat (rd data313 (w64 (j317 - 1)))).set (w64 (j317 - 1)).toNat (rd data313 j317)), (w64 (j317 - 1)), (jL [iV j317, iV a7, tV, tV, .func (.func 57) #[] #[], .slice A1 ((data313.set (j317).toNat (rd data313 (w64 (j317 - 1)))).set (w64 (j317 - 1)).toNat (rd data313 j317)).length c2, iV j317, .pointer (some ⟨b330, of331 + (j317 : Int).toNat * 2, none⟩), .agg #[.int .i64 ((rd data313 j317).ID), .int .i64 ((rd data313 j317).Grade)], .slice A1 ((data313.set (j317).toNat (rd data313 (w64 (j317 - 1)))).set (w64 (j317 - 1)).toNat (rd data313 j317)).length c2, iV j317, iV (w64 (j317 - 1)), .pointer (some ⟨b338, of339 + (w64 (j317 - 1) : Int).toNat * 2, none⟩), .agg #[.int .i64 ((rd data313 (w64 (j317 - 1))).ID), .int .i64 ((rd data313 (w64 (j317 - 1))).Grade)], iV vt341, tV, tV, iV j317, iV (w64 (j317 - 1)), .slice A1 ((data313.set (j317).toNat (rd data313 (w64 (j317 - 1)))).set (w64 (j317 - 1)).toNat (rd data313 j317)).length c2, iV j317, .slice A1 ((data313.set (j317).toNat (rd data313 (w64 (j317 - 1)))).set (w64 (j317 - 1)).toNat (rd data313 j317)).length c2, iV j317, iV (w64 (j317 - 1)), .slice A1 ((data313.set (j317).toNat (rd data313 (w64 (j317 - 1)))).set (w64 (j317 - 1)).toNat (rd data313 j317)).length c2, iV j317, iV (w64 (j317 - 1)), .pointer (some ⟨b338, of339 + (w64 (j317 - 1) : Int).toNat * 2, none⟩), .agg #[.int .i64 ((rd data313 (w64 (j317 - 1))).ID), .int .i64 ((rd data313 (w64 (j317 - 1))).Grade)], .slice A1 ((data313.set (j317).toNat (rd data313 (w64 (j317 - 1)))).set (w64 (j317 - 1)).toNat (rd data313 j317)).length c2, iV j317, .pointer (some ⟨b330, of331 + (j317 : Int).toNat * 2, none⟩), .agg #[.int .i64 ((rd data313 j317).ID), .int .i64 ((rd data313 j317).Grade)], .pointer (some ⟨b330, of331 + (j317 : Int).toNat * 2, none⟩), .pointer (some ⟨b368, of369 + (w64 (j317 - 1) : Int).toNat * 2, none⟩)]), (L309.trans L344), HS373, HO374, (List.length_set.trans (List.length_set.trans HL316)), h, kr⟩
     · have c348 : ¬ (vt341 < 0) := c348
       refine wpRwI 33 kr (decide_eq_false c348) ?_
       refine wpRwI 34 kr (decide_eq_false c348) ?_
       refine condF kr ?_
       refine wp_exit ?_
       refine hx232 _ _ ?_
       exact J385 f343 s314 data313 (jL [iV j317, iV j317, iV a7, tV, tV, .func (.func 57) #[] #[], .slice A1 data313.length c2, iV j317, .pointer (some ⟨b330, of331 + (j317 : Int).toNat * 2, none⟩), .agg #[.int .i64 ((rd data313 j317).ID), .int .i64 ((rd data313 j317).Grade)], .slice A1 data313.length c2, iV j317, iV (w64 (j317 - 1)), .pointer (some ⟨b338, of339 + (w64 (j317 - 1) : Int).toNat * 2, none⟩), .agg #[.int .i64 ((rd data313 (w64 (j317 - 1))).ID), .int .i64 ((rd data313 (w64 (j317 - 1))).Grade)], iV vt341, fV, fV, (j312 17), (j312 18), (j312 19), (j312 20), (j312 21), (j312 22), (j312 23), (j312 24), (j312 25), (j312 26), (j312 27), (j312 28), (j312 29), (j312 30), (j312 31), (j312 32), (j312 33), (j312 34)]) W345 _ (L309.trans L344) h HS346 (HO315.mono L344) HL316 kr
   · have c324 : ¬ (j317 > a7) := c324
     refine gateRwI 20 (x := (decide (j317 > a7))) (v := false) kr (decide_eq_false c324) ?_
     refine gateRwI 21 (x := (decide (j317 > a7))) (v := false) kr (decide_eq_false c324) ?_
     refine takeGL [4, 5, 6, 7, 8, 9, 10, 11, 12, 13, 14, 15, 16] (n := 13) (fuel := 0) #[true, true, true, true, true, true, true, true, true, true, true, true, true, true, true, true, true] rfl kr kr kr (fun ch_ a_ w_ q_ => (fun ch_ a_ w_ q_ => (fun ch_ a_ w_ q_ => hnp ch_ a_ w_ (hp16 ch_ a_ w_ q_)) ch_ a_ w_ (hp227 ch_ a_ w_ q_)) ch_ a_ w_ (hp236 ch_ a_ w_ q_)) (Sg.g0 (Sx.of [] fL HS323)) ?_
     refine doneG kr ?_ _
     refine hK321 _ _ ?_
     refine condF kr ?_
     refine wp_exit ?_
     refine hx232 _ _ ?_
     exact J385 f308 s314 data313 (jL [iV j317, iV j317, iV a7, fV, fV, uV, uV, uV, uV, uV, uV, uV, uV, uV, uV, uV, uV, fV, (j312 17), (j312 18), (j312 19), (j312 20), (j312 21), (j312 22), (j312 23), (j312 24), (j312 25), (j312 26), (j312 27), (j312 28), (j312 29), (j312 30), (j312 31), (j312 32), (j312 33), (j312 34)]) W322 _ L309 h HS323 HO315 HL316 kr
 · have c219 : ¬ (i213 < b8) := c219
   refine wpRwI 14 kr (decide_eq_false c219) ?_
   refine condF kr ?_
   refine wp_exit ?_
   refine hx12 _ _ ?_
   exact J397 f204 s210 data209 (jL [iV i213, (j208 0), iV i213, iV b8, fV, (j208 4), (j208 5), (j208 6), (j208 7), (j208 8), (j208 9), (j208 10), (j208 11), (j208 12), (j208 13), (j208 14), (j208 15), (j208 16), (j208 17), (j208 18), (j208 19), (j208 20), (j208 21), (j208 22), (j208 23), (j208 24), (j208 25), (j208 26), (j208 27), (j208 28), (j208 29), (j208 30), (j208 31), (j208 32), (j208 33), (j208 34), (j208 35), (j208 36), (j208 37), (j208 38), (j208 39), (j208 40), (j208 41)]) W206 _ L205 h HS207 HO211 HL212 kr

set_option maxRecDepth 100000 in
set_option maxHeartbeats 4000000 in
theorem slices_pdqsortCmpFunc_Answer__query_Index_Run_3.calls (k : Nat) (A1 : Option Addr) (c2 : Nat) (s3 : Seg) (data5 : List S_Answer) (a7 : Int) (b8 : Int) (limit9 : Int) {t w : World} {f : FM} {H : List Seg} (HS : St t w f (s3 :: H)) (HO4 : Own ty_Answer 62 f A1 c2 s3 data5) (rr1 : List S_Answer) (h : slices_pdqsortCmpFunc_Answer__query_Index_Run_3 k data5 a7 b8 limit9 = some rr1) :
    Calls Tryz.prog 88 #[.slice A1 data5.length c2, .int .i64 a7, .int .i64 b8, .int .i64 limit9, .func (.func 57) #[] #[]] w (fun e w' => ∃ (g : FM) (s66 : Seg), e = .returned (Value.tuple #[]) ∧ FM.le f g ∧ St t w' g (s66 :: H) ∧ Own ty_Answer 62 g A1 c2 s66 rr1 ∧ rr1.length = data5.length) := by
 unfold slices_pdqsortCmpFunc_Answer__query_Index_Run_3 at h
 refine enter Tryz.func88 rfl (tm := #[.slice A1 data5.length c2, iV a7, iV b8, iV limit9, .func (.func 57) #[] #[], uV, uV, uV, uV, uV, uV, uV, uV, uV, uV, uV, uV, uV, uV, uV, uV, uV, uV, uV, uV, uV, uV, uV, uV, uV, uV, uV, uV, uV, uV, uV, uV, uV, uV, uV, uV, uV, uV, uV, uV, uV, uV, uV, uV, uV, uV, uV, uV, uV, uV, uV, uV, uV, uV, uV, uV, uV, uV, uV, uV, uV, uV, uV, uV, uV, uV, uV, uV, uV, uV, uV, uV, uV, uV, uV, uV, uV, uV, uV, uV, uV, uV, uV, uV, uV, uV, uV, uV, uV, uV, uV, uV, uV, uV, uV, uV, uV, uV, uV, uV, uV, uV, uV, uV, uV, uV, uV, uV, uV, uV, uV, uV, uV, uV, uV, uV, uV, uV, uV, uV, uV, uV, uV, uV, uV, uV, uV, uV, uV, uV, uV, uV, uV, uV, uV, uV, uV, uV, uV, uV, uV, uV, uV]) kr ?_
 intro B hret hnor hnp
 refine wp_seq_k fun K10 hK11 => rl ?_
 refine seqL1 kr ?_
 refine nl (hK11 _ _ ?_)
 refine wp_seq_k fun K12 hK13 => rl ?_
 refine seqL1 kr ?_
 refine nl (hK13 _ _ ?_)
 refine blockK (fun B14 hx15 hn16 hr17 ho18 hp19 => ?_)
 have hq_ := bind_some h; clear h; obtain ⟨o20, hv64, h⟩ := hq_
 have JR65 : ∀ z_, some (Sum.inl z_) = some o20 → some z_ = some rr1 := by
  intro z_ e_; injection e_ with e_; subst e_; exact h
 clear h; have h := hv64; clear hv64
 refine loopK (fun n_ a_ w_ => ∃ (f24 : FM) (a29 : Int) (b30 : Int) (limit31 : Int) (wasBalanced32 : Bool) (wasPartitioned33 : Bool) (j28 : Nat → Value), FM.le f f24 ∧ St t w_ f24 (s3 :: H) ∧ slices_pdqsortCmpFunc_Answer__query_Index_Run_3.l0 k data5 n_ a29 b30 limit31 wasBalanced32 wasPartitioned33 = some o20 ∧ a_ = ⟨#[.slice A1 data5.length c2, iV a29, iV b30, iV limit31, .func (.func 57) #[] #[], uV, uV, uV, uV, uV, .bool wasBalanced32, .bool wasPartitioned33, (j28 0), (j28 1), (j28 2), (j28 3), (j28 4), (j28 5), (j28 6), (j28 7), (j28 8), (j28 9), (j28 10), (j28 11), (j28 12), (j28 13), (j28 14), (j28 15), (j28 16), (j28 17), (j28 18), (j28 19), (j28 20), (j28 21), (j28 22), (j28 23), (j28 24), (j28 25), (j28 26), (j28 27), (j28 28), (j28 29), (j28 30), (j28 31), (j28 32), (j28 33), (j28 34), (j28 35), (j28 36), (j28 37), (j28 38), (j28 39), (j28 40), (j28 41), (j28 42), (j28 43), (j28 44), (j28 45), (j28 46), (j28 47), (j28 48), (j28 49), (j28 50), (j28 51), (j28 52), (j28 53), (j28 54), (j28 55), (j28 56), (j28 57), (j28 58), (j28 59), (j28 60), (j28 61), (j28 62), (j28 63), (j28 64), (j28 65), (j28 66), (j28 67), (j28 68), (j28 69), (j28 70), (j28 71), (j28 72), (j28 73), (j28 74), (j28 75), (j28 76), (j28 77), (j28 78), (j28 79), (j28 80), (j28 81), (j28 82), (j28 83), (j28 84), (j28 85), (j28 86), (j28 87), (j28 88), (j28 89), (j28 90), (j28 91), (j28 92), (j28 93), (j28 94), (j28 95), (j28 96), (j28 97), (j28 98), (j28 99), (j28 100), (j28 101), (j28 102), (j28 103), (j28 104), (j28 105), (j28 106), (j28 107), (j28 108), (j28 109), (j28 110), (j28 111), (j28 112), (j28 113), (j28 114), (j28 115), (j28 116), (j28 117), (j28 118), (j28 119), (j28 120), (j28 121), (j28 122), (j28 123), (j28 124), (j28 125), (j28 126), (j28 127), (j28 128), (j28 129), (j28 130), (j28 131), (j28 132), (j28 133), (j28 134), (j28 135)], []⟩) k ⟨f, a7, b8, limit9, true, true, (jL []), fL, HS, h, kr⟩ ?_
 clear h
 rintro n23 _ W26 ⟨f24, a29, b30, limit31, wasBalanced32, wasPartitioned33, j28, L25, HS27, h, rfl⟩ K21 hK22
 obtain _ | n23 := n23
 · exact nomatch h
 simp only [slices_pdqsortCmpFunc_Answer__query_Index_Run_3.l0] at h
 refine blockK (fun B34 hx35 hn36 hr37 ho38 hp39 => ?_)
 refine wp_seq_k fun K41 hK42 => rl ?_
 refine seqL4 kr ?_
 refine nl (hK42 _ _ ?_)
 refine wp_seq_k (fun K43 hK44 => ?_)
 refine wp_seq_k fun K45 hK46 => rl ?_
 refine seqL2 kr ?_
 refine nl (hK46 _ _ ?_)
 have hq_ := ite_some h; clear h; rcases hq_ with ⟨c48, h⟩ | ⟨c48, h⟩
 · have c48 : (w64 (b30 - a29)) ≤ 12 := c48
   refine wpRwI 25 kr (decide_eq_true c48) ?_
   refine condT kr ?_
   refine wp_seq_k fun K49 hK50 => rl ?_
   have hq_ := bind_some h; clear h; obtain ⟨vt51, hc52, h⟩ := hq_
   refine seqL4 kr ?_
   refine seqK rfl (does_call (f := 102) (args := #[.slice A1 data5.length c2, .int .i64 a29, .int .i64 b30, .func (.func 57) #[] #[]]) kr (slices_insertionSortCmpFunc_Answer__query_Index_Run_3.calls k A1 c2 s3 data5 a29 b30 HS27 (HO4.mono L25) vt51 hc52) ?_)
   rintro _ W55 ⟨f53, s57, rfl, L54, HS56, HO58, HL59⟩
   refine ⟨_, rfl, ?_⟩
   refine seqRwS 0 (A := A1) (m := data5.length) (n := vt51.length) (c := c2) kr (HL59).symm ?_
   refine seqRwS 26 (A := A1) (m := data5.length) (n := vt51.length) (c := c2) kr (HL59).symm ?_
   refine nl (hK50 _ _ ?_)
   refine wp_ret ?_
   refine hr37 _ _ ?_
   refine hr17 _ _ ?_
   refine hret _ _ ?_
   refine ends_still (v := Value.tuple #[]) kr kr ?_
   replace h := JR65 _ h
   injection h with h
   subst h
   exact ⟨f53, s57, rfl, (L25.trans L54), HS56, HO58, HL59⟩
 · have c48 : ¬ ((w64 (b30 - a29)) ≤ 12) := c48
   refine wpRwI 25 kr (decide_eq_false c48) ?_
   refine condF kr ?_
   refine wp_skip ?_
   refine hK44 _ _ ?_
   refine wp_seq_k (fun K60 hK61 => ?_)
   refine wp_seq_k (fun K62 hK63 => ?_)
   exact nomatch h

set_option maxRecDepth 100000 in
set_option maxHeartbeats 4000000 in
theorem slices_SortFunc_Answer__query_Index_Run_3.calls (k : Nat) (A1 : Option Addr) (c2 : Nat) (s3 : Seg) (x5 : List S_Answer) {t w : World} {f : FM} {H : List Seg} (HS : St t w f (s3 :: H)) (HO4 : Own ty_Answer 62 f A1 c2 s3 x5) (rr1 : List S_Answer) (h : slices_SortFunc_Answer__query_Index_Run_3 k x5 = some rr1) :
    Calls Tryz.prog 56 #[.slice A1 x5.length c2, .func (.func 57) #[] #[]] w (fun e w' => ∃ (g : FM) (s24 : Seg), e = .returned (Value.tuple #[]) ∧ FM.le f g ∧ St t w' g (s24 :: H) ∧ Own ty_Answer 62 g A1 c2 s24 rr1 ∧ rr1.length = x5.length) := by
 unfold slices_SortFunc_Answer__query_Index_Run_3 at h
 refine enter Tryz.func56 rfl (tm := #[.slice A1 x5.length c2, .func (.func 57) #[] #[], uV, uV, uV, uV, uV, uV, uV, uV, uV, uV, uV, uV]) kr ?_
 intro B hret hnor hnp
 refine wp_seq_k fun K7 hK8 => rl ?_
 refine seqL3 kr ?_
 refine nl (hK8 _ _ ?_)
 refine rl ?_
 have hq_ := bind_some h; clear h; obtain ⟨vt9, hc10, h⟩ := hq_
 refine seqL4 kr ?_
 refine seqK rfl (does_call (f := 89) (args := #[.int .u64 (u64 ((x5.length : Int)))]) kr (bits_Len.calls k (u64 ((x5.length : Int))) HS vt9 hc10) ?_)
 rintro _ W13 ⟨f11, rfl, L12, HS14⟩
 refine ⟨_, rfl, ?_⟩
 have hq_ := bind_some h; clear h; obtain ⟨vt15, hc16, h⟩ := hq_
 refine seqL1 kr ?_
 refine seqK rfl (does_call (f := 88) (args := #[.slice A1 x5.length c2, .int .i64 0, .int .i64 (x5.length : Int), .int .i64 vt9, .func (.func 57) #[] #[]]) kr (slices_pdqsortCmpFunc_Answer__query_Index_Run_3.calls k A1 c2 s3 x5 0 (x5.length : Int) vt9 HS14 (HO4.mono L12) vt15 hc16) ?_)
 rintro _ W19 ⟨f17, s21, rfl, L18, HS20, HO22, HL23⟩
 refine ⟨_, rfl, ?_⟩
 refine seqRwS 0 (A := A1) (m := x5.length) (n := vt15.length) (c := c2) kr (HL23).symm ?_
 refine seqRwS 5 (A := A1) (m := x5.length) (n := vt15.length) (c := c2) kr (HL23).symm ?_
 refine seqRwS 7 (A := A1) (m := x5.length) (n := vt15.length) (c := c2) kr (HL23).symm ?_
 refine nl ?_
 refine hnor _ _ ?_
 refine ends_still (v := Value.tuple #[]) kr kr ?_
 injection h with h
 subst h
 exact ⟨f17, s21, rfl, (L12.trans L18), HS20, HO22, HL23⟩

end Go.Sp.J7
