import Derived.Test.YtiibkbligihgoaaGreatProg
import Derived.Test.YtiibkbligihgoaaGreatSpCopy
import Derived.Test.YtiibkbligihgoaaGreatFQ5
import Derived.Test.YtiibkbligihgoaaGreatShelf
import Derived.Test.YtiibkbligihgoaaGreatSpMapR
import Derived.Test.YtiibkbligihgoaaGreatSpKeys
import Derived.Test.YtiibkbligihgoaaGreatSpRound
import Derived.Test.YtiibkbligihgoaaGreatKQ5n0
import Derived.Test.YtiibkbligihgoaaGreatKQ5n1
namespace Go.Sp.Q5
open Go Go.Sp Go.Proofs
set_option linter.unusedVariables false
attribute [local irreducible] wpList AnyL Code.wp Calls Does Code.wpIn wpListIn CallsIn bodyPostM LeavesInM
set_option maxRecDepth 100000 in
set_option maxHeartbeats 4000000 in
theorem catalog_CheckRow.calls (k : Nat) (A2 : Option Addr) (c3 : Nat) (r1 : S_Row) {t w : World} {f : FM} {H : List Seg} (HS : St t w f (H)) (HR4 : SlR (tInt .i64) f A2 c3 r1.Frames) (rr1 : Int) (h : catalog_CheckRow k r1 = some rr1) :
    Calls Tryz.prog 72 #[.agg #[.int .i64 r1.ID, .int .i64 r1.Box.X.Lo, .int .i64 r1.Box.X.Hi, .bool r1.Box.X.Unknown, .int .i64 r1.Box.Y.Lo, .int .i64 r1.Box.Y.Hi, .bool r1.Box.Y.Unknown, .int .i64 r1.Box.Z.Lo, .int .i64 r1.Box.Z.Hi, .bool r1.Box.Z.Unknown, .int .i64 r1.Flux.Lo, .int .i64 r1.Flux.Hi, .bool r1.Flux.Unknown, .int .i64 r1.When.Lo, .int .i64 r1.When.Hi, .bool r1.When.Unknown, .slice A2 r1.Frames.length c3, .int .i64 r1.Marks]] w (fun e w' => ∃ (g : FM), e = .returned (Value.int .i64 rr1) ∧ FM.le f g ∧ St t w' g (H)) := by
 unfold catalog_CheckRow at h
 refine enter Tryz.func72 rfl (tm := #[(ag_Row r1 A2 c3), uV, uV, uV, uV, uV, uV, uV, uV, uV, uV, uV, uV, uV, uV, uV, uV, uV, uV, uV, uV, uV, uV, uV, uV, uV, uV, uV, uV, uV, uV, uV, uV, uV, uV, uV, uV, uV, uV, uV, uV, uV, uV, uV, uV, uV, uV, uV, uV, uV, uV, uV, uV, uV, uV, uV, uV, uV, uV, uV, uV, uV, uV, uV, uV, uV, uV, uV, uV, uV, uV, uV, uV, uV, uV, uV, uV, uV, uV, uV, uV, uV, uV, uV, uV, uV, uV, uV, uV, uV, uV, uV, uV, uV]) kr ?_
 intro B hret hnor hnp
 refine wp_seq_k fun K5 hK6 => rl ?_
 refine seqK rfl (does_box (cs := #[.int .i64 r1.ID, .int .i64 r1.Box.X.Lo, .int .i64 r1.Box.X.Hi, .bool r1.Box.X.Unknown, .int .i64 r1.Box.Y.Lo, .int .i64 r1.Box.Y.Hi, .bool r1.Box.Y.Unknown, .int .i64 r1.Box.Z.Lo, .int .i64 r1.Box.Z.Hi, .bool r1.Box.Z.Unknown, .int .i64 r1.Flux.Lo, .int .i64 r1.Flux.Hi, .bool r1.Flux.Unknown, .int .i64 r1.When.Lo, .int .i64 r1.When.Hi, .bool r1.When.Unknown, .slice A2 r1.Frames.length c3, .int .i64 r1.Marks]) rfl (kv (.agg #[.int .i64 r1.ID, .int .i64 r1.Box.X.Lo, .int .i64 r1.Box.X.Hi, .bool r1.Box.X.Unknown, .int .i64 r1.Box.Y.Lo, .int .i64 r1.Box.Y.Hi, .bool r1.Box.Y.Unknown, .int .i64 r1.Box.Z.Lo, .int .i64 r1.Box.Z.Hi, .bool r1.Box.Z.Unknown, .int .i64 r1.Flux.Lo, .int .i64 r1.Flux.Hi, .bool r1.Flux.Unknown, .int .i64 r1.When.Lo, .int .i64 r1.When.Hi, .bool r1.When.Unknown, .slice A2 r1.Frames.length c3, .int .i64 r1.Marks])) rfl HS ?_)
 intro b7 W8 HS9
 refine seqL1 kr ?_
 refine nl (hK6 _ _ ?_)
 refine wp_seq_k (fun K11 hK12 => ?_)
 refine wp_seq_k fun K13 hK14 => rl ?_
 refine seqL1 kr ?_
 refine seqK rfl (does_run (run_load rfl Tryz.underlying3 rfl (kv (.pointer (some ⟨b7, 0, none⟩))) (HS9.cell 0)) ?_)
 refine seqL2 kr ?_
 have hq_ := ite_some h; clear h; rcases hq_ with ⟨c15, h⟩ | ⟨c15, h⟩
 · have c15 : r1.ID < 1 := c15
   refine seqRwI 11 kr (decide_eq_true c15) ?_
   refine seqRwI 12 kr (decide_eq_true c15) ?_
   refine seqL4 kr ?_
   refine nl (hK14 _ _ ?_)
   refine condT kr ?_
   refine wp_seq_k fun K16 hK17 => rl ?_
   refine seqL1 kr ?_
   refine nl (hK17 _ _ ?_)
   refine wp_ret ?_
   refine hret _ _ ?_
   refine ends_still (v := Value.int .i64 4) kr kr ?_
   have HS254 := HS9.drop
   injection h with h
   subst h
   exact ⟨f, rfl, FM.le.refl _, HS254⟩
 · have c15 : ¬ (r1.ID < 1) := c15
   refine seqRwI 11 kr (decide_eq_false c15) ?_
   refine seqRwI 12 kr (decide_eq_false c15) ?_
   refine seqL1 kr ?_
   refine seqG kr (does_run (run_load rfl Tryz.underlying3 rfl (kv (.pointer (some ⟨b7, 0, none⟩))) (HS9.cell 0)) ?_)
   refine seqL2 kr ?_
   refine nl (hK14 _ _ ?_)
   have hq_ := ite_some h; clear h; rcases hq_ with ⟨c19, h⟩ | ⟨c19, h⟩
   · have c19 : r1.ID > 2147483647 := c19
     refine wpRwI 15 kr (decide_eq_true c19) ?_
     refine wpRwI 16 kr (decide_eq_true c19) ?_
     refine condT kr ?_
     refine wp_seq_k fun K20 hK21 => rl ?_
     refine seqL1 kr ?_
     refine nl (hK21 _ _ ?_)
     refine wp_ret ?_
     refine hret _ _ ?_
     refine ends_still (v := Value.int .i64 4) kr kr ?_
     have HS255 := HS9.drop
     injection h with h
     subst h
     exact ⟨f, rfl, FM.le.refl _, HS255⟩
   · have c19 : ¬ (r1.ID > 2147483647) := c19
     refine wpRwI 15 kr (decide_eq_false c19) ?_
     refine wpRwI 16 kr (decide_eq_false c19) ?_
     refine condF kr ?_
     refine wp_skip ?_
     refine hK12 _ _ ?_
     refine wp_seq_k (fun K22 hK23 => ?_)
     refine wp_seq_k fun K24 hK25 => rl ?_
     refine seqL2 kr ?_
     refine seqK rfl (does_run (run_loadN (n := 3) rfl Tryz.underlying29 rfl kr (kv (.pointer (some ⟨b7, 1, none⟩))) (cs := [.int .i64 r1.Box.X.Lo, .int .i64 r1.Box.X.Hi, .bool r1.Box.X.Unknown]) rfl (HS9.cells 1 3 _ rfl)) ?_)
     refine seqL2 kr ?_
     refine seqK rfl (does_run (run_loadN (n := 3) rfl Tryz.underlying29 rfl kr (kv (.pointer (some ⟨b7, 4, none⟩))) (cs := [.int .i64 r1.Box.Y.Lo, .int .i64 r1.Box.Y.Hi, .bool r1.Box.Y.Unknown]) rfl (HS9.cells 4 3 _ rfl)) ?_)
     refine seqL2 kr ?_
     refine seqK rfl (does_run (run_loadN (n := 3) rfl Tryz.underlying29 rfl kr (kv (.pointer (some ⟨b7, 7, none⟩))) (cs := [.int .i64 r1.Box.Z.Lo, .int .i64 r1.Box.Z.Hi, .bool r1.Box.Z.Unknown]) rfl (HS9.cells 7 3 _ rfl)) ?_)
     refine seqL2 kr ?_
     refine nl (hK25 _ _ ?_)
     refine blockK (fun B26 hx27 hn28 hr29 ho30 hp31 => ?_)
     have hq_ := bind_some h; clear h; obtain ⟨o32, hv85, h⟩ := hq_
     have JR87 : ∀ z_, some (Sum.inl z_) = some o32 → some z_ = some rr1 := by
      intro z_ e_; injection e_ with e_; subst e_; exact h
     have J86 : ∀ (f80 : FM) (j84 : Nat → Value) (W82 : World) (a_ : Act), FM.le f f80 → some (Sum.inr ()) = some o32 → St t W82 f80 ([(b7, .cells #[.int .i64 r1.ID, .int .i64 r1.Box.X.Lo, .int .i64 r1.Box.X.Hi, .bool r1.Box.X.Unknown, .int .i64 r1.Box.Y.Lo, .int .i64 r1.Box.Y.Hi, .bool r1.Box.Y.Unknown, .int .i64 r1.Box.Z.Lo, .int .i64 r1.Box.Z.Hi, .bool r1.Box.Z.Unknown, .int .i64 r1.Flux.Lo, .int .i64 r1.Flux.Hi, .bool r1.Flux.Unknown, .int .i64 r1.When.Lo, .int .i64 r1.When.Hi, .bool r1.When.Unknown, .slice A2 r1.Frames.length c3, .int .i64 r1.Marks] 99 (0, 0))] :: H) → a_ = ⟨#[(ag_Row r1 A2 c3), pV b7 0, (j84 0), uV, (j84 1), (j84 2), uV, uV, uV, pV b7 0, iV r1.ID, fV, fV, pV b7 0, iV r1.ID, fV, fV, pV b7 1, pV b7 1, (ag_Bound r1.Box.X), pV b7 1, pV b7 4, (ag_Bound r1.Box.Y), pV b7 1, pV b7 7, (ag_Bound r1.Box.Z), .agg #[iV r1.Box.X.Lo, iV r1.Box.X.Hi, .bool r1.Box.X.Unknown, iV r1.Box.Y.Lo, iV r1.Box.Y.Hi, .bool r1.Box.Y.Unknown, iV r1.Box.Z.Lo, iV r1.Box.Z.Hi, .bool r1.Box.Z.Unknown], (j84 3), (j84 4), (j84 5), (j84 6), (j84 7), (j84 8), (j84 9), (j84 10), (j84 11), uV, uV, uV, uV, uV, uV, uV, uV, uV, uV, uV, uV, uV, uV, uV, uV, uV, uV, uV, uV, uV, uV, uV, uV, uV, uV, uV, uV, uV, uV, uV, uV, uV, uV, uV, uV, uV, uV, uV, uV, uV, uV, uV, uV, uV, uV, uV, uV, uV, uV, uV, uV, uV, uV, uV, uV, uV, uV], []⟩ → K22 a_ W82 := by
      intro f80 j84 W82 a_ L81 hj88 HS83  hfr_; subst hfr_
      injection hj88 with hj88; subst hj88; try dsimp only at h
      simp only [Sum.elim_inr] at h
      refine hK23 _ _ ?_
      refine wp_seq_k (fun K92 hK93 => ?_)
      refine wp_seq_k (fun K94 hK95 => ?_)
      refine heldG (S := Sg t f80 ([(b7, .cells #[.int .i64 r1.ID, .int .i64 r1.Box.X.Lo, .int .i64 r1.Box.X.Hi, .bool r1.Box.X.Unknown, .int .i64 r1.Box.Y.Lo, .int .i64 r1.Box.Y.Hi, .bool r1.Box.Y.Unknown, .int .i64 r1.Box.Z.Lo, .int .i64 r1.Box.Z.Hi, .bool r1.Box.Z.Unknown, .int .i64 r1.Flux.Lo, .int .i64 r1.Flux.Hi, .bool r1.Flux.Unknown, .int .i64 r1.When.Lo, .int .i64 r1.When.Hi, .bool r1.When.Unknown, .slice A2 r1.Frames.length c3, .int .i64 r1.Marks] 99 (0, 0))] :: H) []) (n := 9) kr rfl HS83 ?_
      intro W96 HS97
      refine takeGL [0] (n := 9) (fuel := 8) #[true, false, false, false, false, false, false, false, false] rfl kr kr kr hnp (Sg.g0 (Sx.of [] fL HS97)) ?_
      refine takeGQ 1 [] rfl kr kr kr kr kr kr hnp (Sg.g0 (Sx.of [] fL HS97)) (fun w_ hw_ => by obtain ⟨g_, hl_, hS_⟩ := hw_.st; exact run_loadN (n := 3) rfl Tryz.underlying95 rfl kr (kv (.pointer (some ⟨b7, 10, none⟩))) (cs := [.int .i64 r1.Flux.Lo, .int .i64 r1.Flux.Hi, .bool r1.Flux.Unknown]) rfl (hS_.cells 10 3 _ rfl)) ?_
      refine takeGL [3] (n := 7) (fuel := 6) #[true, true, false, true, false, false, false, false, false] rfl kr kr kr hnp (Sg.g0 (Sx.of [] fL HS97)) ?_
      refine takeGQ 4 [] rfl kr kr kr kr kr kr hnp (Sg.g0 (Sx.of [] fL HS97)) (fun w_ hw_ => by obtain ⟨g_, hl_, hS_⟩ := hw_.st; exact run_loadN (n := 3) rfl Tryz.underlying97 rfl kr (kv (.pointer (some ⟨b7, 13, none⟩))) (cs := [.int .i64 r1.When.Lo, .int .i64 r1.When.Hi, .bool r1.When.Unknown]) rfl (hS_.cells 13 3 _ rfl)) ?_
      have hq_ := bind_some h; clear h; obtain ⟨vt98, hc99, h⟩ := hq_
      refine takeGE 2 kr rfl kr (does_call (f := 98) (args := #[.agg #[.int .i64 r1.Flux.Lo, .int .i64 r1.Flux.Hi, .bool r1.Flux.Unknown], .int .i64 1125899906842624]) kr (catalog_ends_Quanta.calls k r1.Flux 1125899906842624 HS97 vt98 hc99) ?_)
      rintro _ W102 ⟨f100, rfl, L101, HS103⟩
      refine ⟨_, rfl, ?_⟩
      refine ⟨(Sg.g0 (Sx.of [] L101 HS103)), ?_⟩
      have hq_ := bind_some h; clear h; obtain ⟨vt104, hc105, h⟩ := hq_
      refine takeGE 5 kr rfl kr (does_call (f := 99) (args := #[.agg #[.int .i64 r1.When.Lo, .int .i64 r1.When.Hi, .bool r1.When.Unknown], .int .i64 17592186044416]) kr (catalog_ends_Tick.calls k r1.When 17592186044416 HS103 vt104 hc105) ?_)
      rintro _ W108 ⟨f106, rfl, L107, HS109⟩
      refine ⟨_, rfl, ?_⟩
      refine ⟨(Sg.g0 (Sx.of [] (L101.trans L107) HS109)), ?_⟩
      refine takeGE 6 kr rfl kr (does_lit (e := (tInt .i64)) (E := 58) (vs := #[(0, Value.int .i64 vt98), (1, Value.int .i64 vt104)]) (cs := #[.int .i64 vt98, .int .i64 vt104]) (xs := ([vt98, vt104] : List Int)) rfl Tryz.underlying190 kr kr ⟨[.int .i64 vt98], _, rfl, rfl, ⟨[.int .i64 vt104], _, rfl, rfl, rfl⟩⟩ rfl HS109 ?_ (by decide))
      intro b110 W111 s112 HS113 _ HO114
      refine ⟨(Sg.g0 (Sx.of [s112] (L101.trans L107) HS113)), ?_⟩
      obtain ⟨f116, L117, HS118, HR119, th120⟩ := HO114.lend HS113
      have hq_ := bind_some h; clear h; obtain ⟨vt121, hc122, h⟩ := hq_
      refine takeGE 7 kr rfl kr (does_call (f := 97) (args := #[.slice (some ⟨b110, 0, none⟩) ([vt98, vt104] : List Int).length 2]) kr (cmp_Or_Errno.calls k (some ⟨b110, 0, none⟩) 2 ([vt98, vt104] : List Int) HS118 HR119 vt121 hc122) ?_)
      rintro _ W125 ⟨f123, rfl, L124, HS126⟩
      refine ⟨_, rfl, ?_⟩
      obtain ⟨f127, L128, HS129⟩ := th120 L124 HS126
      refine ⟨(Sg.g0 (Sx.of [s112] (L101.trans (L107.trans L128)) HS129)), ?_⟩
      refine takeGL [8] (n := 1) (fuel := 0) #[true, true, true, true, true, true, true, true, true] rfl kr kr kr hnp (Sg.g0 (Sx.of [s112] (L101.trans (L107.trans L128)) HS129)) ?_
      refine doneG kr ?_ _
      refine hK95 _ _ ?_
      refine wp_seq_k fun K130 hK131 => rl ?_
      refine seqL2 kr ?_
      refine nl (hK131 _ _ ?_)
      have hq_ := ite_some h; clear h; rcases hq_ with ⟨c133, h⟩ | ⟨c133, h⟩
      · have c133 : vt121 ≠ 0 := c133
        refine wpRwI 45 kr (bne_iff_ne.mpr c133) ?_
        refine condT kr ?_
        refine wp_seq_k fun K134 hK135 => rl ?_
        refine seqL2 kr ?_
        refine nl (hK135 _ _ ?_)
        refine wp_ret ?_
        refine hret _ _ ?_
        refine ends_still (v := Value.int .i64 vt121) kr kr ?_
        have HS258 := HS129.drop
        have HS259 := HS258.drop
        injection h with h
        subst h
        exact ⟨f127, rfl, (L81.trans (L101.trans (L107.trans L128))), HS259⟩
      · have c133 : ¬ (vt121 ≠ 0) := c133
        refine wpRwI 45 (x := (vt121 != 0)) (v := false) kr (bne_eq_false_iff_eq.mpr (Decidable.of_not_not c133)) ?_
        refine condF kr ?_
        refine wp_skip ?_
        refine hK93 _ _ ?_
        refine wp_seq_k (fun K136 hK137 => ?_)
        refine blockK (fun B138 hx139 hn140 hr141 ho142 hp143 => ?_)
        refine wp_seq_k fun K145 hK146 => rl ?_
        refine seqL1 kr ?_
        refine seqK rfl (does_run (run_load rfl Tryz.underlying22 rfl (kv (.pointer (some ⟨b7, 16, none⟩))) (HS129.u1.cell 16)) ?_)
        refine seqL3 kr ?_
        refine nl (hK146 _ _ ?_)
        have hq_ := ite_some h; clear h; rcases hq_ with ⟨c148, h⟩ | ⟨c148, h⟩
        · have c148 : (r1.Frames.length : Int) = 0 := c148
          refine wpRwI 47 kr (beq_iff_eq.mpr c148) ?_
          refine wpRwI 51 kr (beq_iff_eq.mpr c148) ?_
          refine condT kr ?_
          refine wp_seq_k fun K149 hK150 => rl ?_
          refine seqL1 kr ?_
          refine nl (hK150 _ _ ?_)
          refine wp_ret ?_
          refine hr141 _ _ ?_
          refine hret _ _ ?_
          refine ends_still (v := Value.int .i64 3) kr kr ?_
          have HS260 := HS129.drop
          have HS261 := HS260.drop
          injection h with h
          subst h
          exact ⟨f127, rfl, (L81.trans (L101.trans (L107.trans L128))), HS261⟩
        · have c148 : ¬ ((r1.Frames.length : Int) = 0) := c148
          refine wpRwI 47 kr (beq_eq_false_iff_ne.mpr c148) ?_
          refine wpRwI 51 kr (beq_eq_false_iff_ne.mpr c148) ?_
          refine condF kr ?_
          refine wp_seq_k fun K151 hK152 => rl ?_
          refine seqL1 kr ?_
          refine seqK rfl (does_run (run_load rfl Tryz.underlying22 rfl (kv (.pointer (some ⟨b7, 16, none⟩))) (HS129.u1.cell 16)) ?_)
          refine seqL3 kr ?_
          refine nl (hK152 _ _ ?_)
          have hq_ := ite_some h; clear h; rcases hq_ with ⟨c154, h⟩ | ⟨c154, h⟩
          · have c154 : (r1.Frames.length : Int) > 8 := c154
            refine wpRwI 52 kr (decide_eq_true c154) ?_
            refine wpRwI 56 kr (decide_eq_true c154) ?_
            refine condT kr ?_
            refine wp_seq_k fun K155 hK156 => rl ?_
            refine seqL1 kr ?_
            refine nl (hK156 _ _ ?_)
            refine wp_ret ?_
            refine hr141 _ _ ?_
            refine hret _ _ ?_
            refine ends_still (v := Value.int .i64 2) kr kr ?_
            have HS262 := HS129.drop
            have HS263 := HS262.drop
            injection h with h
            subst h
            exact ⟨f127, rfl, (L81.trans (L101.trans (L107.trans L128))), HS263⟩
          · have c154 : ¬ ((r1.Frames.length : Int) > 8) := c154
            refine wpRwI 52 kr (decide_eq_false c154) ?_
            refine wpRwI 56 kr (decide_eq_false c154) ?_
            refine condF kr ?_
            refine wp_skip ?_
            refine hn140 _ _ ?_
            refine hK137 _ _ ?_
            refine wp_seq_k (fun K157 hK158 => ?_)
            refine wp_seq_k fun K159 hK160 => rl ?_
            refine seqL1 kr ?_
            refine seqK rfl (does_run (run_load rfl Tryz.underlying22 rfl (kv (.pointer (some ⟨b7, 16, none⟩))) (HS129.u1.cell 16)) ?_)
            refine seqL2 kr ?_
            refine nl (hK160 _ _ ?_)
            refine blockK (fun B161 hx162 hn163 hr164 ho165 hp166 => ?_)
            have hq_ := bind_some h; clear h; obtain ⟨o167, hv237, h⟩ := hq_
            have JR239 : ∀ z_, some (Sum.inl z_) = some o167 → some z_ = some rr1 := by
             intro z_ e_; injection e_ with e_; subst e_; exact h
            have J238 : ∀ (f232 : FM) (j236 : Nat → Value) (W234 : World) (a_ : Act), FM.le f127 f232 → some (Sum.inr ()) = some o167 → St t W234 f232 (s112 :: [(b7, .cells #[.int .i64 r1.ID, .int .i64 r1.Box.X.Lo, .int .i64 r1.Box.X.Hi, .bool r1.Box.X.Unknown, .int .i64 r1.Box.Y.Lo, .int .i64 r1.Box.Y.Hi, .bool r1.Box.Y.Unknown, .int .i64 r1.Box.Z.Lo, .int .i64 r1.Box.Z.Hi, .bool r1.Box.Z.Unknown, .int .i64 r1.Flux.Lo, .int .i64 r1.Flux.Hi, .bool r1.Flux.Unknown, .int .i64 r1.When.Lo, .int .i64 r1.When.Hi, .bool r1.When.Unknown, .slice A2 r1.Frames.length c3, .int .i64 r1.Marks] 99 (0, 0))] :: H) → a_ = ⟨#[(ag_Row r1 A2 c3), pV b7 0, (j236 0), uV, (j84 1), (j84 2), iV vt121, (j236 1), (j236 2), pV b7 0, iV r1.ID, fV, fV, pV b7 0, iV r1.ID, fV, fV, pV b7 1, pV b7 1, (ag_Bound r1.Box.X), pV b7 1, pV b7 4, (ag_Bound r1.Box.Y), pV b7 1, pV b7 7, (ag_Bound r1.Box.Z), .agg #[iV r1.Box.X.Lo, iV r1.Box.X.Hi, .bool r1.Box.X.Unknown, iV r1.Box.Y.Lo, iV r1.Box.Y.Hi, .bool r1.Box.Y.Unknown, iV r1.Box.Z.Lo, iV r1.Box.Z.Hi, .bool r1.Box.Z.Unknown], (j84 3), (j84 4), (j84 5), (j84 6), (j84 7), (j84 8), (j84 9), (j84 10), (j84 11), pV b7 10, (ag_Bound r1.Flux), iV vt98, pV b7 13, (ag_Bound r1.When), iV vt104, .slice (some ⟨b110, 0, none⟩) ([vt98, vt104] : List Int).length 2, iV vt121, iV vt121, fV, uV, fV, pV b7 16, .slice A2 r1.Frames.length c3, iV (r1.Frames.length : Int), fV, fV, pV b7 16, .slice A2 r1.Frames.length c3, iV (r1.Frames.length : Int), fV, pV b7 16, .slice A2 r1.Frames.length c3, iV (r1.Frames.length : Int), (j236 3), (j236 4), (j236 5), (j236 6), (j236 7), (j236 8), (j236 9), (j236 10), (j236 11), (j236 12), (j236 13), (j236 14), (j236 15), (j236 16), (j236 17), (j236 18), (j236 19), (j236 20), (j236 21), (j236 22), (j236 23), (j236 24), (j236 25), (j236 26), (j236 27), (j236 28), uV, uV, uV, uV, uV, uV, uV, uV], []⟩ → K157 a_ W234 := by
             intro f232 j236 W234 a_ L233 hj240 HS235  hfr_; subst hfr_
             injection hj240 with hj240; subst hj240; try dsimp only at h
             simp only [Sum.elim_inr] at h
             refine hK158 _ _ ?_
             refine wp_seq_k (fun K241 hK242 => ?_)
             refine wp_seq_k fun K243 hK244 => rl ?_
             refine seqL1 kr ?_
             refine seqK rfl (does_run (run_load rfl Tryz.underlying3 rfl (kv (.pointer (some ⟨b7, 17, none⟩))) (HS235.u1.cell 17)) ?_)
             refine seqL2 kr ?_
             have hq_ := ite_some h; clear h; rcases hq_ with ⟨c245, h⟩ | ⟨c245, h⟩
             · have c245 : r1.Marks < 0 := c245
               refine seqRwI 88 kr (decide_eq_true c245) ?_
               refine seqRwI 89 kr (decide_eq_true c245) ?_
               refine seqL4 kr ?_
               refine nl (hK244 _ _ ?_)
               refine condT kr ?_
               refine wp_seq_k fun K246 hK247 => rl ?_
               refine seqL1 kr ?_
               refine nl (hK247 _ _ ?_)
               refine wp_ret ?_
               refine hret _ _ ?_
               refine ends_still (v := Value.int .i64 4) kr kr ?_
               have HS270 := HS235.drop
               have HS271 := HS270.drop
               injection h with h
               subst h
               exact ⟨f232, rfl, (L81.trans (L101.trans (L107.trans (L128.trans L233)))), HS271⟩
             · have c245 : ¬ (r1.Marks < 0) := c245
               refine seqRwI 88 kr (decide_eq_false c245) ?_
               refine seqRwI 89 kr (decide_eq_false c245) ?_
               refine seqL1 kr ?_
               refine seqG kr (does_run (run_load rfl Tryz.underlying3 rfl (kv (.pointer (some ⟨b7, 17, none⟩))) (HS235.u1.cell 17)) ?_)
               refine seqL2 kr ?_
               refine nl (hK244 _ _ ?_)
               have hq_ := ite_some h; clear h; rcases hq_ with ⟨c249, h⟩ | ⟨c249, h⟩
               · have c249 : r1.Marks > 3 := c249
                 refine wpRwI 92 kr (decide_eq_true c249) ?_
                 refine wpRwI 93 kr (decide_eq_true c249) ?_
                 refine condT kr ?_
                 refine wp_seq_k fun K250 hK251 => rl ?_
                 refine seqL1 kr ?_
                 refine nl (hK251 _ _ ?_)
                 refine wp_ret ?_
                 refine hret _ _ ?_
                 refine ends_still (v := Value.int .i64 4) kr kr ?_
                 have HS272 := HS235.drop
                 have HS273 := HS272.drop
                 injection h with h
                 subst h
                 exact ⟨f232, rfl, (L81.trans (L101.trans (L107.trans (L128.trans L233)))), HS273⟩
               · have c249 : ¬ (r1.Marks > 3) := c249
                 refine wpRwI 92 kr (decide_eq_false c249) ?_
                 refine wpRwI 93 kr (decide_eq_false c249) ?_
                 refine condF kr ?_
                 refine wp_skip ?_
                 refine hK242 _ _ ?_
                 refine wp_seq_k fun K252 hK253 => rl ?_
                 refine seqL1 kr ?_
                 refine nl (hK253 _ _ ?_)
                 refine wp_ret ?_
                 refine hret _ _ ?_
                 refine ends_still (v := Value.int .i64 0) kr kr ?_
                 have HS274 := HS235.drop
                 have HS275 := HS274.drop
                 injection h with h
                 subst h
                 exact ⟨f232, rfl, (L81.trans (L101.trans (L107.trans (L128.trans L233)))), HS275⟩
            clear h; have h := hv237; clear hv237
            refine loopK (fun n_ a_ w_ => ∃ (f171 : FM) (x176 : Int) (j175 : Nat → Value), FM.le f127 f171 ∧ St t w_ f171 (s112 :: [(b7, .cells #[.int .i64 r1.ID, .int .i64 r1.Box.X.Lo, .int .i64 r1.Box.X.Hi, .bool r1.Box.X.Unknown, .int .i64 r1.Box.Y.Lo, .int .i64 r1.Box.Y.Hi, .bool r1.Box.Y.Unknown, .int .i64 r1.Box.Z.Lo, .int .i64 r1.Box.Z.Hi, .bool r1.Box.Z.Unknown, .int .i64 r1.Flux.Lo, .int .i64 r1.Flux.Hi, .bool r1.Flux.Unknown, .int .i64 r1.When.Lo, .int .i64 r1.When.Hi, .bool r1.When.Unknown, .slice A2 r1.Frames.length c3, .int .i64 r1.Marks] 99 (0, 0))] :: H) ∧ catalog_CheckRow.l1 k r1 n_ x176 = some o167 ∧ a_ = ⟨#[(ag_Row r1 A2 c3), pV b7 0, (j175 0), uV, (j84 1), (j84 2), iV vt121, (j175 1), (j175 2), pV b7 0, iV r1.ID, fV, fV, pV b7 0, iV r1.ID, fV, fV, pV b7 1, pV b7 1, (ag_Bound r1.Box.X), pV b7 1, pV b7 4, (ag_Bound r1.Box.Y), pV b7 1, pV b7 7, (ag_Bound r1.Box.Z), .agg #[iV r1.Box.X.Lo, iV r1.Box.X.Hi, .bool r1.Box.X.Unknown, iV r1.Box.Y.Lo, iV r1.Box.Y.Hi, .bool r1.Box.Y.Unknown, iV r1.Box.Z.Lo, iV r1.Box.Z.Hi, .bool r1.Box.Z.Unknown], (j84 3), (j84 4), (j84 5), (j84 6), (j84 7), (j84 8), (j84 9), (j84 10), (j84 11), pV b7 10, (ag_Bound r1.Flux), iV vt98, pV b7 13, (ag_Bound r1.When), iV vt104, .slice (some ⟨b110, 0, none⟩) ([vt98, vt104] : List Int).length 2, iV vt121, iV vt121, fV, uV, fV, pV b7 16, .slice A2 r1.Frames.length c3, iV (r1.Frames.length : Int), fV, fV, pV b7 16, .slice A2 r1.Frames.length c3, iV (r1.Frames.length : Int), fV, pV b7 16, .slice A2 r1.Frames.length c3, iV (r1.Frames.length : Int), iV x176, (j175 3), (j175 4), (j175 5), (j175 6), (j175 7), (j175 8), (j175 9), (j175 10), (j175 11), (j175 12), (j175 13), (j175 14), (j175 15), (j175 16), (j175 17), (j175 18), (j175 19), (j175 20), (j175 21), (j175 22), (j175 23), (j175 24), (j175 25), (j175 26), (j175 27), uV, uV, uV, uV, uV, uV, uV, uV], []⟩) k ⟨f127, 0, (jL [(j84 0)]), fL, HS129, h, kr⟩ ?_
            clear h
            rintro n170 _ W173 ⟨f171, x176, j175, L172, HS174, h, rfl⟩ K168 hK169
            obtain _ | n170 := n170
            · exact nomatch h
            simp only [catalog_CheckRow.l1] at h
            refine wp_seq_k fun K177 hK178 => rl ?_
            refine seqL1 kr ?_
            refine nl (hK178 _ _ ?_)
            refine wp_seq_k (fun K179 hK180 => ?_)
            have hq_ := ite_some h; clear h; rcases hq_ with ⟨c182, h⟩ | ⟨c182, h⟩
            · have c182 : x176 < (r1.Frames.length : Int) := c182
              refine wpRwI 61 kr (decide_eq_true c182) ?_
              refine condT kr ?_
              refine wp_skip ?_
              refine hK180 _ _ ?_
              refine wp_seq_k (fun K183 hK184 => ?_)
              refine blockK (fun B185 hx186 hn187 hr188 ho189 hp190 => ?_)
              refine wp_seq_k fun K192 hK193 => rl ?_
              have hq_ := guard_some h; clear h; obtain ⟨c194, h⟩ := hq_
              have c194 : 0 ≤ x176 := c194
              obtain ⟨b198, of199, cs195, hA200, hr196, hc197⟩ := (HR4.mono (L81.trans (L101.trans (L107.trans (L128.trans L172))))).at (i := x176) c194 c182
              obtain rfl := hr196
              refine seqL1 kr ?_
              refine seqK rfl (does_run (run_indexE hA200 (sz := 1) rfl Tryz.underlying22 kr (kv (.slice A2 r1.Frames.length c3)) (kv (.int .i64 x176)) c194 c182 W173) ?_)
              refine seqK rfl (does_run (run_load rfl Tryz.underlying3 rfl (kv (.pointer (some ⟨b198, of199 + (x176 : Int).toNat * 1, none⟩))) ((hc197 fL HS174) 0 (by decide))) ?_)
              refine seqL2 kr ?_
              refine nl (hK193 _ _ ?_)
              refine blockK (fun B201 hx202 hn203 hr204 ho205 hp206 => ?_)
              refine wp_seq_k fun K208 hK209 => rl ?_
              refine seqL3 kr ?_
              have hq_ := ite_some h; clear h; rcases hq_ with ⟨c210, h⟩ | ⟨c210, h⟩
              · have c210 : (rd r1.Frames x176) < 1 := c210
                refine seqRwI 67 kr (decide_eq_true c210) ?_
                refine seqRwI 68 kr (decide_eq_true c210) ?_
                refine seqL4 kr ?_
                refine nl (hK209 _ _ ?_)
                refine condT kr ?_
                refine wp_seq_k fun K211 hK212 => rl ?_
                refine seqL1 kr ?_
                refine nl (hK212 _ _ ?_)
                refine wp_ret ?_
                refine hr204 _ _ ?_
                refine hr188 _ _ ?_
                refine hr164 _ _ ?_
                refine hret _ _ ?_
                refine ends_still (v := Value.int .i64 4) kr kr ?_
                have HS264 := HS174.drop
                have HS265 := HS264.drop
                replace h := JR239 _ h
                injection h with h
                subst h
                exact ⟨f171, rfl, (L81.trans (L101.trans (L107.trans (L128.trans L172)))), HS265⟩
              · have c210 : ¬ ((rd r1.Frames x176) < 1) := c210
                refine seqRwI 67 kr (decide_eq_false c210) ?_
                refine seqRwI 68 kr (decide_eq_false c210) ?_
                refine seqL4 kr ?_
                refine nl (hK209 _ _ ?_)
                have hq_ := ite_some h; clear h; rcases hq_ with ⟨c214, h⟩ | ⟨c214, h⟩
                · have c214 : (rd r1.Frames x176) > 1048576 := c214
                  refine wpRwI 65 kr (decide_eq_true c214) ?_
                  refine wpRwI 70 kr (decide_eq_true c214) ?_
                  refine wpRwI 71 kr (decide_eq_true c214) ?_
                  refine condT kr ?_
                  refine wp_seq_k fun K215 hK216 => rl ?_
                  refine seqL1 kr ?_
                  refine nl (hK216 _ _ ?_)
                  refine wp_ret ?_
                  refine hr204 _ _ ?_
                  refine hr188 _ _ ?_
                  refine hr164 _ _ ?_
                  refine hret _ _ ?_
                  refine ends_still (v := Value.int .i64 4) kr kr ?_
                  have HS266 := HS174.drop
                  have HS267 := HS266.drop
                  replace h := JR239 _ h
                  injection h with h
                  subst h
                  exact ⟨f171, rfl, (L81.trans (L101.trans (L107.trans (L128.trans L172)))), HS267⟩
                · have c214 : ¬ ((rd r1.Frames x176) > 1048576) := c214
                  refine wpRwI 65 kr (decide_eq_false c214) ?_
                  refine wpRwI 70 kr (decide_eq_false c214) ?_
                  refine wpRwI 71 kr (decide_eq_false c214) ?_
                  refine condF kr ?_
                  refine wp_seq_k fun K217 hK218 => rl ?_
                  refine seqL3 kr ?_
                  have hq_ := ite_some h; clear h; rcases hq_ with ⟨c219, h⟩ | ⟨c219, h⟩
                  · have c219 : x176 > 0 := c219
                    refine seqRwI 74 kr (decide_eq_true c219) ?_
                    refine seqRwI 75 kr (decide_eq_true c219) ?_
                    refine seqL2 kr ?_
                    refine seqG kr (does_run (run_load rfl Tryz.underlying22 rfl (kv (.pointer (some ⟨b7, 16, none⟩))) (HS174.u1.cell 16)) ?_)
                    have hq_ := guard_some h; clear h; obtain ⟨c220, h⟩ := hq_
                    have c220 : 0 ≤ (w64 (x176 - 1)) := c220
                    have hq_ := guard_some h; clear h; obtain ⟨c221, h⟩ := hq_
                    have c221 : (w64 (x176 - 1)) < (r1.Frames.length : Int) := c221
                    obtain ⟨b225, of226, cs222, hA227, hr223, hc224⟩ := (HR4.mono (L81.trans (L101.trans (L107.trans (L128.trans L172))))).at (i := w64 (x176 - 1)) c220 c221
                    obtain rfl := hr223
                    refine seqL2 kr ?_
                    refine seqG kr (does_run (run_indexE hA227 (sz := 1) rfl Tryz.underlying22 kr (kv (.slice A2 r1.Frames.length c3)) (kv (.int .i64 (w64 (x176 - 1)))) c220 c221 W173) ?_)
                    refine seqG kr (does_run (run_load rfl Tryz.underlying3 rfl (kv (.pointer (some ⟨b225, of226 + (w64 (x176 - 1) : Int).toNat * 1, none⟩))) ((hc224 fL HS174) 0 (by decide))) ?_)
                    refine seqL3 kr ?_
                    refine nl (hK218 _ _ ?_)
                    have hq_ := ite_some h; clear h; rcases hq_ with ⟨c229, h⟩ | ⟨c229, h⟩
                    · have c229 : (rd r1.Frames x176) ≤ (rd r1.Frames (w64 (x176 - 1))) := c229
                      refine wpRwI 72 kr (decide_eq_true c229) ?_
                      refine wpRwI 83 kr (decide_eq_true c229) ?_
                      refine wpRwI 84 kr (decide_eq_true c229) ?_
                      refine condT kr ?_
                      refine wp_seq_k fun K230 hK231 => rl ?_
                      refine seqL1 kr ?_
                      refine nl (hK231 _ _ ?_)
                      refine wp_ret ?_
                      refine hr204 _ _ ?_
                      refine hr188 _ _ ?_
                      refine hr164 _ _ ?_
                      refine hret _ _ ?_
                      refine ends_still (v := Value.int .i64 11) kr kr ?_
                      have HS268 := HS174.drop
                      have HS269 := HS268.drop
                      replace h := JR239 _ h
                      injection h with h
                      subst h
                      exact ⟨f171, rfl, (L81.trans (L101.trans (L107.trans (L128.trans L172)))), HS269⟩
                    · have c229 : ¬ ((rd r1.Frames x176) ≤ (rd r1.Frames (w64 (x176 - 1)))) := c229
                      refine wpRwI 72 kr (decide_eq_false c229) ?_
                      refine wpRwI 83 kr (decide_eq_false c229) ?_
                      refine wpRwI 84 kr (decide_eq_false c229) ?_
                      refine condF kr ?_
                      refine wp_skip ?_
                      refine hn203 _ _ ?_
                      refine hn187 _ _ ?_
                      refine hK184 _ _ ?_
                      refine rl ?_
                      refine seqL2 kr ?_
                      refine nl ?_
                      refine hK169 n170 _ _ (Nat.lt_succ_self _) ?_
                      exact ⟨f171, (w64 (x176 + 1)), (jL [(j175 0), iV x176, iV (rd r1.Frames x176), tV, iV x176, .pointer (some ⟨b198, of199 + (x176 : Int).toNat * 1, none⟩), iV (rd r1.Frames x176), fV, iV (rd r1.Frames x176), fV, fV, iV (rd r1.Frames x176), fV, fV, fV, iV x176, tV, tV, iV (rd r1.Frames x176), .pointer (some ⟨b7, 16, none⟩), .slice A2 r1.Frames.length c3, iV x176, iV (w64 (x176 - 1)), .pointer (some ⟨b225, of226 + (w64 (x176 - 1) : Int).toNat * 1, none⟩), iV (rd r1.Frames (w64 (x176 - 1))), fV, fV, iV (w64 (x176 + 1))]), L172, HS174, h, kr⟩
                  · have c219 : ¬ (x176 > 0) := c219
                    refine seqRwI 74 kr (decide_eq_false c219) ?_
                    refine seqRwI 75 kr (decide_eq_false c219) ?_
                    refine seqL10 kr ?_
                    refine nl (hK218 _ _ ?_)
                    refine condF kr ?_
                    refine wp_skip ?_
                    refine hn203 _ _ ?_
                    refine hn187 _ _ ?_
                    refine hK184 _ _ ?_
                    refine rl ?_
                    refine seqL2 kr ?_
                    refine nl ?_
                    refine hK169 n170 _ _ (Nat.lt_succ_self _) ?_
                    exact ⟨f171, (w64 (x176 + 1)), (jL [(j175 0), iV x176, iV (rd r1.Frames x176), tV, iV x176, .pointer (some ⟨b198, of199 + (x176 : Int).toNat * 1, none⟩), iV (rd r1.Frames x176), fV, iV (rd r1.Frames x176), fV, fV, iV (rd r1.Frames x176), fV, fV, fV, iV x176, fV, fV, uV, uV, uV, uV, uV, uV, uV, uV, fV, iV (w64 (x176 + 1))]), L172, HS174, h, kr⟩
            · have c182 : ¬ (x176 < (r1.Frames.length : Int)) := c182
              refine wpRwI 61 kr (decide_eq_false c182) ?_
              refine condF kr ?_
              refine wp_exit ?_
              refine hx162 _ _ ?_
              exact J238 f171 (jL [(j175 0), (j175 1), (j175 2), iV x176, fV, (j175 4), (j175 5), (j175 6), (j175 7), (j175 8), (j175 9), (j175 10), (j175 11), (j175 12), (j175 13), (j175 14), (j175 15), (j175 16), (j175 17), (j175 18), (j175 19), (j175 20), (j175 21), (j175 22), (j175 23), (j175 24), (j175 25), (j175 26), (j175 27)]) W173 _ L172 h HS174 kr
     clear h; have h := hv85; clear hv85
     refine loopK (fun n_ a_ w_ => ∃ (f36 : FM) (x41 : Int) (j40 : Nat → Value), FM.le f f36 ∧ St t w_ f36 ([(b7, .cells #[.int .i64 r1.ID, .int .i64 r1.Box.X.Lo, .int .i64 r1.Box.X.Hi, .bool r1.Box.X.Unknown, .int .i64 r1.Box.Y.Lo, .int .i64 r1.Box.Y.Hi, .bool r1.Box.Y.Unknown, .int .i64 r1.Box.Z.Lo, .int .i64 r1.Box.Z.Hi, .bool r1.Box.Z.Unknown, .int .i64 r1.Flux.Lo, .int .i64 r1.Flux.Hi, .bool r1.Flux.Unknown, .int .i64 r1.When.Lo, .int .i64 r1.When.Hi, .bool r1.When.Unknown, .slice A2 r1.Frames.length c3, .int .i64 r1.Marks] 99 (0, 0))] :: H) ∧ catalog_CheckRow.l0 k r1 n_ x41 = some o32 ∧ a_ = ⟨#[(ag_Row r1 A2 c3), pV b7 0, (j40 0), uV, (j40 1), (j40 2), uV, uV, uV, pV b7 0, iV r1.ID, fV, fV, pV b7 0, iV r1.ID, fV, fV, pV b7 1, pV b7 1, (ag_Bound r1.Box.X), pV b7 1, pV b7 4, (ag_Bound r1.Box.Y), pV b7 1, pV b7 7, (ag_Bound r1.Box.Z), .agg #[iV r1.Box.X.Lo, iV r1.Box.X.Hi, .bool r1.Box.X.Unknown, iV r1.Box.Y.Lo, iV r1.Box.Y.Hi, .bool r1.Box.Y.Unknown, iV r1.Box.Z.Lo, iV r1.Box.Z.Hi, .bool r1.Box.Z.Unknown], iV x41, (j40 3), (j40 4), (j40 5), (j40 6), (j40 7), (j40 8), (j40 9), (j40 10), uV, uV, uV, uV, uV, uV, uV, uV, uV, uV, uV, uV, uV, uV, uV, uV, uV, uV, uV, uV, uV, uV, uV, uV, uV, uV, uV, uV, uV, uV, uV, uV, uV, uV, uV, uV, uV, uV, uV, uV, uV, uV, uV, uV, uV, uV, uV, uV, uV, uV, uV, uV, uV, uV, uV, uV, uV, uV], []⟩) k ⟨f, 0, (jL [iV 0]), fL, HS9, h, kr⟩ ?_
     clear h
     rintro n35 _ W38 ⟨f36, x41, j40, L37, HS39, h, rfl⟩ K33 hK34
     obtain _ | n35 := n35
     · exact nomatch h
     simp only [catalog_CheckRow.l0] at h
     refine wp_seq_k fun K42 hK43 => rl ?_
     refine seqL1 kr ?_
     refine nl (hK43 _ _ ?_)
     refine wp_seq_k (fun K44 hK45 => ?_)
     have hq_ := ite_some h; clear h; rcases hq_ with ⟨c47, h⟩ | ⟨c47, h⟩
     · have c47 : x41 < 3 := c47
       refine wpRwI 28 kr (decide_eq_true c47) ?_
       refine condT kr ?_
       refine wp_skip ?_
       refine hK45 _ _ ?_
       refine wp_seq_k (fun K48 hK49 => ?_)
       refine blockK (fun B50 hx51 hn52 hr53 ho54 hp55 => ?_)
       refine wp_seq_k fun K57 hK58 => rl ?_
       have hq_ := guard_some h; clear h; obtain ⟨c59, h⟩ := hq_
       have c59 : 0 ≤ x41 := c59
       refine seqK rfl (does_run (run_arr_agg (e := ty_Bound) (f := fun _ => none) (xs := [r1.Box.X, r1.Box.Y, r1.Box.Z]) (fun x_ => [Value.int .i64 x_.Lo, Value.int .i64 x_.Hi, Value.bool x_.Unknown]) (fun _ _ h_ => h_) rfl Tryz.underlying81 kr Tryz.underlying29 rfl (kv (.agg #[.int .i64 r1.Box.X.Lo, .int .i64 r1.Box.X.Hi, .bool r1.Box.X.Unknown, .int .i64 r1.Box.Y.Lo, .int .i64 r1.Box.Y.Hi, .bool r1.Box.Y.Unknown, .int .i64 r1.Box.Z.Lo, .int .i64 r1.Box.Z.Hi, .bool r1.Box.Z.Unknown])) (kv (.int .i64 x41)) ⟨[Value.int .i64 r1.Box.X.Lo, Value.int .i64 r1.Box.X.Hi, Value.bool r1.Box.X.Unknown], _, rfl, rfl, ⟨[Value.int .i64 r1.Box.Y.Lo, Value.int .i64 r1.Box.Y.Hi, Value.bool r1.Box.Y.Unknown], _, rfl, rfl, ⟨[Value.int .i64 r1.Box.Z.Lo, Value.int .i64 r1.Box.Z.Hi, Value.bool r1.Box.Z.Unknown], _, rfl, rfl, rfl⟩⟩⟩ c59 c47 rfl W38) ?_)
       refine seqK rfl (does_alloc (z := Value.agg #[.int .i64 0, .int .i64 0, .bool false]) (cs := #[.int .i64 0, .int .i64 0, .bool false]) rfl kr rfl HS39 ?_)
       intro b60 W61 HS62
       refine seqK rfl (does_storeA (vs := [.int .i64 ((rd [r1.Box.X, r1.Box.Y, r1.Box.Z] x41).Lo), .int .i64 ((rd [r1.Box.X, r1.Box.Y, r1.Box.Z] x41).Hi), .bool ((rd [r1.Box.X, r1.Box.Y, r1.Box.Z] x41).Unknown)]) rfl kr kr kr rfl (ones rfl) HS62 kr ?_)
       intro W64 HS65
       refine nl (hK58 _ _ ?_)
       refine wp_seq_k fun K66 hK67 => rl ?_
       refine seqK rfl (does_run (run_loadN (n := 3) rfl Tryz.underlying29 rfl kr (kv (.pointer (some ⟨b60, 0, none⟩))) (cs := [.int .i64 ((rd [r1.Box.X, r1.Box.Y, r1.Box.Z] x41).Lo), .int .i64 ((rd [r1.Box.X, r1.Box.Y, r1.Box.Z] x41).Hi), .bool ((rd [r1.Box.X, r1.Box.Y, r1.Box.Z] x41).Unknown)]) rfl (HS65.cells 0 3 _ rfl)) ?_)
       have hq_ := bind_some h; clear h; obtain ⟨vt68, hc69, h⟩ := hq_
       refine seqK rfl (does_call (f := 96) (args := #[.agg #[.int .i64 ((rd [r1.Box.X, r1.Box.Y, r1.Box.Z] x41).Lo), .int .i64 ((rd [r1.Box.X, r1.Box.Y, r1.Box.Z] x41).Hi), .bool ((rd [r1.Box.X, r1.Box.Y, r1.Box.Z] x41).Unknown)], .int .i64 1073741824]) kr (catalog_ends_Coord.calls k (rd [r1.Box.X, r1.Box.Y, r1.Box.Z] x41) 1073741824 HS65 vt68 hc69) ?_)
       rintro _ W72 ⟨f70, rfl, L71, HS73⟩
       refine ⟨_, rfl, ?_⟩
       refine seqL1 kr ?_
       refine nl (hK67 _ _ ?_)
       refine wp_seq_k fun K74 hK75 => rl ?_
       refine seqL2 kr ?_
       refine nl (hK75 _ _ ?_)
       have hq_ := ite_some h; clear h; rcases hq_ with ⟨c77, h⟩ | ⟨c77, h⟩
       · have c77 : vt68 ≠ 0 := c77
         refine wpRwI 33 kr (bne_iff_ne.mpr c77) ?_
         refine condT kr ?_
         refine wp_seq_k fun K78 hK79 => rl ?_
         refine seqL2 kr ?_
         refine nl (hK79 _ _ ?_)
         refine wp_ret ?_
         refine hr53 _ _ ?_
         refine hr29 _ _ ?_
         refine hret _ _ ?_
         refine ends_still (v := Value.int .i64 vt68) kr kr ?_
         have HS256 := HS73.drop
         have HS257 := HS256.drop
         replace h := JR87 _ h
         injection h with h
         subst h
         exact ⟨f70, rfl, (L37.trans L71), HS257⟩
       · have c77 : ¬ (vt68 ≠ 0) := c77
         refine wpRwI 33 (x := (vt68 != 0)) (v := false) kr (bne_eq_false_iff_eq.mpr (Decidable.of_not_not c77)) ?_
         refine condF kr ?_
         refine wp_skip ?_
         refine hn52 _ _ ?_
         refine hK49 _ _ ?_
         refine rl ?_
         refine seqL2 kr ?_
         refine nl ?_
         refine hK34 n35 _ _ (Nat.lt_succ_self _) ?_
         have HS90 := HS73.u1.u1
         have HS91 := HS90.drop
         exact ⟨f70, (w64 (x41 + 1)), (jL [(j40 0), .pointer (some ⟨b60, 0, none⟩), iV vt68, tV, (ag_Bound (rd [r1.Box.X, r1.Box.Y, r1.Box.Z] x41)), (ag_Bound (rd [r1.Box.X, r1.Box.Y, r1.Box.Z] x41)), iV vt68, iV vt68, fV, (j40 9), iV (w64 (x41 + 1))]), (L37.trans L71), HS91, h, kr⟩
     · have c47 : ¬ (x41 < 3) := c47
       refine wpRwI 28 kr (decide_eq_false c47) ?_
       refine condF kr ?_
       refine wp_exit ?_
       refine hx27 _ _ ?_
       exact J86 f36 (jL [(j40 0), (j40 1), (j40 2), iV x41, fV, (j40 4), (j40 5), (j40 6), (j40 7), (j40 8), (j40 9), (j40 10)]) W38 _ L37 h HS39 kr

set_option maxRecDepth 100000 in
set_option maxHeartbeats 4000000 in
theorem catalog_Check.calls (k : Nat) (A2 : Option Addr) (c3 : Nat) (l1 : List S_Row) {t w : World} {f : FM} {H : List Seg} (HS : St t w f (H)) (HR4 : SlR ty_Row f A2 c3 l1) (rr1 : Int) (h : catalog_Check k l1 = some rr1) :
    Calls Tryz.prog 42 #[.slice A2 l1.length c3] w (fun e w' => ∃ (g : FM), e = .returned (Value.int .i64 rr1) ∧ FM.le f g ∧ St t w' g (H)) := by
 unfold catalog_Check at h
 refine enter Tryz.func42 rfl (tm := #[.slice A2 l1.length c3, uV, uV, uV, uV, uV, uV, uV, uV, uV, uV, uV, uV, uV, uV, uV, uV, uV, uV, uV, uV, uV, uV, uV, uV, uV, uV, uV, uV, uV, uV, uV, uV, uV, uV]) kr ?_
 intro B hret hnor hnp
 refine wp_seq_k fun K5 hK6 => rl ?_
 refine seqL1 kr ?_
 refine nl (hK6 _ _ ?_)
 refine wp_seq_k (fun K7 hK8 => ?_)
 refine wp_seq_k fun K9 hK10 => rl ?_
 refine seqL3 kr ?_
 refine nl (hK10 _ _ ?_)
 have hq_ := ite_some h; clear h; rcases hq_ with ⟨c12, h⟩ | ⟨c12, h⟩
 · have c12 : (l1.length : Int) > 200 := c12
   refine wpRwI 8 kr (decide_eq_true c12) ?_
   refine condT kr ?_
   refine wp_seq_k fun K13 hK14 => rl ?_
   refine seqL1 kr ?_
   refine nl (hK14 _ _ ?_)
   refine wp_ret ?_
   refine hret _ _ ?_
   refine ends_still (v := Value.int .i64 2) kr kr ?_
   injection h with h
   subst h
   exact ⟨f, rfl, FM.le.refl _, HS⟩
 · have c12 : ¬ ((l1.length : Int) > 200) := c12
   refine wpRwI 8 kr (decide_eq_false c12) ?_
   refine condF kr ?_
   refine wp_skip ?_
   refine hK8 _ _ ?_
   refine wp_seq_k (fun K15 hK16 => ?_)
   refine wp_seq_k fun K17 hK18 => rl ?_
   refine seqL3 kr ?_
   refine nl (hK18 _ _ ?_)
   refine blockK (fun B19 hx20 hn21 hr22 ho23 hp24 => ?_)
   have hq_ := bind_some h; clear h; obtain ⟨o25, hv105, h⟩ := hq_
   have JR107 : ∀ z_, some (Sum.inl z_) = some o25 → some z_ = some rr1 := by
    intro z_ e_; injection e_ with e_; subst e_; exact h
   have J106 : ∀ (f100 : FM) (j104 : Nat → Value) (W102 : World) (a_ : Act), FM.le f f100 → some (Sum.inr ()) = some o25 → St t W102 f100 (H) → a_ = ⟨#[.slice A2 l1.length c3, uV, (j104 0), (j104 1), (j104 2), (j104 3), .slice A2 l1.length c3, iV (l1.length : Int), fV, .slice A2 l1.length c3, iV (l1.length : Int), (j104 4), (j104 5), (j104 6), (j104 7), (j104 8), (j104 9), (j104 10), (j104 11), (j104 12), (j104 13), (j104 14), (j104 15), (j104 16), (j104 17), (j104 18), (j104 19), (j104 20), (j104 21), (j104 22), (j104 23), (j104 24), (j104 25), (j104 26), (j104 27)], []⟩ → K15 a_ W102 := by
    intro f100 j104 W102 a_ L101 hj108 HS103  hfr_; subst hfr_
    injection hj108 with hj108; subst hj108; try dsimp only at h
    simp only [Sum.elim_inr] at h
    refine hK16 _ _ ?_
    refine wp_seq_k fun K111 hK112 => rl ?_
    refine seqL1 kr ?_
    refine nl (hK112 _ _ ?_)
    refine wp_ret ?_
    refine hret _ _ ?_
    refine ends_still (v := Value.int .i64 0) kr kr ?_
    injection h with h
    subst h
    exact ⟨f100, rfl, L101, HS103⟩
   clear h; have h := hv105; clear hv105
   refine loopK (fun n_ a_ w_ => ∃ (f29 : FM) (x34 : Int) (j33 : Nat → Value), FM.le f f29 ∧ St t w_ f29 (H) ∧ catalog_Check.l0 k l1 n_ x34 = some o25 ∧ a_ = ⟨#[.slice A2 l1.length c3, uV, (j33 0), (j33 1), (j33 2), (j33 3), .slice A2 l1.length c3, iV (l1.length : Int), fV, .slice A2 l1.length c3, iV (l1.length : Int), iV x34, (j33 4), (j33 5), (j33 6), (j33 7), (j33 8), (j33 9), (j33 10), (j33 11), (j33 12), (j33 13), (j33 14), (j33 15), (j33 16), (j33 17), (j33 18), (j33 19), (j33 20), (j33 21), (j33 22), (j33 23), (j33 24), (j33 25), (j33 26)], []⟩) k ⟨f, 0, (jL [iV 0]), fL, HS, h, kr⟩ ?_
   clear h
   rintro n28 _ W31 ⟨f29, x34, j33, L30, HS32, h, rfl⟩ K26 hK27
   obtain _ | n28 := n28
   · exact nomatch h
   simp only [catalog_Check.l0] at h
   refine wp_seq_k fun K35 hK36 => rl ?_
   refine seqL1 kr ?_
   refine nl (hK36 _ _ ?_)
   refine wp_seq_k (fun K37 hK38 => ?_)
   have hq_ := ite_some h; clear h; rcases hq_ with ⟨c40, h⟩ | ⟨c40, h⟩
   · have c40 : x34 < (l1.length : Int) := c40
     refine wpRwI 12 kr (decide_eq_true c40) ?_
     refine condT kr ?_
     refine wp_skip ?_
     refine hK38 _ _ ?_
     refine wp_seq_k (fun K41 hK42 => ?_)
     refine blockK (fun B43 hx44 hn45 hr46 ho47 hp48 => ?_)
     refine wp_seq_k fun K50 hK51 => rl ?_
     have hq_ := guard_some h; clear h; obtain ⟨c52, h⟩ := hq_
     have c52 : 0 ≤ x34 := c52
     obtain ⟨b56, of57, cs53, hA58, hr54, hc55⟩ := (HR4.mono L30).at (i := x34) c52 c40
     obtain ⟨A59, c59, rfl, HR59⟩ := hr54
     refine seqL1 kr ?_
     refine seqK rfl (does_run (run_indexE hA58 (sz := 18) rfl Tryz.underlying45 kr (kv (.slice A2 l1.length c3)) (kv (.int .i64 x34)) c52 c40 W31) ?_)
     refine seqK rfl (does_run (run_loadN (n := 18) rfl Tryz.underlying99 rfl kr (kv (.pointer (some ⟨b56, of57 + (x34 : Int).toNat * 18, none⟩))) (cs := [.int .i64 ((rd l1 x34).ID), .int .i64 ((((rd l1 x34).Box).X).Lo), .int .i64 ((((rd l1 x34).Box).X).Hi), .bool ((((rd l1 x34).Box).X).Unknown), .int .i64 ((((rd l1 x34).Box).Y).Lo), .int .i64 ((((rd l1 x34).Box).Y).Hi), .bool ((((rd l1 x34).Box).Y).Unknown), .int .i64 ((((rd l1 x34).Box).Z).Lo), .int .i64 ((((rd l1 x34).Box).Z).Hi), .bool ((((rd l1 x34).Box).Z).Unknown), .int .i64 (((rd l1 x34).Flux).Lo), .int .i64 (((rd l1 x34).Flux).Hi), .bool (((rd l1 x34).Flux).Unknown), .int .i64 (((rd l1 x34).When).Lo), .int .i64 (((rd l1 x34).When).Hi), .bool (((rd l1 x34).When).Unknown), .slice A59 ((rd l1 x34).Frames).length c59, .int .i64 ((rd l1 x34).Marks)]) rfl (fun j_ hj_ => ((hc55 fL HS32) j_ hj_))) ?_)
     refine seqK rfl (does_alloc (z := Value.agg #[.int .i64 0, .int .i64 0, .int .i64 0, .bool false, .int .i64 0, .int .i64 0, .bool false, .int .i64 0, .int .i64 0, .bool false, .int .i64 0, .int .i64 0, .bool false, .int .i64 0, .int .i64 0, .bool false, .slice none 0 0, .int .i64 0]) (cs := #[.int .i64 0, .int .i64 0, .int .i64 0, .bool false, .int .i64 0, .int .i64 0, .bool false, .int .i64 0, .int .i64 0, .bool false, .int .i64 0, .int .i64 0, .bool false, .int .i64 0, .int .i64 0, .bool false, .slice none 0 0, .int .i64 0]) rfl kr rfl HS32 ?_)
     intro b60 W61 HS62
     refine seqL1 kr ?_
     refine seqK rfl (does_storeA (vs := [.int .i64 ((rd l1 x34).ID), .int .i64 ((((rd l1 x34).Box).X).Lo), .int .i64 ((((rd l1 x34).Box).X).Hi), .bool ((((rd l1 x34).Box).X).Unknown), .int .i64 ((((rd l1 x34).Box).Y).Lo), .int .i64 ((((rd l1 x34).Box).Y).Hi), .bool ((((rd l1 x34).Box).Y).Unknown), .int .i64 ((((rd l1 x34).Box).Z).Lo), .int .i64 ((((rd l1 x34).Box).Z).Hi), .bool ((((rd l1 x34).Box).Z).Unknown), .int .i64 (((rd l1 x34).Flux).Lo), .int .i64 (((rd l1 x34).Flux).Hi), .bool (((rd l1 x34).Flux).Unknown), .int .i64 (((rd l1 x34).When).Lo), .int .i64 (((rd l1 x34).When).Hi), .bool (((rd l1 x34).When).Unknown), .slice A59 ((rd l1 x34).Frames).length c59, .int .i64 ((rd l1 x34).Marks)]) rfl kr kr kr rfl (ones rfl) HS62 kr ?_)
     intro W64 HS65
     refine nl (hK51 _ _ ?_)
     refine wp_seq_k (fun K66 hK67 => ?_)
     refine wp_seq_k fun K68 hK69 => rl ?_
     refine seqK rfl (does_run (run_loadN (n := 18) rfl Tryz.underlying99 rfl kr (kv (.pointer (some ⟨b60, 0, none⟩))) (cs := [.int .i64 ((rd l1 x34).ID), .int .i64 ((((rd l1 x34).Box).X).Lo), .int .i64 ((((rd l1 x34).Box).X).Hi), .bool ((((rd l1 x34).Box).X).Unknown), .int .i64 ((((rd l1 x34).Box).Y).Lo), .int .i64 ((((rd l1 x34).Box).Y).Hi), .bool ((((rd l1 x34).Box).Y).Unknown), .int .i64 ((((rd l1 x34).Box).Z).Lo), .int .i64 ((((rd l1 x34).Box).Z).Hi), .bool ((((rd l1 x34).Box).Z).Unknown), .int .i64 (((rd l1 x34).Flux).Lo), .int .i64 (((rd l1 x34).Flux).Hi), .bool (((rd l1 x34).Flux).Unknown), .int .i64 (((rd l1 x34).When).Lo), .int .i64 (((rd l1 x34).When).Hi), .bool (((rd l1 x34).When).Unknown), .slice A59 ((rd l1 x34).Frames).length c59, .int .i64 ((rd l1 x34).Marks)]) rfl (HS65.cells 0 18 _ rfl)) ?_)
     have hq_ := bind_some h; clear h; obtain ⟨vt70, hc71, h⟩ := hq_
     refine seqK rfl (does_call (f := 72) (args := #[.agg #[.int .i64 ((rd l1 x34).ID), .int .i64 ((((rd l1 x34).Box).X).Lo), .int .i64 ((((rd l1 x34).Box).X).Hi), .bool ((((rd l1 x34).Box).X).Unknown), .int .i64 ((((rd l1 x34).Box).Y).Lo), .int .i64 ((((rd l1 x34).Box).Y).Hi), .bool ((((rd l1 x34).Box).Y).Unknown), .int .i64 ((((rd l1 x34).Box).Z).Lo), .int .i64 ((((rd l1 x34).Box).Z).Hi), .bool ((((rd l1 x34).Box).Z).Unknown), .int .i64 (((rd l1 x34).Flux).Lo), .int .i64 (((rd l1 x34).Flux).Hi), .bool (((rd l1 x34).Flux).Unknown), .int .i64 (((rd l1 x34).When).Lo), .int .i64 (((rd l1 x34).When).Hi), .bool (((rd l1 x34).When).Unknown), .slice A59 ((rd l1 x34).Frames).length c59, .int .i64 ((rd l1 x34).Marks)]]) kr (catalog_CheckRow.calls k A59 c59 (rd l1 x34) HS65 HR59 vt70 hc71) ?_)
     rintro _ W74 ⟨f72, rfl, L73, HS75⟩
     refine ⟨_, rfl, ?_⟩
     refine seqL1 kr ?_
     refine nl (hK69 _ _ ?_)
     refine wp_seq_k fun K76 hK77 => rl ?_
     refine seqL2 kr ?_
     refine nl (hK77 _ _ ?_)
     have hq_ := ite_some h; clear h; rcases hq_ with ⟨c79, h⟩ | ⟨c79, h⟩
     · have c79 : vt70 ≠ 0 := c79
       refine wpRwI 19 kr (bne_iff_ne.mpr c79) ?_
       refine condT kr ?_
       refine wp_seq_k fun K80 hK81 => rl ?_
       refine seqL2 kr ?_
       refine nl (hK81 _ _ ?_)
       refine wp_ret ?_
       refine hr46 _ _ ?_
       refine hr22 _ _ ?_
       refine hret _ _ ?_
       refine ends_still (v := Value.int .i64 vt70) kr kr ?_
       have HS113 := HS75.drop
       replace h := JR107 _ h
       injection h with h
       subst h
       exact ⟨f72, rfl, (L30.trans L73), HS113⟩
     · have c79 : ¬ (vt70 ≠ 0) := c79
       refine wpRwI 19 (x := (vt70 != 0)) (v := false) kr (bne_eq_false_iff_eq.mpr (Decidable.of_not_not c79)) ?_
       refine condF kr ?_
       refine wp_skip ?_
       refine hK67 _ _ ?_
       refine wp_seq_k (fun K82 hK83 => ?_)
       refine heldG (S := Sg t f72 ([(b60, .cells #[.int .i64 ((rd l1 x34).ID), .int .i64 ((((rd l1 x34).Box).X).Lo), .int .i64 ((((rd l1 x34).Box).X).Hi), .bool ((((rd l1 x34).Box).X).Unknown), .int .i64 ((((rd l1 x34).Box).Y).Lo), .int .i64 ((((rd l1 x34).Box).Y).Hi), .bool ((((rd l1 x34).Box).Y).Unknown), .int .i64 ((((rd l1 x34).Box).Z).Lo), .int .i64 ((((rd l1 x34).Box).Z).Hi), .bool ((((rd l1 x34).Box).Z).Unknown), .int .i64 (((rd l1 x34).Flux).Lo), .int .i64 (((rd l1 x34).Flux).Hi), .bool (((rd l1 x34).Flux).Unknown), .int .i64 (((rd l1 x34).When).Lo), .int .i64 (((rd l1 x34).When).Hi), .bool (((rd l1 x34).When).Unknown), .slice A59 ((rd l1 x34).Frames).length c59, .int .i64 ((rd l1 x34).Marks)] 99 (0, 0))] :: H) []) (n := 13) kr rfl HS75 ?_
       intro W84 HS85
       refine takeGL [0, 1, 2] (n := 13) (fuel := 10) #[true, true, true, false, false, false, false, false, false, false, false, false, false] rfl kr kr kr (fun ch_ a_ w_ q_ => (fun ch_ a_ w_ q_ => hnp ch_ a_ w_ (hp24 ch_ a_ w_ q_)) ch_ a_ w_ (hp48 ch_ a_ w_ q_)) (Sg.g0 (Sx.of [] fL HS85)) ?_
       have hq_ := ite_some h; clear h; rcases hq_ with ⟨c86, h⟩ | ⟨c86, h⟩
       · have c86 : x34 > 0 := c86
         refine gateRwI 22 (x := (decide (x34 > 0))) (v := true) kr (decide_eq_true c86) ?_
         refine gateRwI 23 (x := (decide (x34 > 0))) (v := true) kr (decide_eq_true c86) ?_
         refine takeGL [3] (n := 10) (fuel := 9) #[true, true, true, true, false, false, false, false, false, false, false, false, false] rfl kr kr kr (fun ch_ a_ w_ q_ => (fun ch_ a_ w_ q_ => hnp ch_ a_ w_ (hp24 ch_ a_ w_ q_)) ch_ a_ w_ (hp48 ch_ a_ w_ q_)) (Sg.g0 (Sx.of [] fL HS85)) ?_
         refine takeGQ 4 [] rfl kr kr kr kr kr kr (fun ch_ a_ w_ q_ => (fun ch_ a_ w_ q_ => hnp ch_ a_ w_ (hp24 ch_ a_ w_ q_)) ch_ a_ w_ (hp48 ch_ a_ w_ q_)) (Sg.g0 (Sx.of [] fL HS85)) (fun w_ hw_ => by obtain ⟨g_, hl_, hS_⟩ := hw_.st; exact run_load rfl Tryz.underlying3 rfl (kv (.pointer (some ⟨b60, 0, none⟩))) (hS_.cell 0)) ?_
         have hq_ := guard_some h; clear h; obtain ⟨c87, h⟩ := hq_
         have c87 : 0 ≤ (w64 (x34 - 1)) := c87
         have hq_ := guard_some h; clear h; obtain ⟨c88, h⟩ := hq_
         have c88 : (w64 (x34 - 1)) < (l1.length : Int) := c88
         obtain ⟨b92, of93, cs89, hA94, hr90, hc91⟩ := (HR4.mono (L30.trans L73)).at (i := w64 (x34 - 1)) c87 c88
         obtain ⟨A95, c95, rfl, HR95⟩ := hr90
         refine takeGL [5, 6, 7] (n := 8) (fuel := 5) #[true, true, true, true, true, true, true, true, false, false, false, false, false] rfl kr kr kr (fun ch_ a_ w_ q_ => (fun ch_ a_ w_ q_ => hnp ch_ a_ w_ (hp24 ch_ a_ w_ q_)) ch_ a_ w_ (hp48 ch_ a_ w_ q_)) (Sg.g0 (Sx.of [] fL HS85)) ?_
         refine takeGQ 8 [] rfl kr kr kr kr kr kr (fun ch_ a_ w_ q_ => (fun ch_ a_ w_ q_ => hnp ch_ a_ w_ (hp24 ch_ a_ w_ q_)) ch_ a_ w_ (hp48 ch_ a_ w_ q_)) (Sg.g0 (Sx.of [] fL HS85)) (fun w_ hw_ => by obtain ⟨g_, hl_, hS_⟩ := hw_.st; exact run_indexE hA94 (sz := 18) rfl Tryz.underlying45 kr (kv (.slice A2 l1.length c3)) (kv (.int .i64 (w64 (x34 - 1)))) c87 c88 w_) ?_
         refine takeGL [9] (n := 4) (fuel := 3) #[true, true, true, true, true, true, true, true, true, true, false, false, false] rfl kr kr kr (fun ch_ a_ w_ q_ => (fun ch_ a_ w_ q_ => hnp ch_ a_ w_ (hp24 ch_ a_ w_ q_)) ch_ a_ w_ (hp48 ch_ a_ w_ q_)) (Sg.g0 (Sx.of [] fL HS85)) ?_
         refine takeGQ 10 [] rfl kr kr kr kr kr kr (fun ch_ a_ w_ q_ => (fun ch_ a_ w_ q_ => hnp ch_ a_ w_ (hp24 ch_ a_ w_ q_)) ch_ a_ w_ (hp48 ch_ a_ w_ q_)) (Sg.g0 (Sx.of [] fL HS85)) (fun w_ hw_ => by obtain ⟨g_, hl_, hS_⟩ := hw_.st; exact run_load rfl Tryz.underlying3 rfl (kv (.pointer (some ⟨b92, of93 + (w64 (x34 - 1) : Int).toNat * 18, none⟩))) ((hc91 hl_ hS_) 0 (by decide))) ?_
         refine takeGL [11, 12] (n := 2) (fuel := 0) #[true, true, true, true, true, true, true, true, true, true, true, true, true] rfl kr kr kr (fun ch_ a_ w_ q_ => (fun ch_ a_ w_ q_ => hnp ch_ a_ w_ (hp24 ch_ a_ w_ q_)) ch_ a_ w_ (hp48 ch_ a_ w_ q_)) (Sg.g0 (Sx.of [] fL HS85)) ?_
         refine doneG kr ?_ _
         refine hK83 _ _ ?_
         have hq_ := ite_some h; clear h; rcases hq_ with ⟨c97, h⟩ | ⟨c97, h⟩
         · have c97 : ((rd l1 x34).ID) ≤ ((rd l1 (w64 (x34 - 1))).ID) := c97
           refine wpRwI 32 kr (decide_eq_true c97) ?_
           refine wpRwI 33 kr (decide_eq_true c97) ?_
           refine condT kr ?_
           refine wp_seq_k fun K98 hK99 => rl ?_
           refine seqL1 kr ?_
           refine nl (hK99 _ _ ?_)
           refine wp_ret ?_
           refine hr46 _ _ ?_
           refine hr22 _ _ ?_
           refine hret _ _ ?_
           refine ends_still (v := Value.int .i64 11) kr kr ?_
           have HS114 := HS85.drop
           replace h := JR107 _ h
           injection h with h
           subst h
           exact ⟨f72, rfl, (L30.trans L73), HS114⟩
         · have c97 : ¬ (((rd l1 x34).ID) ≤ ((rd l1 (w64 (x34 - 1))).ID)) := c97
           refine wpRwI 32 kr (decide_eq_false c97) ?_
           refine wpRwI 33 kr (decide_eq_false c97) ?_
           refine condF kr ?_
           refine wp_skip ?_
           refine hn45 _ _ ?_
           refine hK42 _ _ ?_
           refine rl ?_
           refine seqL2 kr ?_
           refine nl ?_
           refine hK27 n28 _ _ (Nat.lt_succ_self _) ?_
           have HS109 := HS85.drop
           exact ⟨f72, (w64 (x34 + 1)), (jL [(j33 0), iV x34, .pointer (some ⟨b60, 0, none⟩), iV vt70, tV, iV x34, .pointer (some ⟨b56, of57 + (x34 : Int).toNat * 18, none⟩), (ag_Row (rd l1 x34) A59 c59), (ag_Row (rd l1 x34) A59 c59), iV vt70, iV vt70, fV, (j33 12), iV x34, tV, tV, .pointer (some ⟨b60, 0, none⟩), iV ((rd l1 x34).ID), .slice A2 l1.length c3, iV x34, iV (w64 (x34 - 1)), .pointer (some ⟨b92, of93 + (w64 (x34 - 1) : Int).toNat * 18, none⟩), .pointer (some ⟨b92, of93 + (w64 (x34 - 1) : Int).toNat * 18, none⟩), iV ((rd l1 (w64 (x34 - 1))).ID), fV, fV, iV (w64 (x34 + 1))]), (L30.trans L73), HS109, h, kr⟩
       · have c86 : ¬ (x34 > 0) := c86
         refine gateRwI 22 (x := (decide (x34 > 0))) (v := false) kr (decide_eq_false c86) ?_
         refine gateRwI 23 (x := (decide (x34 > 0))) (v := false) kr (decide_eq_false c86) ?_
         refine takeGL [3, 4, 5, 6, 7, 8, 9, 10, 11, 12] (n := 10) (fuel := 0) #[true, true, true, true, true, true, true, true, true, true, true, true, true] rfl kr kr kr (fun ch_ a_ w_ q_ => (fun ch_ a_ w_ q_ => hnp ch_ a_ w_ (hp24 ch_ a_ w_ q_)) ch_ a_ w_ (hp48 ch_ a_ w_ q_)) (Sg.g0 (Sx.of [] fL HS85)) ?_
         refine doneG kr ?_ _
         refine hK83 _ _ ?_
         refine condF kr ?_
         refine wp_skip ?_
         refine hn45 _ _ ?_
         refine hK42 _ _ ?_
         refine rl ?_
         refine seqL2 kr ?_
         refine nl ?_
         refine hK27 n28 _ _ (Nat.lt_succ_self _) ?_
         have HS110 := HS85.drop
         exact ⟨f72, (w64 (x34 + 1)), (jL [(j33 0), iV x34, .pointer (some ⟨b60, 0, none⟩), iV vt70, tV, iV x34, .pointer (some ⟨b56, of57 + (x34 : Int).toNat * 18, none⟩), (ag_Row (rd l1 x34) A59 c59), (ag_Row (rd l1 x34) A59 c59), iV vt70, iV vt70, fV, (j33 12), iV x34, fV, fV, uV, uV, uV, uV, uV, uV, uV, uV, uV, fV, iV (w64 (x34 + 1))]), (L30.trans L73), HS110, h, kr⟩
   · have c40 : ¬ (x34 < (l1.length : Int)) := c40
     refine wpRwI 12 kr (decide_eq_false c40) ?_
     refine condF kr ?_
     refine wp_exit ?_
     refine hx20 _ _ ?_
     exact J106 f29 (jL [(j33 0), (j33 1), (j33 2), (j33 3), iV x34, fV, (j33 5), (j33 6), (j33 7), (j33 8), (j33 9), (j33 10), (j33 11), (j33 12), (j33 13), (j33 14), (j33 15), (j33 16), (j33 17), (j33 18), (j33 19), (j33 20), (j33 21), (j33 22), (j33 23), (j33 24), (j33 25), (j33 26)]) W31 _ L30 h HS32 kr

set_option maxRecDepth 100000 in
set_option maxHeartbeats 4000000 in
theorem sphere_Check.calls (k : Nat)  (v1 : S_Vec) {t w : World} {f : FM} {H : List Seg} (HS : St t w f (H)) (rr1 : Int) (h : sphere_Check k v1 = some rr1) :
    Calls Tryz.prog 73 #[.agg #[.int .i64 v1.X, .int .i64 v1.Y, .int .i64 v1.Z]] w (fun e w' => ∃ (g : FM), e = .returned (Value.int .i64 rr1) ∧ FM.le f g ∧ St t w' g (H)) := by
 unfold sphere_Check at h
 refine enter Tryz.func73 rfl (tm := #[(ag_Vec v1), uV, uV, uV, uV, uV, uV, uV, uV, uV, uV, uV, uV, uV, uV, uV, uV, uV, uV, uV, uV, uV, uV, uV, uV, uV]) kr ?_
 intro B hret hnor hnp
 refine wp_seq_k fun K2 hK3 => rl ?_
 refine seqK rfl (does_box (cs := #[.int .i64 v1.X, .int .i64 v1.Y, .int .i64 v1.Z]) rfl (kv (.agg #[.int .i64 v1.X, .int .i64 v1.Y, .int .i64 v1.Z])) rfl HS ?_)
 intro b4 W5 HS6
 refine seqL1 kr ?_
 refine nl (hK3 _ _ ?_)
 refine wp_seq_k (fun K8 hK9 => ?_)
 refine blockK (fun B10 hx11 hn12 hr13 ho14 hp15 => ?_)
 refine wp_seq_k fun K17 hK18 => rl ?_
 refine seqL1 kr ?_
 refine seqK rfl (does_run (run_load rfl Tryz.underlying2 rfl (kv (.pointer (some ⟨b4, 0, none⟩))) (HS6.cell 0)) ?_)
 refine seqL1 kr ?_
 refine seqK rfl (does_run (run_load rfl Tryz.underlying2 rfl (kv (.pointer (some ⟨b4, 1, none⟩))) (HS6.cell 1)) ?_)
 refine seqL1 kr ?_
 refine seqK rfl (does_run (run_load rfl Tryz.underlying2 rfl (kv (.pointer (some ⟨b4, 2, none⟩))) (HS6.cell 2)) ?_)
 refine seqL3 kr ?_
 have hq_ := ite_some h; clear h; rcases hq_ with ⟨c19, h⟩ | ⟨c19, h⟩
 · have c19 : (mx (mx v1.X v1.Y) v1.Z) > 1048576 := c19
   refine seqRwI 11 kr (decide_eq_true c19) ?_
   refine seqRwI 12 kr (decide_eq_true c19) ?_
   refine seqL10 kr ?_
   refine nl (hK18 _ _ ?_)
   refine condT kr ?_
   refine wp_seq_k fun K20 hK21 => rl ?_
   refine seqL1 kr ?_
   refine nl (hK21 _ _ ?_)
   refine wp_ret ?_
   refine hr13 _ _ ?_
   refine hret _ _ ?_
   refine ends_still (v := Value.int .i64 4) kr kr ?_
   have HS34 := HS6.drop
   injection h with h
   subst h
   exact ⟨f, rfl, FM.le.refl _, HS34⟩
 · have c19 : ¬ ((mx (mx v1.X v1.Y) v1.Z) > 1048576) := c19
   refine seqRwI 11 kr (decide_eq_false c19) ?_
   refine seqRwI 12 kr (decide_eq_false c19) ?_
   refine seqL1 kr ?_
   refine seqG kr (does_run (run_load rfl Tryz.underlying2 rfl (kv (.pointer (some ⟨b4, 0, none⟩))) (HS6.cell 0)) ?_)
   refine seqL1 kr ?_
   refine seqG kr (does_run (run_load rfl Tryz.underlying2 rfl (kv (.pointer (some ⟨b4, 1, none⟩))) (HS6.cell 1)) ?_)
   refine seqL1 kr ?_
   refine seqG kr (does_run (run_load rfl Tryz.underlying2 rfl (kv (.pointer (some ⟨b4, 2, none⟩))) (HS6.cell 2)) ?_)
   refine seqL4 kr ?_
   refine nl (hK18 _ _ ?_)
   have hq_ := ite_some h; clear h; rcases hq_ with ⟨c23, h⟩ | ⟨c23, h⟩
   · have c23 : (mn (mn v1.X v1.Y) v1.Z) < (-1048576) := c23
     refine wpRwI 3 kr (decide_eq_true c23) ?_
     refine wpRwI 20 kr (decide_eq_true c23) ?_
     refine wpRwI 21 kr (decide_eq_true c23) ?_
     refine condT kr ?_
     refine wp_seq_k fun K24 hK25 => rl ?_
     refine seqL1 kr ?_
     refine nl (hK25 _ _ ?_)
     refine wp_ret ?_
     refine hr13 _ _ ?_
     refine hret _ _ ?_
     refine ends_still (v := Value.int .i64 4) kr kr ?_
     have HS35 := HS6.drop
     injection h with h
     subst h
     exact ⟨f, rfl, FM.le.refl _, HS35⟩
   · have c23 : ¬ ((mn (mn v1.X v1.Y) v1.Z) < (-1048576)) := c23
     refine wpRwI 3 kr (decide_eq_false c23) ?_
     refine wpRwI 20 kr (decide_eq_false c23) ?_
     refine wpRwI 21 kr (decide_eq_false c23) ?_
     refine condF kr ?_
     refine wp_seq_k fun K26 hK27 => rl ?_
     refine seqK rfl (does_run (run_loadN (n := 3) rfl Tryz.underlying39 rfl kr (kv (.pointer (some ⟨b4, 0, none⟩))) (cs := [.int .i64 v1.X, .int .i64 v1.Y, .int .i64 v1.Z]) rfl (HS6.cells 0 3 _ rfl)) ?_)
     refine seqL1 kr ?_
     refine seqK rfl (does_run (run_eqS (b := ((v1.X == 0) && ((v1.Y == 0) && ((v1.Z == 0) && true)))) rfl (kv (.agg #[.int .i64 v1.X, .int .i64 v1.Y, .int .i64 v1.Z])) (kv (.agg #[.int .i64 0, .int .i64 0, .int .i64 0])) kr kr W5) ?_)
     refine seqL1 kr ?_
     refine nl (hK27 _ _ ?_)
     have hq_ := ite_some h; clear h; rcases hq_ with ⟨c29, h⟩ | ⟨c29, h⟩
     · have c29 : ((v1.X == 0) && ((v1.Y == 0) && ((v1.Z == 0) && true))) = true := c29
       refine wpRwI 22 kr c29 ?_
       refine wpRwI 25 kr c29 ?_
       refine condT kr ?_
       refine wp_seq_k fun K30 hK31 => rl ?_
       refine seqL1 kr ?_
       refine nl (hK31 _ _ ?_)
       refine wp_ret ?_
       refine hr13 _ _ ?_
       refine hret _ _ ?_
       refine ends_still (v := Value.int .i64 8) kr kr ?_
       have HS36 := HS6.drop
       injection h with h
       subst h
       exact ⟨f, rfl, FM.le.refl _, HS36⟩
     · have c29 : ¬ (((v1.X == 0) && ((v1.Y == 0) && ((v1.Z == 0) && true))) = true) := c29
       refine wpRwI 22 kr (Bool.eq_false_iff.mpr c29) ?_
       refine wpRwI 25 kr (Bool.eq_false_iff.mpr c29) ?_
       refine condF kr ?_
       refine wp_skip ?_
       refine hn12 _ _ ?_
       refine hK9 _ _ ?_
       refine wp_seq_k fun K32 hK33 => rl ?_
       refine seqL1 kr ?_
       refine nl (hK33 _ _ ?_)
       refine wp_ret ?_
       refine hret _ _ ?_
       refine ends_still (v := Value.int .i64 0) kr kr ?_
       have HS37 := HS6.drop
       injection h with h
       subst h
       exact ⟨f, rfl, FM.le.refl _, HS37⟩

set_option maxRecDepth 100000 in
set_option maxHeartbeats 4000000 in
theorem query_CheckAsk.calls (k : Nat) (A2 : Option Addr) (c3 : Nat) (q1 : S_Ask) {t w : World} {f : FM} {H : List Seg} (HS : St t w f (H)) (HR4 : SlR ty_Cone f A2 c3 q1.Cones) (rr1 : Int) (h : query_CheckAsk k q1 = some rr1) :
    Calls Tryz.prog 43 #[.agg #[.slice A2 q1.Cones.length c3, .int .i64 q1.From, .int .i64 q1.To, .int .i64 q1.Least, .int .i64 q1.Ban]] w (fun e w' => ∃ (g : FM), e = .returned (Value.int .i64 rr1) ∧ FM.le f g ∧ St t w' g (H)) := by
 unfold query_CheckAsk at h
 refine enter Tryz.func43 rfl (tm := #[(ag_Ask q1 A2 c3), uV, uV, uV, uV, uV, uV, uV, uV, uV, uV, uV, uV, uV, uV, uV, uV, uV, uV, uV, uV, uV, uV, uV, uV, uV, uV, uV, uV, uV, uV, uV, uV, uV, uV, uV, uV, uV, uV, uV, uV, uV, uV, uV, uV, uV, uV, uV, uV, uV, uV, uV, uV, uV, uV, uV, uV, uV, uV, uV, uV, uV, uV, uV, uV, uV, uV, uV, uV, uV, uV, uV]) kr ?_
 intro B hret hnor hnp
 refine wp_seq_k fun K5 hK6 => rl ?_
 refine seqK rfl (does_box (cs := #[.slice A2 q1.Cones.length c3, .int .i64 q1.From, .int .i64 q1.To, .int .i64 q1.Least, .int .i64 q1.Ban]) rfl (kv (.agg #[.slice A2 q1.Cones.length c3, .int .i64 q1.From, .int .i64 q1.To, .int .i64 q1.Least, .int .i64 q1.Ban])) rfl HS ?_)
 intro b7 W8 HS9
 refine seqL1 kr ?_
 refine nl (hK6 _ _ ?_)
 refine wp_seq_k (fun K11 hK12 => ?_)
 refine wp_seq_k fun K13 hK14 => rl ?_
 refine seqL1 kr ?_
 refine seqK rfl (does_run (run_load rfl Tryz.underlying47 rfl (kv (.pointer (some ⟨b7, 0, none⟩))) (HS9.cell 0)) ?_)
 refine seqL2 kr ?_
 refine nl (hK14 _ _ ?_)
 have hq_ := ite_some h; clear h; rcases hq_ with ⟨c16, h⟩ | ⟨c16, h⟩
 · have c16 : (q1.Cones.length : Int) > 4 := c16
   refine wpRwI 9 kr (decide_eq_true c16) ?_
   refine condT kr ?_
   refine wp_seq_k fun K17 hK18 => rl ?_
   refine seqL1 kr ?_
   refine nl (hK18 _ _ ?_)
   refine wp_ret ?_
   refine hret _ _ ?_
   refine ends_still (v := Value.int .i64 2) kr kr ?_
   have HS147 := HS9.drop
   injection h with h
   subst h
   exact ⟨f, rfl, FM.le.refl _, HS147⟩
 · have c16 : ¬ ((q1.Cones.length : Int) > 4) := c16
   refine wpRwI 9 kr (decide_eq_false c16) ?_
   refine condF kr ?_
   refine wp_skip ?_
   refine hK12 _ _ ?_
   refine wp_seq_k (fun K19 hK20 => ?_)
   refine wp_seq_k fun K21 hK22 => rl ?_
   refine seqL1 kr ?_
   refine seqK rfl (does_run (run_load rfl Tryz.underlying47 rfl (kv (.pointer (some ⟨b7, 0, none⟩))) (HS9.cell 0)) ?_)
   refine seqL2 kr ?_
   refine nl (hK22 _ _ ?_)
   refine blockK (fun B23 hx24 hn25 hr26 ho27 hp28 => ?_)
   have hq_ := bind_some h; clear h; obtain ⟨o29, hv99, h⟩ := hq_
   have JR101 : ∀ z_, some (Sum.inl z_) = some o29 → some z_ = some rr1 := by
    intro z_ e_; injection e_ with e_; subst e_; exact h
   have J100 : ∀ (f94 : FM) (j98 : Nat → Value) (W96 : World) (a_ : Act), FM.le f f94 → some (Sum.inr ()) = some o29 → St t W96 f94 ([(b7, .cells #[.slice A2 q1.Cones.length c3, .int .i64 q1.From, .int .i64 q1.To, .int .i64 q1.Least, .int .i64 q1.Ban] 51 (0, 0))] :: H) → a_ = ⟨#[(ag_Ask q1 A2 c3), pV b7 0, (j98 0), uV, (j98 1), (j98 2), pV b7 0, .slice A2 q1.Cones.length c3, iV (q1.Cones.length : Int), fV, pV b7 0, .slice A2 q1.Cones.length c3, iV (q1.Cones.length : Int), (j98 3), (j98 4), (j98 5), (j98 6), (j98 7), (j98 8), (j98 9), (j98 10), (j98 11), (j98 12), (j98 13), (j98 14), (j98 15), (j98 16), (j98 17), (j98 18), (j98 19), (j98 20), (j98 21), uV, uV, uV, uV, uV, uV, uV, uV, uV, uV, uV, uV, uV, uV, uV, uV, uV, uV, uV, uV, uV, uV, uV, uV, uV, uV, uV, uV, uV, uV, uV, uV, uV, uV, uV, uV, uV, uV, uV, uV], []⟩ → K19 a_ W96 := by
    intro f94 j98 W96 a_ L95 hj102 HS97  hfr_; subst hfr_
    injection hj102 with hj102; subst hj102; try dsimp only at h
    simp only [Sum.elim_inr] at h
    refine hK20 _ _ ?_
    refine wp_seq_k (fun K106 hK107 => ?_)
    refine blockK (fun B108 hx109 hn110 hr111 ho112 hp113 => ?_)
    refine wp_seq_k fun K115 hK116 => rl ?_
    refine seqL1 kr ?_
    refine seqK rfl (does_run (run_load rfl Tryz.underlying48 rfl (kv (.pointer (some ⟨b7, 1, none⟩))) (HS97.cell 1)) ?_)
    refine seqL1 kr ?_
    refine seqK rfl (does_run (run_load rfl Tryz.underlying48 rfl (kv (.pointer (some ⟨b7, 2, none⟩))) (HS97.cell 2)) ?_)
    refine seqL3 kr ?_
    have hq_ := ite_some h; clear h; rcases hq_ with ⟨c117, h⟩ | ⟨c117, h⟩
    · have c117 : (mn q1.From q1.To) < (-17592186044416) := c117
      refine seqRwI 38 kr (decide_eq_true c117) ?_
      refine seqRwI 39 kr (decide_eq_true c117) ?_
      refine seqL8 kr ?_
      refine nl (hK116 _ _ ?_)
      refine condT kr ?_
      refine wp_seq_k fun K118 hK119 => rl ?_
      refine seqL1 kr ?_
      refine nl (hK119 _ _ ?_)
      refine wp_ret ?_
      refine hr111 _ _ ?_
      refine hret _ _ ?_
      refine ends_still (v := Value.int .i64 4) kr kr ?_
      have HS154 := HS97.drop
      injection h with h
      subst h
      exact ⟨f94, rfl, L95, HS154⟩
    · have c117 : ¬ ((mn q1.From q1.To) < (-17592186044416)) := c117
      refine seqRwI 38 kr (decide_eq_false c117) ?_
      refine seqRwI 39 kr (decide_eq_false c117) ?_
      refine seqL1 kr ?_
      refine seqG kr (does_run (run_load rfl Tryz.underlying48 rfl (kv (.pointer (some ⟨b7, 1, none⟩))) (HS97.cell 1)) ?_)
      refine seqL1 kr ?_
      refine seqG kr (does_run (run_load rfl Tryz.underlying48 rfl (kv (.pointer (some ⟨b7, 2, none⟩))) (HS97.cell 2)) ?_)
      refine seqL4 kr ?_
      refine nl (hK116 _ _ ?_)
      have hq_ := ite_some h; clear h; rcases hq_ with ⟨c121, h⟩ | ⟨c121, h⟩
      · have c121 : (mx q1.From q1.To) > 17592186044416 := c121
        refine wpRwI 32 kr (decide_eq_true c121) ?_
        refine wpRwI 45 kr (decide_eq_true c121) ?_
        refine wpRwI 46 kr (decide_eq_true c121) ?_
        refine condT kr ?_
        refine wp_seq_k fun K122 hK123 => rl ?_
        refine seqL1 kr ?_
        refine nl (hK123 _ _ ?_)
        refine wp_ret ?_
        refine hr111 _ _ ?_
        refine hret _ _ ?_
        refine ends_still (v := Value.int .i64 4) kr kr ?_
        have HS155 := HS97.drop
        injection h with h
        subst h
        exact ⟨f94, rfl, L95, HS155⟩
      · have c121 : ¬ ((mx q1.From q1.To) > 17592186044416) := c121
        refine wpRwI 32 kr (decide_eq_false c121) ?_
        refine wpRwI 45 kr (decide_eq_false c121) ?_
        refine wpRwI 46 kr (decide_eq_false c121) ?_
        refine condF kr ?_
        refine wp_seq_k fun K124 hK125 => rl ?_
        refine seqL1 kr ?_
        refine seqK rfl (does_run (run_load rfl Tryz.underlying48 rfl (kv (.pointer (some ⟨b7, 1, none⟩))) (HS97.cell 1)) ?_)
        refine seqL1 kr ?_
        refine seqK rfl (does_run (run_load rfl Tryz.underlying48 rfl (kv (.pointer (some ⟨b7, 2, none⟩))) (HS97.cell 2)) ?_)
        refine seqL2 kr ?_
        refine nl (hK125 _ _ ?_)
        have hq_ := ite_some h; clear h; rcases hq_ with ⟨c127, h⟩ | ⟨c127, h⟩
        · have c127 : q1.From > q1.To := c127
          refine wpRwI 47 kr (decide_eq_true c127) ?_
          refine wpRwI 52 kr (decide_eq_true c127) ?_
          refine condT kr ?_
          refine wp_seq_k fun K128 hK129 => rl ?_
          refine seqL1 kr ?_
          refine nl (hK129 _ _ ?_)
          refine wp_ret ?_
          refine hr111 _ _ ?_
          refine hret _ _ ?_
          refine ends_still (v := Value.int .i64 11) kr kr ?_
          have HS156 := HS97.drop
          injection h with h
          subst h
          exact ⟨f94, rfl, L95, HS156⟩
        · have c127 : ¬ (q1.From > q1.To) := c127
          refine wpRwI 47 kr (decide_eq_false c127) ?_
          refine wpRwI 52 kr (decide_eq_false c127) ?_
          refine condF kr ?_
          refine wp_seq_k fun K130 hK131 => rl ?_
          refine seqL1 kr ?_
          refine seqK rfl (does_run (run_load rfl Tryz.underlying49 rfl (kv (.pointer (some ⟨b7, 3, none⟩))) (HS97.cell 3)) ?_)
          refine seqL2 kr ?_
          have hq_ := ite_some h; clear h; rcases hq_ with ⟨c132, h⟩ | ⟨c132, h⟩
          · have c132 : q1.Least < 0 := c132
            refine seqRwI 56 kr (decide_eq_true c132) ?_
            refine seqRwI 57 kr (decide_eq_true c132) ?_
            refine seqL15 kr ?_
            refine nl (hK131 _ _ ?_)
            refine condT kr ?_
            refine wp_seq_k fun K133 hK134 => rl ?_
            refine seqL1 kr ?_
            refine nl (hK134 _ _ ?_)
            refine wp_ret ?_
            refine hr111 _ _ ?_
            refine hret _ _ ?_
            refine ends_still (v := Value.int .i64 4) kr kr ?_
            have HS157 := HS97.drop
            injection h with h
            subst h
            exact ⟨f94, rfl, L95, HS157⟩
          · have c132 : ¬ (q1.Least < 0) := c132
            refine seqRwI 56 kr (decide_eq_false c132) ?_
            refine seqRwI 57 kr (decide_eq_false c132) ?_
            refine seqL1 kr ?_
            refine seqG kr (does_run (run_load rfl Tryz.underlying49 rfl (kv (.pointer (some ⟨b7, 3, none⟩))) (HS97.cell 3)) ?_)
            refine seqL3 kr ?_
            have hq_ := ite_some h; clear h; rcases hq_ with ⟨c135, h⟩ | ⟨c135, h⟩
            · have c135 : q1.Least > 1125899906842624 := c135
              refine seqRwI 60 kr (decide_eq_true c135) ?_
              refine seqRwI 61 kr (decide_eq_true c135) ?_
              refine seqRwI 62 kr (decide_eq_true c135) ?_
              refine seqL10 kr ?_
              refine nl (hK131 _ _ ?_)
              refine condT kr ?_
              refine wp_seq_k fun K136 hK137 => rl ?_
              refine seqL1 kr ?_
              refine nl (hK137 _ _ ?_)
              refine wp_ret ?_
              refine hr111 _ _ ?_
              refine hret _ _ ?_
              refine ends_still (v := Value.int .i64 4) kr kr ?_
              have HS158 := HS97.drop
              injection h with h
              subst h
              exact ⟨f94, rfl, L95, HS158⟩
            · have c135 : ¬ (q1.Least > 1125899906842624) := c135
              refine seqRwI 60 kr (decide_eq_false c135) ?_
              refine seqRwI 61 kr (decide_eq_false c135) ?_
              refine seqRwI 62 kr (decide_eq_false c135) ?_
              refine seqL1 kr ?_
              refine seqG kr (does_run (run_load rfl Tryz.underlying3 rfl (kv (.pointer (some ⟨b7, 4, none⟩))) (HS97.cell 4)) ?_)
              refine seqL3 kr ?_
              have hq_ := ite_some h; clear h; rcases hq_ with ⟨c138, h⟩ | ⟨c138, h⟩
              · have c138 : q1.Ban < 0 := c138
                refine seqRwI 65 kr (decide_eq_true c138) ?_
                refine seqRwI 66 kr (decide_eq_true c138) ?_
                refine seqRwI 67 kr (decide_eq_true c138) ?_
                refine seqL5 kr ?_
                refine nl (hK131 _ _ ?_)
                refine condT kr ?_
                refine wp_seq_k fun K139 hK140 => rl ?_
                refine seqL1 kr ?_
                refine nl (hK140 _ _ ?_)
                refine wp_ret ?_
                refine hr111 _ _ ?_
                refine hret _ _ ?_
                refine ends_still (v := Value.int .i64 4) kr kr ?_
                have HS159 := HS97.drop
                injection h with h
                subst h
                exact ⟨f94, rfl, L95, HS159⟩
              · have c138 : ¬ (q1.Ban < 0) := c138
                refine seqRwI 65 kr (decide_eq_false c138) ?_
                refine seqRwI 66 kr (decide_eq_false c138) ?_
                refine seqRwI 67 kr (decide_eq_false c138) ?_
                refine seqL1 kr ?_
                refine seqG kr (does_run (run_load rfl Tryz.underlying3 rfl (kv (.pointer (some ⟨b7, 4, none⟩))) (HS97.cell 4)) ?_)
                refine seqL3 kr ?_
                refine nl (hK131 _ _ ?_)
                have hq_ := ite_some h; clear h; rcases hq_ with ⟨c142, h⟩ | ⟨c142, h⟩
                · have c142 : q1.Ban > 3 := c142
                  refine wpRwI 53 kr (decide_eq_true c142) ?_
                  refine wpRwI 70 kr (decide_eq_true c142) ?_
                  refine wpRwI 71 kr (decide_eq_true c142) ?_
                  refine condT kr ?_
                  refine wp_seq_k fun K143 hK144 => rl ?_
                  refine seqL1 kr ?_
                  refine nl (hK144 _ _ ?_)
                  refine wp_ret ?_
                  refine hr111 _ _ ?_
                  refine hret _ _ ?_
                  refine ends_still (v := Value.int .i64 4) kr kr ?_
                  have HS160 := HS97.drop
                  injection h with h
                  subst h
                  exact ⟨f94, rfl, L95, HS160⟩
                · have c142 : ¬ (q1.Ban > 3) := c142
                  refine wpRwI 53 kr (decide_eq_false c142) ?_
                  refine wpRwI 70 kr (decide_eq_false c142) ?_
                  refine wpRwI 71 kr (decide_eq_false c142) ?_
                  refine condF kr ?_
                  refine wp_skip ?_
                  refine hn110 _ _ ?_
                  refine hK107 _ _ ?_
                  refine wp_seq_k fun K145 hK146 => rl ?_
                  refine seqL1 kr ?_
                  refine nl (hK146 _ _ ?_)
                  refine wp_ret ?_
                  refine hret _ _ ?_
                  refine ends_still (v := Value.int .i64 0) kr kr ?_
                  have HS161 := HS97.drop
                  injection h with h
                  subst h
                  exact ⟨f94, rfl, L95, HS161⟩
   clear h; have h := hv99; clear hv99
   refine loopK (fun n_ a_ w_ => ∃ (f33 : FM) (x38 : Int) (j37 : Nat → Value), FM.le f f33 ∧ St t w_ f33 ([(b7, .cells #[.slice A2 q1.Cones.length c3, .int .i64 q1.From, .int .i64 q1.To, .int .i64 q1.Least, .int .i64 q1.Ban] 51 (0, 0))] :: H) ∧ query_CheckAsk.l0 k q1 n_ x38 = some o29 ∧ a_ = ⟨#[(ag_Ask q1 A2 c3), pV b7 0, (j37 0), uV, (j37 1), (j37 2), pV b7 0, .slice A2 q1.Cones.length c3, iV (q1.Cones.length : Int), fV, pV b7 0, .slice A2 q1.Cones.length c3, iV (q1.Cones.length : Int), iV x38, (j37 3), (j37 4), (j37 5), (j37 6), (j37 7), (j37 8), (j37 9), (j37 10), (j37 11), (j37 12), (j37 13), (j37 14), (j37 15), (j37 16), (j37 17), (j37 18), (j37 19), (j37 20), uV, uV, uV, uV, uV, uV, uV, uV, uV, uV, uV, uV, uV, uV, uV, uV, uV, uV, uV, uV, uV, uV, uV, uV, uV, uV, uV, uV, uV, uV, uV, uV, uV, uV, uV, uV, uV, uV, uV, uV], []⟩) k ⟨f, 0, (jL [iV 0]), fL, HS9, h, kr⟩ ?_
   clear h
   rintro n32 _ W35 ⟨f33, x38, j37, L34, HS36, h, rfl⟩ K30 hK31
   obtain _ | n32 := n32
   · exact nomatch h
   simp only [query_CheckAsk.l0] at h
   refine wp_seq_k fun K39 hK40 => rl ?_
   refine seqL1 kr ?_
   refine nl (hK40 _ _ ?_)
   refine wp_seq_k (fun K41 hK42 => ?_)
   have hq_ := ite_some h; clear h; rcases hq_ with ⟨c44, h⟩ | ⟨c44, h⟩
   · have c44 : x38 < (q1.Cones.length : Int) := c44
     refine wpRwI 14 kr (decide_eq_true c44) ?_
     refine condT kr ?_
     refine wp_skip ?_
     refine hK42 _ _ ?_
     refine wp_seq_k (fun K45 hK46 => ?_)
     refine blockK (fun B47 hx48 hn49 hr50 ho51 hp52 => ?_)
     refine wp_seq_k fun K54 hK55 => rl ?_
     have hq_ := guard_some h; clear h; obtain ⟨c56, h⟩ := hq_
     have c56 : 0 ≤ x38 := c56
     obtain ⟨b60, of61, cs57, hA62, hr58, hc59⟩ := (HR4.mono L34).at (i := x38) c56 c44
     obtain rfl := hr58
     refine seqK rfl (does_run (run_indexE hA62 (sz := 4) rfl Tryz.underlying47 kr (kv (.slice A2 q1.Cones.length c3)) (kv (.int .i64 x38)) c56 c44 W35) ?_)
     refine seqK rfl (does_run (run_loadN (n := 4) rfl Tryz.underlying55 rfl kr (kv (.pointer (some ⟨b60, of61 + (x38 : Int).toNat * 4, none⟩))) (cs := [.int .i64 (((rd q1.Cones x38).At).X), .int .i64 (((rd q1.Cones x38).At).Y), .int .i64 (((rd q1.Cones x38).At).Z), .int .i64 ((rd q1.Cones x38).Cos)]) rfl (fun j_ hj_ => ((hc59 fL HS36) j_ hj_))) ?_)
     refine seqK rfl (does_alloc (z := Value.agg #[.int .i64 0, .int .i64 0, .int .i64 0, .int .i64 0]) (cs := #[.int .i64 0, .int .i64 0, .int .i64 0, .int .i64 0]) rfl kr rfl HS36 ?_)
     intro b63 W64 HS65
     refine seqK rfl (does_storeA (vs := [.int .i64 (((rd q1.Cones x38).At).X), .int .i64 (((rd q1.Cones x38).At).Y), .int .i64 (((rd q1.Cones x38).At).Z), .int .i64 ((rd q1.Cones x38).Cos)]) rfl kr kr kr rfl (ones rfl) HS65 kr ?_)
     intro W67 HS68
     refine nl (hK55 _ _ ?_)
     refine wp_seq_k (fun K69 hK70 => ?_)
     refine wp_seq_k fun K71 hK72 => rl ?_
     refine seqL1 kr ?_
     refine seqK rfl (does_run (run_loadN (n := 3) rfl Tryz.underlying39 rfl kr (kv (.pointer (some ⟨b63, 0, none⟩))) (cs := [.int .i64 (((rd q1.Cones x38).At).X), .int .i64 (((rd q1.Cones x38).At).Y), .int .i64 (((rd q1.Cones x38).At).Z)]) rfl (HS68.cells 0 3 _ rfl)) ?_)
     have hq_ := bind_some h; clear h; obtain ⟨vt73, hc74, h⟩ := hq_
     refine seqK rfl (does_call (f := 73) (args := #[.agg #[.int .i64 (((rd q1.Cones x38).At).X), .int .i64 (((rd q1.Cones x38).At).Y), .int .i64 (((rd q1.Cones x38).At).Z)]]) kr (sphere_Check.calls k ((rd q1.Cones x38).At) HS68 vt73 hc74) ?_)
     rintro _ W77 ⟨f75, rfl, L76, HS78⟩
     refine ⟨_, rfl, ?_⟩
     refine seqL1 kr ?_
     refine nl (hK72 _ _ ?_)
     refine wp_seq_k fun K79 hK80 => rl ?_
     refine seqL2 kr ?_
     refine nl (hK80 _ _ ?_)
     have hq_ := ite_some h; clear h; rcases hq_ with ⟨c82, h⟩ | ⟨c82, h⟩
     · have c82 : vt73 ≠ 0 := c82
       refine wpRwI 21 kr (bne_iff_ne.mpr c82) ?_
       refine condT kr ?_
       refine wp_seq_k fun K83 hK84 => rl ?_
       refine seqL2 kr ?_
       refine nl (hK84 _ _ ?_)
       refine wp_ret ?_
       refine hr50 _ _ ?_
       refine hr26 _ _ ?_
       refine hret _ _ ?_
       refine ends_still (v := Value.int .i64 vt73) kr kr ?_
       have HS148 := HS78.drop
       have HS149 := HS148.drop
       replace h := JR101 _ h
       injection h with h
       subst h
       exact ⟨f75, rfl, (L34.trans L76), HS149⟩
     · have c82 : ¬ (vt73 ≠ 0) := c82
       refine wpRwI 21 (x := (vt73 != 0)) (v := false) kr (bne_eq_false_iff_eq.mpr (Decidable.of_not_not c82)) ?_
       refine condF kr ?_
       refine wp_skip ?_
       refine hK70 _ _ ?_
       refine wp_seq_k fun K85 hK86 => rl ?_
       refine seqL1 kr ?_
       refine seqK rfl (does_run (run_load rfl Tryz.underlying23 rfl (kv (.pointer (some ⟨b63, 3, none⟩))) (HS78.cell 3)) ?_)
       refine seqL2 kr ?_
       have hq_ := ite_some h; clear h; rcases hq_ with ⟨c87, h⟩ | ⟨c87, h⟩
       · have c87 : ((rd q1.Cones x38).Cos) < 0 := c87
         refine seqRwI 25 kr (decide_eq_true c87) ?_
         refine seqRwI 26 kr (decide_eq_true c87) ?_
         refine seqL4 kr ?_
         refine nl (hK86 _ _ ?_)
         refine condT kr ?_
         refine wp_seq_k fun K88 hK89 => rl ?_
         refine seqL1 kr ?_
         refine nl (hK89 _ _ ?_)
         refine wp_ret ?_
         refine hr50 _ _ ?_
         refine hr26 _ _ ?_
         refine hret _ _ ?_
         refine ends_still (v := Value.int .i64 4) kr kr ?_
         have HS150 := HS78.drop
         have HS151 := HS150.drop
         replace h := JR101 _ h
         injection h with h
         subst h
         exact ⟨f75, rfl, (L34.trans L76), HS151⟩
       · have c87 : ¬ (((rd q1.Cones x38).Cos) < 0) := c87
         refine seqRwI 25 kr (decide_eq_false c87) ?_
         refine seqRwI 26 kr (decide_eq_false c87) ?_
         refine seqL1 kr ?_
         refine seqG kr (does_run (run_load rfl Tryz.underlying23 rfl (kv (.pointer (some ⟨b63, 3, none⟩))) (HS78.cell 3)) ?_)
         refine seqL2 kr ?_
         refine nl (hK86 _ _ ?_)
         have hq_ := ite_some h; clear h; rcases hq_ with ⟨c91, h⟩ | ⟨c91, h⟩
         · have c91 : ((rd q1.Cones x38).Cos) > 1073741824 := c91
           refine wpRwI 29 kr (decide_eq_true c91) ?_
           refine wpRwI 30 kr (decide_eq_true c91) ?_
           refine condT kr ?_
           refine wp_seq_k fun K92 hK93 => rl ?_
           refine seqL1 kr ?_
           refine nl (hK93 _ _ ?_)
           refine wp_ret ?_
           refine hr50 _ _ ?_
           refine hr26 _ _ ?_
           refine hret _ _ ?_
           refine ends_still (v := Value.int .i64 4) kr kr ?_
           have HS152 := HS78.drop
           have HS153 := HS152.drop
           replace h := JR101 _ h
           injection h with h
           subst h
           exact ⟨f75, rfl, (L34.trans L76), HS153⟩
         · have c91 : ¬ (((rd q1.Cones x38).Cos) > 1073741824) := c91
           refine wpRwI 29 kr (decide_eq_false c91) ?_
           refine wpRwI 30 kr (decide_eq_false c91) ?_
           refine condF kr ?_
           refine wp_skip ?_
           refine hn49 _ _ ?_
           refine hK46 _ _ ?_
           refine rl ?_
           refine seqL2 kr ?_
           refine nl ?_
           refine hK31 n32 _ _ (Nat.lt_succ_self _) ?_
           have HS104 := HS78.u1.u1
           have HS105 := HS104.drop
           exact ⟨f75, (w64 (x38 + 1)), (jL [(j37 0), .pointer (some ⟨b63, 0, none⟩), iV vt73, tV, .pointer (some ⟨b60, of61 + (x38 : Int).toNat * 4, none⟩), (ag_Cone (rd q1.Cones x38)), .pointer (some ⟨b63, 0, none⟩), (ag_Vec ((rd q1.Cones x38).At)), iV vt73, iV vt73, fV, (j37 11), .pointer (some ⟨b63, 3, none⟩), iV ((rd q1.Cones x38).Cos), fV, fV, .pointer (some ⟨b63, 3, none⟩), iV ((rd q1.Cones x38).Cos), fV, fV, iV (w64 (x38 + 1))]), (L34.trans L76), HS105, h, kr⟩
   · have c44 : ¬ (x38 < (q1.Cones.length : Int)) := c44
     refine wpRwI 14 kr (decide_eq_false c44) ?_
     refine condF kr ?_
     refine wp_exit ?_
     refine hx24 _ _ ?_
     exact J100 f33 (jL [(j37 0), (j37 1), (j37 2), iV x38, fV, (j37 4), (j37 5), (j37 6), (j37 7), (j37 8), (j37 9), (j37 10), (j37 11), (j37 12), (j37 13), (j37 14), (j37 15), (j37 16), (j37 17), (j37 18), (j37 19), (j37 20)]) W35 _ L34 h HS36 kr

set_option maxRecDepth 100000 in
set_option maxHeartbeats 4000000 in
theorem query_between_Tick.calls (k : Nat)  (b1 : S_Bound) (lo2 : Int) (hi3 : Int) {t w : World} {f : FM} {H : List Seg} (HS : St t w f (H)) (rr1 : Int) (h : query_between_Tick k b1 lo2 hi3 = some rr1) :
    Calls Tryz.prog 54 #[.agg #[.int .i64 b1.Lo, .int .i64 b1.Hi, .bool b1.Unknown], .int .i64 lo2, .int .i64 hi3] w (fun e w' => ∃ (g : FM), e = .returned (Value.int .i64 rr1) ∧ FM.le f g ∧ St t w' g (H)) := by
 unfold query_between_Tick at h
 refine enter Tryz.func54 rfl (tm := #[(ag_Bound b1), iV lo2, iV hi3, uV, uV, uV, uV, uV, uV, uV, uV, uV, uV, uV, uV, uV, uV, uV, uV, uV, uV, uV, uV, uV, uV, uV, uV, uV, uV, uV, uV, uV]) kr ?_
 intro B hret hnor hnp
 refine wp_seq_k fun K4 hK5 => rl ?_
 refine seqK rfl (does_box (cs := #[.int .i64 b1.Lo, .int .i64 b1.Hi, .bool b1.Unknown]) rfl (kv (.agg #[.int .i64 b1.Lo, .int .i64 b1.Hi, .bool b1.Unknown])) rfl HS ?_)
 intro b6 W7 HS8
 refine seqL1 kr ?_
 refine nl (hK5 _ _ ?_)
 refine wp_seq_k (fun K10 hK11 => ?_)
 refine blockK (fun B12 hx13 hn14 hr15 ho16 hp17 => ?_)
 refine wp_seq_k fun K19 hK20 => rl ?_
 refine seqL1 kr ?_
 refine seqK rfl (does_run (run_load rfl Tryz.underlying4 rfl (kv (.pointer (some ⟨b6, 2, none⟩))) (HS8.cell 2)) ?_)
 refine seqL1 kr ?_
 refine nl (hK20 _ _ ?_)
 have hq_ := ite_some h; clear h; rcases hq_ with ⟨c22, h⟩ | ⟨c22, h⟩
 · have c22 : b1.Unknown = true := c22
   refine wpRwI 7 kr c22 ?_
   refine wpRwI 9 kr c22 ?_
   refine condT kr ?_
   refine wp_seq_k fun K23 hK24 => rl ?_
   refine seqL1 kr ?_
   refine nl (hK24 _ _ ?_)
   refine wp_ret ?_
   refine hr15 _ _ ?_
   refine hret _ _ ?_
   refine ends_still (v := Value.int .i64 1) kr kr ?_
   have HS45 := HS8.drop
   injection h with h
   subst h
   exact ⟨f, rfl, FM.le.refl _, HS45⟩
 · have c22 : ¬ (b1.Unknown = true) := c22
   refine wpRwI 7 kr (Bool.eq_false_iff.mpr c22) ?_
   refine wpRwI 9 kr (Bool.eq_false_iff.mpr c22) ?_
   refine condF kr ?_
   refine wp_seq_k fun K25 hK26 => rl ?_
   refine seqL1 kr ?_
   refine seqK rfl (does_run (run_load rfl Tryz.underlying48 rfl (kv (.pointer (some ⟨b6, 1, none⟩))) (HS8.cell 1)) ?_)
   refine seqL3 kr ?_
   have hq_ := ite_some h; clear h; rcases hq_ with ⟨c27, h⟩ | ⟨c27, h⟩
   · have c27 : b1.Hi < lo2 := c27
     refine seqRwI 14 kr (decide_eq_true c27) ?_
     refine seqRwI 15 kr (decide_eq_true c27) ?_
     refine seqL6 kr ?_
     refine nl (hK26 _ _ ?_)
     refine condT kr ?_
     refine wp_seq_k fun K28 hK29 => rl ?_
     refine seqL1 kr ?_
     refine nl (hK29 _ _ ?_)
     refine wp_ret ?_
     refine hr15 _ _ ?_
     refine hret _ _ ?_
     refine ends_still (v := Value.int .i64 0) kr kr ?_
     have HS46 := HS8.drop
     injection h with h
     subst h
     exact ⟨f, rfl, FM.le.refl _, HS46⟩
   · have c27 : ¬ (b1.Hi < lo2) := c27
     refine seqRwI 14 kr (decide_eq_false c27) ?_
     refine seqRwI 15 kr (decide_eq_false c27) ?_
     refine seqL1 kr ?_
     refine seqG kr (does_run (run_load rfl Tryz.underlying48 rfl (kv (.pointer (some ⟨b6, 0, none⟩))) (HS8.cell 0)) ?_)
     refine seqL4 kr ?_
     refine nl (hK26 _ _ ?_)
     have hq_ := ite_some h; clear h; rcases hq_ with ⟨c31, h⟩ | ⟨c31, h⟩
     · have c31 : b1.Lo > hi3 := c31
       refine wpRwI 10 kr (decide_eq_true c31) ?_
       refine wpRwI 19 kr (decide_eq_true c31) ?_
       refine wpRwI 20 kr (decide_eq_true c31) ?_
       refine condT kr ?_
       refine wp_seq_k fun K32 hK33 => rl ?_
       refine seqL1 kr ?_
       refine nl (hK33 _ _ ?_)
       refine wp_ret ?_
       refine hr15 _ _ ?_
       refine hret _ _ ?_
       refine ends_still (v := Value.int .i64 0) kr kr ?_
       have HS47 := HS8.drop
       injection h with h
       subst h
       exact ⟨f, rfl, FM.le.refl _, HS47⟩
     · have c31 : ¬ (b1.Lo > hi3) := c31
       refine wpRwI 10 kr (decide_eq_false c31) ?_
       refine wpRwI 19 kr (decide_eq_false c31) ?_
       refine wpRwI 20 kr (decide_eq_false c31) ?_
       refine condF kr ?_
       refine wp_seq_k fun K34 hK35 => rl ?_
       refine seqL1 kr ?_
       refine seqK rfl (does_run (run_load rfl Tryz.underlying48 rfl (kv (.pointer (some ⟨b6, 0, none⟩))) (HS8.cell 0)) ?_)
       refine seqL3 kr ?_
       have hq_ := ite_some h; clear h; rcases hq_ with ⟨c36, h⟩ | ⟨c36, h⟩
       · have c36 : b1.Lo ≥ lo2 := c36
         refine seqRwI 25 kr (decide_eq_true c36) ?_
         refine seqRwI 26 kr (decide_eq_true c36) ?_
         refine seqL1 kr ?_
         refine seqG kr (does_run (run_load rfl Tryz.underlying48 rfl (kv (.pointer (some ⟨b6, 1, none⟩))) (HS8.cell 1)) ?_)
         refine seqL4 kr ?_
         refine nl (hK35 _ _ ?_)
         have hq_ := ite_some h; clear h; rcases hq_ with ⟨c38, h⟩ | ⟨c38, h⟩
         · have c38 : b1.Hi ≤ hi3 := c38
           refine wpRwI 21 kr (decide_eq_true c38) ?_
           refine wpRwI 30 kr (decide_eq_true c38) ?_
           refine wpRwI 31 kr (decide_eq_true c38) ?_
           refine condT kr ?_
           refine wp_seq_k fun K39 hK40 => rl ?_
           refine seqL1 kr ?_
           refine nl (hK40 _ _ ?_)
           refine wp_ret ?_
           refine hr15 _ _ ?_
           refine hret _ _ ?_
           refine ends_still (v := Value.int .i64 2) kr kr ?_
           have HS48 := HS8.drop
           injection h with h
           subst h
           exact ⟨f, rfl, FM.le.refl _, HS48⟩
         · have c38 : ¬ (b1.Hi ≤ hi3) := c38
           refine wpRwI 21 kr (decide_eq_false c38) ?_
           refine wpRwI 30 kr (decide_eq_false c38) ?_
           refine wpRwI 31 kr (decide_eq_false c38) ?_
           refine condF kr ?_
           refine wp_skip ?_
           refine hn14 _ _ ?_
           refine hK11 _ _ ?_
           refine wp_seq_k fun K41 hK42 => rl ?_
           refine seqL1 kr ?_
           refine nl (hK42 _ _ ?_)
           refine wp_ret ?_
           refine hret _ _ ?_
           refine ends_still (v := Value.int .i64 1) kr kr ?_
           have HS49 := HS8.drop
           injection h with h
           subst h
           exact ⟨f, rfl, FM.le.refl _, HS49⟩
       · have c36 : ¬ (b1.Lo ≥ lo2) := c36
         refine seqRwI 25 kr (decide_eq_false c36) ?_
         refine seqRwI 26 kr (decide_eq_false c36) ?_
         refine seqL6 kr ?_
         refine nl (hK35 _ _ ?_)
         refine condF kr ?_
         refine wp_skip ?_
         refine hn14 _ _ ?_
         refine hK11 _ _ ?_
         refine wp_seq_k fun K43 hK44 => rl ?_
         refine seqL1 kr ?_
         refine nl (hK44 _ _ ?_)
         refine wp_ret ?_
         refine hret _ _ ?_
         refine ends_still (v := Value.int .i64 1) kr kr ?_
         have HS50 := HS8.drop
         injection h with h
         subst h
         exact ⟨f, rfl, FM.le.refl _, HS50⟩

set_option maxRecDepth 100000 in
set_option maxHeartbeats 4000000 in
theorem query_between_Quanta.calls (k : Nat)  (b1 : S_Bound) (lo2 : Int) (hi3 : Int) {t w : World} {f : FM} {H : List Seg} (HS : St t w f (H)) (rr1 : Int) (h : query_between_Quanta k b1 lo2 hi3 = some rr1) :
    Calls Tryz.prog 74 #[.agg #[.int .i64 b1.Lo, .int .i64 b1.Hi, .bool b1.Unknown], .int .i64 lo2, .int .i64 hi3] w (fun e w' => ∃ (g : FM), e = .returned (Value.int .i64 rr1) ∧ FM.le f g ∧ St t w' g (H)) := by
 unfold query_between_Quanta at h
 refine enter Tryz.func74 rfl (tm := #[(ag_Bound b1), iV lo2, iV hi3, uV, uV, uV, uV, uV, uV, uV, uV, uV, uV, uV, uV, uV, uV, uV, uV, uV, uV, uV, uV, uV, uV, uV, uV, uV, uV, uV, uV, uV]) kr ?_
 intro B hret hnor hnp
 refine wp_seq_k fun K4 hK5 => rl ?_
 refine seqK rfl (does_box (cs := #[.int .i64 b1.Lo, .int .i64 b1.Hi, .bool b1.Unknown]) rfl (kv (.agg #[.int .i64 b1.Lo, .int .i64 b1.Hi, .bool b1.Unknown])) rfl HS ?_)
 intro b6 W7 HS8
 refine seqL1 kr ?_
 refine nl (hK5 _ _ ?_)
 refine wp_seq_k (fun K10 hK11 => ?_)
 refine blockK (fun B12 hx13 hn14 hr15 ho16 hp17 => ?_)
 refine wp_seq_k fun K19 hK20 => rl ?_
 refine seqL1 kr ?_
 refine seqK rfl (does_run (run_load rfl Tryz.underlying4 rfl (kv (.pointer (some ⟨b6, 2, none⟩))) (HS8.cell 2)) ?_)
 refine seqL1 kr ?_
 refine nl (hK20 _ _ ?_)
 have hq_ := ite_some h; clear h; rcases hq_ with ⟨c22, h⟩ | ⟨c22, h⟩
 · have c22 : b1.Unknown = true := c22
   refine wpRwI 7 kr c22 ?_
   refine wpRwI 9 kr c22 ?_
   refine condT kr ?_
   refine wp_seq_k fun K23 hK24 => rl ?_
   refine seqL1 kr ?_
   refine nl (hK24 _ _ ?_)
   refine wp_ret ?_
   refine hr15 _ _ ?_
   refine hret _ _ ?_
   refine ends_still (v := Value.int .i64 1) kr kr ?_
   have HS45 := HS8.drop
   injection h with h
   subst h
   exact ⟨f, rfl, FM.le.refl _, HS45⟩
 · have c22 : ¬ (b1.Unknown = true) := c22
   refine wpRwI 7 kr (Bool.eq_false_iff.mpr c22) ?_
   refine wpRwI 9 kr (Bool.eq_false_iff.mpr c22) ?_
   refine condF kr ?_
   refine wp_seq_k fun K25 hK26 => rl ?_
   refine seqL1 kr ?_
   refine seqK rfl (does_run (run_load rfl Tryz.underlying49 rfl (kv (.pointer (some ⟨b6, 1, none⟩))) (HS8.cell 1)) ?_)
   refine seqL3 kr ?_
   have hq_ := ite_some h; clear h; rcases hq_ with ⟨c27, h⟩ | ⟨c27, h⟩
   · have c27 : b1.Hi < lo2 := c27
     refine seqRwI 14 kr (decide_eq_true c27) ?_
     refine seqRwI 15 kr (decide_eq_true c27) ?_
     refine seqL6 kr ?_
     refine nl (hK26 _ _ ?_)
     refine condT kr ?_
     refine wp_seq_k fun K28 hK29 => rl ?_
     refine seqL1 kr ?_
     refine nl (hK29 _ _ ?_)
     refine wp_ret ?_
     refine hr15 _ _ ?_
     refine hret _ _ ?_
     refine ends_still (v := Value.int .i64 0) kr kr ?_
     have HS46 := HS8.drop
     injection h with h
     subst h
     exact ⟨f, rfl, FM.le.refl _, HS46⟩
   · have c27 : ¬ (b1.Hi < lo2) := c27
     refine seqRwI 14 kr (decide_eq_false c27) ?_
     refine seqRwI 15 kr (decide_eq_false c27) ?_
     refine seqL1 kr ?_
     refine seqG kr (does_run (run_load rfl Tryz.underlying49 rfl (kv (.pointer (some ⟨b6, 0, none⟩))) (HS8.cell 0)) ?_)
     refine seqL4 kr ?_
     refine nl (hK26 _ _ ?_)
     have hq_ := ite_some h; clear h; rcases hq_ with ⟨c31, h⟩ | ⟨c31, h⟩
     · have c31 : b1.Lo > hi3 := c31
       refine wpRwI 10 kr (decide_eq_true c31) ?_
       refine wpRwI 19 kr (decide_eq_true c31) ?_
       refine wpRwI 20 kr (decide_eq_true c31) ?_
       refine condT kr ?_
       refine wp_seq_k fun K32 hK33 => rl ?_
       refine seqL1 kr ?_
       refine nl (hK33 _ _ ?_)
       refine wp_ret ?_
       refine hr15 _ _ ?_
       refine hret _ _ ?_
       refine ends_still (v := Value.int .i64 0) kr kr ?_
       have HS47 := HS8.drop
       injection h with h
       subst h
       exact ⟨f, rfl, FM.le.refl _, HS47⟩
     · have c31 : ¬ (b1.Lo > hi3) := c31
       refine wpRwI 10 kr (decide_eq_false c31) ?_
       refine wpRwI 19 kr (decide_eq_false c31) ?_
       refine wpRwI 20 kr (decide_eq_false c31) ?_
       refine condF kr ?_
       refine wp_seq_k fun K34 hK35 => rl ?_
       refine seqL1 kr ?_
       refine seqK rfl (does_run (run_load rfl Tryz.underlying49 rfl (kv (.pointer (some ⟨b6, 0, none⟩))) (HS8.cell 0)) ?_)
       refine seqL3 kr ?_
       have hq_ := ite_some h; clear h; rcases hq_ with ⟨c36, h⟩ | ⟨c36, h⟩
       · have c36 : b1.Lo ≥ lo2 := c36
         refine seqRwI 25 kr (decide_eq_true c36) ?_
         refine seqRwI 26 kr (decide_eq_true c36) ?_
         refine seqL1 kr ?_
         refine seqG kr (does_run (run_load rfl Tryz.underlying49 rfl (kv (.pointer (some ⟨b6, 1, none⟩))) (HS8.cell 1)) ?_)
         refine seqL4 kr ?_
         refine nl (hK35 _ _ ?_)
         have hq_ := ite_some h; clear h; rcases hq_ with ⟨c38, h⟩ | ⟨c38, h⟩
         · have c38 : b1.Hi ≤ hi3 := c38
           refine wpRwI 21 kr (decide_eq_true c38) ?_
           refine wpRwI 30 kr (decide_eq_true c38) ?_
           refine wpRwI 31 kr (decide_eq_true c38) ?_
           refine condT kr ?_
           refine wp_seq_k fun K39 hK40 => rl ?_
           refine seqL1 kr ?_
           refine nl (hK40 _ _ ?_)
           refine wp_ret ?_
           refine hr15 _ _ ?_
           refine hret _ _ ?_
           refine ends_still (v := Value.int .i64 2) kr kr ?_
           have HS48 := HS8.drop
           injection h with h
           subst h
           exact ⟨f, rfl, FM.le.refl _, HS48⟩
         · have c38 : ¬ (b1.Hi ≤ hi3) := c38
           refine wpRwI 21 kr (decide_eq_false c38) ?_
           refine wpRwI 30 kr (decide_eq_false c38) ?_
           refine wpRwI 31 kr (decide_eq_false c38) ?_
           refine condF kr ?_
           refine wp_skip ?_
           refine hn14 _ _ ?_
           refine hK11 _ _ ?_
           refine wp_seq_k fun K41 hK42 => rl ?_
           refine seqL1 kr ?_
           refine nl (hK42 _ _ ?_)
           refine wp_ret ?_
           refine hret _ _ ?_
           refine ends_still (v := Value.int .i64 1) kr kr ?_
           have HS49 := HS8.drop
           injection h with h
           subst h
           exact ⟨f, rfl, FM.le.refl _, HS49⟩
       · have c36 : ¬ (b1.Lo ≥ lo2) := c36
         refine seqRwI 25 kr (decide_eq_false c36) ?_
         refine seqRwI 26 kr (decide_eq_false c36) ?_
         refine seqL6 kr ?_
         refine nl (hK35 _ _ ?_)
         refine condF kr ?_
         refine wp_skip ?_
         refine hn14 _ _ ?_
         refine hK11 _ _ ?_
         refine wp_seq_k fun K43 hK44 => rl ?_
         refine seqL1 kr ?_
         refine nl (hK44 _ _ ?_)
         refine wp_ret ?_
         refine hret _ _ ?_
         refine ends_still (v := Value.int .i64 1) kr kr ?_
         have HS50 := HS8.drop
         injection h with h
         subst h
         exact ⟨f, rfl, FM.le.refl _, HS50⟩

set_option maxRecDepth 100000 in
set_option maxHeartbeats 4000000 in
theorem query_point_1.calls (k : Nat)  (c1 : Int) {t w : World} {f : FM} {H : List Seg} (HS : St t w f (H)) (rr1 : S_Bound) (h : query_point_1 k c1 = some rr1) :
    Calls Tryz.prog 87 #[.int .i64 c1] w (fun e w' => ∃ (g : FM), e = .returned (Value.agg #[.int .i64 rr1.Lo, .int .i64 rr1.Hi, .bool rr1.Unknown]) ∧ FM.le f g ∧ St t w' g (H)) := by
 unfold query_point_1 at h
 refine enter Tryz.func87 rfl (tm := #[iV c1, uV, uV, uV, uV, uV]) kr ?_
 intro B hret hnor hnp
 refine wp_seq_k fun K2 hK3 => rl ?_
 refine seqK rfl (does_alloc (z := Value.agg #[.int .i64 0, .int .i64 0, .bool false]) (cs := #[.int .i64 0, .int .i64 0, .bool false]) rfl kr rfl HS ?_)
 intro b4 W5 HS6
 refine nl (hK3 _ _ ?_)
 refine wp_seq_k fun K8 hK9 => rl ?_
 refine seqL3 kr ?_
 refine seqK rfl (does_storeA (vs := [.int .i64 c1, .int .i64 c1, .bool false]) rfl kr kr kr rfl (ones rfl) HS6 kr ?_)
 intro W10 HS11
 refine nl (hK9 _ _ ?_)
 refine wp_ret ?_
 refine hret _ _ ?_
 refine ends (v := Value.agg #[.int .i64 c1, .int .i64 c1, .bool false]) (results1 (q1 := .cell 2 29) kr (resN (n := 3) (cs := [.int .i64 c1, .int .i64 c1, .bool false]) (kv (.pointer (some ⟨b4, 0, none⟩))) Tryz.underlying29 rfl kr rfl (HS11.cells 0 3 _ rfl))) kr ?_
 have HS12 := HS11.drop
 injection h with h
 subst h
 exact ⟨f, rfl, FM.le.refl _, HS12⟩

set_option maxRecDepth 100000 in
set_option maxHeartbeats 4000000 in
theorem query_point.calls (k : Nat)  (v1 : S_Vec) {t w : World} {f : FM} {H : List Seg} (HS : St t w f (H)) (rr1 : S_Box) (h : query_point k v1 = some rr1) :
    Calls Tryz.prog 55 #[.agg #[.int .i64 v1.X, .int .i64 v1.Y, .int .i64 v1.Z]] w (fun e w' => ∃ (g : FM), e = .returned (Value.agg #[.int .i64 rr1.X.Lo, .int .i64 rr1.X.Hi, .bool rr1.X.Unknown, .int .i64 rr1.Y.Lo, .int .i64 rr1.Y.Hi, .bool rr1.Y.Unknown, .int .i64 rr1.Z.Lo, .int .i64 rr1.Z.Hi, .bool rr1.Z.Unknown]) ∧ FM.le f g ∧ St t w' g (H)) := by
 unfold query_point at h
 refine enter Tryz.func55 rfl (tm := #[(ag_Vec v1), uV, uV, uV, uV, uV, uV, uV, uV, uV, uV, uV, uV, uV, uV, uV, uV]) kr ?_
 intro B hret hnor hnp
 refine wp_seq_k fun K2 hK3 => rl ?_
 refine seqK rfl (does_box (cs := #[.int .i64 v1.X, .int .i64 v1.Y, .int .i64 v1.Z]) rfl (kv (.agg #[.int .i64 v1.X, .int .i64 v1.Y, .int .i64 v1.Z])) rfl HS ?_)
 intro b4 W5 HS6
 refine seqK rfl (does_alloc (z := Value.agg #[.int .i64 0, .int .i64 0, .bool false, .int .i64 0, .int .i64 0, .bool false, .int .i64 0, .int .i64 0, .bool false]) (cs := #[.int .i64 0, .int .i64 0, .bool false, .int .i64 0, .int .i64 0, .bool false, .int .i64 0, .int .i64 0, .bool false]) rfl kr rfl HS6 ?_)
 intro b8 W9 HS10
 refine nl (hK3 _ _ ?_)
 refine wp_seq_k fun K12 hK13 => rl ?_
 refine seqL1 kr ?_
 refine nl (hK13 _ _ ?_)
 refine wp_seq_k (fun K14 hK15 => ?_)
 have HS17 := HS10.u1.u1
 refine heldG (S := Sg t f ([(b4, .cells #[.int .i64 v1.X, .int .i64 v1.Y, .int .i64 v1.Z] 39 (0, 0))] :: H) [(13, [(b8, .cells #[.int .i64 0, .int .i64 0, .bool false, .int .i64 0, .int .i64 0, .bool false, .int .i64 0, .int .i64 0, .bool false] 31 (0, 0))])]) (n := 14) kr rfl HS17 ?_
 intro W18 HS19
 refine takeGL [0, 1] (n := 14) (fuel := 12) #[true, true, false, false, false, false, false, false, false, false, false, false, false, false] rfl kr kr kr hnp (Sg.g1 (Sx.of [[(b8, .cells #[.int .i64 0, .int .i64 0, .bool false, .int .i64 0, .int .i64 0, .bool false, .int .i64 0, .int .i64 0, .bool false] 31 (0, 0))]] fL HS19) (fun _ => St.only [] HS19 fL)) ?_
 refine takeGQ 2 [] rfl kr kr kr kr kr kr hnp (Sg.g1 (Sx.of [[(b8, .cells #[.int .i64 0, .int .i64 0, .bool false, .int .i64 0, .int .i64 0, .bool false, .int .i64 0, .int .i64 0, .bool false] 31 (0, 0))]] fL HS19) (fun _ => St.only [] HS19 fL)) (fun w_ hw_ => by obtain ⟨g_, hl_, hS_⟩ := hw_.st; exact run_load rfl Tryz.underlying2 rfl (kv (.pointer (some ⟨b4, 0, none⟩))) (hS_.cell 0)) ?_
 refine takeGL [4, 5] (n := 11) (fuel := 9) #[true, true, true, false, true, true, false, false, false, false, false, false, false, false] rfl kr kr kr hnp (Sg.g1 (Sx.of [[(b8, .cells #[.int .i64 0, .int .i64 0, .bool false, .int .i64 0, .int .i64 0, .bool false, .int .i64 0, .int .i64 0, .bool false] 31 (0, 0))]] fL HS19) (fun _ => St.only [] HS19 fL)) ?_
 refine takeGQ 6 [] rfl kr kr kr kr kr kr hnp (Sg.g1 (Sx.of [[(b8, .cells #[.int .i64 0, .int .i64 0, .bool false, .int .i64 0, .int .i64 0, .bool false, .int .i64 0, .int .i64 0, .bool false] 31 (0, 0))]] fL HS19) (fun _ => St.only [] HS19 fL)) (fun w_ hw_ => by obtain ⟨g_, hl_, hS_⟩ := hw_.st; exact run_load rfl Tryz.underlying2 rfl (kv (.pointer (some ⟨b4, 1, none⟩))) (hS_.cell 1)) ?_
 refine takeGL [8, 9] (n := 8) (fuel := 6) #[true, true, true, false, true, true, true, false, true, true, false, false, false, false] rfl kr kr kr hnp (Sg.g1 (Sx.of [[(b8, .cells #[.int .i64 0, .int .i64 0, .bool false, .int .i64 0, .int .i64 0, .bool false, .int .i64 0, .int .i64 0, .bool false] 31 (0, 0))]] fL HS19) (fun _ => St.only [] HS19 fL)) ?_
 refine takeGQ 10 [] rfl kr kr kr kr kr kr hnp (Sg.g1 (Sx.of [[(b8, .cells #[.int .i64 0, .int .i64 0, .bool false, .int .i64 0, .int .i64 0, .bool false, .int .i64 0, .int .i64 0, .bool false] 31 (0, 0))]] fL HS19) (fun _ => St.only [] HS19 fL)) (fun w_ hw_ => by obtain ⟨g_, hl_, hS_⟩ := hw_.st; exact run_load rfl Tryz.underlying2 rfl (kv (.pointer (some ⟨b4, 2, none⟩))) (hS_.cell 2)) ?_
 have hq_ := bind_some h; clear h; obtain ⟨vt20, hc21, h⟩ := hq_
 refine takeGE 3 kr rfl kr (does_call (f := 87) (args := #[.int .i64 v1.X]) kr (query_point_1.calls k v1.X HS19 vt20 hc21) ?_)
 rintro _ W24 ⟨f22, rfl, L23, HS25⟩
 refine ⟨_, rfl, ?_⟩
 refine ⟨(Sg.g1 (Sx.of [[(b8, .cells #[.int .i64 0, .int .i64 0, .bool false, .int .i64 0, .int .i64 0, .bool false, .int .i64 0, .int .i64 0, .bool false] 31 (0, 0))]] L23 HS25) (fun _ => St.only [] HS25 L23)), ?_⟩
 have hq_ := bind_some h; clear h; obtain ⟨vt26, hc27, h⟩ := hq_
 refine takeGE 7 kr rfl kr (does_call (f := 87) (args := #[.int .i64 v1.Y]) kr (query_point_1.calls k v1.Y HS25 vt26 hc27) ?_)
 rintro _ W30 ⟨f28, rfl, L29, HS31⟩
 refine ⟨_, rfl, ?_⟩
 refine ⟨(Sg.g1 (Sx.of [[(b8, .cells #[.int .i64 0, .int .i64 0, .bool false, .int .i64 0, .int .i64 0, .bool false, .int .i64 0, .int .i64 0, .bool false] 31 (0, 0))]] (L23.trans L29) HS31) (fun _ => St.only [] HS31 (L23.trans L29))), ?_⟩
 have hq_ := bind_some h; clear h; obtain ⟨vt32, hc33, h⟩ := hq_
 refine takeGE 11 kr rfl kr (does_call (f := 87) (args := #[.int .i64 v1.Z]) kr (query_point_1.calls k v1.Z HS31 vt32 hc33) ?_)
 rintro _ W36 ⟨f34, rfl, L35, HS37⟩
 refine ⟨_, rfl, ?_⟩
 refine ⟨(Sg.g1 (Sx.of [[(b8, .cells #[.int .i64 0, .int .i64 0, .bool false, .int .i64 0, .int .i64 0, .bool false, .int .i64 0, .int .i64 0, .bool false] 31 (0, 0))]] (L23.trans (L29.trans L35)) HS37) (fun _ => St.only [] HS37 (L23.trans (L29.trans L35)))), ?_⟩
 refine takeGL [12] (n := 2) (fuel := 1) #[true, true, true, true, true, true, true, true, true, true, true, true, true, false] rfl kr kr kr hnp (Sg.g1 (Sx.of [[(b8, .cells #[.int .i64 0, .int .i64 0, .bool false, .int .i64 0, .int .i64 0, .bool false, .int .i64 0, .int .i64 0, .bool false] 31 (0, 0))]] (L23.trans (L29.trans L35)) HS37) (fun _ => St.only [] HS37 (L23.trans (L29.trans L35)))) ?_
 refine takeGE 13 kr rfl kr (does_storeA (vs := [.int .i64 vt20.Lo, .int .i64 vt20.Hi, .bool vt20.Unknown, .int .i64 vt26.Lo, .int .i64 vt26.Hi, .bool vt26.Unknown, .int .i64 vt32.Lo, .int .i64 vt32.Hi, .bool vt32.Unknown]) rfl kr kr kr rfl (ones rfl) HS37 kr ?_)
 intro W38 HS39
 refine ⟨(Sg.g1 (Sx.of [[(b8, .cells #[.int .i64 vt20.Lo, .int .i64 vt20.Hi, .bool vt20.Unknown, .int .i64 vt26.Lo, .int .i64 vt26.Hi, .bool vt26.Unknown, .int .i64 vt32.Lo, .int .i64 vt32.Hi, .bool vt32.Unknown] 31 (0, 0))]] (L23.trans (L29.trans L35)) HS39) (fun hl_ => Bool.noConfusion (show true = false from hl_))), ?_⟩
 refine doneG kr ?_ _
 refine hK15 _ _ ?_
 refine wp_ret ?_
 refine hret _ _ ?_
 refine ends (v := Value.agg #[.int .i64 vt20.Lo, .int .i64 vt20.Hi, .bool vt20.Unknown, .int .i64 vt26.Lo, .int .i64 vt26.Hi, .bool vt26.Unknown, .int .i64 vt32.Lo, .int .i64 vt32.Hi, .bool vt32.Unknown]) (results1 (q1 := .cell 2 31) kr (resN (n := 9) (cs := [.int .i64 vt20.Lo, .int .i64 vt20.Hi, .bool vt20.Unknown, .int .i64 vt26.Lo, .int .i64 vt26.Hi, .bool vt26.Unknown, .int .i64 vt32.Lo, .int .i64 vt32.Hi, .bool vt32.Unknown]) (kv (.pointer (some ⟨b8, 0, none⟩))) Tryz.underlying31 rfl kr rfl (HS39.cells 0 9 _ rfl))) kr ?_
 have HS40 := HS39.drop
 have HS41 := HS40.drop
 injection h with h
 subst h
 exact ⟨f34, rfl, (L23.trans (L29.trans L35)), HS41⟩

set_option maxRecDepth 100000 in
set_option maxHeartbeats 4000000 in
theorem query_sides.calls (k : Nat)  (b1 : S_Box) {t w : World} {f : FM} {H : List Seg} (HS : St t w f (H)) (rr1 : List S_Bound) (rr2 : Bool) (h : query_sides k b1 = some (rr1, rr2)) :
    Calls Tryz.prog 31 #[.agg #[.int .i64 b1.X.Lo, .int .i64 b1.X.Hi, .bool b1.X.Unknown, .int .i64 b1.Y.Lo, .int .i64 b1.Y.Hi, .bool b1.Y.Unknown, .int .i64 b1.Z.Lo, .int .i64 b1.Z.Hi, .bool b1.Z.Unknown]] w (fun e w' => ∃ (g : FM), e = .returned (Value.tuple #[.agg #[.int .i64 ((rr1.getD 0 default).Lo), .int .i64 ((rr1.getD 0 default).Hi), .bool ((rr1.getD 0 default).Unknown), .int .i64 ((rr1.getD 1 default).Lo), .int .i64 ((rr1.getD 1 default).Hi), .bool ((rr1.getD 1 default).Unknown), .int .i64 ((rr1.getD 2 default).Lo), .int .i64 ((rr1.getD 2 default).Hi), .bool ((rr1.getD 2 default).Unknown)], .bool rr2]) ∧ FM.le f g ∧ St t w' g (H)) := by
 unfold query_sides at h
 refine enter Tryz.func31 rfl (tm := #[(ag_Box b1), uV, uV, uV, uV, uV, uV, uV, uV, uV, uV, uV, uV, uV, uV, uV, uV, uV, uV, uV, uV, uV, uV, uV, uV, uV, uV, uV, uV, uV, uV, uV, uV, uV, uV, uV, uV, uV, uV, uV]) kr ?_
 intro B hret hnor hnp
 refine wp_seq_k fun K2 hK3 => rl ?_
 refine seqK rfl (does_box (cs := #[.int .i64 b1.X.Lo, .int .i64 b1.X.Hi, .bool b1.X.Unknown, .int .i64 b1.Y.Lo, .int .i64 b1.Y.Hi, .bool b1.Y.Unknown, .int .i64 b1.Z.Lo, .int .i64 b1.Z.Hi, .bool b1.Z.Unknown]) rfl (kv (.agg #[.int .i64 b1.X.Lo, .int .i64 b1.X.Hi, .bool b1.X.Unknown, .int .i64 b1.Y.Lo, .int .i64 b1.Y.Hi, .bool b1.Y.Unknown, .int .i64 b1.Z.Lo, .int .i64 b1.Z.Hi, .bool b1.Z.Unknown])) rfl HS ?_)
 intro b4 W5 HS6
 refine seqK rfl (does_alloc (z := Value.agg #[.int .i64 0, .int .i64 0, .bool false, .int .i64 0, .int .i64 0, .bool false, .int .i64 0, .int .i64 0, .bool false]) (cs := #[.int .i64 0, .int .i64 0, .bool false, .int .i64 0, .int .i64 0, .bool false, .int .i64 0, .int .i64 0, .bool false]) rfl kr rfl HS6 ?_)
 intro b8 W9 HS10
 refine seqL1 kr ?_
 refine nl (hK3 _ _ ?_)
 refine wp_seq_k fun K12 hK13 => rl ?_
 refine seqL1 kr ?_
 refine seqK rfl (does_run (run_loadN (n := 3) rfl Tryz.underlying29 rfl kr (kv (.pointer (some ⟨b4, 0, none⟩))) (cs := [.int .i64 b1.X.Lo, .int .i64 b1.X.Hi, .bool b1.X.Unknown]) rfl (HS10.u1.cells 0 3 _ rfl)) ?_)
 refine seqL1 kr ?_
 refine seqK rfl (does_run (run_loadN (n := 3) rfl Tryz.underlying29 rfl kr (kv (.pointer (some ⟨b4, 3, none⟩))) (cs := [.int .i64 b1.Y.Lo, .int .i64 b1.Y.Hi, .bool b1.Y.Unknown]) rfl (HS10.u1.cells 3 3 _ rfl)) ?_)
 refine seqL1 kr ?_
 refine seqK rfl (does_run (run_loadN (n := 3) rfl Tryz.underlying29 rfl kr (kv (.pointer (some ⟨b4, 6, none⟩))) (cs := [.int .i64 b1.Z.Lo, .int .i64 b1.Z.Hi, .bool b1.Z.Unknown]) rfl (HS10.u1.cells 6 3 _ rfl)) ?_)
 refine seqL1 kr ?_
 refine seqK rfl (does_alloc (z := Value.agg #[.int .i64 0, .int .i64 0, .bool false, .int .i64 0, .int .i64 0, .bool false, .int .i64 0, .int .i64 0, .bool false]) (cs := #[.int .i64 0, .int .i64 0, .bool false, .int .i64 0, .int .i64 0, .bool false, .int .i64 0, .int .i64 0, .bool false]) rfl kr rfl HS10 ?_)
 intro b14 W15 HS16
 refine seqK rfl (does_storeA (vs := [.int .i64 b1.X.Lo, .int .i64 b1.X.Hi, .bool b1.X.Unknown, .int .i64 b1.Y.Lo, .int .i64 b1.Y.Hi, .bool b1.Y.Unknown, .int .i64 b1.Z.Lo, .int .i64 b1.Z.Hi, .bool b1.Z.Unknown]) rfl kr kr kr rfl (ones rfl) HS16 kr ?_)
 intro W18 HS19
 refine nl (hK13 _ _ ?_)
 refine wp_seq_k (fun K20 hK21 => ?_)
 refine wp_seq_k fun K22 hK23 => rl ?_
 refine seqK rfl (does_run (run_loadN (n := 9) rfl Tryz.underlying81 rfl kr (kv (.pointer (some ⟨b14, 0, none⟩))) (cs := [.int .i64 b1.X.Lo, .int .i64 b1.X.Hi, .bool b1.X.Unknown, .int .i64 b1.Y.Lo, .int .i64 b1.Y.Hi, .bool b1.Y.Unknown, .int .i64 b1.Z.Lo, .int .i64 b1.Z.Hi, .bool b1.Z.Unknown]) rfl (HS19.cells 0 9 _ rfl)) ?_)
 refine seqL1 kr ?_
 refine nl (hK23 _ _ ?_)
 refine blockK (fun B24 hx25 hn26 hr27 ho28 hp29 => ?_)
 have hq_ := bind_some h; clear h; obtain ⟨o30, hv96, h⟩ := hq_
 have JR98 : ∀ z_, some (Sum.inl z_) = some o30 → some z_ = some (rr1, rr2) := by
  intro z_ e_; injection e_ with e_; subst e_; exact h
 have J97 : ∀ (f91 : FM) (j95 : Nat → Value) (W93 : World) (a_ : Act), FM.le f f91 → some (Sum.inr ()) = some o30 → St t W93 f91 ([(b14, .cells #[.int .i64 b1.X.Lo, .int .i64 b1.X.Hi, .bool b1.X.Unknown, .int .i64 b1.Y.Lo, .int .i64 b1.Y.Hi, .bool b1.Y.Unknown, .int .i64 b1.Z.Lo, .int .i64 b1.Z.Hi, .bool b1.Z.Unknown] 81 (0, 0))] :: [(b8, .cells #[.int .i64 0, .int .i64 0, .bool false, .int .i64 0, .int .i64 0, .bool false, .int .i64 0, .int .i64 0, .bool false] 81 (0, 0))] :: [(b4, .cells #[.int .i64 b1.X.Lo, .int .i64 b1.X.Hi, .bool b1.X.Unknown, .int .i64 b1.Y.Lo, .int .i64 b1.Y.Hi, .bool b1.Y.Unknown, .int .i64 b1.Z.Lo, .int .i64 b1.Z.Hi, .bool b1.Z.Unknown] 31 (0, 0))] :: H) → a_ = ⟨#[(ag_Box b1), pV b4 0, pV b8 0, (j95 0), pV b14 0, uV, (j95 1), pV b4 0, (ag_Bound b1.X), pV b4 3, (ag_Bound b1.Y), pV b4 6, (ag_Bound b1.Z), .agg #[iV b1.X.Lo, iV b1.X.Hi, .bool b1.X.Unknown, iV b1.Y.Lo, iV b1.Y.Hi, .bool b1.Y.Unknown, iV b1.Z.Lo, iV b1.Z.Hi, .bool b1.Z.Unknown], .agg #[iV b1.X.Lo, iV b1.X.Hi, .bool b1.X.Unknown, iV b1.Y.Lo, iV b1.Y.Hi, .bool b1.Y.Unknown, iV b1.Z.Lo, iV b1.Z.Hi, .bool b1.Z.Unknown], (j95 2), (j95 3), (j95 4), (j95 5), (j95 6), (j95 7), (j95 8), (j95 9), (j95 10), (j95 11), (j95 12), (j95 13), (j95 14), (j95 15), (j95 16), (j95 17), (j95 18), (j95 19), (j95 20), (j95 21), (j95 22), (j95 23), (j95 24), (j95 25), uV], []⟩ → K20 a_ W93 := by
  intro f91 j95 W93 a_ L92 hj99 HS94  hfr_; subst hfr_
  injection hj99 with hj99; subst hj99; try dsimp only at h
  simp only [Sum.elim_inr] at h
  refine hK21 _ _ ?_
  refine wp_seq_k fun K105 hK106 => rl ?_
  refine seqK rfl (does_run (run_loadN (n := 9) rfl Tryz.underlying81 rfl kr (kv (.pointer (some ⟨b14, 0, none⟩))) (cs := [.int .i64 b1.X.Lo, .int .i64 b1.X.Hi, .bool b1.X.Unknown, .int .i64 b1.Y.Lo, .int .i64 b1.Y.Hi, .bool b1.Y.Unknown, .int .i64 b1.Z.Lo, .int .i64 b1.Z.Hi, .bool b1.Z.Unknown]) rfl (HS94.cells 0 9 _ rfl)) ?_)
  have HS107 := HS94.u1
  refine seqK rfl (does_storeA (vs := [.int .i64 b1.X.Lo, .int .i64 b1.X.Hi, .bool b1.X.Unknown, .int .i64 b1.Y.Lo, .int .i64 b1.Y.Hi, .bool b1.Y.Unknown, .int .i64 b1.Z.Lo, .int .i64 b1.Z.Hi, .bool b1.Z.Unknown]) rfl kr kr kr rfl (ones rfl) HS107 kr ?_)
  intro W108 HS109
  refine seqL1 kr ?_
  refine nl (hK106 _ _ ?_)
  refine wp_ret ?_
  refine hret _ _ ?_
  refine ends (v := Value.tuple #[.agg #[.int .i64 b1.X.Lo, .int .i64 b1.X.Hi, .bool b1.X.Unknown, .int .i64 b1.Y.Lo, .int .i64 b1.Y.Hi, .bool b1.Y.Unknown, .int .i64 b1.Z.Lo, .int .i64 b1.Z.Hi, .bool b1.Z.Unknown], .bool true]) (results2 (q1 := .cell 2 81) (q2 := .tmp 3) kr (resN (n := 9) (cs := [.int .i64 b1.X.Lo, .int .i64 b1.X.Hi, .bool b1.X.Unknown, .int .i64 b1.Y.Lo, .int .i64 b1.Y.Hi, .bool b1.Y.Unknown, .int .i64 b1.Z.Lo, .int .i64 b1.Z.Hi, .bool b1.Z.Unknown]) (kv (.pointer (some ⟨b8, 0, none⟩))) Tryz.underlying81 rfl kr rfl (HS109.cells 0 9 _ rfl)) (resT (kv (.bool true)))) kr ?_
  have HS126 := HS109.drop
  have HS127 := HS126.drop
  have HS128 := HS127.drop
  injection h with h
  injection h with h0_ h
  subst h0_ h
  exact ⟨f91, rfl, L92, HS128⟩
 clear h; have h := hv96; clear hv96
 refine loopK (fun n_ a_ w_ => ∃ (f34 : FM) (x39 : Int) (j38 : Nat → Value), FM.le f f34 ∧ St t w_ f34 ([(b14, .cells #[.int .i64 b1.X.Lo, .int .i64 b1.X.Hi, .bool b1.X.Unknown, .int .i64 b1.Y.Lo, .int .i64 b1.Y.Hi, .bool b1.Y.Unknown, .int .i64 b1.Z.Lo, .int .i64 b1.Z.Hi, .bool b1.Z.Unknown] 81 (0, 0))] :: [(b8, .cells #[.int .i64 0, .int .i64 0, .bool false, .int .i64 0, .int .i64 0, .bool false, .int .i64 0, .int .i64 0, .bool false] 81 (0, 0))] :: [(b4, .cells #[.int .i64 b1.X.Lo, .int .i64 b1.X.Hi, .bool b1.X.Unknown, .int .i64 b1.Y.Lo, .int .i64 b1.Y.Hi, .bool b1.Y.Unknown, .int .i64 b1.Z.Lo, .int .i64 b1.Z.Hi, .bool b1.Z.Unknown] 31 (0, 0))] :: H) ∧ query_sides.l0 k b1 n_ x39 = some o30 ∧ a_ = ⟨#[(ag_Box b1), pV b4 0, pV b8 0, (j38 0), pV b14 0, uV, (j38 1), pV b4 0, (ag_Bound b1.X), pV b4 3, (ag_Bound b1.Y), pV b4 6, (ag_Bound b1.Z), .agg #[iV b1.X.Lo, iV b1.X.Hi, .bool b1.X.Unknown, iV b1.Y.Lo, iV b1.Y.Hi, .bool b1.Y.Unknown, iV b1.Z.Lo, iV b1.Z.Hi, .bool b1.Z.Unknown], .agg #[iV b1.X.Lo, iV b1.X.Hi, .bool b1.X.Unknown, iV b1.Y.Lo, iV b1.Y.Hi, .bool b1.Y.Unknown, iV b1.Z.Lo, iV b1.Z.Hi, .bool b1.Z.Unknown], iV x39, (j38 2), (j38 3), (j38 4), (j38 5), (j38 6), (j38 7), (j38 8), (j38 9), (j38 10), (j38 11), (j38 12), (j38 13), (j38 14), (j38 15), (j38 16), (j38 17), (j38 18), (j38 19), (j38 20), (j38 21), (j38 22), (j38 23), (j38 24), uV], []⟩) k ⟨f, 0, (jL [fV]), fL, HS19, h, kr⟩ ?_
 clear h
 rintro n33 _ W36 ⟨f34, x39, j38, L35, HS37, h, rfl⟩ K31 hK32
 obtain _ | n33 := n33
 · exact nomatch h
 simp only [query_sides.l0] at h
 refine wp_seq_k fun K40 hK41 => rl ?_
 refine seqL1 kr ?_
 refine nl (hK41 _ _ ?_)
 refine wp_seq_k (fun K42 hK43 => ?_)
 have hq_ := ite_some h; clear h; rcases hq_ with ⟨c45, h⟩ | ⟨c45, h⟩
 · have c45 : x39 < 3 := c45
   refine wpRwI 16 kr (decide_eq_true c45) ?_
   refine condT kr ?_
   refine wp_skip ?_
   refine hK43 _ _ ?_
   refine wp_seq_k (fun K46 hK47 => ?_)
   refine blockK (fun B48 hx49 hn50 hr51 ho52 hp53 => ?_)
   refine wp_seq_k fun K55 hK56 => rl ?_
   have hq_ := guard_some h; clear h; obtain ⟨c57, h⟩ := hq_
   have c57 : 0 ≤ x39 := c57
   refine seqK rfl (does_run (run_arr_agg (e := ty_Bound) (f := fun _ => none) (xs := [b1.X, b1.Y, b1.Z]) (fun x_ => [Value.int .i64 x_.Lo, Value.int .i64 x_.Hi, Value.bool x_.Unknown]) (fun _ _ h_ => h_) rfl Tryz.underlying81 kr Tryz.underlying29 rfl (kv (.agg #[.int .i64 b1.X.Lo, .int .i64 b1.X.Hi, .bool b1.X.Unknown, .int .i64 b1.Y.Lo, .int .i64 b1.Y.Hi, .bool b1.Y.Unknown, .int .i64 b1.Z.Lo, .int .i64 b1.Z.Hi, .bool b1.Z.Unknown])) (kv (.int .i64 x39)) ⟨[Value.int .i64 b1.X.Lo, Value.int .i64 b1.X.Hi, Value.bool b1.X.Unknown], _, rfl, rfl, ⟨[Value.int .i64 b1.Y.Lo, Value.int .i64 b1.Y.Hi, Value.bool b1.Y.Unknown], _, rfl, rfl, ⟨[Value.int .i64 b1.Z.Lo, Value.int .i64 b1.Z.Hi, Value.bool b1.Z.Unknown], _, rfl, rfl, rfl⟩⟩⟩ c57 c45 rfl W36) ?_)
   refine seqK rfl (does_alloc (z := Value.agg #[.int .i64 0, .int .i64 0, .bool false]) (cs := #[.int .i64 0, .int .i64 0, .bool false]) rfl kr rfl HS37 ?_)
   intro b58 W59 HS60
   refine seqK rfl (does_storeA (vs := [.int .i64 ((rd [b1.X, b1.Y, b1.Z] x39).Lo), .int .i64 ((rd [b1.X, b1.Y, b1.Z] x39).Hi), .bool ((rd [b1.X, b1.Y, b1.Z] x39).Unknown)]) rfl kr kr kr rfl (ones rfl) HS60 kr ?_)
   intro W62 HS63
   refine nl (hK56 _ _ ?_)
   refine wp_seq_k fun K64 hK65 => rl ?_
   refine seqL1 kr ?_
   refine seqK rfl (does_run (run_load rfl Tryz.underlying4 rfl (kv (.pointer (some ⟨b58, 2, none⟩))) (HS63.cell 2)) ?_)
   refine seqL1 kr ?_
   have hq_ := ite_some h; clear h; rcases hq_ with ⟨c66, h⟩ | ⟨c66, h⟩
   · have c66 : ((rd [b1.X, b1.Y, b1.Z] x39).Unknown) = true := c66
     refine seqRwI 19 kr c66 ?_
     refine seqRwI 20 kr c66 ?_
     refine seqL16 kr ?_
     refine nl (hK65 _ _ ?_)
     refine condT kr ?_
     refine wp_seq_k fun K67 hK68 => rl ?_
     refine seqK rfl (does_run (run_loadN (n := 9) rfl Tryz.underlying81 rfl kr (kv (.pointer (some ⟨b14, 0, none⟩))) (cs := [.int .i64 b1.X.Lo, .int .i64 b1.X.Hi, .bool b1.X.Unknown, .int .i64 b1.Y.Lo, .int .i64 b1.Y.Hi, .bool b1.Y.Unknown, .int .i64 b1.Z.Lo, .int .i64 b1.Z.Hi, .bool b1.Z.Unknown]) rfl (HS63.u1.cells 0 9 _ rfl)) ?_)
     have HS69 := HS63.u2
     refine seqK rfl (does_storeA (vs := [.int .i64 b1.X.Lo, .int .i64 b1.X.Hi, .bool b1.X.Unknown, .int .i64 b1.Y.Lo, .int .i64 b1.Y.Hi, .bool b1.Y.Unknown, .int .i64 b1.Z.Lo, .int .i64 b1.Z.Hi, .bool b1.Z.Unknown]) rfl kr kr kr rfl (ones rfl) HS69 kr ?_)
     intro W70 HS71
     refine seqL1 kr ?_
     refine nl (hK68 _ _ ?_)
     refine wp_ret ?_
     refine hr51 _ _ ?_
     refine hr27 _ _ ?_
     refine hret _ _ ?_
     refine ends (v := Value.tuple #[.agg #[.int .i64 b1.X.Lo, .int .i64 b1.X.Hi, .bool b1.X.Unknown, .int .i64 b1.Y.Lo, .int .i64 b1.Y.Hi, .bool b1.Y.Unknown, .int .i64 b1.Z.Lo, .int .i64 b1.Z.Hi, .bool b1.Z.Unknown], .bool false]) (results2 (q1 := .cell 2 81) (q2 := .tmp 3) kr (resN (n := 9) (cs := [.int .i64 b1.X.Lo, .int .i64 b1.X.Hi, .bool b1.X.Unknown, .int .i64 b1.Y.Lo, .int .i64 b1.Y.Hi, .bool b1.Y.Unknown, .int .i64 b1.Z.Lo, .int .i64 b1.Z.Hi, .bool b1.Z.Unknown]) (kv (.pointer (some ⟨b8, 0, none⟩))) Tryz.underlying81 rfl kr rfl (HS71.cells 0 9 _ rfl)) (resT (kv (.bool false)))) kr ?_
     have HS110 := HS71.drop
     have HS111 := HS110.drop
     have HS112 := HS111.drop
     have HS113 := HS112.drop
     replace h := JR98 _ h
     injection h with h
     injection h with h0_ h
     subst h0_ h
     exact ⟨f34, rfl, L35, HS113⟩
   · have c66 : ¬ (((rd [b1.X, b1.Y, b1.Z] x39).Unknown) = true) := c66
     refine seqRwI 19 kr (Bool.eq_false_iff.mpr c66) ?_
     refine seqRwI 20 kr (Bool.eq_false_iff.mpr c66) ?_
     refine seqL1 kr ?_
     refine seqG kr (does_run (run_load rfl Tryz.underlying27 rfl (kv (.pointer (some ⟨b58, 0, none⟩))) (HS63.cell 0)) ?_)
     refine seqL1 kr ?_
     refine seqG kr (does_run (run_load rfl Tryz.underlying27 rfl (kv (.pointer (some ⟨b58, 1, none⟩))) (HS63.cell 1)) ?_)
     refine seqL3 kr ?_
     have hq_ := ite_some h; clear h; rcases hq_ with ⟨c72, h⟩ | ⟨c72, h⟩
     · have c72 : ((rd [b1.X, b1.Y, b1.Z] x39).Lo) > ((rd [b1.X, b1.Y, b1.Z] x39).Hi) := c72
       refine seqRwI 25 kr (decide_eq_true c72) ?_
       refine seqRwI 26 kr (decide_eq_true c72) ?_
       refine seqRwI 27 kr (decide_eq_true c72) ?_
       refine seqL9 kr ?_
       refine nl (hK65 _ _ ?_)
       refine condT kr ?_
       refine wp_seq_k fun K73 hK74 => rl ?_
       refine seqK rfl (does_run (run_loadN (n := 9) rfl Tryz.underlying81 rfl kr (kv (.pointer (some ⟨b14, 0, none⟩))) (cs := [.int .i64 b1.X.Lo, .int .i64 b1.X.Hi, .bool b1.X.Unknown, .int .i64 b1.Y.Lo, .int .i64 b1.Y.Hi, .bool b1.Y.Unknown, .int .i64 b1.Z.Lo, .int .i64 b1.Z.Hi, .bool b1.Z.Unknown]) rfl (HS63.u1.cells 0 9 _ rfl)) ?_)
       have HS75 := HS63.u2
       refine seqK rfl (does_storeA (vs := [.int .i64 b1.X.Lo, .int .i64 b1.X.Hi, .bool b1.X.Unknown, .int .i64 b1.Y.Lo, .int .i64 b1.Y.Hi, .bool b1.Y.Unknown, .int .i64 b1.Z.Lo, .int .i64 b1.Z.Hi, .bool b1.Z.Unknown]) rfl kr kr kr rfl (ones rfl) HS75 kr ?_)
       intro W76 HS77
       refine seqL1 kr ?_
       refine nl (hK74 _ _ ?_)
       refine wp_ret ?_
       refine hr51 _ _ ?_
       refine hr27 _ _ ?_
       refine hret _ _ ?_
       refine ends (v := Value.tuple #[.agg #[.int .i64 b1.X.Lo, .int .i64 b1.X.Hi, .bool b1.X.Unknown, .int .i64 b1.Y.Lo, .int .i64 b1.Y.Hi, .bool b1.Y.Unknown, .int .i64 b1.Z.Lo, .int .i64 b1.Z.Hi, .bool b1.Z.Unknown], .bool false]) (results2 (q1 := .cell 2 81) (q2 := .tmp 3) kr (resN (n := 9) (cs := [.int .i64 b1.X.Lo, .int .i64 b1.X.Hi, .bool b1.X.Unknown, .int .i64 b1.Y.Lo, .int .i64 b1.Y.Hi, .bool b1.Y.Unknown, .int .i64 b1.Z.Lo, .int .i64 b1.Z.Hi, .bool b1.Z.Unknown]) (kv (.pointer (some ⟨b8, 0, none⟩))) Tryz.underlying81 rfl kr rfl (HS77.cells 0 9 _ rfl)) (resT (kv (.bool false)))) kr ?_
       have HS114 := HS77.drop
       have HS115 := HS114.drop
       have HS116 := HS115.drop
       have HS117 := HS116.drop
       replace h := JR98 _ h
       injection h with h
       injection h with h0_ h
       subst h0_ h
       exact ⟨f34, rfl, L35, HS117⟩
     · have c72 : ¬ (((rd [b1.X, b1.Y, b1.Z] x39).Lo) > ((rd [b1.X, b1.Y, b1.Z] x39).Hi)) := c72
       refine seqRwI 25 kr (decide_eq_false c72) ?_
       refine seqRwI 26 kr (decide_eq_false c72) ?_
       refine seqRwI 27 kr (decide_eq_false c72) ?_
       refine seqL1 kr ?_
       refine seqG kr (does_run (run_load rfl Tryz.underlying27 rfl (kv (.pointer (some ⟨b58, 0, none⟩))) (HS63.cell 0)) ?_)
       refine seqL3 kr ?_
       have hq_ := ite_some h; clear h; rcases hq_ with ⟨c78, h⟩ | ⟨c78, h⟩
       · have c78 : ((rd [b1.X, b1.Y, b1.Z] x39).Lo) < (-1073741824) := c78
         refine seqRwI 30 kr (decide_eq_true c78) ?_
         refine seqRwI 31 kr (decide_eq_true c78) ?_
         refine seqRwI 32 kr (decide_eq_true c78) ?_
         refine seqL4 kr ?_
         refine nl (hK65 _ _ ?_)
         refine condT kr ?_
         refine wp_seq_k fun K79 hK80 => rl ?_
         refine seqK rfl (does_run (run_loadN (n := 9) rfl Tryz.underlying81 rfl kr (kv (.pointer (some ⟨b14, 0, none⟩))) (cs := [.int .i64 b1.X.Lo, .int .i64 b1.X.Hi, .bool b1.X.Unknown, .int .i64 b1.Y.Lo, .int .i64 b1.Y.Hi, .bool b1.Y.Unknown, .int .i64 b1.Z.Lo, .int .i64 b1.Z.Hi, .bool b1.Z.Unknown]) rfl (HS63.u1.cells 0 9 _ rfl)) ?_)
         have HS81 := HS63.u2
         refine seqK rfl (does_storeA (vs := [.int .i64 b1.X.Lo, .int .i64 b1.X.Hi, .bool b1.X.Unknown, .int .i64 b1.Y.Lo, .int .i64 b1.Y.Hi, .bool b1.Y.Unknown, .int .i64 b1.Z.Lo, .int .i64 b1.Z.Hi, .bool b1.Z.Unknown]) rfl kr kr kr rfl (ones rfl) HS81 kr ?_)
         intro W82 HS83
         refine seqL1 kr ?_
         refine nl (hK80 _ _ ?_)
         refine wp_ret ?_
         refine hr51 _ _ ?_
         refine hr27 _ _ ?_
         refine hret _ _ ?_
         refine ends (v := Value.tuple #[.agg #[.int .i64 b1.X.Lo, .int .i64 b1.X.Hi, .bool b1.X.Unknown, .int .i64 b1.Y.Lo, .int .i64 b1.Y.Hi, .bool b1.Y.Unknown, .int .i64 b1.Z.Lo, .int .i64 b1.Z.Hi, .bool b1.Z.Unknown], .bool false]) (results2 (q1 := .cell 2 81) (q2 := .tmp 3) kr (resN (n := 9) (cs := [.int .i64 b1.X.Lo, .int .i64 b1.X.Hi, .bool b1.X.Unknown, .int .i64 b1.Y.Lo, .int .i64 b1.Y.Hi, .bool b1.Y.Unknown, .int .i64 b1.Z.Lo, .int .i64 b1.Z.Hi, .bool b1.Z.Unknown]) (kv (.pointer (some ⟨b8, 0, none⟩))) Tryz.underlying81 rfl kr rfl (HS83.cells 0 9 _ rfl)) (resT (kv (.bool false)))) kr ?_
         have HS118 := HS83.drop
         have HS119 := HS118.drop
         have HS120 := HS119.drop
         have HS121 := HS120.drop
         replace h := JR98 _ h
         injection h with h
         injection h with h0_ h
         subst h0_ h
         exact ⟨f34, rfl, L35, HS121⟩
       · have c78 : ¬ (((rd [b1.X, b1.Y, b1.Z] x39).Lo) < (-1073741824)) := c78
         refine seqRwI 30 kr (decide_eq_false c78) ?_
         refine seqRwI 31 kr (decide_eq_false c78) ?_
         refine seqRwI 32 kr (decide_eq_false c78) ?_
         refine seqL1 kr ?_
         refine seqG kr (does_run (run_load rfl Tryz.underlying27 rfl (kv (.pointer (some ⟨b58, 1, none⟩))) (HS63.cell 1)) ?_)
         refine seqL2 kr ?_
         refine nl (hK65 _ _ ?_)
         have hq_ := ite_some h; clear h; rcases hq_ with ⟨c85, h⟩ | ⟨c85, h⟩
         · have c85 : ((rd [b1.X, b1.Y, b1.Z] x39).Hi) > 1073741824 := c85
           refine wpRwI 35 kr (decide_eq_true c85) ?_
           refine wpRwI 36 kr (decide_eq_true c85) ?_
           refine condT kr ?_
           refine wp_seq_k fun K86 hK87 => rl ?_
           refine seqK rfl (does_run (run_loadN (n := 9) rfl Tryz.underlying81 rfl kr (kv (.pointer (some ⟨b14, 0, none⟩))) (cs := [.int .i64 b1.X.Lo, .int .i64 b1.X.Hi, .bool b1.X.Unknown, .int .i64 b1.Y.Lo, .int .i64 b1.Y.Hi, .bool b1.Y.Unknown, .int .i64 b1.Z.Lo, .int .i64 b1.Z.Hi, .bool b1.Z.Unknown]) rfl (HS63.u1.cells 0 9 _ rfl)) ?_)
           have HS88 := HS63.u2
           refine seqK rfl (does_storeA (vs := [.int .i64 b1.X.Lo, .int .i64 b1.X.Hi, .bool b1.X.Unknown, .int .i64 b1.Y.Lo, .int .i64 b1.Y.Hi, .bool b1.Y.Unknown, .int .i64 b1.Z.Lo, .int .i64 b1.Z.Hi, .bool b1.Z.Unknown]) rfl kr kr kr rfl (ones rfl) HS88 kr ?_)
           intro W89 HS90
           refine seqL1 kr ?_
           refine nl (hK87 _ _ ?_)
           refine wp_ret ?_
           refine hr51 _ _ ?_
           refine hr27 _ _ ?_
           refine hret _ _ ?_
           refine ends (v := Value.tuple #[.agg #[.int .i64 b1.X.Lo, .int .i64 b1.X.Hi, .bool b1.X.Unknown, .int .i64 b1.Y.Lo, .int .i64 b1.Y.Hi, .bool b1.Y.Unknown, .int .i64 b1.Z.Lo, .int .i64 b1.Z.Hi, .bool b1.Z.Unknown], .bool false]) (results2 (q1 := .cell 2 81) (q2 := .tmp 3) kr (resN (n := 9) (cs := [.int .i64 b1.X.Lo, .int .i64 b1.X.Hi, .bool b1.X.Unknown, .int .i64 b1.Y.Lo, .int .i64 b1.Y.Hi, .bool b1.Y.Unknown, .int .i64 b1.Z.Lo, .int .i64 b1.Z.Hi, .bool b1.Z.Unknown]) (kv (.pointer (some ⟨b8, 0, none⟩))) Tryz.underlying81 rfl kr rfl (HS90.cells 0 9 _ rfl)) (resT (kv (.bool false)))) kr ?_
           have HS122 := HS90.drop
           have HS123 := HS122.drop
           have HS124 := HS123.drop
           have HS125 := HS124.drop
           replace h := JR98 _ h
           injection h with h
           injection h with h0_ h
           subst h0_ h
           exact ⟨f34, rfl, L35, HS125⟩
         · have c85 : ¬ (((rd [b1.X, b1.Y, b1.Z] x39).Hi) > 1073741824) := c85
           refine wpRwI 35 kr (decide_eq_false c85) ?_
           refine wpRwI 36 kr (decide_eq_false c85) ?_
           refine condF kr ?_
           refine wp_skip ?_
           refine hn50 _ _ ?_
           refine hK47 _ _ ?_
           refine rl ?_
           refine seqL2 kr ?_
           refine nl ?_
           refine hK32 n33 _ _ (Nat.lt_succ_self _) ?_
           have HS103 := HS63.u3.u3.u3.u3
           have HS104 := HS103.drop
           exact ⟨f34, (w64 (x39 + 1)), (jL [(j38 0), .pointer (some ⟨b58, 0, none⟩), tV, (ag_Bound (rd [b1.X, b1.Y, b1.Z] x39)), .pointer (some ⟨b58, 2, none⟩), fV, fV, .pointer (some ⟨b58, 0, none⟩), iV ((rd [b1.X, b1.Y, b1.Z] x39).Lo), .pointer (some ⟨b58, 1, none⟩), iV ((rd [b1.X, b1.Y, b1.Z] x39).Hi), fV, fV, fV, .pointer (some ⟨b58, 0, none⟩), iV ((rd [b1.X, b1.Y, b1.Z] x39).Lo), fV, fV, fV, .pointer (some ⟨b58, 1, none⟩), iV ((rd [b1.X, b1.Y, b1.Z] x39).Hi), fV, fV, (j38 23), iV (w64 (x39 + 1))]), L35, HS104, h, kr⟩
 · have c45 : ¬ (x39 < 3) := c45
   refine wpRwI 16 kr (decide_eq_false c45) ?_
   refine condF kr ?_
   refine wp_exit ?_
   refine hx25 _ _ ?_
   exact J97 f34 (jL [(j38 0), (j38 1), iV x39, fV, (j38 3), (j38 4), (j38 5), (j38 6), (j38 7), (j38 8), (j38 9), (j38 10), (j38 11), (j38 12), (j38 13), (j38 14), (j38 15), (j38 16), (j38 17), (j38 18), (j38 19), (j38 20), (j38 21), (j38 22), (j38 23), (j38 24)]) W36 _ L35 h HS37 kr

end Go.Sp.Q5
