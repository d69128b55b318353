import Derived.Test.YtcnhbfdkediodaaProg
import Derived.Test.YtcnhbfdkediodaaSpCopy
import Derived.Test.YtcnhbfdkediodaaFX4
import Derived.Test.YtcnhbfdkediodaaSpMapsA
import Derived.Test.YtcnhbfdkediodaaKX4n0
namespace Go.Sp.X4
open Go Go.Sp Go.Proofs
set_option linter.unusedVariables false
attribute [local irreducible] wpList AnyL Code.wp Calls Does
set_option maxRecDepth 100000 in
set_option maxHeartbeats 4000000 in
theorem optics_Trail.calls (k : Nat) (A5 : Option Addr) (c6 : Nat) (p1 : S_Point) (dx2 : Int) (dy3 : Int) (rates4 : List Int) (wide8 : Int) (high9 : Int) {t w : World} {f : FM} {H : List Seg} (HS : St t w f (H)) (HR7 : SlR (tInt .i64) f A5 c6 rates4) (rr1 : List S_Spot) (rr2 : Int) (h : optics_Trail k p1 dx2 dy3 rates4 wide8 high9 = some (rr1, rr2)) :
    Calls Try.prog 7 #[.agg #[.int .i64 p1.X, .int .i64 p1.Y], .int .i64 dx2, .int .i64 dy3, .slice A5 rates4.length c6, .int .i64 wide8, .int .i64 high9] w (fun e w' => ∃ (g : FM) (A341 : Option Addr) (c342 : Nat) (s343 : Seg), e = .returned (Value.tuple #[.slice A341 rr1.length c342, .int .i64 rr2]) ∧ FM.le f g ∧ St t w' g (s343 :: H) ∧ Own ty_Spot 42 g A341 c342 s343 rr1) := by
 unfold optics_Trail at h
 refine enter Try.func7 rfl (tm := #[.agg #[iV p1.X, iV p1.Y], iV dx2, iV dy3, .slice A5 rates4.length c6, iV wide8, iV high9, uV, uV, uV, uV, uV, uV, uV, uV, uV, uV, uV, uV, uV, uV, uV, uV, uV, uV, uV, uV, uV, uV, uV, uV, uV, uV, uV, uV, uV, uV, uV, uV, uV, uV, uV, uV, uV, uV, uV, uV, uV, uV, uV, uV, uV, uV, uV, uV, uV, uV, uV, uV, uV, uV, uV, uV, uV, uV, uV, uV, uV, uV, uV, uV, uV, uV, uV, uV, uV, uV, uV, uV, uV, uV, uV, uV, uV, uV, uV, uV, uV, uV, uV, uV, uV, uV, uV, uV, uV, uV, uV, uV, uV]) kr ?_
 intro B hret hnor hnp
 refine wp_seq_k fun K10 hK11 => rl ?_
 refine seqK rfl (does_box (cs := #[.int .i64 p1.X, .int .i64 p1.Y]) rfl (kv (.agg #[.int .i64 p1.X, .int .i64 p1.Y])) rfl HS ?_)
 intro b12 W13 HS14
 refine seqL2 kr ?_
 refine nl (hK11 _ _ ?_)
 refine wp_seq_k (fun K16 hK17 => ?_)
 refine blockK (fun B18 hx19 hn20 hr21 ho22 hp23 => ?_)
 refine wp_seq_k fun K25 hK26 => rl ?_
 refine seqL4 kr ?_
 refine nl (hK26 _ _ ?_)
 have hq_ := ite_some h; clear h; rcases hq_ with ⟨c28, h⟩ | ⟨c28, h⟩
 · have c28 : (rates4.length : Int) > 16 := c28
   refine wpRwI 22 kr (decide_eq_true c28) ?_
   refine wpRwI 25 kr (decide_eq_true c28) ?_
   refine condT kr ?_
   refine wp_seq_k fun K29 hK30 => rl ?_
   refine seqL2 kr ?_
   refine nl (hK30 _ _ ?_)
   refine wp_ret ?_
   refine hr21 _ _ ?_
   refine hret _ _ ?_
   have HS305 := HS14.cons_nil
   refine ends_still (v := Value.tuple #[.slice none 0 0, .int .i64 2]) kr kr ?_
   have HS307 := HS305.u1
   have HS308 := HS307.drop
   injection h with h
   injection h with h0_ h
   subst h0_ h
   exact ⟨f, none, 0, [], rfl, FM.le.refl _, HS308, (Own.nil _)⟩
 · have c28 : ¬ ((rates4.length : Int) > 16) := c28
   refine wpRwI 22 kr (decide_eq_false c28) ?_
   refine wpRwI 25 kr (decide_eq_false c28) ?_
   refine condF kr ?_
   refine wp_seq_k fun K31 hK32 => rl ?_
   refine seqL5 kr ?_
   have hq_ := ite_some h; clear h; rcases hq_ with ⟨c33, h⟩ | ⟨c33, h⟩
   · have c33 : (mx dx2 dy3) > 64 := c33
     refine seqRwI 30 kr (decide_eq_true c33) ?_
     refine seqRwI 31 kr (decide_eq_true c33) ?_
     refine seqL6 kr ?_
     refine nl (hK32 _ _ ?_)
     refine condT kr ?_
     refine wp_seq_k fun K34 hK35 => rl ?_
     refine seqL2 kr ?_
     refine nl (hK35 _ _ ?_)
     refine wp_ret ?_
     refine hr21 _ _ ?_
     refine hret _ _ ?_
     have HS309 := HS14.cons_nil
     refine ends_still (v := Value.tuple #[.slice none 0 0, .int .i64 4]) kr kr ?_
     have HS311 := HS309.u1
     have HS312 := HS311.drop
     injection h with h
     injection h with h0_ h
     subst h0_ h
     exact ⟨f, none, 0, [], rfl, FM.le.refl _, HS312, (Own.nil _)⟩
   · have c33 : ¬ ((mx dx2 dy3) > 64) := c33
     refine seqRwI 30 kr (decide_eq_false c33) ?_
     refine seqRwI 31 kr (decide_eq_false c33) ?_
     refine seqL6 kr ?_
     refine nl (hK32 _ _ ?_)
     have hq_ := ite_some h; clear h; rcases hq_ with ⟨c37, h⟩ | ⟨c37, h⟩
     · have c37 : (mn dx2 dy3) < (-64) := c37
       refine wpRwI 26 kr (decide_eq_true c37) ?_
       refine wpRwI 35 kr (decide_eq_true c37) ?_
       refine wpRwI 36 kr (decide_eq_true c37) ?_
       refine condT kr ?_
       refine wp_seq_k fun K38 hK39 => rl ?_
       refine seqL2 kr ?_
       refine nl (hK39 _ _ ?_)
       refine wp_ret ?_
       refine hr21 _ _ ?_
       refine hret _ _ ?_
       have HS313 := HS14.cons_nil
       refine ends_still (v := Value.tuple #[.slice none 0 0, .int .i64 4]) kr kr ?_
       have HS315 := HS313.u1
       have HS316 := HS315.drop
       injection h with h
       injection h with h0_ h
       subst h0_ h
       exact ⟨f, none, 0, [], rfl, FM.le.refl _, HS316, (Own.nil _)⟩
     · have c37 : ¬ ((mn dx2 dy3) < (-64)) := c37
       refine wpRwI 26 kr (decide_eq_false c37) ?_
       refine wpRwI 35 kr (decide_eq_false c37) ?_
       refine wpRwI 36 kr (decide_eq_false c37) ?_
       refine condF kr ?_
       refine wp_seq_k fun K40 hK41 => rl ?_
       have hq_ := bind_some h; clear h; obtain ⟨vt42, hc43, h⟩ := hq_
       refine seqL1 kr ?_
       refine seqK rfl (does_call (f := 19) (args := #[.slice A5 rates4.length c6, .func (.func 20) #[] #[]]) kr (slices_ContainsFunc_Quanta__optics_Trail_1.calls k A5 c6 rates4 HS14 HR7 vt42 hc43) ?_)
       rintro _ W46 ⟨f44, rfl, L45, HS47⟩
       refine ⟨_, rfl, ?_⟩
       refine seqL1 kr ?_
       refine nl (hK41 _ _ ?_)
       have hq_ := ite_some h; clear h; rcases hq_ with ⟨c49, h⟩ | ⟨c49, h⟩
       · have c49 : vt42 = true := c49
         refine wpRwI 37 kr c49 ?_
         refine wpRwI 39 kr c49 ?_
         refine condT kr ?_
         refine wp_seq_k fun K50 hK51 => rl ?_
         refine seqL2 kr ?_
         refine nl (hK51 _ _ ?_)
         refine wp_ret ?_
         refine hr21 _ _ ?_
         refine hret _ _ ?_
         have HS317 := HS47.cons_nil
         refine ends_still (v := Value.tuple #[.slice none 0 0, .int .i64 4]) kr kr ?_
         have HS319 := HS317.u1
         have HS320 := HS319.drop
         injection h with h
         injection h with h0_ h
         subst h0_ h
         exact ⟨f44, none, 0, [], rfl, L45, HS320, (Own.nil _)⟩
       · have c49 : ¬ (vt42 = true) := c49
         refine wpRwI 37 kr (Bool.eq_false_iff.mpr c49) ?_
         refine wpRwI 39 kr (Bool.eq_false_iff.mpr c49) ?_
         refine condF kr ?_
         refine wp_skip ?_
         refine hn20 _ _ ?_
         refine hK17 _ _ ?_
         refine wp_seq_k (fun K52 hK53 => ?_)
         refine wp_seq_k fun K54 hK55 => rl ?_
         refine seqK rfl (does_run (run_loadN (n := 2) rfl Try.underlying24 rfl kr (kv (.pointer (some ⟨b12, 0, none⟩))) (cs := [.int .i64 p1.X, .int .i64 p1.Y]) rfl (HS47.cells 0 2 _ rfl)) ?_)
         have hq_ := bind_some h; clear h; obtain ⟨⟨vt56, vt57⟩, hc58, h⟩ := hq_
         refine seqL2 kr ?_
         refine seqK rfl (does_call (f := 21) (args := #[.agg #[.int .i64 p1.X, .int .i64 p1.Y], .int .i64 wide8, .int .i64 high9]) kr (optics_Point.calls k p1 wide8 high9 HS47 vt56 vt57 hc58) ?_)
         rintro _ W61 ⟨f59, A63, c64, s65, rfl, L60, HS62, HO66⟩
         refine ⟨_, rfl, ?_⟩
         refine seqL5 kr ?_
         refine nl (hK55 _ _ ?_)
         refine wp_seq_k fun K68 hK69 => rl ?_
         refine seqL2 kr ?_
         refine nl (hK69 _ _ ?_)
         have hq_ := ite_some h; clear h; rcases hq_ with ⟨c71, h⟩ | ⟨c71, h⟩
         · have c71 : vt57 ≠ 0 := c71
           refine wpRwI 48 kr (bne_iff_ne.mpr c71) ?_
           refine condT kr ?_
           refine wp_seq_k fun K72 hK73 => rl ?_
           refine seqL3 kr ?_
           refine nl (hK73 _ _ ?_)
           refine wp_ret ?_
           refine hret _ _ ?_
           have HS321 := HS62.cons_nil
           refine ends_still (v := Value.tuple #[.slice none 0 0, .int .i64 vt57]) kr kr ?_
           have HS324 := HS321.u2.u2
           have HS325 := HS324.drop
           have HS326 := HS325.drop
           injection h with h
           injection h with h0_ h
           subst h0_ h
           exact ⟨f59, none, 0, [], rfl, (L45.trans L60), HS326, (Own.nil _)⟩
         · have c71 : ¬ (vt57 ≠ 0) := c71
           refine wpRwI 48 (x := (vt57 != 0)) (v := false) kr (bne_eq_false_iff_eq.mpr (Decidable.of_not_not c71)) ?_
           refine condF kr ?_
           refine wp_skip ?_
           refine hK53 _ _ ?_
           refine wp_seq_k fun K74 hK75 => rl ?_
           refine seqL1 kr ?_
           refine nl (hK75 _ _ ?_)
           refine wp_seq_k (fun K76 hK77 => ?_)
           refine wp_seq_k fun K78 hK79 => rl ?_
           refine seqL3 kr ?_
           refine nl (hK79 _ _ ?_)
           refine blockK (fun B80 hx81 hn82 hr83 ho84 hp85 => ?_)
           have hq_ := bind_some h; clear h; obtain ⟨o86, hv290, h⟩ := hq_
           have JR292 : ∀ z_, some (Sum.inl z_) = some o86 → some z_ = some (rr1, rr2) := by
            intro z_ e_; injection e_ with e_; subst e_; exact h
           have J291 : ∀ (f279 : FM) (A285 : Option Addr) (c286 : Nat) (s287 : Seg) (out284 : List S_Spot) (j283 : Nat → Value) (W281 : World) (a_ : Act), FM.le f59 f279 → some (Sum.inr out284) = some o86 → St t W281 f279 (s287 :: s65 :: [(b12, .cells #[.int .i64 p1.X, .int .i64 p1.Y] 24 (0, 0))] :: H) → Own ty_Spot 42 f279 A285 c286 s287 out284 → a_ = ⟨#[.agg #[iV p1.X, iV p1.Y], iV dx2, iV dy3, .slice A5 rates4.length c6, iV wide8, iV high9, pV b12 0, uV, uV, uV, uV, uV, (j283 0), (j283 1), .slice A63 vt56.length c64, iV vt57, .slice A285 out284.length c286, (j283 2), (j283 3), (j283 4), (j283 5), (j283 6), fV, .slice A5 rates4.length c6, iV (rates4.length : Int), fV, fV, iV dx2, iV dy3, iV (mx dx2 dy3), fV, fV, iV dx2, iV dy3, iV (mn dx2 dy3), fV, fV, fV, .slice A5 rates4.length c6, fV, .tuple #[.slice A63 vt56.length c64, iV vt57], .agg #[iV p1.X, iV p1.Y], iV wide8, iV high9, .tuple #[.slice A63 vt56.length c64, iV vt57], .slice A63 vt56.length c64, iV vt57, iV vt57, fV, uV, .slice A5 rates4.length c6, iV (rates4.length : Int), (j283 7), (j283 8), (j283 9), (j283 10), (j283 11), (j283 12), (j283 13), (j283 14), (j283 15), (j283 16), (j283 17), (j283 18), (j283 19), (j283 20), (j283 21), (j283 22), (j283 23), (j283 24), (j283 25), (j283 26), (j283 27), (j283 28), (j283 29), (j283 30), (j283 31), (j283 32), (j283 33), (j283 34), (j283 35), (j283 36), (j283 37), (j283 38), (j283 39), (j283 40), (j283 41), (j283 42), (j283 43), (j283 44), (j283 45), (j283 46), (j283 47), (j283 48), (j283 49), (j283 50), (j283 51), (j283 52), uV], []⟩ → K76 a_ W281 := by
            intro f279 A285 c286 s287 out284 j283 W281 a_ L280 hj293 HS282 HO288 hfr_; subst hfr_
            injection hj293 with hj293; subst hj293; try dsimp only at h
            simp only [Sum.elim_inr] at h
            refine hK77 _ _ ?_
            refine wp_seq_k fun K303 hK304 => rl ?_
            refine seqL3 kr ?_
            refine nl (hK304 _ _ ?_)
            refine wp_ret ?_
            refine hret _ _ ?_
            refine ends_still (v := Value.tuple #[.slice A285 out284.length c286, .int .i64 0]) kr kr ?_
            have HS338 := HS282.u2.u2
            have HS339 := HS338.drop
            have HS340 := HS339.drop
            injection h with h
            injection h with h0_ h
            subst h0_ h
            exact ⟨f279, A285, c286, s287, rfl, (L45.trans (L60.trans L280)), HS340, HO288⟩
           clear h; have h := hv290; clear hv290
           have HS294 := HS62.cons_nil
           refine loopK (fun n_ a_ w_ => ∃ (f90 : FM) (A96 : Option Addr) (c97 : Nat) (s98 : Seg) (out95 : List S_Spot) (x101 : Int) (j94 : Nat → Value), FM.le f59 f90 ∧ St t w_ f90 (s98 :: s65 :: [(b12, .cells #[.int .i64 p1.X, .int .i64 p1.Y] 24 (0, 0))] :: H) ∧ Own ty_Spot 42 f90 A96 c97 s98 out95 ∧ optics_Trail.l0 k rates4 p1 dx2 dy3 wide8 high9 n_ out95 x101 = some o86 ∧ a_ = ⟨#[.agg #[iV p1.X, iV p1.Y], iV dx2, iV dy3, .slice A5 rates4.length c6, iV wide8, iV high9, pV b12 0, uV, uV, uV, uV, uV, (j94 0), (j94 1), .slice A63 vt56.length c64, iV vt57, .slice A96 out95.length c97, (j94 2), (j94 3), (j94 4), (j94 5), (j94 6), fV, .slice A5 rates4.length c6, iV (rates4.length : Int), fV, fV, iV dx2, iV dy3, iV (mx dx2 dy3), fV, fV, iV dx2, iV dy3, iV (mn dx2 dy3), fV, fV, fV, .slice A5 rates4.length c6, fV, .tuple #[.slice A63 vt56.length c64, iV vt57], .agg #[iV p1.X, iV p1.Y], iV wide8, iV high9, .tuple #[.slice A63 vt56.length c64, iV vt57], .slice A63 vt56.length c64, iV vt57, iV vt57, fV, uV, .slice A5 rates4.length c6, iV (rates4.length : Int), iV x101, (j94 7), (j94 8), (j94 9), (j94 10), (j94 11), (j94 12), (j94 13), (j94 14), (j94 15), (j94 16), (j94 17), (j94 18), (j94 19), (j94 20), (j94 21), (j94 22), (j94 23), (j94 24), (j94 25), (j94 26), (j94 27), (j94 28), (j94 29), (j94 30), (j94 31), (j94 32), (j94 33), (j94 34), (j94 35), (j94 36), (j94 37), (j94 38), (j94 39), (j94 40), (j94 41), (j94 42), (j94 43), (j94 44), (j94 45), (j94 46), (j94 47), (j94 48), (j94 49), (j94 50), (j94 51), uV], []⟩) k ⟨f59, none, 0, [], ([] : List S_Spot), 0, (jL [.slice none 0 0, iV 0]), fL, HS294, (Own.nil _), h, kr⟩ ?_
           clear h
           rintro n89 _ W92 ⟨f90, A96, c97, s98, out95, x101, j94, L91, HS93, HO99, h, rfl⟩ K87 hK88
           obtain _ | n89 := n89
           · exact nomatch h
           simp only [optics_Trail.l0] at h
           refine wp_seq_k fun K102 hK103 => rl ?_
           refine seqL1 kr ?_
           refine nl (hK103 _ _ ?_)
           refine wp_seq_k (fun K104 hK105 => ?_)
           have hq_ := ite_some h; clear h; rcases hq_ with ⟨c107, h⟩ | ⟨c107, h⟩
           · have c107 : x101 < (rates4.length : Int) := c107
             refine wpRwI 53 kr (decide_eq_true c107) ?_
             refine condT kr ?_
             refine wp_skip ?_
             refine hK105 _ _ ?_
             refine wp_seq_k (fun K108 hK109 => ?_)
             refine blockK (fun B110 hx111 hn112 hr113 ho114 hp115 => ?_)
             refine wp_seq_k fun K117 hK118 => rl ?_
             have hq_ := guard_some h; clear h; obtain ⟨c119, h⟩ := hq_
             have c119 : 0 ≤ x101 := c119
             obtain ⟨b123, of124, cs120, hA125, hr121, hc122⟩ := (HR7.mono (L45.trans (L60.trans L91))).at (i := x101) c119 c107
             obtain rfl := hr121
             refine seqL1 kr ?_
             refine seqK rfl (does_run (run_indexE hA125 (sz := 1) rfl Try.underlying29 kr (kv (.slice A5 rates4.length c6)) (kv (.int .i64 x101)) c119 c107 W92) ?_)
             refine seqK rfl (does_run (run_load rfl Try.underlying31 rfl (kv (.pointer (some ⟨b123, of124 + (x101 : Int).toNat * 1, none⟩))) ((hc122 fL HS93) 0 (by decide))) ?_)
             refine seqL2 kr ?_
             refine nl (hK118 _ _ ?_)
             refine wp_seq_k fun K126 hK127 => rl ?_
             refine seqL1 kr ?_
             refine seqK rfl (does_run (run_load rfl Try.underlying22 rfl (kv (.pointer (some ⟨b12, 0, none⟩))) (HS93.u2.cell 0)) ?_)
             refine seqL5 kr ?_
             refine seqK rfl (does_run (run_load rfl Try.underlying22 rfl (kv (.pointer (some ⟨b12, 1, none⟩))) (HS93.u2.cell 1)) ?_)
             have hq_ := bind_some h; clear h; obtain ⟨⟨vt128, vt129⟩, hc130, h⟩ := hq_
             refine seqL7 kr ?_
             refine seqK rfl (does_call (f := 21) (args := #[.agg #[.int .i64 (w64 (p1.X + (w64 (x101 * dx2)))), .int .i64 (w64 (p1.Y + (w64 (x101 * dy3))))], .int .i64 wide8, .int .i64 high9]) kr (optics_Point.calls k (⟨w64 (p1.X + (w64 (x101 * dx2))), w64 (p1.Y + (w64 (x101 * dy3)))⟩ : S_Point) wide8 high9 HS93 vt128 vt129 hc130) ?_)
             rintro _ W133 ⟨f131, A135, c136, s137, rfl, L132, HS134, HO138⟩
             refine ⟨_, rfl, ?_⟩
             refine seqL5 kr ?_
             refine nl (hK127 _ _ ?_)
             refine wp_seq_k (fun K140 hK141 => ?_)
             refine wp_seq_k fun K142 hK143 => rl ?_
             refine seqL2 kr ?_
             refine nl (hK143 _ _ ?_)
             have hq_ := ite_some h; clear h; rcases hq_ with ⟨c145, h⟩ | ⟨c145, h⟩
             · have c145 : vt129 ≠ 0 := c145
               refine wpRwI 77 kr (bne_iff_ne.mpr c145) ?_
               refine condT kr ?_
               refine wp_seq_k fun K146 hK147 => rl ?_
               refine seqL3 kr ?_
               refine nl (hK147 _ _ ?_)
               refine wp_ret ?_
               refine hr113 _ _ ?_
               refine hr83 _ _ ?_
               refine hret _ _ ?_
               have HS327 := HS134.cons_nil
               refine ends_still (v := Value.tuple #[.slice none 0 0, .int .i64 vt129]) kr kr ?_
               have HS332 := HS327.u4.u4.u4.u4
               have HS333 := HS332.drop
               have HS334 := HS333.drop
               have HS335 := HS334.drop
               have HS336 := HS335.drop
               replace h := JR292 _ h
               injection h with h
               injection h with h0_ h
               subst h0_ h
               exact ⟨f131, none, 0, [], rfl, (L45.trans (L60.trans (L91.trans L132))), HS336, (Own.nil _)⟩
             · have c145 : ¬ (vt129 ≠ 0) := c145
               refine wpRwI 77 (x := (vt129 != 0)) (v := false) kr (bne_eq_false_iff_eq.mpr (Decidable.of_not_not c145)) ?_
               refine condF kr ?_
               refine wp_skip ?_
               refine hK141 _ _ ?_
               refine wp_seq_k (fun K148 hK149 => ?_)
               refine wp_seq_k fun K150 hK151 => rl ?_
               refine seqL3 kr ?_
               refine nl (hK151 _ _ ?_)
               refine blockK (fun B152 hx153 hn154 hr155 ho156 hp157 => ?_)
               have hq_ := bind_some h; clear h; obtain ⟨o196, hv248, h⟩ := hq_
               have J249 : ∀ (f239 : FM) (s245 : Seg) (l244 : List S_Spot) (j243 : Nat → Value) (W241 : World) (a_ : Act), FM.le f131 f239 → some (l244) = some o196 → St t W241 f239 (s245 :: s98 :: s65 :: [(b12, .cells #[.int .i64 p1.X, .int .i64 p1.Y] 24 (0, 0))] :: H) → Own ty_Spot 42 f239 A135 c136 s245 l244 → l244.length = vt128.length → a_ = ⟨#[.agg #[iV p1.X, iV p1.Y], iV dx2, iV dy3, .slice A5 rates4.length c6, iV wide8, iV high9, pV b12 0, uV, uV, uV, uV, uV, (j94 0), (j94 1), .slice A63 vt56.length c64, iV vt57, .slice A96 out95.length c97, iV x101, iV (rd rates4 x101), .slice A135 l244.length c136, iV vt129, (j243 0), fV, .slice A5 rates4.length c6, iV (rates4.length : Int), fV, fV, iV dx2, iV dy3, iV (mx dx2 dy3), fV, fV, iV dx2, iV dy3, iV (mn dx2 dy3), fV, fV, fV, .slice A5 rates4.length c6, fV, .tuple #[.slice A63 vt56.length c64, iV vt57], .agg #[iV p1.X, iV p1.Y], iV wide8, iV high9, .tuple #[.slice A63 vt56.length c64, iV vt57], .slice A63 vt56.length c64, iV vt57, iV vt57, fV, uV, .slice A5 rates4.length c6, iV (rates4.length : Int), iV x101, tV, iV x101, pV b123 (of124 + (x101 : Int).toNat * 1), iV (rd rates4 x101), .tuple #[.slice A135 vt128.length c136, iV vt129], pV b12 0, iV p1.X, iV x101, iV dx2, iV (w64 (x101 * dx2)), iV (w64 (p1.X + (w64 (x101 * dx2)))), pV b12 1, iV p1.Y, iV x101, iV dy3, iV (w64 (x101 * dy3)), iV (w64 (p1.Y + (w64 (x101 * dy3)))), .agg #[iV (w64 (p1.X + (w64 (x101 * dx2)))), iV (w64 (p1.Y + (w64 (x101 * dy3))))], iV wide8, iV high9, .tuple #[.slice A135 vt128.length c136, iV vt129], (j243 1), iV vt129, iV vt129, fV, (j94 32), (j243 2), iV (vt128.length : Int), (j243 3), (j243 4), (j243 5), (j243 6), (j243 7), (j243 8), (j243 9), (j243 10), (j243 11), (j243 12), (j243 13), (j243 14), (j243 15), (j94 48), (j94 49), (j94 50), (j94 51), uV], []⟩ → K148 a_ W241 := by
                intro f239 s245 l244 j243 W241 a_ L240 hj250 HS242 HO246 HL247 hfr_; subst hfr_
                injection hj250 with hj250; subst hj250; try dsimp only at h
                refine hK149 _ _ ?_
                refine rl ?_
                have HS251 := HS242.u1
                obtain ⟨f252, L253, HS254, HR255, th256⟩ := (HO99.mono (L132.trans L240)).lend HS251
                obtain ⟨f257, L258, HS259, HR260, th261⟩ := (HO246.mono L253).lend HS254
                have hq_ := bind_some h; clear h; obtain ⟨vt262, hc263, h⟩ := hq_
                refine seqL2 kr ?_
                refine seqK rfl (does_call (f := 22) (args := #[.slice A96 out95.length c97, .slice A135 l244.length c136]) kr (optics_add.calls k A96 c97 A135 c136 out95 l244 HS259 (HR255.mono L258) HR260 vt262 hc263) ?_)
                rintro _ W266 ⟨f264, A268, c269, s270, rfl, L265, HS267, HO271⟩
                refine ⟨_, rfl, ?_⟩
                obtain ⟨f273, L274, HS275⟩ := th261 L265 HS267
                obtain ⟨f276, L277, HS278⟩ := th256 L274 HS275
                replace HO271 := HO271.flat (g := f276) (fun _ _ _ _ h_ => h_)
                refine seqL1 kr ?_
                refine nl ?_
                refine hn112 _ _ ?_
                refine hK109 _ _ ?_
                refine rl ?_
                refine seqL2 kr ?_
                refine nl ?_
                refine hK88 n89 _ _ (Nat.lt_succ_self _) ?_
                have HS300 := HS278.u4.u4.u4.u4.u4
                have HS301 := HS300.drop
                have HS302 := HS301.drop
                exact ⟨f276, A268, c269, s270, vt262, (w64 (x101 + 1)), (jL [(j94 0), (j94 1), iV x101, iV (rd rates4 x101), .slice A135 l244.length c136, iV vt129, (j243 0), tV, iV x101, .pointer (some ⟨b123, of124 + (x101 : Int).toNat * 1, none⟩), iV (rd rates4 x101), .tuple #[.slice A135 vt128.length c136, .int .i64 vt129], .pointer (some ⟨b12, 0, none⟩), iV p1.X, iV x101, iV dx2, iV (w64 (x101 * dx2)), iV (w64 (p1.X + (w64 (x101 * dx2)))), .pointer (some ⟨b12, 1, none⟩), iV p1.Y, iV x101, iV dy3, iV (w64 (x101 * dy3)), iV (w64 (p1.Y + (w64 (x101 * dy3)))), .agg #[.int .i64 (w64 (p1.X + (w64 (x101 * dx2)))), .int .i64 (w64 (p1.Y + (w64 (x101 * dy3))))], iV wide8, iV high9, .tuple #[.slice A135 vt128.length c136, .int .i64 vt129], (j243 1), iV vt129, iV vt129, fV, (j94 32), (j243 2), iV (vt128.length : Int), (j243 3), (j243 4), (j243 5), (j243 6), (j243 7), (j243 8), (j243 9), (j243 10), (j243 11), (j243 12), (j243 13), (j243 14), (j243 15), .slice A96 out95.length c97, .slice A135 l244.length c136, .slice A268 vt262.length c269, iV (w64 (x101 + 1))]), (L91.trans (L132.trans (L240.trans L277))), HS302, HO271, h, kr⟩
               clear h; have h := hv248; clear hv248
               refine loopK (fun n_ a_ w_ => ∃ (f200 : FM) (s206 : Seg) (l205 : List S_Spot) (x209 : Int) (j204 : Nat → Value), FM.le f131 f200 ∧ St t w_ f200 (s206 :: s98 :: s65 :: [(b12, .cells #[.int .i64 p1.X, .int .i64 p1.Y] 24 (0, 0))] :: H) ∧ Own ty_Spot 42 f200 A135 c136 s206 l205 ∧ l205.length = vt128.length ∧ optics_Trail.l1 k vt128 rates4 x101 n_ l205 x209 = some o196 ∧ a_ = ⟨#[.agg #[iV p1.X, iV p1.Y], iV dx2, iV dy3, .slice A5 rates4.length c6, iV wide8, iV high9, pV b12 0, uV, uV, uV, uV, uV, (j94 0), (j94 1), .slice A63 vt56.length c64, iV vt57, .slice A96 out95.length c97, iV x101, iV (rd rates4 x101), .slice A135 l205.length c136, iV vt129, (j204 0), fV, .slice A5 rates4.length c6, iV (rates4.length : Int), fV, fV, iV dx2, iV dy3, iV (mx dx2 dy3), fV, fV, iV dx2, iV dy3, iV (mn dx2 dy3), fV, fV, fV, .slice A5 rates4.length c6, fV, .tuple #[.slice A63 vt56.length c64, iV vt57], .agg #[iV p1.X, iV p1.Y], iV wide8, iV high9, .tuple #[.slice A63 vt56.length c64, iV vt57], .slice A63 vt56.length c64, iV vt57, iV vt57, fV, uV, .slice A5 rates4.length c6, iV (rates4.length : Int), iV x101, tV, iV x101, pV b123 (of124 + (x101 : Int).toNat * 1), iV (rd rates4 x101), .tuple #[.slice A135 vt128.length c136, iV vt129], pV b12 0, iV p1.X, iV x101, iV dx2, iV (w64 (x101 * dx2)), iV (w64 (p1.X + (w64 (x101 * dx2)))), pV b12 1, iV p1.Y, iV x101, iV dy3, iV (w64 (x101 * dy3)), iV (w64 (p1.Y + (w64 (x101 * dy3)))), .agg #[iV (w64 (p1.X + (w64 (x101 * dx2)))), iV (w64 (p1.Y + (w64 (x101 * dy3))))], iV wide8, iV high9, .tuple #[.slice A135 vt128.length c136, iV vt129], .slice A135 vt128.length c136, iV vt129, iV vt129, fV, (j94 32), .slice A135 vt128.length c136, iV (vt128.length : Int), iV x209, (j204 1), (j204 2), (j204 3), (j204 4), (j204 5), (j204 6), (j204 7), (j204 8), (j204 9), (j204 10), (j204 11), (j204 12), (j94 48), (j94 49), (j94 50), (j94 51), uV], []⟩) k ⟨f131, s137, vt128, 0, (jL [(j94 6), (j94 36), (j94 37), (j94 38), (j94 39), (j94 40), (j94 41), (j94 42), (j94 43), (j94 44), (j94 45), (j94 46), (j94 47)]), fL, HS134, HO138, rfl, h, kr⟩ ?_
               clear h
               rintro n199 _ W202 ⟨f200, s206, l205, x209, j204, L201, HS203, HO207, HL208, h, rfl⟩ K197 hK198
               obtain _ | n199 := n199
               · exact nomatch h
               simp only [optics_Trail.l1] at h
               refine wp_seq_k fun K210 hK211 => rl ?_
               refine seqL1 kr ?_
               refine nl (hK211 _ _ ?_)
               refine wp_seq_k (fun K212 hK213 => ?_)
               have hq_ := ite_some h; clear h; rcases hq_ with ⟨c215, h⟩ | ⟨c215, h⟩
               · have c215 : x209 < (vt128.length : Int) := c215
                 refine wpRwI 82 kr (decide_eq_true c215) ?_
                 refine condT kr ?_
                 refine wp_skip ?_
                 refine hK213 _ _ ?_
                 refine wp_seq_k (fun K216 hK217 => ?_)
                 refine blockK (fun B218 hx219 hn220 hr221 ho222 hp223 => ?_)
                 refine wp_seq_k fun K225 hK226 => rl ?_
                 refine seqL2 kr ?_
                 refine nl (hK226 _ _ ?_)
                 refine rl ?_
                 have hq_ := guard_some h; clear h; obtain ⟨c227, h⟩ := hq_
                 have c227 : 0 ≤ x209 := c227
                 have hq_ := guard_some h; clear h; obtain ⟨c228, h⟩ := hq_
                 have c228 : x209 < (l205.length : Int) := c228
                 obtain ⟨b232, of233, cs229, hA234, hr230, hc231⟩ := HO207.at (i := x209) c227 c228
                 obtain rfl := hr230
                 refine seqL2 kr ?_
                 refine seqK rfl (does_run (run_indexE hA234 (sz := 3) rfl Try.underlying33 kr (kv (.slice A135 l205.length c136)) (kv (.int .i64 x209)) c227 c228 W202) ?_)
                 refine seqL1 kr ?_
                 refine seqK rfl (does_run (run_load rfl Try.underlying38 rfl (kv (.pointer (some ⟨b232, of233 + (x209 : Int).toNat * 3 + 2, none⟩))) ((hc231 HS203) 2 (by decide))) ?_)
                 refine seqL2 kr ?_
                 refine seqK rfl (does_run (run_indexE hA234 (sz := 3) rfl Try.underlying33 kr (kv (.slice A135 l205.length c136)) (kv (.int .i64 x209)) c227 c228 W202) ?_)
                 refine seqL1 kr ?_
                 refine seqK rfl (does_putP (e := ty_Spot) (E := 42) (fo := 2) (vs := [.int .i64 (w64 (((rd l205 x209).Light) * (rd rates4 x101)))]) (u := (⟨(rd l205 x209).X, (rd l205 x209).Y, w64 (((rd l205 x209).Light) * (rd rates4 x101))⟩ : S_Spot)) (i := x209) rfl kr HO207 HS203 hA234 (kv (.pointer (some ⟨b232, of233 + (x209 : Int).toNat * 3 + 2, none⟩))) (kv (.int .i64 (w64 (((rd l205 x209).Light) * (rd rates4 x101))))) rfl rfl (ones rfl) (u0 := (rd l205 x209)) rfl rfl rfl (Nat.le_of_ble_eq_true rfl) (hc231 HS203) c227 c228 ?_)
                 intro W235 s236 HS237 HO238
                 refine seqRwS 19 (A := A135) (m := l205.length) (n := (l205.set (x209).toNat (⟨(rd l205 x209).X, (rd l205 x209).Y, w64 (((rd l205 x209).Light) * (rd rates4 x101))⟩ : S_Spot)).length) (c := c136) kr (List.length_set).symm ?_
                 refine seqRwS 84 (A := A135) (m := l205.length) (n := (l205.set (x209).toNat (⟨(rd l205 x209).X, (rd l205 x209).Y, w64 (((rd l205 x209).Light) * (rd rates4 x101))⟩ : S_Spot)).length) (c := c136) kr (List.length_set).symm ?_
                 refine nl ?_
                 refine hn220 _ _ ?_
                 refine hK217 _ _ ?_
                 refine rl ?_
                 refine seqL2 kr ?_
                 refine nl ?_
                 refine hK198 n199 _ _ (Nat.lt_succ_self _) ?_
                 exact ⟨f200, s236, (l205.set (x209).toNat (⟨(rd l205 x209).X, (rd l205 x209).Y, w64 (((rd l205 x209).Light) * (rd rates4 x101))⟩ : S_Spot)), (w64 (x209 + 1)), (jL [iV x209, tV, iV x209, .slice A135 (l205.set (x209).toNat (⟨(rd l205 x209).X, (rd l205 x209).Y, w64 (((rd l205 x209).Light) * (rd rates4 x101))⟩ : S_Spot)).length c136, iV x209, .pointer (some ⟨b232, of233 + (x209 : Int).toNat * 3, none⟩), .pointer (some ⟨b232, of233 + (x209 : Int).toNat * 3 + 2, none⟩), iV ((rd l205 x209).Light), iV (rd rates4 x101), iV (w64 (((rd l205 x209).Light) * (rd rates4 x101))), .pointer (some ⟨b232, of233 + (x209 : Int).toNat * 3, none⟩), .pointer (some ⟨b232, of233 + (x209 : Int).toNat * 3 + 2, none⟩), iV (w64 (x209 + 1))]), L201, HS237, HO238, (List.length_set.trans HL208), h, kr⟩
               · have c215 : ¬ (x209 < (vt128.length : Int)) := c215
                 refine wpRwI 82 kr (decide_eq_false c215) ?_
                 refine condF kr ?_
                 refine wp_exit ?_
                 refine hx153 _ _ ?_
                 exact J249 f200 s206 l205 (jL [(j204 0), .slice A135 vt128.length c136, .slice A135 vt128.length c136, iV x209, fV, (j204 2), (j204 3), (j204 4), (j204 5), (j204 6), (j204 7), (j204 8), (j204 9), (j204 10), (j204 11), (j204 12)]) W202 _ L201 h HS203 HO207 HL208 kr
           · have c107 : ¬ (x101 < (rates4.length : Int)) := c107
             refine wpRwI 53 kr (decide_eq_false c107) ?_
             refine condF kr ?_
             refine wp_exit ?_
             refine hx81 _ _ ?_
             exact J291 f90 A96 c97 s98 out95 (jL [(j94 0), (j94 1), (j94 2), (j94 3), (j94 4), (j94 5), (j94 6), iV x101, fV, (j94 8), (j94 9), (j94 10), (j94 11), (j94 12), (j94 13), (j94 14), (j94 15), (j94 16), (j94 17), (j94 18), (j94 19), (j94 20), (j94 21), (j94 22), (j94 23), (j94 24), (j94 25), (j94 26), (j94 27), (j94 28), (j94 29), (j94 30), (j94 31), (j94 32), (j94 33), (j94 34), (j94 35), (j94 36), (j94 37), (j94 38), (j94 39), (j94 40), (j94 41), (j94 42), (j94 43), (j94 44), (j94 45), (j94 46), (j94 47), (j94 48), (j94 49), (j94 50), (j94 51)]) W92 _ L91 h HS93 HO99 kr

set_option maxRecDepth 100000 in
set_option maxHeartbeats 4000000 in
theorem frac_size.calls (k : Nat)  (a1 : Int) {t w : World} {f : FM} {H : List Seg} (HS : St t w f (H)) (rr1 : Int) (h : frac_size k a1 = some rr1) :
    Calls Try.prog 37 #[.int .i64 a1] w (fun e w' => ∃ (g : FM), e = .returned (Value.int .u64 rr1) ∧ FM.le f g ∧ St t w' g (H)) := by
 unfold frac_size at h
 refine enter Try.func37 rfl (tm := #[iV a1, uV, uV, uV, uV, uV, uV, uV, uV, uV]) kr ?_
 intro B hret hnor hnp
 refine wp_seq_k fun K2 hK3 => rl ?_
 refine seqL1 kr ?_
 refine nl (hK3 _ _ ?_)
 refine wp_seq_k (fun K4 hK5 => ?_)
 refine wp_seq_k fun K6 hK7 => rl ?_
 refine seqL2 kr ?_
 refine nl (hK7 _ _ ?_)
 have hq_ := ite_some h; clear h; rcases hq_ with ⟨c9, h⟩ | ⟨c9, h⟩
 · have c9 : a1 < 0 := c9
   refine wpRwI 4 kr (decide_eq_true c9) ?_
   refine condT kr ?_
   refine wp_seq_k fun K10 hK11 => rl ?_
   refine seqL4 kr ?_
   refine nl (hK11 _ _ ?_)
   refine wp_ret ?_
   refine hret _ _ ?_
   refine ends_still (v := Value.int .u64 (u64 (0 - (u64 (a1))))) kr kr ?_
   injection h with h
   subst h
   exact ⟨f, rfl, FM.le.refl _, HS⟩
 · have c9 : ¬ (a1 < 0) := c9
   refine wpRwI 4 kr (decide_eq_false c9) ?_
   refine condF kr ?_
   refine wp_skip ?_
   refine hK5 _ _ ?_
   refine wp_seq_k fun K12 hK13 => rl ?_
   refine seqL3 kr ?_
   refine nl (hK13 _ _ ?_)
   refine wp_ret ?_
   refine hret _ _ ?_
   refine ends_still (v := Value.int .u64 (u64 (a1))) kr kr ?_
   injection h with h
   subst h
   exact ⟨f, rfl, FM.le.refl _, HS⟩

set_option maxRecDepth 100000 in
set_option maxHeartbeats 4000000 in
theorem frac_Make.calls (k : Nat)  (n1 : Int) (d2 : Int) {t w : World} {f : FM} {H : List Seg} (HS : St t w f (H)) (rr1 : S_Frac) (rr2 : Int) (h : frac_Make k n1 d2 = some (rr1, rr2)) :
    Calls Try.prog 25 #[.int .i64 n1, .int .i64 d2] w (fun e w' => ∃ (g : FM), e = .returned (Value.tuple #[.agg #[.int .i64 rr1.Num, .int .i64 rr1.Den], .int .i64 rr2]) ∧ FM.le f g ∧ St t w' g (H)) := by
 unfold frac_Make at h
 refine enter Try.func25 rfl (tm := #[iV n1, iV d2, uV, uV, uV, uV, uV, uV, uV, uV, uV, uV, uV, uV, uV, uV, uV, uV, uV, uV, uV, uV, uV, uV, uV, uV, uV, uV, uV, uV, uV, uV, uV, uV, uV, uV, uV, uV, uV, uV, uV, uV, uV, uV, uV, uV, uV, uV, uV, uV, uV, uV, uV, uV, uV, uV]) kr ?_
 intro B hret hnor hnp
 refine wp_seq_k fun K3 hK4 => rl ?_
 refine seqK rfl (does_alloc (z := Value.agg #[.int .i64 0, .int .i64 0]) (cs := #[.int .i64 0, .int .i64 0]) rfl kr rfl HS ?_)
 intro b5 W6 HS7
 refine seqL1 kr ?_
 refine nl (hK4 _ _ ?_)
 refine wp_seq_k (fun K9 hK10 => ?_)
 refine wp_seq_k fun K11 hK12 => rl ?_
 refine seqL2 kr ?_
 refine nl (hK12 _ _ ?_)
 have hq_ := ite_some h; clear h; rcases hq_ with ⟨c14, h⟩ | ⟨c14, h⟩
 · have c14 : d2 = 0 := c14
   refine wpRwI 11 kr (beq_iff_eq.mpr c14) ?_
   refine condT kr ?_
   refine wp_seq_k fun K15 hK16 => rl ?_
   refine seqL1 kr ?_
   refine seqK rfl (does_storeA (vs := [.int .i64 0, .int .i64 0]) rfl kr kr kr rfl (ones rfl) HS7 kr ?_)
   intro W17 HS18
   refine seqL1 kr ?_
   refine nl (hK16 _ _ ?_)
   refine wp_ret ?_
   refine hret _ _ ?_
   refine ends (v := Value.tuple #[.agg #[.int .i64 0, .int .i64 0], .int .i64 1]) (results2 (q1 := .cell 4 47) (q2 := .tmp 5) kr (resN (n := 2) (cs := [.int .i64 0, .int .i64 0]) (kv (.pointer (some ⟨b5, 0, none⟩))) Try.underlying47 rfl kr rfl (HS18.cells 0 2 _ rfl)) (resT (kv (.int .i64 1)))) kr ?_
   have HS128 := HS18.drop
   injection h with h
   injection h with h0_ h
   subst h0_ h
   exact ⟨f, rfl, FM.le.refl _, HS128⟩
 · have c14 : ¬ (d2 = 0) := c14
   refine wpRwI 11 kr (beq_eq_false_iff_ne.mpr c14) ?_
   refine condF kr ?_
   refine wp_skip ?_
   refine hK10 _ _ ?_
   refine wp_seq_k fun K19 hK20 => rl ?_
   have hq_ := bind_some h; clear h; obtain ⟨vt21, hc22, h⟩ := hq_
   refine seqL1 kr ?_
   refine seqK rfl (does_call (f := 37) (args := #[.int .i64 n1]) kr (frac_size.calls k n1 HS7 vt21 hc22) ?_)
   rintro _ W25 ⟨f23, rfl, L24, HS26⟩
   refine ⟨_, rfl, ?_⟩
   have hq_ := bind_some h; clear h; obtain ⟨vt27, hc28, h⟩ := hq_
   refine seqL1 kr ?_
   refine seqK rfl (does_call (f := 37) (args := #[.int .i64 d2]) kr (frac_size.calls k d2 HS26 vt27 hc28) ?_)
   rintro _ W31 ⟨f29, rfl, L30, HS32⟩
   refine ⟨_, rfl, ?_⟩
   refine seqL2 kr ?_
   refine nl (hK20 _ _ ?_)
   refine wp_seq_k (fun K33 hK34 => ?_)
   refine blockK (fun B35 hx36 hn37 hr38 ho39 hp40 => ?_)
   have hq_ := bind_some h; clear h; obtain ⟨o41, hv74, h⟩ := hq_
   have J75 : ∀ (f68 : FM) (x73 : Int) (j72 : Nat → Value) (W70 : World) (a_ : Act), FM.le f29 f68 → some (x73) = some o41 → St t W70 f68 ([(b5, .cells #[.int .i64 0, .int .i64 0] 47 (0, 0))] :: H) → a_ = ⟨#[iV n1, iV d2, uV, uV, pV b5 0, iV 0, .int .u64 x73, (j72 0), uV, uV, iV d2, fV, uV, iV n1, .int .u64 vt21, iV d2, .int .u64 vt27, (j72 1), (j72 2), (j72 3), (j72 4), (j72 5), (j72 6), uV, uV, uV, uV, uV, uV, uV, uV, uV, uV, uV, uV, uV, uV, uV, uV, uV, uV, uV, uV, uV, uV, uV, uV, uV, uV, uV, uV, uV, uV, uV, uV, uV], []⟩ → K33 a_ W70 := by
    intro f68 x73 j72 W70 a_ L69 hj76 HS71  hfr_; subst hfr_
    injection hj76 with hj76; subst hj76; try dsimp only at h
    refine hK34 _ _ ?_
    refine wp_seq_k (fun K77 hK78 => ?_)
    refine heldG (S := Sg t f68 ([(b5, .cells #[.int .i64 0, .int .i64 0] 47 (0, 0))] :: H) []) (n := 10) kr rfl HS71 ?_
    intro W79 HS80
    refine takeGL [0, 2, 4, 6] (n := 10) (fuel := 6) #[true, false, true, false, true, false, true, false, false, false] rfl kr kr kr hnp (Sg.g0 (Sx.of [] fL HS80)) ?_
    have hq_ := bind_some h; clear h; obtain ⟨vt81, hc82, h⟩ := hq_
    refine takeGE 1 kr rfl kr (does_call (f := 37) (args := #[.int .i64 n1]) kr (frac_size.calls k n1 HS80 vt81 hc82) ?_)
    rintro _ W85 ⟨f83, rfl, L84, HS86⟩
    refine ⟨_, rfl, ?_⟩
    refine ⟨(Sg.g0 (Sx.of [] L84 HS86)), ?_⟩
    have hq_ := guard_some h; clear h; obtain ⟨c87, h⟩ := hq_
    have c87 : ¬ (x73 = 0) := c87
    refine takeGQ 3 [] rfl kr kr kr kr kr kr hnp (Sg.g0 (Sx.of [] L84 HS86)) (fun w_ hw_ => by obtain ⟨g_, hl_, hS_⟩ := hw_.st; exact run_div rfl (kv (.int .u64 vt81)) (kv (.int .u64 x73)) c87 w_) ?_
    have hq_ := bind_some h; clear h; obtain ⟨vt88, hc89, h⟩ := hq_
    refine takeGE 5 kr rfl kr (does_call (f := 37) (args := #[.int .i64 d2]) kr (frac_size.calls k d2 HS86 vt88 hc89) ?_)
    rintro _ W92 ⟨f90, rfl, L91, HS93⟩
    refine ⟨_, rfl, ?_⟩
    refine ⟨(Sg.g0 (Sx.of [] (L84.trans L91) HS93)), ?_⟩
    refine takeGQ 7 [] rfl kr kr kr kr kr kr hnp (Sg.g0 (Sx.of [] (L84.trans L91) HS93)) (fun w_ hw_ => by obtain ⟨g_, hl_, hS_⟩ := hw_.st; exact run_div rfl (kv (.int .u64 vt88)) (kv (.int .u64 x73)) c87 w_) ?_
    refine takeGL [8, 9] (n := 2) (fuel := 0) #[true, true, true, true, true, true, true, true, true, true] rfl kr kr kr hnp (Sg.g0 (Sx.of [] (L84.trans L91) HS93)) ?_
    refine doneG kr ?_ _
    refine hK78 _ _ ?_
    refine wp_seq_k (fun K94 hK95 => ?_)
    refine blockK (fun B96 hx97 hn98 hr99 ho100 hp101 => ?_)
    refine wp_seq_k fun K103 hK104 => rl ?_
    refine seqL3 kr ?_
    have hq_ := ite_some h; clear h; rcases hq_ with ⟨c105, h⟩ | ⟨c105, h⟩
    · have c105 : (u64 (Int.tdiv vt81 x73)) > 1152921504606846976 := c105
      refine seqRwI 33 kr (decide_eq_true c105) ?_
      refine seqRwI 34 kr (decide_eq_true c105) ?_
      refine seqL4 kr ?_
      refine nl (hK104 _ _ ?_)
      refine condT kr ?_
      refine wp_seq_k fun K106 hK107 => rl ?_
      refine seqL1 kr ?_
      refine seqK rfl (does_storeA (vs := [.int .i64 0, .int .i64 0]) rfl kr kr kr rfl (ones rfl) HS93 kr ?_)
      intro W108 HS109
      refine seqL1 kr ?_
      refine nl (hK107 _ _ ?_)
      refine wp_ret ?_
      refine hr99 _ _ ?_
      refine hret _ _ ?_
      refine ends (v := Value.tuple #[.agg #[.int .i64 0, .int .i64 0], .int .i64 2]) (results2 (q1 := .cell 4 47) (q2 := .tmp 5) kr (resN (n := 2) (cs := [.int .i64 0, .int .i64 0]) (kv (.pointer (some ⟨b5, 0, none⟩))) Try.underlying47 rfl kr rfl (HS109.cells 0 2 _ rfl)) (resT (kv (.int .i64 2)))) kr ?_
      have HS129 := HS109.drop
      injection h with h
      injection h with h0_ h
      subst h0_ h
      exact ⟨f90, rfl, (L24.trans (L30.trans (L69.trans (L84.trans L91)))), HS129⟩
    · have c105 : ¬ ((u64 (Int.tdiv vt81 x73)) > 1152921504606846976) := c105
      refine seqRwI 33 kr (decide_eq_false c105) ?_
      refine seqRwI 34 kr (decide_eq_false c105) ?_
      refine seqL4 kr ?_
      refine nl (hK104 _ _ ?_)
      have hq_ := ite_some h; clear h; rcases hq_ with ⟨c111, h⟩ | ⟨c111, h⟩
      · have c111 : (u64 (Int.tdiv vt88 x73)) > 1152921504606846976 := c111
        refine wpRwI 31 kr (decide_eq_true c111) ?_
        refine wpRwI 36 kr (decide_eq_true c111) ?_
        refine wpRwI 37 kr (decide_eq_true c111) ?_
        refine condT kr ?_
        refine wp_seq_k fun K112 hK113 => rl ?_
        refine seqL1 kr ?_
        refine seqK rfl (does_storeA (vs := [.int .i64 0, .int .i64 0]) rfl kr kr kr rfl (ones rfl) HS93 kr ?_)
        intro W114 HS115
        refine seqL1 kr ?_
        refine nl (hK113 _ _ ?_)
        refine wp_ret ?_
        refine hr99 _ _ ?_
        refine hret _ _ ?_
        refine ends (v := Value.tuple #[.agg #[.int .i64 0, .int .i64 0], .int .i64 2]) (results2 (q1 := .cell 4 47) (q2 := .tmp 5) kr (resN (n := 2) (cs := [.int .i64 0, .int .i64 0]) (kv (.pointer (some ⟨b5, 0, none⟩))) Try.underlying47 rfl kr rfl (HS115.cells 0 2 _ rfl)) (resT (kv (.int .i64 2)))) kr ?_
        have HS130 := HS115.drop
        injection h with h
        injection h with h0_ h
        subst h0_ h
        exact ⟨f90, rfl, (L24.trans (L30.trans (L69.trans (L84.trans L91)))), HS130⟩
      · have c111 : ¬ ((u64 (Int.tdiv vt88 x73)) > 1152921504606846976) := c111
        refine wpRwI 31 kr (decide_eq_false c111) ?_
        refine wpRwI 36 kr (decide_eq_false c111) ?_
        refine wpRwI 37 kr (decide_eq_false c111) ?_
        refine condF kr ?_
        refine wp_seq_k fun K116 hK117 => rl ?_
        refine seqL6 kr ?_
        refine nl (hK117 _ _ ?_)
        have hq_ := ite_some h; clear h; rcases hq_ with ⟨c119, h⟩ | ⟨c119, h⟩
        · have c119 : ((decide (n1 < 0)) != (decide (d2 < 0))) = true := c119
          refine wpRwI 39 kr c119 ?_
          refine wpRwI 44 kr c119 ?_
          refine condT kr ?_
          refine wp_seq_k fun K120 hK121 => rl ?_
          refine seqL6 kr ?_
          refine seqK rfl (does_storeA (vs := [.int .i64 (w64 (0 - (w64 (u64 (Int.tdiv vt81 x73))))), .int .i64 (w64 (u64 (Int.tdiv vt88 x73)))]) rfl kr kr kr rfl (ones rfl) HS93 kr ?_)
          intro W122 HS123
          refine seqL1 kr ?_
          refine nl (hK121 _ _ ?_)
          refine wp_ret ?_
          refine hr99 _ _ ?_
          refine hret _ _ ?_
          refine ends (v := Value.tuple #[.agg #[.int .i64 (w64 (0 - (w64 (u64 (Int.tdiv vt81 x73))))), .int .i64 (w64 (u64 (Int.tdiv vt88 x73)))], .int .i64 0]) (results2 (q1 := .cell 4 47) (q2 := .tmp 5) kr (resN (n := 2) (cs := [.int .i64 (w64 (0 - (w64 (u64 (Int.tdiv vt81 x73))))), .int .i64 (w64 (u64 (Int.tdiv vt88 x73)))]) (kv (.pointer (some ⟨b5, 0, none⟩))) Try.underlying47 rfl kr rfl (HS123.cells 0 2 _ rfl)) (resT (kv (.int .i64 0)))) kr ?_
          have HS131 := HS123.drop
          injection h with h
          injection h with h0_ h
          subst h0_ h
          exact ⟨f90, rfl, (L24.trans (L30.trans (L69.trans (L84.trans L91)))), HS131⟩
        · have c119 : ¬ (((decide (n1 < 0)) != (decide (d2 < 0))) = true) := c119
          refine wpRwI 39 kr (Bool.eq_false_iff.mpr c119) ?_
          refine wpRwI 44 kr (Bool.eq_false_iff.mpr c119) ?_
          refine condF kr ?_
          refine wp_skip ?_
          refine hn98 _ _ ?_
          refine hK95 _ _ ?_
          refine wp_seq_k fun K124 hK125 => rl ?_
          refine seqL5 kr ?_
          refine seqK rfl (does_storeA (vs := [.int .i64 (w64 (u64 (Int.tdiv vt81 x73))), .int .i64 (w64 (u64 (Int.tdiv vt88 x73)))]) rfl kr kr kr rfl (ones rfl) HS93 kr ?_)
          intro W126 HS127
          refine seqL1 kr ?_
          refine nl (hK125 _ _ ?_)
          refine wp_ret ?_
          refine hret _ _ ?_
          refine ends (v := Value.tuple #[.agg #[.int .i64 (w64 (u64 (Int.tdiv vt81 x73))), .int .i64 (w64 (u64 (Int.tdiv vt88 x73)))], .int .i64 0]) (results2 (q1 := .cell 4 47) (q2 := .tmp 5) kr (resN (n := 2) (cs := [.int .i64 (w64 (u64 (Int.tdiv vt81 x73))), .int .i64 (w64 (u64 (Int.tdiv vt88 x73)))]) (kv (.pointer (some ⟨b5, 0, none⟩))) Try.underlying47 rfl kr rfl (HS127.cells 0 2 _ rfl)) (resT (kv (.int .i64 0)))) kr ?_
          have HS132 := HS127.drop
          injection h with h
          injection h with h0_ h
          subst h0_ h
          exact ⟨f90, rfl, (L24.trans (L30.trans (L69.trans (L84.trans L91)))), HS132⟩
   clear h; have h := hv74; clear hv74
   refine loopK (fun n_ a_ w_ => ∃ (f45 : FM) (x50 : Int) (y51 : Int) (j49 : Nat → Value), FM.le f29 f45 ∧ St t w_ f45 ([(b5, .cells #[.int .i64 0, .int .i64 0] 47 (0, 0))] :: H) ∧ frac_Make.l0 k n_ x50 y51 = some o41 ∧ a_ = ⟨#[iV n1, iV d2, uV, uV, pV b5 0, iV 0, .int .u64 x50, .int .u64 y51, uV, uV, iV d2, fV, uV, iV n1, .int .u64 vt21, iV d2, .int .u64 vt27, (j49 0), (j49 1), (j49 2), (j49 3), (j49 4), (j49 5), uV, uV, uV, uV, uV, uV, uV, uV, uV, uV, uV, uV, uV, uV, uV, uV, uV, uV, uV, uV, uV, uV, uV, uV, uV, uV, uV, uV, uV, uV, uV, uV, uV], []⟩) k ⟨f29, vt21, vt27, (jL []), fL, HS32, h, kr⟩ ?_
   clear h
   rintro n44 _ W47 ⟨f45, x50, y51, j49, L46, HS48, h, rfl⟩ K42 hK43
   obtain _ | n44 := n44
   · exact nomatch h
   simp only [frac_Make.l0] at h
   refine wp_seq_k (fun K52 hK53 => ?_)
   refine wp_seq_k fun K54 hK55 => rl ?_
   refine seqL2 kr ?_
   refine nl (hK55 _ _ ?_)
   have hq_ := ite_some h; clear h; rcases hq_ with ⟨c57, h⟩ | ⟨c57, h⟩
   · have c57 : y51 > 0 := c57
     refine wpRwI 18 kr (decide_eq_true c57) ?_
     refine condT kr ?_
     refine wp_skip ?_
     refine hK53 _ _ ?_
     refine blockK (fun B58 hx59 hn60 hr61 ho62 hp63 => ?_)
     refine heldG (S := Sg t f45 ([(b5, .cells #[.int .i64 0, .int .i64 0] 47 (0, 0))] :: H) []) (n := 6) kr rfl HS48 ?_
     intro W65 HS66
     have hq_ := guard_some h; clear h; obtain ⟨c67, h⟩ := hq_
     have c67 : ¬ (y51 = 0) := c67
     refine takeGL [0, 1, 2] (n := 6) (fuel := 3) #[true, true, true, false, false, false] rfl kr kr kr (fun ch_ a_ w_ q_ => (fun ch_ a_ w_ q_ => hnp ch_ a_ w_ (hp40 ch_ a_ w_ q_)) ch_ a_ w_ (hp63 ch_ a_ w_ q_)) (Sg.g0 (Sx.of [] fL HS66)) ?_
     refine takeGQ 3 [] rfl kr kr kr kr kr kr (fun ch_ a_ w_ q_ => (fun ch_ a_ w_ q_ => hnp ch_ a_ w_ (hp40 ch_ a_ w_ q_)) ch_ a_ w_ (hp63 ch_ a_ w_ q_)) (Sg.g0 (Sx.of [] fL HS66)) (fun w_ hw_ => by obtain ⟨g_, hl_, hS_⟩ := hw_.st; exact run_rem rfl (kv (.int .u64 x50)) (kv (.int .u64 y51)) c67 w_) ?_
     refine takeGL [4, 5] (n := 2) (fuel := 0) #[true, true, true, true, true, true] rfl kr kr kr (fun ch_ a_ w_ q_ => (fun ch_ a_ w_ q_ => hnp ch_ a_ w_ (hp40 ch_ a_ w_ q_)) ch_ a_ w_ (hp63 ch_ a_ w_ q_)) (Sg.g0 (Sx.of [] fL HS66)) ?_
     refine doneG kr ?_ _
     refine hn60 _ _ ?_
     refine hK43 n44 _ _ (Nat.lt_succ_self _) ?_
     exact ⟨f45, y51, (Int.tmod x50 y51), (jL [.int .u64 y51, tV, .int .u64 y51, .int .u64 x50, .int .u64 y51, .int .u64 (Int.tmod x50 y51)]), L46, HS66, h, kr⟩
   · have c57 : ¬ (y51 > 0) := c57
     refine wpRwI 18 kr (decide_eq_false c57) ?_
     refine condF kr ?_
     refine wp_exit ?_
     refine hx36 _ _ ?_
     exact J75 f45 x50 (jL [.int .u64 y51, .int .u64 y51, fV, (j49 2), (j49 3), (j49 4), (j49 5)]) W47 _ L46 h HS48 kr

set_option maxRecDepth 100000 in
set_option maxHeartbeats 4000000 in
theorem num_size.calls (k : Nat)  (a1 : Int) {t w : World} {f : FM} {H : List Seg} (HS : St t w f (H)) (rr1 : Int) (h : num_size k a1 = some rr1) :
    Calls Try.prog 49 #[.int .i64 a1] w (fun e w' => ∃ (g : FM), e = .returned (Value.int .u64 rr1) ∧ FM.le f g ∧ St t w' g (H)) := by
 unfold num_size at h
 refine enter Try.func49 rfl (tm := #[iV a1, uV, uV, uV, uV, uV, uV, uV, uV, uV]) kr ?_
 intro B hret hnor hnp
 refine wp_seq_k fun K2 hK3 => rl ?_
 refine seqL1 kr ?_
 refine nl (hK3 _ _ ?_)
 refine wp_seq_k (fun K4 hK5 => ?_)
 refine wp_seq_k fun K6 hK7 => rl ?_
 refine seqL2 kr ?_
 refine nl (hK7 _ _ ?_)
 have hq_ := ite_some h; clear h; rcases hq_ with ⟨c9, h⟩ | ⟨c9, h⟩
 · have c9 : a1 < 0 := c9
   refine wpRwI 4 kr (decide_eq_true c9) ?_
   refine condT kr ?_
   refine wp_seq_k fun K10 hK11 => rl ?_
   refine seqL4 kr ?_
   refine nl (hK11 _ _ ?_)
   refine wp_ret ?_
   refine hret _ _ ?_
   refine ends_still (v := Value.int .u64 (u64 (0 - (u64 (a1))))) kr kr ?_
   injection h with h
   subst h
   exact ⟨f, rfl, FM.le.refl _, HS⟩
 · have c9 : ¬ (a1 < 0) := c9
   refine wpRwI 4 kr (decide_eq_false c9) ?_
   refine condF kr ?_
   refine wp_skip ?_
   refine hK5 _ _ ?_
   refine wp_seq_k fun K12 hK13 => rl ?_
   refine seqL3 kr ?_
   refine nl (hK13 _ _ ?_)
   refine wp_ret ?_
   refine hret _ _ ?_
   refine ends_still (v := Value.int .u64 (u64 (a1))) kr kr ?_
   injection h with h
   subst h
   exact ⟨f, rfl, FM.le.refl _, HS⟩

set_option maxRecDepth 100000 in
set_option maxHeartbeats 4000000 in
theorem num_Gcd.calls (k : Nat)  (a1 : Int) (b2 : Int) {t w : World} {f : FM} {H : List Seg} (HS : St t w f (H)) (rr1 : Int) (h : num_Gcd k a1 b2 = some rr1) :
    Calls Try.prog 39 #[.int .i64 a1, .int .i64 b2] w (fun e w' => ∃ (g : FM), e = .returned (Value.int .i64 rr1) ∧ FM.le f g ∧ St t w' g (H)) := by
 unfold num_Gcd at h
 refine enter Try.func39 rfl (tm := #[iV a1, iV b2, uV, uV, uV, uV, uV, uV, uV, uV, uV, uV, uV, uV, uV, uV, uV, uV, uV, uV]) kr ?_
 intro B hret hnor hnp
 refine wp_seq_k fun K3 hK4 => rl ?_
 refine seqL1 kr ?_
 refine nl (hK4 _ _ ?_)
 refine wp_seq_k fun K5 hK6 => rl ?_
 have hq_ := bind_some h; clear h; obtain ⟨vt7, hc8, h⟩ := hq_
 refine seqL1 kr ?_
 refine seqK rfl (does_call (f := 49) (args := #[.int .i64 a1]) kr (num_size.calls k a1 HS vt7 hc8) ?_)
 rintro _ W11 ⟨f9, rfl, L10, HS12⟩
 refine ⟨_, rfl, ?_⟩
 have hq_ := bind_some h; clear h; obtain ⟨vt13, hc14, h⟩ := hq_
 refine seqL1 kr ?_
 refine seqK rfl (does_call (f := 49) (args := #[.int .i64 b2]) kr (num_size.calls k b2 HS12 vt13 hc14) ?_)
 rintro _ W17 ⟨f15, rfl, L16, HS18⟩
 refine ⟨_, rfl, ?_⟩
 refine seqL2 kr ?_
 refine nl (hK6 _ _ ?_)
 refine wp_seq_k (fun K19 hK20 => ?_)
 refine blockK (fun B21 hx22 hn23 hr24 ho25 hp26 => ?_)
 have hq_ := bind_some h; clear h; obtain ⟨o27, hv60, h⟩ := hq_
 have J61 : ∀ (f54 : FM) (x59 : Int) (j58 : Nat → Value) (W56 : World) (a_ : Act), FM.le f15 f54 → some (x59) = some o27 → St t W56 f54 (H) → a_ = ⟨#[iV a1, iV b2, uV, uV, iV 0, .int .u64 x59, (j58 0), iV a1, .int .u64 vt7, iV b2, .int .u64 vt13, (j58 1), (j58 2), (j58 3), (j58 4), (j58 5), (j58 6), uV, uV, uV], []⟩ → K19 a_ W56 := by
  intro f54 x59 j58 W56 a_ L55 hj62 HS57  hfr_; subst hfr_
  injection hj62 with hj62; subst hj62; try dsimp only at h
  refine hK20 _ _ ?_
  refine wp_seq_k fun K63 hK64 => rl ?_
  refine seqL4 kr ?_
  refine nl (hK64 _ _ ?_)
  refine wp_ret ?_
  refine hret _ _ ?_
  refine ends_still (v := Value.int .i64 (w64 (Go.bits .andNot .u64 x59 9223372036854775808))) kr kr ?_
  injection h with h
  subst h
  exact ⟨f54, rfl, (L10.trans (L16.trans L55)), HS57⟩
 clear h; have h := hv60; clear hv60
 refine loopK (fun n_ a_ w_ => ∃ (f31 : FM) (x36 : Int) (y37 : Int) (j35 : Nat → Value), FM.le f15 f31 ∧ St t w_ f31 (H) ∧ num_Gcd.l0 k n_ x36 y37 = some o27 ∧ a_ = ⟨#[iV a1, iV b2, uV, uV, iV 0, .int .u64 x36, .int .u64 y37, iV a1, .int .u64 vt7, iV b2, .int .u64 vt13, (j35 0), (j35 1), (j35 2), (j35 3), (j35 4), (j35 5), uV, uV, uV], []⟩) k ⟨f15, vt7, vt13, (jL []), fL, HS18, h, kr⟩ ?_
 clear h
 rintro n30 _ W33 ⟨f31, x36, y37, j35, L32, HS34, h, rfl⟩ K28 hK29
 obtain _ | n30 := n30
 · exact nomatch h
 simp only [num_Gcd.l0] at h
 refine wp_seq_k (fun K38 hK39 => ?_)
 refine wp_seq_k fun K40 hK41 => rl ?_
 refine seqL2 kr ?_
 refine nl (hK41 _ _ ?_)
 have hq_ := ite_some h; clear h; rcases hq_ with ⟨c43, h⟩ | ⟨c43, h⟩
 · have c43 : y37 > 0 := c43
   refine wpRwI 12 kr (decide_eq_true c43) ?_
   refine condT kr ?_
   refine wp_skip ?_
   refine hK39 _ _ ?_
   refine blockK (fun B44 hx45 hn46 hr47 ho48 hp49 => ?_)
   refine heldG (S := Sg t f31 (H) []) (n := 6) kr rfl HS34 ?_
   intro W51 HS52
   have hq_ := guard_some h; clear h; obtain ⟨c53, h⟩ := hq_
   have c53 : ¬ (y37 = 0) := c53
   refine takeGL [0, 1, 2] (n := 6) (fuel := 3) #[true, true, true, false, false, false] rfl kr kr kr (fun ch_ a_ w_ q_ => (fun ch_ a_ w_ q_ => hnp ch_ a_ w_ (hp26 ch_ a_ w_ q_)) ch_ a_ w_ (hp49 ch_ a_ w_ q_)) (Sg.g0 (Sx.of [] fL HS52)) ?_
   refine takeGQ 3 [] rfl kr kr kr kr kr kr (fun ch_ a_ w_ q_ => (fun ch_ a_ w_ q_ => hnp ch_ a_ w_ (hp26 ch_ a_ w_ q_)) ch_ a_ w_ (hp49 ch_ a_ w_ q_)) (Sg.g0 (Sx.of [] fL HS52)) (fun w_ hw_ => by obtain ⟨g_, hl_, hS_⟩ := hw_.st; exact run_rem rfl (kv (.int .u64 x36)) (kv (.int .u64 y37)) c53 w_) ?_
   refine takeGL [4, 5] (n := 2) (fuel := 0) #[true, true, true, true, true, true] rfl kr kr kr (fun ch_ a_ w_ q_ => (fun ch_ a_ w_ q_ => hnp ch_ a_ w_ (hp26 ch_ a_ w_ q_)) ch_ a_ w_ (hp49 ch_ a_ w_ q_)) (Sg.g0 (Sx.of [] fL HS52)) ?_
   refine doneG kr ?_ _
   refine hn46 _ _ ?_
   refine hK29 n30 _ _ (Nat.lt_succ_self _) ?_
   exact ⟨f31, y37, (Int.tmod x36 y37), (jL [.int .u64 y37, tV, .int .u64 y37, .int .u64 x36, .int .u64 y37, .int .u64 (Int.tmod x36 y37)]), L32, HS52, h, kr⟩
 · have c43 : ¬ (y37 > 0) := c43
   refine wpRwI 12 kr (decide_eq_false c43) ?_
   refine condF kr ?_
   refine wp_exit ?_
   refine hx22 _ _ ?_
   exact J61 f31 x36 (jL [.int .u64 y37, .int .u64 y37, fV, (j35 2), (j35 3), (j35 4), (j35 5)]) W33 _ L32 h HS34 kr

set_option maxRecDepth 100000 in
set_option maxHeartbeats 4000000 in
theorem frac_Check.calls (k : Nat)  (x1 : S_Frac) {t w : World} {f : FM} {H : List Seg} (HS : St t w f (H)) (rr1 : Int) (h : frac_Check k x1 = some rr1) :
    Calls Try.prog 42 #[.agg #[.int .i64 x1.Num, .int .i64 x1.Den]] w (fun e w' => ∃ (g : FM), e = .returned (Value.int .i64 rr1) ∧ FM.le f g ∧ St t w' g (H)) := by
 unfold frac_Check at h
 refine enter Try.func42 rfl (tm := #[.agg #[iV x1.Num, iV x1.Den], uV, uV, uV, uV, uV, uV, uV, uV, uV, uV, uV, uV, uV, uV, uV, uV, uV, uV, uV, uV, uV, uV, uV, uV, uV, uV]) kr ?_
 intro B hret hnor hnp
 refine wp_seq_k fun K2 hK3 => rl ?_
 refine seqK rfl (does_box (cs := #[.int .i64 x1.Num, .int .i64 x1.Den]) rfl (kv (.agg #[.int .i64 x1.Num, .int .i64 x1.Den])) rfl HS ?_)
 intro b4 W5 HS6
 refine seqL1 kr ?_
 refine nl (hK3 _ _ ?_)
 refine wp_seq_k (fun K8 hK9 => ?_)
 refine wp_seq_k fun K10 hK11 => rl ?_
 refine seqL1 kr ?_
 refine seqK rfl (does_run (run_load rfl Try.underlying2 rfl (kv (.pointer (some ⟨b4, 0, none⟩))) (HS6.cell 0)) ?_)
 refine seqL2 kr ?_
 have hq_ := ite_some h; clear h; rcases hq_ with ⟨c12, h⟩ | ⟨c12, h⟩
 · have c12 : x1.Num < (-1152921504606846976) := c12
   refine seqRwI 5 kr (decide_eq_true c12) ?_
   refine seqRwI 6 kr (decide_eq_true c12) ?_
   refine seqL14 kr ?_
   refine nl (hK11 _ _ ?_)
   refine condT kr ?_
   refine wp_seq_k fun K13 hK14 => rl ?_
   refine seqL1 kr ?_
   refine nl (hK14 _ _ ?_)
   refine wp_ret ?_
   refine hret _ _ ?_
   refine ends_still (v := Value.int .i64 4) kr kr ?_
   have HS41 := HS6.drop
   injection h with h
   subst h
   exact ⟨f, rfl, FM.le.refl _, HS41⟩
 · have c12 : ¬ (x1.Num < (-1152921504606846976)) := c12
   refine seqRwI 5 kr (decide_eq_false c12) ?_
   refine seqRwI 6 kr (decide_eq_false c12) ?_
   refine seqL1 kr ?_
   refine seqG kr (does_run (run_load rfl Try.underlying2 rfl (kv (.pointer (some ⟨b4, 0, none⟩))) (HS6.cell 0)) ?_)
   refine seqL3 kr ?_
   have hq_ := ite_some h; clear h; rcases hq_ with ⟨c15, h⟩ | ⟨c15, h⟩
   · have c15 : x1.Num > 1152921504606846976 := c15
     refine seqRwI 9 kr (decide_eq_true c15) ?_
     refine seqRwI 10 kr (decide_eq_true c15) ?_
     refine seqRwI 11 kr (decide_eq_true c15) ?_
     refine seqL9 kr ?_
     refine nl (hK11 _ _ ?_)
     refine condT kr ?_
     refine wp_seq_k fun K16 hK17 => rl ?_
     refine seqL1 kr ?_
     refine nl (hK17 _ _ ?_)
     refine wp_ret ?_
     refine hret _ _ ?_
     refine ends_still (v := Value.int .i64 4) kr kr ?_
     have HS42 := HS6.drop
     injection h with h
     subst h
     exact ⟨f, rfl, FM.le.refl _, HS42⟩
   · have c15 : ¬ (x1.Num > 1152921504606846976) := c15
     refine seqRwI 9 kr (decide_eq_false c15) ?_
     refine seqRwI 10 kr (decide_eq_false c15) ?_
     refine seqRwI 11 kr (decide_eq_false c15) ?_
     refine seqL1 kr ?_
     refine seqG kr (does_run (run_load rfl Try.underlying2 rfl (kv (.pointer (some ⟨b4, 1, none⟩))) (HS6.cell 1)) ?_)
     refine seqL3 kr ?_
     have hq_ := ite_some h; clear h; rcases hq_ with ⟨c18, h⟩ | ⟨c18, h⟩
     · have c18 : x1.Den < 1 := c18
       refine seqRwI 14 kr (decide_eq_true c18) ?_
       refine seqRwI 15 kr (decide_eq_true c18) ?_
       refine seqRwI 16 kr (decide_eq_true c18) ?_
       refine seqL4 kr ?_
       refine nl (hK11 _ _ ?_)
       refine condT kr ?_
       refine wp_seq_k fun K19 hK20 => rl ?_
       refine seqL1 kr ?_
       refine nl (hK20 _ _ ?_)
       refine wp_ret ?_
       refine hret _ _ ?_
       refine ends_still (v := Value.int .i64 4) kr kr ?_
       have HS43 := HS6.drop
       injection h with h
       subst h
       exact ⟨f, rfl, FM.le.refl _, HS43⟩
     · have c18 : ¬ (x1.Den < 1) := c18
       refine seqRwI 14 kr (decide_eq_false c18) ?_
       refine seqRwI 15 kr (decide_eq_false c18) ?_
       refine seqRwI 16 kr (decide_eq_false c18) ?_
       refine seqL1 kr ?_
       refine seqG kr (does_run (run_load rfl Try.underlying2 rfl (kv (.pointer (some ⟨b4, 1, none⟩))) (HS6.cell 1)) ?_)
       refine seqL2 kr ?_
       refine nl (hK11 _ _ ?_)
       have hq_ := ite_some h; clear h; rcases hq_ with ⟨c22, h⟩ | ⟨c22, h⟩
       · have c22 : x1.Den > 1152921504606846976 := c22
         refine wpRwI 19 kr (decide_eq_true c22) ?_
         refine wpRwI 20 kr (decide_eq_true c22) ?_
         refine condT kr ?_
         refine wp_seq_k fun K23 hK24 => rl ?_
         refine seqL1 kr ?_
         refine nl (hK24 _ _ ?_)
         refine wp_ret ?_
         refine hret _ _ ?_
         refine ends_still (v := Value.int .i64 4) kr kr ?_
         have HS44 := HS6.drop
         injection h with h
         subst h
         exact ⟨f, rfl, FM.le.refl _, HS44⟩
       · have c22 : ¬ (x1.Den > 1152921504606846976) := c22
         refine wpRwI 19 kr (decide_eq_false c22) ?_
         refine wpRwI 20 kr (decide_eq_false c22) ?_
         refine condF kr ?_
         refine wp_skip ?_
         refine hK9 _ _ ?_
         refine wp_seq_k (fun K25 hK26 => ?_)
         refine wp_seq_k fun K27 hK28 => rl ?_
         refine seqL1 kr ?_
         refine seqK rfl (does_run (run_load rfl Try.underlying2 rfl (kv (.pointer (some ⟨b4, 0, none⟩))) (HS6.cell 0)) ?_)
         refine seqL1 kr ?_
         refine seqK rfl (does_run (run_load rfl Try.underlying2 rfl (kv (.pointer (some ⟨b4, 1, none⟩))) (HS6.cell 1)) ?_)
         have hq_ := bind_some h; clear h; obtain ⟨vt29, hc30, h⟩ := hq_
         refine seqK rfl (does_call (f := 39) (args := #[.int .i64 x1.Num, .int .i64 x1.Den]) kr (num_Gcd.calls k x1.Num x1.Den HS6 vt29 hc30) ?_)
         rintro _ W33 ⟨f31, rfl, L32, HS34⟩
         refine ⟨_, rfl, ?_⟩
         refine seqL1 kr ?_
         refine nl (hK28 _ _ ?_)
         have hq_ := ite_some h; clear h; rcases hq_ with ⟨c36, h⟩ | ⟨c36, h⟩
         · have c36 : vt29 ≠ 1 := c36
           refine wpRwI 26 kr (bne_iff_ne.mpr c36) ?_
           refine condT kr ?_
           refine wp_seq_k fun K37 hK38 => rl ?_
           refine seqL1 kr ?_
           refine nl (hK38 _ _ ?_)
           refine wp_ret ?_
           refine hret _ _ ?_
           refine ends_still (v := Value.int .i64 3) kr kr ?_
           have HS45 := HS34.drop
           injection h with h
           subst h
           exact ⟨f31, rfl, L32, HS45⟩
         · have c36 : ¬ (vt29 ≠ 1) := c36
           refine wpRwI 26 (x := (vt29 != 1)) (v := false) kr (bne_eq_false_iff_eq.mpr (Decidable.of_not_not c36)) ?_
           refine condF kr ?_
           refine wp_skip ?_
           refine hK26 _ _ ?_
           refine wp_seq_k fun K39 hK40 => rl ?_
           refine seqL1 kr ?_
           refine nl (hK40 _ _ ?_)
           refine wp_ret ?_
           refine hret _ _ ?_
           refine ends_still (v := Value.int .i64 0) kr kr ?_
           have HS46 := HS34.drop
           injection h with h
           subst h
           exact ⟨f31, rfl, L32, HS46⟩

set_option maxRecDepth 100000 in
set_option maxHeartbeats 4000000 in
theorem frac_both.calls (k : Nat)  (a1 : S_Frac) (b2 : S_Frac) {t w : World} {f : FM} {H : List Seg} (HS : St t w f (H)) (rr1 : Int) (h : frac_both k a1 b2 = some rr1) :
    Calls Try.prog 38 #[.agg #[.int .i64 a1.Num, .int .i64 a1.Den], .agg #[.int .i64 b2.Num, .int .i64 b2.Den]] w (fun e w' => ∃ (g : FM), e = .returned (Value.int .i64 rr1) ∧ FM.le f g ∧ St t w' g (H)) := by
 unfold frac_both at h
 refine enter Try.func38 rfl (tm := #[.agg #[iV a1.Num, iV a1.Den], .agg #[iV b2.Num, iV b2.Den], uV, uV, uV, uV, uV, uV, uV, uV, uV]) kr ?_
 intro B hret hnor hnp
 refine wp_seq_k fun K3 hK4 => rl ?_
 refine seqK rfl (does_box (cs := #[.int .i64 a1.Num, .int .i64 a1.Den]) rfl (kv (.agg #[.int .i64 a1.Num, .int .i64 a1.Den])) rfl HS ?_)
 intro b5 W6 HS7
 refine seqK rfl (does_box (cs := #[.int .i64 b2.Num, .int .i64 b2.Den]) rfl (kv (.agg #[.int .i64 b2.Num, .int .i64 b2.Den])) rfl HS7 ?_)
 intro b9 W10 HS11
 refine seqL1 kr ?_
 refine nl (hK4 _ _ ?_)
 refine wp_seq_k (fun K13 hK14 => ?_)
 refine heldG (S := Sg t f ([(b9, .cells #[.int .i64 b2.Num, .int .i64 b2.Den] 47 (0, 0))] :: [(b5, .cells #[.int .i64 a1.Num, .int .i64 a1.Den] 47 (0, 0))] :: H) []) (n := 7) kr rfl HS11 ?_
 intro W15 HS16
 refine takeGQ 0 [] rfl kr kr kr kr kr kr hnp (Sg.g0 (Sx.of [] fL HS16)) (fun w_ hw_ => by obtain ⟨g_, hl_, hS_⟩ := hw_.st; exact run_loadN (n := 2) rfl Try.underlying47 rfl kr (kv (.pointer (some ⟨b5, 0, none⟩))) (cs := [.int .i64 a1.Num, .int .i64 a1.Den]) rfl (hS_.u1.cells 0 2 _ rfl)) ?_
 refine takeGQ 2 [] rfl kr kr kr kr kr kr hnp (Sg.g0 (Sx.of [] fL HS16)) (fun w_ hw_ => by obtain ⟨g_, hl_, hS_⟩ := hw_.st; exact run_loadN (n := 2) rfl Try.underlying47 rfl kr (kv (.pointer (some ⟨b9, 0, none⟩))) (cs := [.int .i64 b2.Num, .int .i64 b2.Den]) rfl (hS_.cells 0 2 _ rfl)) ?_
 have hq_ := bind_some h; clear h; obtain ⟨vt17, hc18, h⟩ := hq_
 refine takeGE 1 kr rfl kr (does_call (f := 42) (args := #[.agg #[.int .i64 a1.Num, .int .i64 a1.Den]]) kr (frac_Check.calls k a1 HS16 vt17 hc18) ?_)
 rintro _ W21 ⟨f19, rfl, L20, HS22⟩
 refine ⟨_, rfl, ?_⟩
 refine ⟨(Sg.g0 (Sx.of [] L20 HS22)), ?_⟩
 have hq_ := bind_some h; clear h; obtain ⟨vt23, hc24, h⟩ := hq_
 refine takeGE 3 kr rfl kr (does_call (f := 42) (args := #[.agg #[.int .i64 b2.Num, .int .i64 b2.Den]]) kr (frac_Check.calls k b2 HS22 vt23 hc24) ?_)
 rintro _ W27 ⟨f25, rfl, L26, HS28⟩
 refine ⟨_, rfl, ?_⟩
 refine ⟨(Sg.g0 (Sx.of [] (L20.trans L26) HS28)), ?_⟩
 refine takeGE 4 kr rfl kr (does_lit (e := (tInt .i64)) (E := 34) (vs := #[(0, Value.int .i64 vt17), (1, Value.int .i64 vt23)]) (cs := #[.int .i64 vt17, .int .i64 vt23]) (xs := ([vt17, vt23] : List Int)) rfl Try.underlying87 kr kr ⟨[.int .i64 vt17], _, rfl, rfl, ⟨[.int .i64 vt23], _, rfl, rfl, rfl⟩⟩ rfl HS28 ?_ (by decide))
 intro b29 W30 s31 HS32 _ HO33
 refine ⟨(Sg.g0 (Sx.of [s31] (L20.trans L26) HS32)), ?_⟩
 obtain ⟨f35, L36, HS37, HR38, th39⟩ := HO33.lend HS32
 have hq_ := bind_some h; clear h; obtain ⟨vt40, hc41, h⟩ := hq_
 refine takeGE 5 kr rfl kr (does_call (f := 27) (args := #[.slice (some ⟨b29, 0, none⟩) ([vt17, vt23] : List Int).length 2]) kr (cmp_Or_Errno.calls k (some ⟨b29, 0, none⟩) 2 ([vt17, vt23] : List Int) HS37 HR38 vt40 hc41) ?_)
 rintro _ W44 ⟨f42, rfl, L43, HS45⟩
 refine ⟨_, rfl, ?_⟩
 obtain ⟨f46, L47, HS48⟩ := th39 L43 HS45
 refine ⟨(Sg.g0 (Sx.of [s31] (L20.trans (L26.trans L47)) HS48)), ?_⟩
 refine takeGL [6] (n := 1) (fuel := 0) #[true, true, true, true, true, true, true] rfl kr kr kr hnp (Sg.g0 (Sx.of [s31] (L20.trans (L26.trans L47)) HS48)) ?_
 refine doneG kr ?_ _
 refine hK14 _ _ ?_
 refine wp_ret ?_
 refine hret _ _ ?_
 refine ends_still (v := Value.int .i64 vt40) kr kr ?_
 have HS49 := HS48.drop
 have HS50 := HS49.drop
 have HS51 := HS50.drop
 injection h with h
 subst h
 exact ⟨f46, rfl, (L20.trans (L26.trans L47)), HS51⟩

set_option maxRecDepth 100000 in
set_option maxHeartbeats 4000000 in
theorem bits_Mul64.calls (k : Nat)  (x1 : Int) (y2 : Int) {t w : World} {f : FM} {H : List Seg} (HS : St t w f (H)) (rr1 : Int) (rr2 : Int) (h : bits_Mul64 k x1 y2 = some (rr1, rr2)) :
    Calls Try.prog 55 #[.int .u64 x1, .int .u64 y2] w (fun e w' => ∃ (g : FM), e = .returned (Value.tuple #[.int .u64 rr1, .int .u64 rr2]) ∧ FM.le f g ∧ St t w' g (H)) := by
 unfold bits_Mul64 at h
 refine enter Try.func55 rfl (tm := #[.int .u64 x1, .int .u64 y2, uV, uV, uV, uV, uV, uV, uV, uV, uV, uV, uV, uV, uV, uV, uV, uV, uV, uV, uV, uV, uV, uV, uV, uV, uV, uV, uV, uV, uV, uV, uV, uV, uV, uV, uV, uV, uV, uV, uV, uV, uV, uV, uV, uV, uV, uV, uV, uV, uV]) kr ?_
 intro B hret hnor hnp
 refine wp_seq_k fun K3 hK4 => rl ?_
 refine seqL2 kr ?_
 refine nl (hK4 _ _ ?_)
 refine wp_seq_k fun K5 hK6 => rl ?_
 refine seqL3 kr ?_
 refine nl (hK6 _ _ ?_)
 refine wp_seq_k fun K7 hK8 => rl ?_
 refine seqL3 kr ?_
 refine nl (hK8 _ _ ?_)
 refine wp_seq_k fun K9 hK10 => rl ?_
 refine seqL3 kr ?_
 refine nl (hK10 _ _ ?_)
 refine wp_seq_k fun K11 hK12 => rl ?_
 refine seqL3 kr ?_
 refine nl (hK12 _ _ ?_)
 refine wp_seq_k fun K13 hK14 => rl ?_
 refine seqL4 kr ?_
 refine nl (hK14 _ _ ?_)
 refine wp_seq_k fun K15 hK16 => rl ?_
 refine seqL7 kr ?_
 refine nl (hK16 _ _ ?_)
 refine wp_seq_k fun K17 hK18 => rl ?_
 refine seqL3 kr ?_
 refine nl (hK18 _ _ ?_)
 refine wp_seq_k fun K19 hK20 => rl ?_
 refine seqL3 kr ?_
 refine nl (hK20 _ _ ?_)
 refine wp_seq_k fun K21 hK22 => rl ?_
 refine seqL6 kr ?_
 refine nl (hK22 _ _ ?_)
 refine wp_seq_k fun K23 hK24 => rl ?_
 refine seqL9 kr ?_
 refine nl (hK24 _ _ ?_)
 refine wp_seq_k fun K25 hK26 => rl ?_
 refine seqL4 kr ?_
 refine nl (hK26 _ _ ?_)
 refine wp_ret ?_
 refine hret _ _ ?_
 refine ends_still (v := Value.tuple #[.int .u64 (u64 ((u64 ((u64 ((shr x1 32) * (shr y2 32))) + (shr (u64 ((u64 ((shr x1 32) * (Go.bits .and .u64 y2 4294967295))) + (shr (u64 ((Go.bits .and .u64 x1 4294967295) * (Go.bits .and .u64 y2 4294967295))) 32))) 32))) + (shr (u64 ((Go.bits .and .u64 (u64 ((u64 ((shr x1 32) * (Go.bits .and .u64 y2 4294967295))) + (shr (u64 ((Go.bits .and .u64 x1 4294967295) * (Go.bits .and .u64 y2 4294967295))) 32))) 4294967295) + (u64 ((Go.bits .and .u64 x1 4294967295) * (shr y2 32))))) 32))), .int .u64 (u64 (x1 * y2))]) kr kr ?_
 injection h with h
 injection h with h0_ h
 subst h0_ h
 exact ⟨f, rfl, FM.le.refl _, HS⟩

set_option maxRecDepth 100000 in
set_option maxHeartbeats 4000000 in
theorem num_Wide_Neg.calls (k : Nat)  (vw1 : S_Wide) {t w : World} {f : FM} {H : List Seg} (HS : St t w f (H)) (rr1 : S_Wide) (h : num_Wide_Neg k vw1 = some rr1) :
    Calls Try.prog 56 #[.agg #[.int .i64 vw1.Hi, .int .u64 vw1.Lo]] w (fun e w' => ∃ (g : FM), e = .returned (Value.agg #[.int .i64 rr1.Hi, .int .u64 rr1.Lo]) ∧ FM.le f g ∧ St t w' g (H)) := by
 unfold num_Wide_Neg at h
 refine enter Try.func56 rfl (tm := #[.agg #[iV vw1.Hi, .int .u64 vw1.Lo], uV, uV, uV, uV, uV, uV, uV, uV, uV, uV, uV, uV, uV, uV, uV, uV, uV, uV, uV, uV, uV, uV, uV, uV, uV, uV]) kr ?_
 intro B hret hnor hnp
 refine wp_seq_k fun K2 hK3 => rl ?_
 refine seqK rfl (does_box (cs := #[.int .i64 vw1.Hi, .int .u64 vw1.Lo]) rfl (kv (.agg #[.int .i64 vw1.Hi, .int .u64 vw1.Lo])) rfl HS ?_)
 intro b4 W5 HS6
 refine seqK rfl (does_alloc (z := Value.agg #[.int .i64 0, .int .u64 0]) (cs := #[.int .i64 0, .int .u64 0]) rfl kr rfl HS6 ?_)
 intro b8 W9 HS10
 refine nl (hK3 _ _ ?_)
 refine wp_seq_k fun K12 hK13 => rl ?_
 refine seqL1 kr ?_
 refine seqK rfl (does_run (run_load rfl Try.underlying81 rfl (kv (.pointer (some ⟨b4, 1, none⟩))) (HS10.u1.cell 1)) ?_)
 have hq_ := guard_some h; clear h; obtain ⟨c14, h⟩ := hq_
 have c14 : 0 ≤ (Go.bits .xor .u64 IntKind.u64.max vw1.Lo) := c14
 refine seqL1 kr ?_
 refine seqK rfl (does_run (run_add64op (x := Go.bits .xor .u64 IntKind.u64.max vw1.Lo) (y := 1) (c := 0) kr Try.func67 kr kr kr kr c14 (by decide) (by decide) (by decide) W9) ?_)
 refine seqL5 kr ?_
 refine nl (hK13 _ _ ?_)
 refine wp_seq_k fun K15 hK16 => rl ?_
 refine seqL1 kr ?_
 refine seqK rfl (does_run (run_load rfl Try.underlying2 rfl (kv (.pointer (some ⟨b4, 0, none⟩))) (HS10.u1.cell 0)) ?_)
 have hq_ := guard_some h; clear h; obtain ⟨c17, h⟩ := hq_
 have c17 : 0 ≤ (Go.bits .xor .u64 IntKind.u64.max (u64 (vw1.Hi))) := c17
 have hq_ := guard_some h; clear h; obtain ⟨c18, h⟩ := hq_
 have c18 : 0 ≤ (((Go.bits .xor .u64 IntKind.u64.max vw1.Lo) + 1 + 0) / 18446744073709551616) := c18
 have hq_ := guard_some h; clear h; obtain ⟨c19, h⟩ := hq_
 have c19 : (((Go.bits .xor .u64 IntKind.u64.max vw1.Lo) + 1 + 0) / 18446744073709551616) ≤ 1 := c19
 refine seqL3 kr ?_
 refine seqK rfl (does_run (run_add64op (x := Go.bits .xor .u64 IntKind.u64.max (u64 (vw1.Hi))) (y := 0) (c := ((Go.bits .xor .u64 IntKind.u64.max vw1.Lo) + 1 + 0) / 18446744073709551616) kr Try.func67 kr kr kr kr c17 (by decide) c18 c19 W9) ?_)
 refine seqL5 kr ?_
 refine nl (hK16 _ _ ?_)
 refine wp_seq_k fun K20 hK21 => rl ?_
 refine seqL4 kr ?_
 refine seqK rfl (does_storeA (vs := [.int .i64 (w64 (((Go.bits .xor .u64 IntKind.u64.max (u64 (vw1.Hi))) + 0 + (((Go.bits .xor .u64 IntKind.u64.max vw1.Lo) + 1 + 0) / 18446744073709551616)) % 18446744073709551616)), .int .u64 (((Go.bits .xor .u64 IntKind.u64.max vw1.Lo) + 1 + 0) % 18446744073709551616)]) rfl kr kr kr rfl (ones rfl) HS10 kr ?_)
 intro W22 HS23
 refine nl (hK21 _ _ ?_)
 refine wp_ret ?_
 refine hret _ _ ?_
 refine ends (v := Value.agg #[.int .i64 (w64 (((Go.bits .xor .u64 IntKind.u64.max (u64 (vw1.Hi))) + 0 + (((Go.bits .xor .u64 IntKind.u64.max vw1.Lo) + 1 + 0) / 18446744073709551616)) % 18446744073709551616)), .int .u64 (((Go.bits .xor .u64 IntKind.u64.max vw1.Lo) + 1 + 0) % 18446744073709551616)]) (results1 (q1 := .cell 2 93) kr (resN (n := 2) (cs := [.int .i64 (w64 (((Go.bits .xor .u64 IntKind.u64.max (u64 (vw1.Hi))) + 0 + (((Go.bits .xor .u64 IntKind.u64.max vw1.Lo) + 1 + 0) / 18446744073709551616)) % 18446744073709551616)), .int .u64 (((Go.bits .xor .u64 IntKind.u64.max vw1.Lo) + 1 + 0) % 18446744073709551616)]) (kv (.pointer (some ⟨b8, 0, none⟩))) Try.underlying93 rfl kr rfl (HS23.cells 0 2 _ rfl))) kr ?_
 have HS24 := HS23.drop
 have HS25 := HS24.drop
 injection h with h
 subst h
 exact ⟨f, rfl, FM.le.refl _, HS25⟩

set_option maxRecDepth 100000 in
set_option maxHeartbeats 4000000 in
theorem num_Product.calls (k : Nat)  (a1 : Int) (b2 : Int) {t w : World} {f : FM} {H : List Seg} (HS : St t w f (H)) (rr1 : S_Wide) (h : num_Product k a1 b2 = some rr1) :
    Calls Try.prog 50 #[.int .i64 a1, .int .i64 b2] w (fun e w' => ∃ (g : FM), e = .returned (Value.agg #[.int .i64 rr1.Hi, .int .u64 rr1.Lo]) ∧ FM.le f g ∧ St t w' g (H)) := by
 unfold num_Product at h
 refine enter Try.func50 rfl (tm := #[iV a1, iV b2, uV, uV, uV, uV, uV, uV, uV, uV, uV, uV, uV, uV, uV, uV, uV, uV, uV, uV, uV, uV, uV, uV, uV, uV, uV, uV]) kr ?_
 intro B hret hnor hnp
 refine wp_seq_k fun K3 hK4 => rl ?_
 refine seqK rfl (does_alloc (z := Value.agg #[.int .i64 0, .int .u64 0]) (cs := #[.int .i64 0, .int .u64 0]) rfl kr rfl HS ?_)
 intro b5 W6 HS7
 refine nl (hK4 _ _ ?_)
 refine wp_seq_k fun K9 hK10 => rl ?_
 have hq_ := bind_some h; clear h; obtain ⟨vt11, hc12, h⟩ := hq_
 refine seqL1 kr ?_
 refine seqK rfl (does_call (f := 49) (args := #[.int .i64 a1]) kr (num_size.calls k a1 HS7 vt11 hc12) ?_)
 rintro _ W15 ⟨f13, rfl, L14, HS16⟩
 refine ⟨_, rfl, ?_⟩
 have hq_ := bind_some h; clear h; obtain ⟨vt17, hc18, h⟩ := hq_
 refine seqL1 kr ?_
 refine seqK rfl (does_call (f := 49) (args := #[.int .i64 b2]) kr (num_size.calls k b2 HS16 vt17 hc18) ?_)
 rintro _ W21 ⟨f19, rfl, L20, HS22⟩
 refine ⟨_, rfl, ?_⟩
 have hq_ := bind_some h; clear h; obtain ⟨⟨vt23, vt24⟩, hc25, h⟩ := hq_
 refine seqK rfl (does_call (f := 55) (args := #[.int .u64 vt11, .int .u64 vt17]) kr (bits_Mul64.calls k vt11 vt17 HS22 vt23 vt24 hc25) ?_)
 rintro _ W28 ⟨f26, rfl, L27, HS29⟩
 refine ⟨_, rfl, ?_⟩
 refine seqL5 kr ?_
 refine nl (hK10 _ _ ?_)
 refine wp_seq_k fun K30 hK31 => rl ?_
 refine seqL4 kr ?_
 refine seqK rfl (does_alloc (z := Value.agg #[.int .i64 0, .int .u64 0]) (cs := #[.int .i64 0, .int .u64 0]) rfl kr rfl HS29 ?_)
 intro b32 W33 HS34
 refine seqK rfl (does_storeA (vs := [.int .i64 (w64 (vt23)), .int .u64 vt24]) rfl kr kr kr rfl (ones rfl) HS34 kr ?_)
 intro W36 HS37
 refine nl (hK31 _ _ ?_)
 refine wp_seq_k (fun K38 hK39 => ?_)
 refine wp_seq_k fun K40 hK41 => rl ?_
 refine seqL5 kr ?_
 refine nl (hK41 _ _ ?_)
 have hq_ := ite_some h; clear h; rcases hq_ with ⟨c43, h⟩ | ⟨c43, h⟩
 · have c43 : ((decide (a1 < 0)) != (decide (b2 < 0))) = true := c43
   refine wpRwI 24 kr c43 ?_
   refine condT kr ?_
   refine wp_seq_k fun K44 hK45 => rl ?_
   refine seqK rfl (does_run (run_loadN (n := 2) rfl Try.underlying93 rfl kr (kv (.pointer (some ⟨b32, 0, none⟩))) (cs := [.int .i64 (w64 (vt23)), .int .u64 vt24]) rfl (HS37.cells 0 2 _ rfl)) ?_)
   have hq_ := bind_some h; clear h; obtain ⟨vt46, hc47, h⟩ := hq_
   refine seqK rfl (does_call (f := 56) (args := #[.agg #[.int .i64 (w64 (vt23)), .int .u64 vt24]]) kr (num_Wide_Neg.calls k (⟨w64 (vt23), vt24⟩ : S_Wide) HS37 vt46 hc47) ?_)
   rintro _ W50 ⟨f48, rfl, L49, HS51⟩
   refine ⟨_, rfl, ?_⟩
   have HS52 := HS51.u1
   refine seqK rfl (does_storeA (vs := [.int .i64 vt46.Hi, .int .u64 vt46.Lo]) rfl kr kr kr rfl (ones rfl) HS52 kr ?_)
   intro W53 HS54
   refine nl (hK45 _ _ ?_)
   refine wp_ret ?_
   refine hret _ _ ?_
   refine ends (v := Value.agg #[.int .i64 vt46.Hi, .int .u64 vt46.Lo]) (results1 (q1 := .cell 4 93) kr (resN (n := 2) (cs := [.int .i64 vt46.Hi, .int .u64 vt46.Lo]) (kv (.pointer (some ⟨b5, 0, none⟩))) Try.underlying93 rfl kr rfl (HS54.cells 0 2 _ rfl))) kr ?_
   have HS60 := HS54.drop
   have HS61 := HS60.drop
   injection h with h
   subst h
   exact ⟨f48, rfl, (L14.trans (L20.trans (L27.trans L49))), HS61⟩
 · have c43 : ¬ (((decide (a1 < 0)) != (decide (b2 < 0))) = true) := c43
   refine wpRwI 24 kr (Bool.eq_false_iff.mpr c43) ?_
   refine condF kr ?_
   refine wp_skip ?_
   refine hK39 _ _ ?_
   refine wp_seq_k fun K55 hK56 => rl ?_
   refine seqK rfl (does_run (run_loadN (n := 2) rfl Try.underlying93 rfl kr (kv (.pointer (some ⟨b32, 0, none⟩))) (cs := [.int .i64 (w64 (vt23)), .int .u64 vt24]) rfl (HS37.cells 0 2 _ rfl)) ?_)
   have HS57 := HS37.u1
   refine seqK rfl (does_storeA (vs := [.int .i64 (w64 (vt23)), .int .u64 vt24]) rfl kr kr kr rfl (ones rfl) HS57 kr ?_)
   intro W58 HS59
   refine nl (hK56 _ _ ?_)
   refine wp_ret ?_
   refine hret _ _ ?_
   refine ends (v := Value.agg #[.int .i64 (w64 (vt23)), .int .u64 vt24]) (results1 (q1 := .cell 4 93) kr (resN (n := 2) (cs := [.int .i64 (w64 (vt23)), .int .u64 vt24]) (kv (.pointer (some ⟨b5, 0, none⟩))) Try.underlying93 rfl kr rfl (HS59.cells 0 2 _ rfl))) kr ?_
   have HS62 := HS59.drop
   have HS63 := HS62.drop
   injection h with h
   subst h
   exact ⟨f26, rfl, (L14.trans (L20.trans L27)), HS63⟩

set_option maxRecDepth 100000 in
set_option maxHeartbeats 4000000 in
theorem num_Mul.calls (k : Nat)  (a1 : Int) (b2 : Int) {t w : World} {f : FM} {H : List Seg} (HS : St t w f (H)) (rr1 : Int) (rr2 : Bool) (h : num_Mul k a1 b2 = some (rr1, rr2)) :
    Calls Try.prog 40 #[.int .i64 a1, .int .i64 b2] w (fun e w' => ∃ (g : FM), e = .returned (Value.tuple #[.int .i64 rr1, .bool rr2]) ∧ FM.le f g ∧ St t w' g (H)) := by
 unfold num_Mul at h
 refine enter Try.func40 rfl (tm := #[iV a1, iV b2, uV, uV, uV, uV, uV, uV, uV, uV, uV, uV, uV, uV, uV, uV, uV, uV, uV, uV]) kr ?_
 intro B hret hnor hnp
 refine wp_seq_k fun K3 hK4 => rl ?_
 refine seqL2 kr ?_
 refine nl (hK4 _ _ ?_)
 refine wp_seq_k fun K5 hK6 => rl ?_
 have hq_ := bind_some h; clear h; obtain ⟨vt7, hc8, h⟩ := hq_
 refine seqL2 kr ?_
 refine seqK rfl (does_call (f := 50) (args := #[.int .i64 a1, .int .i64 b2]) kr (num_Product.calls k a1 b2 HS vt7 hc8) ?_)
 rintro _ W11 ⟨f9, rfl, L10, HS12⟩
 refine ⟨_, rfl, ?_⟩
 refine seqK rfl (does_alloc (z := Value.agg #[.int .i64 0, .int .u64 0]) (cs := #[.int .i64 0, .int .u64 0]) rfl kr rfl HS12 ?_)
 intro b13 W14 HS15
 refine seqK rfl (does_storeA (vs := [.int .i64 vt7.Hi, .int .u64 vt7.Lo]) rfl kr kr kr rfl (ones rfl) HS15 kr ?_)
 intro W17 HS18
 refine nl (hK6 _ _ ?_)
 refine wp_seq_k (fun K19 hK20 => ?_)
 refine wp_seq_k fun K21 hK22 => rl ?_
 refine seqL1 kr ?_
 refine seqK rfl (does_run (run_load rfl Try.underlying2 rfl (kv (.pointer (some ⟨b13, 0, none⟩))) (HS18.cell 0)) ?_)
 refine seqL1 kr ?_
 refine seqK rfl (does_run (run_load rfl Try.underlying81 rfl (kv (.pointer (some ⟨b13, 1, none⟩))) (HS18.cell 1)) ?_)
 refine seqL3 kr ?_
 refine nl (hK22 _ _ ?_)
 have hq_ := ite_some h; clear h; rcases hq_ with ⟨c24, h⟩ | ⟨c24, h⟩
 · have c24 : vt7.Hi ≠ (shr (w64 (vt7.Lo)) 63) := c24
   refine wpRwI 16 kr (bne_iff_ne.mpr c24) ?_
   refine condT kr ?_
   refine wp_seq_k fun K25 hK26 => rl ?_
   refine seqL2 kr ?_
   refine nl (hK26 _ _ ?_)
   refine wp_ret ?_
   refine hret _ _ ?_
   refine ends_still (v := Value.tuple #[.int .i64 0, .bool false]) kr kr ?_
   have HS29 := HS18.drop
   injection h with h
   injection h with h0_ h
   subst h0_ h
   exact ⟨f9, rfl, L10, HS29⟩
 · have c24 : ¬ (vt7.Hi ≠ (shr (w64 (vt7.Lo)) 63)) := c24
   refine wpRwI 16 (x := (vt7.Hi != (shr (w64 (vt7.Lo)) 63))) (v := false) kr (bne_eq_false_iff_eq.mpr (Decidable.of_not_not c24)) ?_
   refine condF kr ?_
   refine wp_skip ?_
   refine hK20 _ _ ?_
   refine wp_seq_k fun K27 hK28 => rl ?_
   refine seqL1 kr ?_
   refine seqK rfl (does_run (run_load rfl Try.underlying81 rfl (kv (.pointer (some ⟨b13, 1, none⟩))) (HS18.cell 1)) ?_)
   refine seqL3 kr ?_
   refine nl (hK28 _ _ ?_)
   refine wp_ret ?_
   refine hret _ _ ?_
   refine ends_still (v := Value.tuple #[.int .i64 (w64 (vt7.Lo)), .bool true]) kr kr ?_
   have HS30 := HS18.drop
   injection h with h
   injection h with h0_ h
   subst h0_ h
   exact ⟨f9, rfl, L10, HS30⟩

set_option maxRecDepth 100000 in
set_option maxHeartbeats 4000000 in
theorem frac_made.calls (k : Nat) (A4 : Option Addr) (c5 : Nat) (n1 : Int) (d2 : Int) (ok3 : List Bool) {t w : World} {f : FM} {H : List Seg} (HS : St t w f (H)) (HR6 : SlR tBool f A4 c5 ok3) (rr1 : S_Frac) (rr2 : Int) (h : frac_made k n1 d2 ok3 = some (rr1, rr2)) :
    Calls Try.prog 41 #[.int .i64 n1, .int .i64 d2, .slice A4 ok3.length c5] w (fun e w' => ∃ (g : FM), e = .returned (Value.tuple #[.agg #[.int .i64 rr1.Num, .int .i64 rr1.Den], .int .i64 rr2]) ∧ FM.le f g ∧ St t w' g (H)) := by
 unfold frac_made at h
 refine enter Try.func41 rfl (tm := #[iV n1, iV d2, .slice A4 ok3.length c5, uV, uV, uV, uV, uV, uV, uV, uV, uV, uV, uV, uV, uV, uV, uV, uV, uV, uV, uV, uV, uV, uV, uV, uV, uV, uV, uV, uV, uV, uV, uV]) kr ?_
 intro B hret hnor hnp
 refine wp_seq_k fun K7 hK8 => rl ?_
 refine seqK rfl (does_alloc (z := Value.agg #[.int .i64 0, .int .i64 0]) (cs := #[.int .i64 0, .int .i64 0]) rfl kr rfl HS ?_)
 intro b9 W10 HS11
 refine seqL1 kr ?_
 refine nl (hK8 _ _ ?_)
 refine wp_seq_k (fun K13 hK14 => ?_)
 refine wp_seq_k fun K15 hK16 => rl ?_
 refine seqL3 kr ?_
 refine nl (hK16 _ _ ?_)
 refine blockK (fun B17 hx18 hn19 hr20 ho21 hp22 => ?_)
 have hq_ := bind_some h; clear h; obtain ⟨o23, hv70, h⟩ := hq_
 have JR72 : ∀ z_, some (Sum.inl z_) = some o23 → some z_ = some (rr1, rr2) := by
  intro z_ e_; injection e_ with e_; subst e_; exact h
 have J71 : ∀ (f65 : FM) (j69 : Nat → Value) (W67 : World) (a_ : Act), FM.le f f65 → some (Sum.inr ()) = some o23 → St t W67 f65 ([(b9, .cells #[.int .i64 0, .int .i64 0] 47 (0, 0))] :: H) → a_ = ⟨#[iV n1, iV d2, .slice A4 ok3.length c5, uV, uV, uV, pV b9 0, (j69 0), uV, (j69 1), .slice A4 ok3.length c5, iV (ok3.length : Int), (j69 2), (j69 3), (j69 4), (j69 5), (j69 6), (j69 7), (j69 8), (j69 9), uV, uV, uV, uV, uV, uV, uV, uV, uV, uV, uV, uV, uV, uV], []⟩ → K13 a_ W67 := by
  intro f65 j69 W67 a_ L66 hj73 HS68  hfr_; subst hfr_
  injection hj73 with hj73; subst hj73; try dsimp only at h
  simp only [Sum.elim_inr] at h
  refine hK14 _ _ ?_
  refine wp_seq_k (fun K74 hK75 => ?_)
  refine wp_seq_k fun K76 hK77 => rl ?_
  refine seqL3 kr ?_
  have hq_ := ite_some h; clear h; rcases hq_ with ⟨c78, h⟩ | ⟨c78, h⟩
  · have c78 : n1 < (-1152921504606846976) := c78
    refine seqRwI 21 kr (decide_eq_true c78) ?_
    refine seqRwI 22 kr (decide_eq_true c78) ?_
    refine seqL7 kr ?_
    refine nl (hK77 _ _ ?_)
    refine condT kr ?_
    refine wp_seq_k fun K79 hK80 => rl ?_
    refine seqL1 kr ?_
    refine seqK rfl (does_storeA (vs := [.int .i64 0, .int .i64 0]) rfl kr kr kr rfl (ones rfl) HS68 kr ?_)
    intro W81 HS82
    refine seqL1 kr ?_
    refine nl (hK80 _ _ ?_)
    refine wp_ret ?_
    refine hret _ _ ?_
    refine ends (v := Value.tuple #[.agg #[.int .i64 0, .int .i64 0], .int .i64 2]) (results2 (q1 := .cell 6 47) (q2 := .tmp 7) kr (resN (n := 2) (cs := [.int .i64 0, .int .i64 0]) (kv (.pointer (some ⟨b9, 0, none⟩))) Try.underlying47 rfl kr rfl (HS82.cells 0 2 _ rfl)) (resT (kv (.int .i64 2)))) kr ?_
    have HS99 := HS82.drop
    injection h with h
    injection h with h0_ h
    subst h0_ h
    exact ⟨f65, rfl, L66, HS99⟩
  · have c78 : ¬ (n1 < (-1152921504606846976)) := c78
    refine seqRwI 21 kr (decide_eq_false c78) ?_
    refine seqRwI 22 kr (decide_eq_false c78) ?_
    refine seqL4 kr ?_
    have hq_ := ite_some h; clear h; rcases hq_ with ⟨c83, h⟩ | ⟨c83, h⟩
    · have c83 : n1 > 1152921504606846976 := c83
      refine seqRwI 24 kr (decide_eq_true c83) ?_
      refine seqRwI 25 kr (decide_eq_true c83) ?_
      refine seqRwI 26 kr (decide_eq_true c83) ?_
      refine seqL3 kr ?_
      refine nl (hK77 _ _ ?_)
      refine condT kr ?_
      refine wp_seq_k fun K84 hK85 => rl ?_
      refine seqL1 kr ?_
      refine seqK rfl (does_storeA (vs := [.int .i64 0, .int .i64 0]) rfl kr kr kr rfl (ones rfl) HS68 kr ?_)
      intro W86 HS87
      refine seqL1 kr ?_
      refine nl (hK85 _ _ ?_)
      refine wp_ret ?_
      refine hret _ _ ?_
      refine ends (v := Value.tuple #[.agg #[.int .i64 0, .int .i64 0], .int .i64 2]) (results2 (q1 := .cell 6 47) (q2 := .tmp 7) kr (resN (n := 2) (cs := [.int .i64 0, .int .i64 0]) (kv (.pointer (some ⟨b9, 0, none⟩))) Try.underlying47 rfl kr rfl (HS87.cells 0 2 _ rfl)) (resT (kv (.int .i64 2)))) kr ?_
      have HS100 := HS87.drop
      injection h with h
      injection h with h0_ h
      subst h0_ h
      exact ⟨f65, rfl, L66, HS100⟩
    · have c83 : ¬ (n1 > 1152921504606846976) := c83
      refine seqRwI 24 kr (decide_eq_false c83) ?_
      refine seqRwI 25 kr (decide_eq_false c83) ?_
      refine seqRwI 26 kr (decide_eq_false c83) ?_
      refine seqL3 kr ?_
      refine nl (hK77 _ _ ?_)
      have hq_ := ite_some h; clear h; rcases hq_ with ⟨c89, h⟩ | ⟨c89, h⟩
      · have c89 : d2 > 1152921504606846976 := c89
        refine wpRwI 28 kr (decide_eq_true c89) ?_
        refine wpRwI 29 kr (decide_eq_true c89) ?_
        refine condT kr ?_
        refine wp_seq_k fun K90 hK91 => rl ?_
        refine seqL1 kr ?_
        refine seqK rfl (does_storeA (vs := [.int .i64 0, .int .i64 0]) rfl kr kr kr rfl (ones rfl) HS68 kr ?_)
        intro W92 HS93
        refine seqL1 kr ?_
        refine nl (hK91 _ _ ?_)
        refine wp_ret ?_
        refine hret _ _ ?_
        refine ends (v := Value.tuple #[.agg #[.int .i64 0, .int .i64 0], .int .i64 2]) (results2 (q1 := .cell 6 47) (q2 := .tmp 7) kr (resN (n := 2) (cs := [.int .i64 0, .int .i64 0]) (kv (.pointer (some ⟨b9, 0, none⟩))) Try.underlying47 rfl kr rfl (HS93.cells 0 2 _ rfl)) (resT (kv (.int .i64 2)))) kr ?_
        have HS101 := HS93.drop
        injection h with h
        injection h with h0_ h
        subst h0_ h
        exact ⟨f65, rfl, L66, HS101⟩
      · have c89 : ¬ (d2 > 1152921504606846976) := c89
        refine wpRwI 28 kr (decide_eq_false c89) ?_
        refine wpRwI 29 kr (decide_eq_false c89) ?_
        refine condF kr ?_
        refine wp_skip ?_
        refine hK75 _ _ ?_
        refine wp_seq_k fun K94 hK95 => rl ?_
        refine seqL3 kr ?_
        refine seqK rfl (does_storeA (vs := [.int .i64 n1, .int .i64 d2]) rfl kr kr kr rfl (ones rfl) HS68 kr ?_)
        intro W96 HS97
        refine seqL1 kr ?_
        refine nl (hK95 _ _ ?_)
        refine wp_ret ?_
        refine hret _ _ ?_
        refine ends (v := Value.tuple #[.agg #[.int .i64 n1, .int .i64 d2], .int .i64 0]) (results2 (q1 := .cell 6 47) (q2 := .tmp 7) kr (resN (n := 2) (cs := [.int .i64 n1, .int .i64 d2]) (kv (.pointer (some ⟨b9, 0, none⟩))) Try.underlying47 rfl kr rfl (HS97.cells 0 2 _ rfl)) (resT (kv (.int .i64 0)))) kr ?_
        have HS102 := HS97.drop
        injection h with h
        injection h with h0_ h
        subst h0_ h
        exact ⟨f65, rfl, L66, HS102⟩
 clear h; have h := hv70; clear hv70
 refine loopK (fun n_ a_ w_ => ∃ (f27 : FM) (x32 : Int) (j31 : Nat → Value), FM.le f f27 ∧ St t w_ f27 ([(b9, .cells #[.int .i64 0, .int .i64 0] 47 (0, 0))] :: H) ∧ frac_made.l0 k ok3 n_ x32 = some o23 ∧ a_ = ⟨#[iV n1, iV d2, .slice A4 ok3.length c5, uV, uV, uV, pV b9 0, (j31 0), uV, (j31 1), .slice A4 ok3.length c5, iV (ok3.length : Int), iV x32, (j31 2), (j31 3), (j31 4), (j31 5), (j31 6), (j31 7), (j31 8), uV, uV, uV, uV, uV, uV, uV, uV, uV, uV, uV, uV, uV, uV], []⟩) k ⟨f, 0, (jL [iV 0]), fL, HS11, h, kr⟩ ?_
 clear h
 rintro n26 _ W29 ⟨f27, x32, j31, L28, HS30, h, rfl⟩ K24 hK25
 obtain _ | n26 := n26
 · exact nomatch h
 simp only [frac_made.l0] at h
 refine wp_seq_k fun K33 hK34 => rl ?_
 refine seqL1 kr ?_
 refine nl (hK34 _ _ ?_)
 refine wp_seq_k (fun K35 hK36 => ?_)
 have hq_ := ite_some h; clear h; rcases hq_ with ⟨c38, h⟩ | ⟨c38, h⟩
 · have c38 : x32 < (ok3.length : Int) := c38
   refine wpRwI 13 kr (decide_eq_true c38) ?_
   refine condT kr ?_
   refine wp_skip ?_
   refine hK36 _ _ ?_
   refine wp_seq_k (fun K39 hK40 => ?_)
   refine blockK (fun B41 hx42 hn43 hr44 ho45 hp46 => ?_)
   refine wp_seq_k fun K48 hK49 => rl ?_
   have hq_ := guard_some h; clear h; obtain ⟨c50, h⟩ := hq_
   have c50 : 0 ≤ x32 := c50
   obtain ⟨b54, of55, cs51, hA56, hr52, hc53⟩ := (HR6.mono L28).at (i := x32) c50 c38
   obtain rfl := hr52
   refine seqK rfl (does_run (run_indexE hA56 (sz := 1) rfl Try.underlying96 kr (kv (.slice A4 ok3.length c5)) (kv (.int .i64 x32)) c50 c38 W29) ?_)
   refine seqK rfl (does_run (run_load rfl Try.underlying4 rfl (kv (.pointer (some ⟨b54, of55 + (x32 : Int).toNat * 1, none⟩))) ((hc53 fL HS30) 0 (by decide))) ?_)
   refine seqL1 kr ?_
   refine nl (hK49 _ _ ?_)
   refine wp_seq_k fun K57 hK58 => rl ?_
   refine seqL2 kr ?_
   refine nl (hK58 _ _ ?_)
   have hq_ := ite_some h; clear h; rcases hq_ with ⟨c60, h⟩ | ⟨c60, h⟩
   · have c60 : ¬ ((rd ok3 x32) = true) := c60
     refine wpRwI 17 kr (congrArg (fun b_ => !b_) (show (rd ok3 x32) = false from (Bool.eq_false_iff.mpr c60)) : (!(rd ok3 x32)) = true) ?_
     refine condT kr ?_
     refine wp_seq_k fun K61 hK62 => rl ?_
     refine seqL1 kr ?_
     refine seqK rfl (does_storeA (vs := [.int .i64 0, .int .i64 0]) rfl kr kr kr rfl (ones rfl) HS30 kr ?_)
     intro W63 HS64
     refine seqL1 kr ?_
     refine nl (hK62 _ _ ?_)
     refine wp_ret ?_
     refine hr44 _ _ ?_
     refine hr20 _ _ ?_
     refine hret _ _ ?_
     refine ends (v := Value.tuple #[.agg #[.int .i64 0, .int .i64 0], .int .i64 2]) (results2 (q1 := .cell 6 47) (q2 := .tmp 7) kr (resN (n := 2) (cs := [.int .i64 0, .int .i64 0]) (kv (.pointer (some ⟨b9, 0, none⟩))) Try.underlying47 rfl kr rfl (HS64.cells 0 2 _ rfl)) (resT (kv (.int .i64 2)))) kr ?_
     have HS98 := HS64.drop
     replace h := JR72 _ h
     injection h with h
     injection h with h0_ h
     subst h0_ h
     exact ⟨f27, rfl, L28, HS98⟩
   · have c60 : ¬ (¬ ((rd ok3 x32) = true)) := c60
     refine wpRwI 17 (x := (!(rd ok3 x32))) (v := false) kr (congrArg (fun b_ => !b_) (show (rd ok3 x32) = true from (Decidable.of_not_not c60)) : (!(rd ok3 x32)) = false) ?_
     refine condF kr ?_
     refine wp_skip ?_
     refine hn43 _ _ ?_
     refine hK40 _ _ ?_
     refine rl ?_
     refine seqL2 kr ?_
     refine nl ?_
     refine hK25 n26 _ _ (Nat.lt_succ_self _) ?_
     exact ⟨f27, (w64 (x32 + 1)), (jL [(j31 0), .bool (rd ok3 x32), tV, .pointer (some ⟨b54, of55 + (x32 : Int).toNat * 1, none⟩), .bool (rd ok3 x32), .bool (rd ok3 x32), fV, (j31 7), iV (w64 (x32 + 1))]), L28, HS30, h, kr⟩
 · have c38 : ¬ (x32 < (ok3.length : Int)) := c38
   refine wpRwI 13 kr (decide_eq_false c38) ?_
   refine condF kr ?_
   refine wp_exit ?_
   refine hx18 _ _ ?_
   exact J71 f27 (jL [(j31 0), (j31 1), iV x32, fV, (j31 3), (j31 4), (j31 5), (j31 6), (j31 7), (j31 8)]) W29 _ L28 h HS30 kr

set_option maxRecDepth 100000 in
set_option maxHeartbeats 4000000 in
theorem frac_Mul.calls (k : Nat)  (a1 : S_Frac) (b2 : S_Frac) {t w : World} {f : FM} {H : List Seg} (HS : St t w f (H)) (rr1 : S_Frac) (rr2 : Int) (h : frac_Mul k a1 b2 = some (rr1, rr2)) :
    Calls Try.prog 26 #[.agg #[.int .i64 a1.Num, .int .i64 a1.Den], .agg #[.int .i64 b2.Num, .int .i64 b2.Den]] w (fun e w' => ∃ (g : FM), e = .returned (Value.tuple #[.agg #[.int .i64 rr1.Num, .int .i64 rr1.Den], .int .i64 rr2]) ∧ FM.le f g ∧ St t w' g (H)) := by
 unfold frac_Mul at h
 refine enter Try.func26 rfl (tm := #[.agg #[iV a1.Num, iV a1.Den], .agg #[iV b2.Num, iV b2.Den], uV, uV, uV, uV, uV, uV, uV, uV, uV, uV, uV, uV, uV, uV, uV, uV, uV, uV, uV, uV, uV, uV, uV, uV, uV, uV, uV, uV, uV, uV, uV, uV, uV, uV, uV, uV, uV, uV, uV, uV, uV, uV, uV, uV, uV, uV, uV, uV, uV, uV, uV, uV, uV, uV, uV, uV, uV, uV, uV, uV]) kr ?_
 intro B hret hnor hnp
 refine wp_seq_k fun K3 hK4 => rl ?_
 refine seqK rfl (does_box (cs := #[.int .i64 a1.Num, .int .i64 a1.Den]) rfl (kv (.agg #[.int .i64 a1.Num, .int .i64 a1.Den])) rfl HS ?_)
 intro b5 W6 HS7
 refine seqK rfl (does_box (cs := #[.int .i64 b2.Num, .int .i64 b2.Den]) rfl (kv (.agg #[.int .i64 b2.Num, .int .i64 b2.Den])) rfl HS7 ?_)
 intro b9 W10 HS11
 refine seqK rfl (does_alloc (z := Value.agg #[.int .i64 0, .int .i64 0]) (cs := #[.int .i64 0, .int .i64 0]) rfl kr rfl HS11 ?_)
 intro b13 W14 HS15
 refine seqL1 kr ?_
 refine nl (hK4 _ _ ?_)
 refine wp_seq_k (fun K17 hK18 => ?_)
 refine wp_seq_k fun K19 hK20 => rl ?_
 refine seqK rfl (does_run (run_loadN (n := 2) rfl Try.underlying47 rfl kr (kv (.pointer (some ⟨b5, 0, none⟩))) (cs := [.int .i64 a1.Num, .int .i64 a1.Den]) rfl (HS15.u2.cells 0 2 _ rfl)) ?_)
 refine seqK rfl (does_run (run_loadN (n := 2) rfl Try.underlying47 rfl kr (kv (.pointer (some ⟨b9, 0, none⟩))) (cs := [.int .i64 b2.Num, .int .i64 b2.Den]) rfl (HS15.u1.cells 0 2 _ rfl)) ?_)
 have hq_ := bind_some h; clear h; obtain ⟨vt21, hc22, h⟩ := hq_
 refine seqK rfl (does_call (f := 38) (args := #[.agg #[.int .i64 a1.Num, .int .i64 a1.Den], .agg #[.int .i64 b2.Num, .int .i64 b2.Den]]) kr (frac_both.calls k a1 b2 HS15 vt21 hc22) ?_)
 rintro _ W25 ⟨f23, rfl, L24, HS26⟩
 refine ⟨_, rfl, ?_⟩
 refine seqL1 kr ?_
 refine nl (hK20 _ _ ?_)
 refine wp_seq_k fun K27 hK28 => rl ?_
 refine seqL2 kr ?_
 refine nl (hK28 _ _ ?_)
 have hq_ := ite_some h; clear h; rcases hq_ with ⟨c30, h⟩ | ⟨c30, h⟩
 · have c30 : vt21 ≠ 0 := c30
   refine wpRwI 17 kr (bne_iff_ne.mpr c30) ?_
   refine condT kr ?_
   refine wp_seq_k fun K31 hK32 => rl ?_
   refine seqL2 kr ?_
   refine seqK rfl (does_storeA (vs := [.int .i64 0, .int .i64 0]) rfl kr kr kr rfl (ones rfl) HS26 kr ?_)
   intro W33 HS34
   refine seqL1 kr ?_
   refine nl (hK32 _ _ ?_)
   refine wp_ret ?_
   refine hret _ _ ?_
   refine ends (v := Value.tuple #[.agg #[.int .i64 0, .int .i64 0], .int .i64 vt21]) (results2 (q1 := .cell 4 47) (q2 := .tmp 5) kr (resN (n := 2) (cs := [.int .i64 0, .int .i64 0]) (kv (.pointer (some ⟨b13, 0, none⟩))) Try.underlying47 rfl kr rfl (HS34.cells 0 2 _ rfl)) (resT (kv (.int .i64 vt21)))) kr ?_
   have HS101 := HS34.drop
   have HS102 := HS101.drop
   have HS103 := HS102.drop
   injection h with h
   injection h with h0_ h
   subst h0_ h
   exact ⟨f23, rfl, L24, HS103⟩
 · have c30 : ¬ (vt21 ≠ 0) := c30
   refine wpRwI 17 (x := (vt21 != 0)) (v := false) kr (bne_eq_false_iff_eq.mpr (Decidable.of_not_not c30)) ?_
   refine condF kr ?_
   refine wp_skip ?_
   refine hK18 _ _ ?_
   refine wp_seq_k (fun K35 hK36 => ?_)
   refine heldG (S := Sg t f23 ([(b13, .cells #[.int .i64 0, .int .i64 0] 47 (0, 0))] :: [(b9, .cells #[.int .i64 b2.Num, .int .i64 b2.Den] 47 (0, 0))] :: [(b5, .cells #[.int .i64 a1.Num, .int .i64 a1.Den] 47 (0, 0))] :: H) []) (n := 12) kr rfl HS26 ?_
   intro W37 HS38
   refine takeGL [0] (n := 12) (fuel := 11) #[true, false, false, false, false, false, false, false, false, false, false, false] rfl kr kr kr hnp (Sg.g0 (Sx.of [] fL HS38)) ?_
   refine takeGQ 1 [] rfl kr kr kr kr kr kr hnp (Sg.g0 (Sx.of [] fL HS38)) (fun w_ hw_ => by obtain ⟨g_, hl_, hS_⟩ := hw_.st; exact run_load rfl Try.underlying2 rfl (kv (.pointer (some ⟨b5, 0, none⟩))) (hS_.u2.cell 0)) ?_
   refine takeGL [2] (n := 10) (fuel := 9) #[true, true, true, false, false, false, false, false, false, false, false, false] rfl kr kr kr hnp (Sg.g0 (Sx.of [] fL HS38)) ?_
   refine takeGQ 3 [] rfl kr kr kr kr kr kr hnp (Sg.g0 (Sx.of [] fL HS38)) (fun w_ hw_ => by obtain ⟨g_, hl_, hS_⟩ := hw_.st; exact run_load rfl Try.underlying2 rfl (kv (.pointer (some ⟨b9, 1, none⟩))) (hS_.u1.cell 1)) ?_
   refine takeGL [5] (n := 8) (fuel := 7) #[true, true, true, true, false, true, false, false, false, false, false, false] rfl kr kr kr hnp (Sg.g0 (Sx.of [] fL HS38)) ?_
   refine takeGQ 6 [] rfl kr kr kr kr kr kr hnp (Sg.g0 (Sx.of [] fL HS38)) (fun w_ hw_ => by obtain ⟨g_, hl_, hS_⟩ := hw_.st; exact run_load rfl Try.underlying2 rfl (kv (.pointer (some ⟨b9, 0, none⟩))) (hS_.u1.cell 0)) ?_
   refine takeGL [7] (n := 6) (fuel := 5) #[true, true, true, true, false, true, true, true, false, false, false, false] rfl kr kr kr hnp (Sg.g0 (Sx.of [] fL HS38)) ?_
   refine takeGQ 8 [] rfl kr kr kr kr kr kr hnp (Sg.g0 (Sx.of [] fL HS38)) (fun w_ hw_ => by obtain ⟨g_, hl_, hS_⟩ := hw_.st; exact run_load rfl Try.underlying2 rfl (kv (.pointer (some ⟨b5, 1, none⟩))) (hS_.u2.cell 1)) ?_
   have hq_ := bind_some h; clear h; obtain ⟨vt39, hc40, h⟩ := hq_
   refine takeGE 4 kr rfl kr (does_call (f := 39) (args := #[.int .i64 a1.Num, .int .i64 b2.Den]) kr (num_Gcd.calls k a1.Num b2.Den HS38 vt39 hc40) ?_)
   rintro _ W43 ⟨f41, rfl, L42, HS44⟩
   refine ⟨_, rfl, ?_⟩
   refine ⟨(Sg.g0 (Sx.of [] L42 HS44)), ?_⟩
   have hq_ := bind_some h; clear h; obtain ⟨vt45, hc46, h⟩ := hq_
   refine takeGE 9 kr rfl kr (does_call (f := 39) (args := #[.int .i64 b2.Num, .int .i64 a1.Den]) kr (num_Gcd.calls k b2.Num a1.Den HS44 vt45 hc46) ?_)
   rintro _ W49 ⟨f47, rfl, L48, HS50⟩
   refine ⟨_, rfl, ?_⟩
   refine ⟨(Sg.g0 (Sx.of [] (L42.trans L48) HS50)), ?_⟩
   refine takeGL [10, 11] (n := 2) (fuel := 0) #[true, true, true, true, true, true, true, true, true, true, true, true] rfl kr kr kr hnp (Sg.g0 (Sx.of [] (L42.trans L48) HS50)) ?_
   refine doneG kr ?_ _
   refine hK36 _ _ ?_
   refine wp_seq_k (fun K51 hK52 => ?_)
   refine heldG (S := Sg t f47 ([(b13, .cells #[.int .i64 0, .int .i64 0] 47 (0, 0))] :: [(b9, .cells #[.int .i64 b2.Num, .int .i64 b2.Den] 47 (0, 0))] :: [(b5, .cells #[.int .i64 a1.Num, .int .i64 a1.Den] 47 (0, 0))] :: H) []) (n := 14) kr rfl HS50 ?_
   intro W53 HS54
   refine takeGL [0] (n := 14) (fuel := 13) #[true, false, false, false, false, false, false, false, false, false, false, false, false, false] rfl kr kr kr hnp (Sg.g0 (Sx.of [] fL HS54)) ?_
   refine takeGQ 1 [] rfl kr kr kr kr kr kr hnp (Sg.g0 (Sx.of [] fL HS54)) (fun w_ hw_ => by obtain ⟨g_, hl_, hS_⟩ := hw_.st; exact run_load rfl Try.underlying2 rfl (kv (.pointer (some ⟨b5, 0, none⟩))) (hS_.u2.cell 0)) ?_
   have hq_ := guard_some h; clear h; obtain ⟨c55, h⟩ := hq_
   have c55 : ¬ (vt39 = 0) := c55
   refine takeGL [2] (n := 12) (fuel := 11) #[true, true, true, false, false, false, false, false, false, false, false, false, false, false] rfl kr kr kr hnp (Sg.g0 (Sx.of [] fL HS54)) ?_
   refine takeGQ 3 [] rfl kr kr kr kr kr kr hnp (Sg.g0 (Sx.of [] fL HS54)) (fun w_ hw_ => by obtain ⟨g_, hl_, hS_⟩ := hw_.st; exact run_div rfl (kv (.int .i64 a1.Num)) (kv (.int .i64 vt39)) c55 w_) ?_
   refine takeGL [4] (n := 10) (fuel := 9) #[true, true, true, true, true, false, false, false, false, false, false, false, false, false] rfl kr kr kr hnp (Sg.g0 (Sx.of [] fL HS54)) ?_
   refine takeGQ 5 [] rfl kr kr kr kr kr kr hnp (Sg.g0 (Sx.of [] fL HS54)) (fun w_ hw_ => by obtain ⟨g_, hl_, hS_⟩ := hw_.st; exact run_load rfl Try.underlying2 rfl (kv (.pointer (some ⟨b9, 0, none⟩))) (hS_.u1.cell 0)) ?_
   have hq_ := guard_some h; clear h; obtain ⟨c56, h⟩ := hq_
   have c56 : ¬ (vt45 = 0) := c56
   refine takeGL [6] (n := 8) (fuel := 7) #[true, true, true, true, true, true, true, false, false, false, false, false, false, false] rfl kr kr kr hnp (Sg.g0 (Sx.of [] fL HS54)) ?_
   refine takeGQ 7 [] rfl kr kr kr kr kr kr hnp (Sg.g0 (Sx.of [] fL HS54)) (fun w_ hw_ => by obtain ⟨g_, hl_, hS_⟩ := hw_.st; exact run_div rfl (kv (.int .i64 b2.Num)) (kv (.int .i64 vt45)) c56 w_) ?_
   have hq_ := bind_some h; clear h; obtain ⟨⟨vt57, vt58⟩, hc59, h⟩ := hq_
   refine takeGE 8 kr rfl kr (does_call (f := 40) (args := #[.int .i64 (w64 (Int.tdiv a1.Num vt39)), .int .i64 (w64 (Int.tdiv b2.Num vt45))]) kr (num_Mul.calls k (w64 (Int.tdiv a1.Num vt39)) (w64 (Int.tdiv b2.Num vt45)) HS54 vt57 vt58 hc59) ?_)
   rintro _ W62 ⟨f60, rfl, L61, HS63⟩
   refine ⟨_, rfl, ?_⟩
   refine ⟨(Sg.g0 (Sx.of [] L61 HS63)), ?_⟩
   refine takeGL [9, 10, 11, 12, 13] (n := 5) (fuel := 0) #[true, true, true, true, true, true, true, true, true, true, true, true, true, true] rfl kr kr kr hnp (Sg.g0 (Sx.of [] L61 HS63)) ?_
   refine doneG kr ?_ _
   refine hK52 _ _ ?_
   refine wp_seq_k (fun K64 hK65 => ?_)
   refine heldG (S := Sg t f60 ([(b13, .cells #[.int .i64 0, .int .i64 0] 47 (0, 0))] :: [(b9, .cells #[.int .i64 b2.Num, .int .i64 b2.Den] 47 (0, 0))] :: [(b5, .cells #[.int .i64 a1.Num, .int .i64 a1.Den] 47 (0, 0))] :: H) []) (n := 14) kr rfl HS63 ?_
   intro W66 HS67
   refine takeGL [0] (n := 14) (fuel := 13) #[true, false, false, false, false, false, false, false, false, false, false, false, false, false] rfl kr kr kr hnp (Sg.g0 (Sx.of [] fL HS67)) ?_
   refine takeGQ 1 [] rfl kr kr kr kr kr kr hnp (Sg.g0 (Sx.of [] fL HS67)) (fun w_ hw_ => by obtain ⟨g_, hl_, hS_⟩ := hw_.st; exact run_load rfl Try.underlying2 rfl (kv (.pointer (some ⟨b5, 1, none⟩))) (hS_.u2.cell 1)) ?_
   refine takeGL [2] (n := 12) (fuel := 11) #[true, true, true, false, false, false, false, false, false, false, false, false, false, false] rfl kr kr kr hnp (Sg.g0 (Sx.of [] fL HS67)) ?_
   refine takeGQ 3 [] rfl kr kr kr kr kr kr hnp (Sg.g0 (Sx.of [] fL HS67)) (fun w_ hw_ => by obtain ⟨g_, hl_, hS_⟩ := hw_.st; exact run_div rfl (kv (.int .i64 a1.Den)) (kv (.int .i64 vt45)) c56 w_) ?_
   refine takeGL [4] (n := 10) (fuel := 9) #[true, true, true, true, true, false, false, false, false, false, false, false, false, false] rfl kr kr kr hnp (Sg.g0 (Sx.of [] fL HS67)) ?_
   refine takeGQ 5 [] rfl kr kr kr kr kr kr hnp (Sg.g0 (Sx.of [] fL HS67)) (fun w_ hw_ => by obtain ⟨g_, hl_, hS_⟩ := hw_.st; exact run_load rfl Try.underlying2 rfl (kv (.pointer (some ⟨b9, 1, none⟩))) (hS_.u1.cell 1)) ?_
   refine takeGL [6] (n := 8) (fuel := 7) #[true, true, true, true, true, true, true, false, false, false, false, false, false, false] rfl kr kr kr hnp (Sg.g0 (Sx.of [] fL HS67)) ?_
   refine takeGQ 7 [] rfl kr kr kr kr kr kr hnp (Sg.g0 (Sx.of [] fL HS67)) (fun w_ hw_ => by obtain ⟨g_, hl_, hS_⟩ := hw_.st; exact run_div rfl (kv (.int .i64 b2.Den)) (kv (.int .i64 vt39)) c55 w_) ?_
   have hq_ := bind_some h; clear h; obtain ⟨⟨vt68, vt69⟩, hc70, h⟩ := hq_
   refine takeGE 8 kr rfl kr (does_call (f := 40) (args := #[.int .i64 (w64 (Int.tdiv a1.Den vt45)), .int .i64 (w64 (Int.tdiv b2.Den vt39))]) kr (num_Mul.calls k (w64 (Int.tdiv a1.Den vt45)) (w64 (Int.tdiv b2.Den vt39)) HS67 vt68 vt69 hc70) ?_)
   rintro _ W73 ⟨f71, rfl, L72, HS74⟩
   refine ⟨_, rfl, ?_⟩
   refine ⟨(Sg.g0 (Sx.of [] L72 HS74)), ?_⟩
   refine takeGL [9, 10, 11, 12, 13] (n := 5) (fuel := 0) #[true, true, true, true, true, true, true, true, true, true, true, true, true, true] rfl kr kr kr hnp (Sg.g0 (Sx.of [] L72 HS74)) ?_
   refine doneG kr ?_ _
   refine hK65 _ _ ?_
   refine wp_seq_k fun K75 hK76 => rl ?_
   refine seqL4 kr ?_
   refine seqK rfl (does_lit (e := tBool) (E := 4) (vs := #[(0, Value.bool vt58), (1, Value.bool vt69)]) (cs := #[.bool vt58, .bool vt69]) (xs := ([vt58, vt69] : List Bool)) rfl Try.underlying96 kr kr ⟨[.bool vt58], _, rfl, rfl, ⟨[.bool vt69], _, rfl, rfl, rfl⟩⟩ rfl HS74 ?_ (by decide))
   intro b77 W78 s79 HS80 _ HO81
   obtain ⟨f83, L84, HS85, HR86, th87⟩ := HO81.lend HS80
   have hq_ := bind_some h; clear h; obtain ⟨⟨vt88, vt89⟩, hc90, h⟩ := hq_
   refine seqK rfl (does_call (f := 41) (args := #[.int .i64 vt57, .int .i64 vt68, .slice (some ⟨b77, 0, none⟩) ([vt58, vt69] : List Bool).length 2]) kr (frac_made.calls k (some ⟨b77, 0, none⟩) 2 vt57 vt68 ([vt58, vt69] : List Bool) HS85 HR86 vt88 vt89 hc90) ?_)
   rintro _ W93 ⟨f91, rfl, L92, HS94⟩
   refine ⟨_, rfl, ?_⟩
   obtain ⟨f95, L96, HS97⟩ := th87 L92 HS94
   have HS98 := HS97.u1
   refine seqL2 kr ?_
   refine seqK rfl (does_storeA (vs := [.int .i64 vt88.Num, .int .i64 vt88.Den]) rfl kr kr kr rfl (ones rfl) HS98 kr ?_)
   intro W99 HS100
   refine seqL1 kr ?_
   refine nl (hK76 _ _ ?_)
   refine wp_ret ?_
   refine hret _ _ ?_
   refine ends (v := Value.tuple #[.agg #[.int .i64 vt88.Num, .int .i64 vt88.Den], .int .i64 vt89]) (results2 (q1 := .cell 4 47) (q2 := .tmp 5) kr (resN (n := 2) (cs := [.int .i64 vt88.Num, .int .i64 vt88.Den]) (kv (.pointer (some ⟨b13, 0, none⟩))) Try.underlying47 rfl kr rfl (HS100.cells 0 2 _ rfl)) (resT (kv (.int .i64 vt89)))) kr ?_
   have HS104 := HS100.drop
   have HS105 := HS104.drop
   have HS106 := HS105.drop
   have HS107 := HS106.drop
   injection h with h
   injection h with h0_ h
   subst h0_ h
   exact ⟨f95, rfl, (L24.trans (L42.trans (L48.trans (L61.trans (L72.trans L96))))), HS107⟩

set_option maxRecDepth 100000 in
set_option maxHeartbeats 4000000 in
theorem optics_Centre_1.calls (k : Nat) (b1 : Nat) (b3 : Nat) (v5 : Int) (v6 : Int) (n7 : Int) {t w : World} {f : FM} {H : List Seg} (HS : St t w f ([(b1, .cells #[.int .i64 v5] 2 (0, 0))] :: [(b3, .cells #[.int .i64 v6] 34 (0, 0))] :: H)) (rr1 : S_Frac) (rr2 : Int) (h : optics_Centre_1 k v5 v6 n7 = some (rr1, rr2)) :
    Calls Try.prog 24 #[.int .i64 n7, .pointer (some ⟨b1, 0, none⟩), .pointer (some ⟨b3, 0, none⟩)] w (fun e w' => ∃ (g : FM), e = .returned (Value.agg #[.int .i64 rr1.Num, .int .i64 rr1.Den]) ∧ FM.le f g ∧ St t w' g ([(b1, .cells #[.int .i64 v5] 2 (0, 0))] :: [(b3, .cells #[.int .i64 rr2] 34 (0, 0))] :: H)) := by
 unfold optics_Centre_1 at h
 refine enter Try.func24 rfl (tm := #[iV n7, pV b1 0, pV b3 0, uV, uV, uV, uV, uV, uV, uV, uV, uV, uV, uV, uV, uV, uV, uV, uV, uV, uV, uV, uV, uV, uV, uV]) kr ?_
 intro B hret hnor hnp
 refine wp_seq_k fun K8 hK9 => rl ?_
 refine seqK rfl (does_alloc (z := Value.agg #[.int .i64 0, .int .i64 0]) (cs := #[.int .i64 0, .int .i64 0]) rfl kr rfl HS ?_)
 intro b10 W11 HS12
 refine nl (hK9 _ _ ?_)
 refine wp_seq_k fun K14 hK15 => rl ?_
 refine seqL1 kr ?_
 refine seqK rfl (does_run (run_load rfl Try.underlying2 rfl (kv (.pointer (some ⟨b1, 0, none⟩))) (HS12.u1.cell 0)) ?_)
 have hq_ := bind_some h; clear h; obtain ⟨⟨vt16, vt17⟩, hc18, h⟩ := hq_
 refine seqK rfl (does_call (f := 25) (args := #[.int .i64 n7, .int .i64 v5]) kr (frac_Make.calls k n7 v5 HS12 vt16 vt17 hc18) ?_)
 rintro _ W21 ⟨f19, rfl, L20, HS22⟩
 refine ⟨_, rfl, ?_⟩
 refine seqL3 kr ?_
 refine seqK rfl (does_alloc (z := Value.agg #[.int .i64 0, .int .i64 0]) (cs := #[.int .i64 0, .int .i64 0]) rfl kr rfl HS22 ?_)
 intro b23 W24 HS25
 refine seqK rfl (does_storeA (vs := [.int .i64 vt16.Num, .int .i64 vt16.Den]) rfl kr kr kr rfl (ones rfl) HS25 kr ?_)
 intro W27 HS28
 refine seqL1 kr ?_
 refine nl (hK15 _ _ ?_)
 refine wp_seq_k fun K29 hK30 => rl ?_
 refine seqK rfl (does_run (run_loadN (n := 2) rfl Try.underlying47 rfl kr (kv (.pointer (some ⟨b23, 0, none⟩))) (cs := [.int .i64 vt16.Num, .int .i64 vt16.Den]) rfl (HS28.cells 0 2 _ rfl)) ?_)
 have hq_ := bind_some h; clear h; obtain ⟨⟨vt31, vt32⟩, hc33, h⟩ := hq_
 refine seqL1 kr ?_
 refine seqK rfl (does_call (f := 26) (args := #[.agg #[.int .i64 vt16.Num, .int .i64 vt16.Den], .agg #[.int .i64 128, .int .i64 1]]) kr (frac_Mul.calls k vt16 (⟨128, 1⟩ : S_Frac) HS28 vt31 vt32 hc33) ?_)
 rintro _ W36 ⟨f34, rfl, L35, HS37⟩
 refine ⟨_, rfl, ?_⟩
 refine seqL3 kr ?_
 refine seqK rfl (does_storeA (vs := [.int .i64 vt31.Num, .int .i64 vt31.Den]) rfl kr kr kr rfl (ones rfl) HS37 kr ?_)
 intro W38 HS39
 refine seqL1 kr ?_
 refine nl (hK30 _ _ ?_)
 refine wp_seq_k fun K40 hK41 => rl ?_
 refine seqK rfl (does_run (run_load rfl Try.underlying34 rfl (kv (.pointer (some ⟨b3, 0, none⟩))) (HS39.u3.cell 0)) ?_)
 refine seqL2 kr ?_
 refine seqK rfl (does_lit (e := (tInt .i64)) (E := 34) (vs := #[(0, Value.int .i64 v6), (1, Value.int .i64 vt17), (2, Value.int .i64 vt32)]) (cs := #[.int .i64 v6, .int .i64 vt17, .int .i64 vt32]) (xs := ([v6, vt17, vt32] : List Int)) rfl Try.underlying87 kr kr ⟨[.int .i64 v6], _, rfl, rfl, ⟨[.int .i64 vt17], _, rfl, rfl, ⟨[.int .i64 vt32], _, rfl, rfl, rfl⟩⟩⟩ rfl HS39 ?_ (by decide))
 intro b42 W43 s44 HS45 _ HO46
 obtain ⟨f48, L49, HS50, HR51, th52⟩ := HO46.lend HS45
 have hq_ := bind_some h; clear h; obtain ⟨vt53, hc54, h⟩ := hq_
 refine seqK rfl (does_call (f := 27) (args := #[.slice (some ⟨b42, 0, none⟩) ([v6, vt17, vt32] : List Int).length 3]) kr (cmp_Or_Errno.calls k (some ⟨b42, 0, none⟩) 3 ([v6, vt17, vt32] : List Int) HS50 HR51 vt53 hc54) ?_)
 rintro _ W57 ⟨f55, rfl, L56, HS58⟩
 refine ⟨_, rfl, ?_⟩
 obtain ⟨f59, L60, HS61⟩ := th52 L56 HS58
 have HS62 := HS61.u4
 refine seqK rfl (does_store (n := 1) (vs := [.int .i64 vt53]) (cs' := #[.int .i64 vt53]) rfl kr (kv (.pointer (some ⟨b3, 0, none⟩))) (kv (.int .i64 vt53)) rfl rfl (ones rfl) HS62 (Nat.le_of_ble_eq_true rfl) kr ?_)
 intro W63 HS64
 refine nl (hK41 _ _ ?_)
 refine wp_seq_k fun K65 hK66 => rl ?_
 refine seqK rfl (does_run (run_loadN (n := 2) rfl Try.underlying47 rfl kr (kv (.pointer (some ⟨b23, 0, none⟩))) (cs := [.int .i64 vt31.Num, .int .i64 vt31.Den]) rfl (HS64.u2.cells 0 2 _ rfl)) ?_)
 have HS67 := HS64.u3
 refine seqK rfl (does_storeA (vs := [.int .i64 vt31.Num, .int .i64 vt31.Den]) rfl kr kr kr rfl (ones rfl) HS67 kr ?_)
 intro W68 HS69
 refine nl (hK66 _ _ ?_)
 refine wp_ret ?_
 refine hret _ _ ?_
 refine ends (v := Value.agg #[.int .i64 vt31.Num, .int .i64 vt31.Den]) (results1 (q1 := .cell 4 47) kr (resN (n := 2) (cs := [.int .i64 vt31.Num, .int .i64 vt31.Den]) (kv (.pointer (some ⟨b10, 0, none⟩))) Try.underlying47 rfl kr rfl (HS69.cells 0 2 _ rfl))) kr ?_
 have HS74 := HS69.u1.u4.u4.u4.u4
 have HS75 := HS74.drop
 have HS76 := HS75.drop
 have HS77 := HS76.drop
 injection h with h
 injection h with h0_ h
 subst h0_ h
 exact ⟨f59, rfl, (L20.trans (L35.trans L60)), HS77⟩

end Go.Sp.X4
