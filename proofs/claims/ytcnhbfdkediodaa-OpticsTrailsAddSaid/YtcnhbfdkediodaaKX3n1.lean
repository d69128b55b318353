import Derived.Test.YtcnhbfdkediodaaProg
import Derived.Test.YtcnhbfdkediodaaSpCopy
import Derived.Test.YtcnhbfdkediodaaFX3
import Derived.Test.YtcnhbfdkediodaaSpGrow
import Derived.Test.YtcnhbfdkediodaaSpMapsA
import Derived.Test.YtcnhbfdkediodaaKX3n0
namespace Go.Sp.X3
open Go Go.Sp Go.Proofs
set_option linter.unusedVariables false
attribute [local irreducible] wpList AnyL Code.wp Calls Does
set_option maxRecDepth 100000 in
set_option maxHeartbeats 4000000 in
theorem optics_Trail.calls (k : Nat) (A5 : Option Addr) (c6 : Nat) (p1 : S_Point) (dx2 : Int) (dy3 : Int) (rates4 : List Int) (wide8 : Int) (high9 : Int) {t w : World} {f : FM} {H : List Seg} (HS : St t w f (H)) (HR7 : SlR (tInt .i64) f A5 c6 rates4) (rr1 : List S_Spot) (rr2 : Int) (h : optics_Trail k p1 dx2 dy3 rates4 wide8 high9 = some (rr1, rr2)) :
    Calls Try.prog 7 #[.agg #[.int .i64 p1.X, .int .i64 p1.Y], .int .i64 dx2, .int .i64 dy3, .slice A5 rates4.length c6, .int .i64 wide8, .int .i64 high9] w (fun e w' => ∃ (g : FM) (A341 : Option Addr) (c342 : Nat) (s343 : Seg), e = .returned (Value.tuple #[.slice A341 rr1.length c342, .int .i64 rr2]) ∧ FM.le f g ∧ St t w' g (s343 :: H) ∧ Own ty_Spot 42 g A341 c342 s343 rr1) := by
 unfold optics_Trail at h
 refine enter Try.func7 rfl (tm := #[.agg #[iV p1.X, iV p1.Y], iV dx2, iV dy3, .slice A5 rates4.length c6, iV wide8, iV high9, uV, uV, uV, uV, uV, uV, uV, uV, uV, uV, uV, uV, uV, uV, uV, uV, uV, uV, uV, uV, uV, uV, uV, uV, uV, uV, uV, uV, uV, uV, uV, uV, uV, uV, uV, uV, uV, uV, uV, uV, uV, uV, uV, uV, uV, uV, uV, uV, uV, uV, uV, uV, uV, uV, uV, uV, uV, uV, uV, uV, uV, uV, uV, uV, uV, uV, uV, uV, uV, uV, uV, uV, uV, uV, uV, uV, uV, uV, uV, uV, uV, uV, uV, uV, uV, uV, uV, uV, uV, uV, uV, uV, uV]) kr ?_
 intro B hret hnor hnp
 refine wp_seq_k fun K10 hK11 => rl ?_
 refine seqK rfl (does_box (cs := #[.int .i64 p1.X, .int .i64 p1.Y]) rfl (kv (.agg #[.int .i64 p1.X, .int .i64 p1.Y])) rfl HS ?_)
 intro b12 W13 HS14
 refine seqL2 kr ?_
 refine nl (hK11 _ _ ?_)
 refine wp_seq_k (fun K16 hK17 => ?_)
 refine blockK (fun B18 hx19 hn20 hr21 ho22 hp23 => ?_)
 refine wp_seq_k fun K25 hK26 => rl ?_
 refine seqL4 kr ?_
 refine nl (hK26 _ _ ?_)
 have hq_ := ite_some h; clear h; rcases hq_ with ⟨c28, h⟩ | ⟨c28, h⟩
 · have c28 : (rates4.length : Int) > 16 := c28
   refine wpRwI 22 kr (decide_eq_true c28) ?_
   refine wpRwI 25 kr (decide_eq_true c28) ?_
   refine condT kr ?_
   refine wp_seq_k fun K29 hK30 => rl ?_
   refine seqL2 kr ?_
   refine nl (hK30 _ _ ?_)
   refine wp_ret ?_
   refine hr21 _ _ ?_
   refine hret _ _ ?_
   have HS305 := HS14.cons_nil
   refine ends_still (v := Value.tuple #[.slice none 0 0, .int .i64 2]) kr kr ?_
   have HS307 := HS305.u1
   have HS308 := HS307.drop
   injection h with h
   injection h with h0_ h
   subst h0_ h
   exact ⟨f, none, 0, [], rfl, FM.le.refl _, HS308, (Own.nil _)⟩
 · have c28 : ¬ ((rates4.length : Int) > 16) := c28
   refine wpRwI 22 kr (decide_eq_false c28) ?_
   refine wpRwI 25 kr (decide_eq_false c28) ?_
   refine condF kr ?_
   refine wp_seq_k fun K31 hK32 => rl ?_
   refine seqL5 kr ?_
   have hq_ := ite_some h; clear h; rcases hq_ with ⟨c33, h⟩ | ⟨c33, h⟩
   · have c33 : (mx dx2 dy3) > 64 := c33
     refine seqRwI 30 kr (decide_eq_true c33) ?_
     refine seqRwI 31 kr (decide_eq_true c33) ?_
     refine seqL6 kr ?_
     refine nl (hK32 _ _ ?_)
     refine condT kr ?_
     refine wp_seq_k fun K34 hK35 => rl ?_
     refine seqL2 kr ?_
     refine nl (hK35 _ _ ?_)
     refine wp_ret ?_
     refine hr21 _ _ ?_
     refine hret _ _ ?_
     have HS309 := HS14.cons_nil
     refine ends_still (v := Value.tuple #[.slice none 0 0, .int .i64 4]) kr kr ?_
     have HS311 := HS309.u1
     have HS312 := HS311.drop
     injection h with h
     injection h with h0_ h
     subst h0_ h
     exact ⟨f, none, 0, [], rfl, FM.le.refl _, HS312, (Own.nil _)⟩
   · have c33 : ¬ ((mx dx2 dy3) > 64) := c33
     refine seqRwI 30 kr (decide_eq_false c33) ?_
     refine seqRwI 31 kr (decide_eq_false c33) ?_
     refine seqL6 kr ?_
     refine nl (hK32 _ _ ?_)
     have hq_ := ite_some h; clear h; rcases hq_ with ⟨c37, h⟩ | ⟨c37, h⟩
     · have c37 : (mn dx2 dy3) < (-64) := c37
       refine wpRwI 26 kr (decide_eq_true c37) ?_
       refine wpRwI 35 kr (decide_eq_true c37) ?_
       refine wpRwI 36 kr (decide_eq_true c37) ?_
       refine condT kr ?_
       refine wp_seq_k fun K38 hK39 => rl ?_
       refine seqL2 kr ?_
       refine nl (hK39 _ _ ?_)
       refine wp_ret ?_
       refine hr21 _ _ ?_
       refine hret _ _ ?_
       have HS313 := HS14.cons_nil
       refine ends_still (v := Value.tuple #[.slice none 0 0, .int .i64 4]) kr kr ?_
       have HS315 := HS313.u1
       have HS316 := HS315.drop
       injection h with h
       injection h with h0_ h
       subst h0_ h
       exact ⟨f, none, 0, [], rfl, FM.le.refl _, HS316, (Own.nil _)⟩
     · have c37 : ¬ ((mn dx2 dy3) < (-64)) := c37
       refine wpRwI 26 kr (decide_eq_false c37) ?_
       refine wpRwI 35 kr (decide_eq_false c37) ?_
       refine wpRwI 36 kr (decide_eq_false c37) ?_
       refine condF kr ?_
       refine wp_seq_k fun K40 hK41 => rl ?_
       have hq_ := bind_some h; clear h; obtain ⟨vt42, hc43, h⟩ := hq_
       refine seqL1 kr ?_
       refine seqK rfl (does_call (f := 19) (args := #[.slice A5 rates4.length c6, .func (.func 20) #[] #[]]) kr (slices_ContainsFunc_Quanta__optics_Trail_1.calls k A5 c6 rates4 HS14 HR7 vt42 hc43) ?_)
       rintro _ W46 ⟨f44, rfl, L45, HS47⟩
       refine ⟨_, rfl, ?_⟩
       refine seqL1 kr ?_
       refine nl (hK41 _ _ ?_)
       have hq_ := ite_some h; clear h; rcases hq_ with ⟨c49, h⟩ | ⟨c49, h⟩
       · have c49 : vt42 = true := c49
         refine wpRwI 37 kr c49 ?_
         refine wpRwI 39 kr c49 ?_
         refine condT kr ?_
         refine wp_seq_k fun K50 hK51 => rl ?_
         refine seqL2 kr ?_
         refine nl (hK51 _ _ ?_)
         refine wp_ret ?_
         refine hr21 _ _ ?_
         refine hret _ _ ?_
         have HS317 := HS47.cons_nil
         refine ends_still (v := Value.tuple #[.slice none 0 0, .int .i64 4]) kr kr ?_
         have HS319 := HS317.u1
         have HS320 := HS319.drop
         injection h with h
         injection h with h0_ h
         subst h0_ h
         exact ⟨f44, none, 0, [], rfl, L45, HS320, (Own.nil _)⟩
       · have c49 : ¬ (vt42 = true) := c49
         refine wpRwI 37 kr (Bool.eq_false_iff.mpr c49) ?_
         refine wpRwI 39 kr (Bool.eq_false_iff.mpr c49) ?_
         refine condF kr ?_
         refine wp_skip ?_
         refine hn20 _ _ ?_
         refine hK17 _ _ ?_
         refine wp_seq_k (fun K52 hK53 => ?_)
         refine wp_seq_k fun K54 hK55 => rl ?_
         refine seqK rfl (does_run (run_loadN (n := 2) rfl Try.underlying24 rfl kr (kv (.pointer (some ⟨b12, 0, none⟩))) (cs := [.int .i64 p1.X, .int .i64 p1.Y]) rfl (HS47.cells 0 2 _ rfl)) ?_)
         have hq_ := bind_some h; clear h; obtain ⟨⟨vt56, vt57⟩, hc58, h⟩ := hq_
         refine seqL2 kr ?_
         refine seqK rfl (does_call (f := 21) (args := #[.agg #[.int .i64 p1.X, .int .i64 p1.Y], .int .i64 wide8, .int .i64 high9]) kr (optics_Point.calls k p1 wide8 high9 HS47 vt56 vt57 hc58) ?_)
         rintro _ W61 ⟨f59, A63, c64, s65, rfl, L60, HS62, HO66⟩
         refine ⟨_, rfl, ?_⟩
         refine seqL5 kr ?_
         refine nl (hK55 _ _ ?_)
         refine wp_seq_k fun K68 hK69 => rl ?_
         refine seqL2 kr ?_
         refine nl (hK69 _ _ ?_)
         have hq_ := ite_some h; clear h; rcases hq_ with ⟨c71, h⟩ | ⟨c71, h⟩
         · have c71 : vt57 ≠ 0 := c71
           refine wpRwI 48 kr (bne_iff_ne.mpr c71) ?_
           refine condT kr ?_
           refine wp_seq_k fun K72 hK73 => rl ?_
           refine seqL3 kr ?_
           refine nl (hK73 _ _ ?_)
           refine wp_ret ?_
           refine hret _ _ ?_
           have HS321 := HS62.cons_nil
           refine ends_still (v := Value.tuple #[.slice none 0 0, .int .i64 vt57]) kr kr ?_
           have HS324 := HS321.u2.u2
           have HS325 := HS324.drop
           have HS326 := HS325.drop
           injection h with h
           injection h with h0_ h
           subst h0_ h
           exact ⟨f59, none, 0, [], rfl, (L45.trans L60), HS326, (Own.nil _)⟩
         · have c71 : ¬ (vt57 ≠ 0) := c71
           refine wpRwI 48 (x := (vt57 != 0)) (v := false) kr (bne_eq_false_iff_eq.mpr (Decidable.of_not_not c71)) ?_
           refine condF kr ?_
           refine wp_skip ?_
           refine hK53 _ _ ?_
           refine wp_seq_k fun K74 hK75 => rl ?_
           refine seqL1 kr ?_
           refine nl (hK75 _ _ ?_)
           refine wp_seq_k (fun K76 hK77 => ?_)
           refine wp_seq_k fun K78 hK79 => rl ?_
           refine seqL3 kr ?_
           refine nl (hK79 _ _ ?_)
           refine blockK (fun B80 hx81 hn82 hr83 ho84 hp85 => ?_)
           have hq_ := bind_some h; clear h; obtain ⟨o86, hv290, h⟩ := hq_
           have JR292 : ∀ z_, some (Sum.inl z_) = some o86 → some z_ = some (rr1, rr2) := by
            intro z_ e_; injection e_ with e_; subst e_; exact h
           have J291 : ∀ (f279 : FM) (A285 : Option Addr) (c286 : Nat) (s287 : Seg) (out284 : List S_Spot) (j283 : Nat → Value) (W281 : World) (a_ : Act), FM.le f59 f279 → some (Sum.inr out284) = some o86 → St t W281 f279 (s287 :: s65 :: [(b12, .cells #[.int .i64 p1.X, .int .i64 p1.Y] 24 (0, 0))] :: H) → Own ty_Spot 42 f279 A285 c286 s287 out284 → a_ = ⟨#[.agg #[iV p1.X, iV p1.Y], iV dx2, iV dy3, .slice A5 rates4.length c6, iV wide8, iV high9, pV b12 0, uV, uV, uV, uV, uV, (j283 0), (j283 1), .slice A63 vt56.length c64, iV vt57, .slice A285 out284.length c286, (j283 2), (j283 3), (j283 4), (j283 5), (j283 6), fV, .slice A5 rates4.length c6, iV (rates4.length : Int), fV, fV, iV dx2, iV dy3, iV (mx dx2 dy3), fV, fV, iV dx2, iV dy3, iV (mn dx2 dy3), fV, fV, fV, .slice A5 rates4.length c6, fV, .tuple #[.slice A63 vt56.length c64, iV vt57], .agg #[iV p1.X, iV p1.Y], iV wide8, iV high9, .tuple #[.slice A63 vt56.length c64, iV vt57], .slice A63 vt56.length c64, iV vt57, iV vt57, fV, uV, .slice A5 rates4.length c6, iV (rates4.length : Int), (j283 7), (j283 8), (j283 9), (j283 10), (j283 11), (j283 12), (j283 13), (j283 14), (j283 15), (j283 16), (j283 17), (j283 18), (j283 19), (j283 20), (j283 21), (j283 22), (j283 23), (j283 24), (j283 25), (j283 26), (j283 27), (j283 28), (j283 29), (j283 30), (j283 31), (j283 32), (j283 33), (j283 34), (j283 35), (j283 36), (j283 37), (j283 38), (j283 39), (j283 40), (j283 41), (j283 42), (j283 43), (j283 44), (j283 45), (j283 46), (j283 47), (j283 48), (j283 49), (j283 50), (j283 51), (j283 52), uV], []⟩ → K76 a_ W281 := by
            intro f279 A285 c286 s287 out284 j283 W281 a_ L280 hj293 HS282 HO288 hfr_; subst hfr_
            injection hj293 with hj293; subst hj293; try dsimp only at h
            simp only [Sum.elim_inr] at h
            refine hK77 _ _ ?_
            refine wp_seq_k fun K303 hK304 => rl ?_
            refine seqL3 kr ?_
            refine nl (hK304 _ _ ?_)
            refine wp_ret ?_
            refine hret _ _ ?_
            refine ends_still (v := Value.tuple #[.slice A285 out284.length c286, .int .i64 0]) kr kr ?_
            have HS338 := HS282.u2.u2
            have HS339 := HS338.drop
            have HS340 := HS339.drop
            injection h with h
            injection h with h0_ h
            subst h0_ h
            exact ⟨f279, A285, c286, s287, rfl, (L45.trans (L60.trans L280)), HS340, HO288⟩
           clear h; have h := hv290; clear hv290
           have HS294 := HS62.cons_nil
           refine loopK (fun n_ a_ w_ => ∃ (f90 : FM) (A96 : Option Addr) (c97 : Nat) (s98 : Seg) (out95 : List S_Spot) (x101 : Int) (j94 : Nat → Value), FM.le f59 f90 ∧ St t w_ f90 (s98 :: s65 :: [(b12, .cells #[.int .i64 p1.X, .int .i64 p1.Y] 24 (0, 0))] :: H) ∧ Own ty_Spot 42 f90 A96 c97 s98 out95 ∧ optics_Trail.l0 k rates4 p1 dx2 dy3 wide8 high9 n_ out95 x101 = some o86 ∧ a_ = ⟨#[.agg #[iV p1.X, iV p1.Y], iV dx2, iV dy3, .slice A5 rates4.length c6, iV wide8, iV high9, pV b12 0, uV, uV, uV, uV, uV, (j94 0), (j94 1), .slice A63 vt56.length c64, iV vt57, .slice A96 out95.length c97, (j94 2), (j94 3), (j94 4), (j94 5), (j94 6), fV, .slice A5 rates4.length c6, iV (rates4.length : Int), fV, fV, iV dx2, iV dy3, iV (mx dx2 dy3), fV, fV, iV dx2, iV dy3, iV (mn dx2 dy3), fV, fV, fV, .slice A5 rates4.length c6, fV, .tuple #[.slice A63 vt56.length c64, iV vt57], .agg #[iV p1.X, iV p1.Y], iV wide8, iV high9, .tuple #[.slice A63 vt56.length c64, iV vt57], .slice A63 vt56.length c64, iV vt57, iV vt57, fV, uV, .slice A5 rates4.length c6, iV (rates4.length : Int), iV x101, (j94 7), (j94 8), (j94 9), (j94 10), (j94 11), (j94 12), (j94 13), (j94 14), (j94 15), (j94 16), (j94 17), (j94 18), (j94 19), (j94 20), (j94 21), (j94 22), (j94 23), (j94 24), (j94 25), (j94 26), (j94 27), (j94 28), (j94 29), (j94 30), (j94 31), (j94 32), (j94 33), (j94 34), (j94 35), (j94 36), (j94 37), (j94 38), (j94 39), (j94 40), (j94 41), (j94 42), (j94 43), (j94 44), (j94 45), (j94 46), (j94 47), (j94 48), (j94 49), (j94 50), (j94 51), uV], []⟩) k ⟨f59, none, 0, [], ([] : List S_Spot), 0, (jL [.slice none 0 0, iV 0]), fL, HS294, (Own.nil _), h, kr⟩ ?_
           clear h
           rintro n89 _ W92 ⟨f90, A96, c97, s98, out95, x101, j94, L91, HS93, HO99, h, rfl⟩ K87 hK88
           obtain _ | n89 := n89
           · exact nomatch h
           simp only [optics_Trail.l0] at h
           refine wp_seq_k fun K102 hK103 => rl ?_
           refine seqL1 kr ?_
           refine nl (hK103 _ _ ?_)
           refine wp_seq_k (fun K104 hK105 => ?_)
           have hq_ := ite_some h; clear h; rcases hq_ with ⟨c107, h⟩ | ⟨c107, h⟩
           · have c107 : x101 < (rates4.length : Int) := c107
             refine wpRwI 53 kr (decide_eq_true c107) ?_
             refine condT kr ?_
             refine wp_skip ?_
             refine hK105 _ _ ?_
             refine wp_seq_k (fun K108 hK109 => ?_)
             refine blockK (fun B110 hx111 hn112 hr113 ho114 hp115 => ?_)
             refine wp_seq_k fun K117 hK118 => rl ?_
             have hq_ := guard_some h; clear h; obtain ⟨c119, h⟩ := hq_
             have c119 : 0 ≤ x101 := c119
             obtain ⟨b123, of124, cs120, hA125, hr121, hc122⟩ := (HR7.mono (L45.trans (L60.trans L91))).at (i := x101) c119 c107
             obtain rfl := hr121
             refine seqL1 kr ?_
             refine seqK rfl (does_run (run_indexE hA125 (sz := 1) rfl Try.underlying29 kr (kv (.slice A5 rates4.length c6)) (kv (.int .i64 x101)) c119 c107 W92) ?_)
             refine seqK rfl (does_run (run_load rfl Try.underlying31 rfl (kv (.pointer (some ⟨b123, of124 + (x101 : Int).toNat * 1, none⟩))) ((hc122 fL HS93) 0 (by decide))) ?_)
             refine seqL2 kr ?_
             refine nl (hK118 _ _ ?_)
             refine wp_seq_k fun K126 hK127 => rl ?_
             refine seqL1 kr ?_
             refine seqK rfl (does_run (run_load rfl Try.underlying22 rfl (kv (.pointer (some ⟨b12, 0, none⟩))) (HS93.u2.cell 0)) ?_)
             refine seqL5 kr ?_
             refine seqK rfl (does_run (run_load rfl Try.underlying22 rfl (kv (.pointer (some ⟨b12, 1, none⟩))) (HS93.u2.cell 1)) ?_)
             have hq_ := bind_some h; clear h; obtain ⟨⟨vt128, vt129⟩, hc130, h⟩ := hq_
             refine seqL7 kr ?_
             refine seqK rfl (does_call (f := 21) (args := #[.agg #[.int .i64 (w64 (p1.X + (w64 (x101 * dx2)))), .int .i64 (w64 (p1.Y + (w64 (x101 * dy3))))], .int .i64 wide8, .int .i64 high9]) kr (optics_Point.calls k (⟨w64 (p1.X + (w64 (x101 * dx2))), w64 (p1.Y + (w64 (x101 * dy3)))⟩ : S_Point) wide8 high9 HS93 vt128 vt129 hc130) ?_)
             rintro _ W133 ⟨f131, A135, c136, s137, rfl, L132, HS134, HO138⟩
             refine ⟨_, rfl, ?_⟩
             refine seqL5 kr ?_
             refine nl (hK127 _ _ ?_)
             refine wp_seq_k (fun K140 hK141 => ?_)
             refine wp_seq_k fun K142 hK143 => rl ?_
             refine seqL2 kr ?_
             refine nl (hK143 _ _ ?_)
             have hq_ := ite_some h; clear h; rcases hq_ with ⟨c145, h⟩ | ⟨c145, h⟩
             · have c145 : vt129 ≠ 0 := c145
               refine wpRwI 77 kr (bne_iff_ne.mpr c145) ?_
               refine condT kr ?_
               refine wp_seq_k fun K146 hK147 => rl ?_
               refine seqL3 kr ?_
               refine nl (hK147 _ _ ?_)
               refine wp_ret ?_
               refine hr113 _ _ ?_
               refine hr83 _ _ ?_
               refine hret _ _ ?_
               have HS327 := HS134.cons_nil
               refine ends_still (v := Value.tuple #[.slice none 0 0, .int .i64 vt129]) kr kr ?_
               have HS332 := HS327.u4.u4.u4.u4
               have HS333 := HS332.drop
               have HS334 := HS333.drop
               have HS335 := HS334.drop
               have HS336 := HS335.drop
               replace h := JR292 _ h
               injection h with h
               injection h with h0_ h
               subst h0_ h
               exact ⟨f131, none, 0, [], rfl, (L45.trans (L60.trans (L91.trans L132))), HS336, (Own.nil _)⟩
             · have c145 : ¬ (vt129 ≠ 0) := c145
               refine wpRwI 77 (x := (vt129 != 0)) (v := false) kr (bne_eq_false_iff_eq.mpr (Decidable.of_not_not c145)) ?_
               refine condF kr ?_
               refine wp_skip ?_
               refine hK141 _ _ ?_
               refine wp_seq_k (fun K148 hK149 => ?_)
               refine wp_seq_k fun K150 hK151 => rl ?_
               refine seqL3 kr ?_
               refine nl (hK151 _ _ ?_)
               refine blockK (fun B152 hx153 hn154 hr155 ho156 hp157 => ?_)
               have hq_ := bind_some h; clear h; obtain ⟨o196, hv248, h⟩ := hq_
               have J249 : ∀ (f239 : FM) (s245 : Seg) (l244 : List S_Spot) (j243 : Nat → Value) (W241 : World) (a_ : Act), FM.le f131 f239 → some (l244) = some o196 → St t W241 f239 (s245 :: s98 :: s65 :: [(b12, .cells #[.int .i64 p1.X, .int .i64 p1.Y] 24 (0, 0))] :: H) → Own ty_Spot 42 f239 A135 c136 s245 l244 → l244.length = vt128.length → a_ = ⟨#[.agg #[iV p1.X, iV p1.Y], iV dx2, iV dy3, .slice A5 rates4.length c6, iV wide8, iV high9, pV b12 0, uV, uV, uV, uV, uV, (j94 0), (j94 1), .slice A63 vt56.length c64, iV vt57, .slice A96 out95.length c97, iV x101, iV (rd rates4 x101), .slice A135 l244.length c136, iV vt129, (j243 0), fV, .slice A5 rates4.length c6, iV (rates4.length : Int), fV, fV, iV dx2, iV dy3, iV (mx dx2 dy3), fV, fV, iV dx2, iV dy3, iV (mn dx2 dy3), fV, fV, fV, .slice A5 rates4.length c6, fV, .tuple #[.slice A63 vt56.length c64, iV vt57], .agg #[iV p1.X, iV p1.Y], iV wide8, iV high9, .tuple #[.slice A63 vt56.length c64, iV vt57], .slice A63 vt56.length c64, iV vt57, iV vt57, fV, uV, .slice A5 rates4.length c6, iV (rates4.length : Int), iV x101, tV, iV x101, pV b123 (of124 + (x101 : Int).toNat * 1), iV (rd rates4 x101), .tuple #[.slice A135 vt128.length c136, iV vt129], pV b12 0, iV p1.X, iV x101, iV dx2, iV (w64 (x101 * dx2)), iV (w64 (p1.X + (w64 (x101 * dx2)))), pV b12 1, iV p1.Y, iV x101, iV dy3, iV (w64 (x101 * dy3)), iV (w64 (p1.Y + (w64 (x101 * dy3)))), .agg #[iV (w64 (p1.X + (w64 (x101 * dx2)))), iV (w64 (p1.Y + (w64 (x101 * dy3))))], iV wide8, iV high9, .tuple #[.slice A135 vt128.length c136, iV vt129], (j243 1), iV vt129, iV vt129, fV, (j94 32), (j243 2), iV (vt128.length : Int), (j243 3), (j243 4), (j243 5), (j243 6), (j243 7), (j243 8), (j243 9), (j243 10), (j243 11), (j243 12), (j243 13), (j243 14), (j243 15), (j94 48), (j94 49), (j94 50), (j94 51), uV], []⟩ → K148 a_ W241 := by
                intro f239 s245 l244 j243 W241 a_ L240 hj250 HS242 HO246 HL247 hfr_; subst hfr_
                injection hj250 with hj250; subst hj250; try dsimp only at h
                refine hK149 _ _ ?_
                refine rl ?_
                have HS251 := HS242.u1
                obtain ⟨f252, L253, HS254, HR255, th256⟩ := (HO99.mono (L132.trans L240)).lend HS251
                obtain ⟨f257, L258, HS259, HR260, th261⟩ := (HO246.mono L253).lend HS254
                have hq_ := bind_some h; clear h; obtain ⟨vt262, hc263, h⟩ := hq_
                refine seqL2 kr ?_
                refine seqK rfl (does_call (f := 22) (args := #[.slice A96 out95.length c97, .slice A135 l244.length c136]) kr (optics_add.calls k A96 c97 A135 c136 out95 l244 HS259 (HR255.mono L258) HR260 vt262 hc263) ?_)
                rintro _ W266 ⟨f264, A268, c269, s270, rfl, L265, HS267, HO271⟩
                refine ⟨_, rfl, ?_⟩
                obtain ⟨f273, L274, HS275⟩ := th261 L265 HS267
                obtain ⟨f276, L277, HS278⟩ := th256 L274 HS275
                replace HO271 := HO271.flat (g := f276) (fun _ _ _ _ h_ => h_)
                refine seqL1 kr ?_
                refine nl ?_
                refine hn112 _ _ ?_
                refine hK109 _ _ ?_
                refine rl ?_
                refine seqL2 kr ?_
                refine nl ?_
                refine hK88 n89 _ _ (Nat.lt_succ_self _) ?_
                have HS300 := HS278.u4.u4.u4.u4.u4
                have HS301 := HS300.drop
                have HS302 := HS301.drop
                exact ⟨f276, A268, c269, s270, vt262, (w64 (x101 + 1)), (jL [(j94 0), (j94 1), iV x101, iV (rd rates4 x101), .slice A135 l244.length c136, iV vt129, (j243 0), tV, iV x101, .pointer (some ⟨b123, of124 + (x101 : Int).toNat * 1, none⟩), iV (rd rates4 x101), .tuple #[.slice A135 vt128.length c136, .int .i64 vt129], .pointer (some ⟨b12, 0, none⟩), iV p1.X, iV x101, iV dx2, iV (w64 (x101 * dx2)), iV (w64 (p1.X + (w64 (x101 * dx2)))), .pointer (some ⟨b12, 1, none⟩), iV p1.Y, iV x101, iV dy3, iV (w64 (x101 * dy3)), iV (w64 (p1.Y + (w64 (x101 * dy3)))), .agg #[.int .i64 (w64 (p1.X + (w64 (x101 * dx2)))), .int .i64 (w64 (p1.Y + (w64 (x101 * dy3))))], iV wide8, iV high9, .tuple #[.slice A135 vt128.length c136, .int .i64 vt129], (j243 1), iV vt129, iV vt129, fV, (j94 32), (j243 2), iV (vt128.length : Int), (j243 3), (j243 4), (j243 5), (j243 6), (j243 7), (j243 8), (j243 9), (j243 10), (j243 11), (j243 12), (j243 13), (j243 14), (j243 15), .slice A96 out95.length c97, .slice A135 l244.length c136, .slice A268 vt262.length c269, iV (w64 (x101 + 1))]), (L91.trans (L132.trans (L240.trans L277))), HS302, HO271, h, kr⟩
               clear h; have h := hv248; clear hv248
               refine loopK (fun n_ a_ w_ => ∃ (f200 : FM) (s206 : Seg) (l205 : List S_Spot) (x209 : Int) (j204 : Nat → Value), FM.le f131 f200 ∧ St t w_ f200 (s206 :: s98 :: s65 :: [(b12, .cells #[.int .i64 p1.X, .int .i64 p1.Y] 24 (0, 0))] :: H) ∧ Own ty_Spot 42 f200 A135 c136 s206 l205 ∧ l205.length = vt128.length ∧ optics_Trail.l1 k vt128 rates4 x101 n_ l205 x209 = some o196 ∧ a_ = ⟨#[.agg #[iV p1.X, iV p1.Y], iV dx2, iV dy3, .slice A5 rates4.length c6, iV wide8, iV high9, pV b12 0, uV, uV, uV, uV, uV, (j94 0), (j94 1), .slice A63 vt56.length c64, iV vt57, .slice A96 out95.length c97, iV x101, iV (rd rates4 x101), .slice A135 l205.length c136, iV vt129, (j204 0), fV, .slice A5 rates4.length c6, iV (rates4.length : Int), fV, fV, iV dx2, iV dy3, iV (mx dx2 dy3), fV, fV, iV dx2, iV dy3, iV (mn dx2 dy3), fV, fV, fV, .slice A5 rates4.length c6, fV, .tuple #[.slice A63 vt56.length c64, iV vt57], .agg #[iV p1.X, iV p1.Y], iV wide8, iV high9, .tuple #[.slice A63 vt56.length c64, iV vt57], .slice A63 vt56.length c64, iV vt57, iV vt57, fV, uV, .slice A5 rates4.length c6, iV (rates4.length : Int), iV x101, tV, iV x101, pV b123 (of124 + (x101 : Int).toNat * 1), iV (rd rates4 x101), .tuple #[.slice A135 vt128.length c136, iV vt129], pV b12 0, iV p1.X, iV x101, iV dx2, iV (w64 (x101 * dx2)), iV (w64 (p1.X + (w64 (x101 * dx2)))), pV b12 1, iV p1.Y, iV x101, iV dy3, iV (w64 (x101 * dy3)), iV (w64 (p1.Y + (w64 (x101 * dy3)))), .agg #[iV (w64 (p1.X + (w64 (x101 * dx2)))), iV (w64 (p1.Y + (w64 (x101 * dy3))))], iV wide8, iV high9, .tuple #[.slice A135 vt128.length c136, iV vt129], .slice A135 vt128.length c136, iV vt129, iV vt129, fV, (j94 32), .slice A135 vt128.length c136, iV (vt128.length : Int), iV x209, (j204 1), (j204 2), (j204 3), (j204 4), (j204 5), (j204 6), (j204 7), (j204 8), (j204 9), (j204 10), (j204 11), (j204 12), (j94 48), (j94 49), (j94 50), (j94 51), uV], []⟩) k ⟨f131, s137, vt128, 0, (jL [(j94 6), (j94 36), (j94 37), (j94 38), (j94 39), (j94 40), (j94 41), (j94 42), (j94 43), (j94 44), (j94 45), (j94 46), (j94 47)]), fL, HS134, HO138, rfl, h, kr⟩ ?_
               clear h
               rintro n199 _ W202 ⟨f200, s206, l205, x209, j204, L201, HS203, HO207, HL208, h, rfl⟩ K197 hK198
               obtain _ | n199 := n199
               · exact nomatch h
               simp only [optics_Trail.l1] at h
               refine wp_seq_k fun K210 hK211 => rl ?_
               refine seqL1 kr ?_
               refine nl (hK211 _ _ ?_)
               refine wp_seq_k (fun K212 hK213 => ?_)
               have hq_ := ite_some h; clear h; rcases hq_ with ⟨c215, h⟩ | ⟨c215, h⟩
               · have c215 : x209 < (vt128.length : Int) := c215
                 refine wpRwI 82 kr (decide_eq_true c215) ?_
                 refine condT kr ?_
                 refine wp_skip ?_
                 refine hK213 _ _ ?_
                 refine wp_seq_k (fun K216 hK217 => ?_)
                 refine blockK (fun B218 hx219 hn220 hr221 ho222 hp223 => ?_)
                 refine wp_seq_k fun K225 hK226 => rl ?_
                 refine seqL2 kr ?_
                 refine nl (hK226 _ _ ?_)
                 refine rl ?_
                 have hq_ := guard_some h; clear h; obtain ⟨c227, h⟩ := hq_
                 have c227 : 0 ≤ x209 := c227
                 have hq_ := guard_some h; clear h; obtain ⟨c228, h⟩ := hq_
                 have c228 : x209 < (l205.length : Int) := c228
                 obtain ⟨b232, of233, cs229, hA234, hr230, hc231⟩ := HO207.at (i := x209) c227 c228
                 obtain rfl := hr230
                 refine seqL2 kr ?_
                 refine seqK rfl (does_run (run_indexE hA234 (sz := 3) rfl Try.underlying33 kr (kv (.slice A135 l205.length c136)) (kv (.int .i64 x209)) c227 c228 W202) ?_)
                 refine seqL1 kr ?_
                 refine seqK rfl (does_run (run_load rfl Try.underlying38 rfl (kv (.pointer (some ⟨b232, of233 + (x209 : Int).toNat * 3 + 2, none⟩))) ((hc231 HS203) 2 (by decide))) ?_)
                 refine seqL2 kr ?_
                 refine seqK rfl (does_run (run_indexE hA234 (sz := 3) rfl Try.underlying33 kr (kv (.slice A135 l205.length c136)) (kv (.int .i64 x209)) c227 c228 W202) ?_)
                 refine seqL1 kr ?_
                 refine seqK rfl (does_putP (e := ty_Spot) (E := 42) (fo := 2) (vs := [.int .i64 (w64 (((rd l205 x209).Light) * (rd rates4 x101)))]) (u := (⟨(rd l205 x209).X, (rd l205 x209).Y, w64 (((rd l205 x209).Light) * (rd rates4 x101))⟩ : S_Spot)) (i := x209) rfl kr HO207 HS203 hA234 (kv (.pointer (some ⟨b232, of233 + (x209 : Int).toNat * 3 + 2, none⟩))) (kv (.int .i64 (w64 (((rd l205 x209).Light) * (rd rates4 x101))))) rfl rfl (ones rfl) (u0 := (rd l205 x209)) rfl rfl rfl (Nat.le_of_ble_eq_true rfl) (hc231 HS203) c227 c228 ?_)
                 intro W235 s236 HS237 HO238
                 refine seqRwS 19 (A := A135) (m := l205.length) (n := (l205.set (x209).toNat (⟨(rd l205 x209).X, (rd l205 x209).Y, w64 (((rd l205 x209).Light) * (rd rates4 x101))⟩ : S_Spot)).length) (c := c136) kr (List.length_set).symm ?_
                 refine seqRwS 84 (A := A135) (m := l205.length) (n := (l205.set (x209).toNat (⟨(rd l205 x209).X, (rd l205 x209).Y, w64 (((rd l205 x209).Light) * (rd rates4 x101))⟩ : S_Spot)).length) (c := c136) kr (List.length_set).symm ?_
                 refine nl ?_
                 refine hn220 _ _ ?_
                 refine hK217 _ _ ?_
                 refine rl ?_
                 refine seqL2 kr ?_
                 refine nl ?_
                 refine hK198 n199 _ _ (Nat.lt_succ_self _) ?_
                 exact ⟨f200, s236, (l205.set (x209).toNat (⟨(rd l205 x209).X, (rd l205 x209).Y, w64 (((rd l205 x209).Light) * (rd rates4 x101))⟩ : S_Spot)), (w64 (x209 + 1)), (jL [iV x209, tV, iV x209, .slice A135 (l205.set (x209).toNat (⟨(rd l205 x209).X, (rd l205 x209).Y, w64 (((rd l205 x209).Light) * (rd rates4 x101))⟩ : S_Spot)).length c136, iV x209, .pointer (some ⟨b232, of233 + (x209 : Int).toNat * 3, none⟩), .pointer (some ⟨b232, of233 + (x209 : Int).toNat * 3 + 2, none⟩), iV ((rd l205 x209).Light), iV (rd rates4 x101), iV (w64 (((rd l205 x209).Light) * (rd rates4 x101))), .pointer (some ⟨b232, of233 + (x209 : Int).toNat * 3, none⟩), .pointer (some ⟨b232, of233 + (x209 : Int).toNat * 3 + 2, none⟩), iV (w64 (x209 + 1))]), L201, HS237, HO238, (List.length_set.trans HL208), h, kr⟩
               · have c215 : ¬ (x209 < (vt128.length : Int)) := c215
                 refine wpRwI 82 kr (decide_eq_false c215) ?_
                 refine condF kr ?_
                 refine wp_exit ?_
                 refine hx153 _ _ ?_
                 exact J249 f200 s206 l205 (jL [(j204 0), .slice A135 vt128.length c136, .slice A135 vt128.length c136, iV x209, fV, (j204 2), (j204 3), (j204 4), (j204 5), (j204 6), (j204 7), (j204 8), (j204 9), (j204 10), (j204 11), (j204 12)]) W202 _ L201 h HS203 HO207 HL208 kr
           · have c107 : ¬ (x101 < (rates4.length : Int)) := c107
             refine wpRwI 53 kr (decide_eq_false c107) ?_
             refine condF kr ?_
             refine wp_exit ?_
             refine hx81 _ _ ?_
             exact J291 f90 A96 c97 s98 out95 (jL [(j94 0), (j94 1), (j94 2), (j94 3), (j94 4), (j94 5), (j94 6), iV x101, fV, (j94 8), (j94 9), (j94 10), (j94 11), (j94 12), (j94 13), (j94 14), (j94 15), (j94 16), (j94 17), (j94 18), (j94 19), (j94 20), (j94 21), (j94 22), (j94 23), (j94 24), (j94 25), (j94 26), (j94 27), (j94 28), (j94 29), (j94 30), (j94 31), (j94 32), (j94 33), (j94 34), (j94 35), (j94 36), (j94 37), (j94 38), (j94 39), (j94 40), (j94 41), (j94 42), (j94 43), (j94 44), (j94 45), (j94 46), (j94 47), (j94 48), (j94 49), (j94 50), (j94 51)]) W92 _ L91 h HS93 HO99 kr

set_option maxRecDepth 100000 in
set_option maxHeartbeats 4000000 in
theorem spykeep3_spreads.calls (k : Nat)   {t w : World} {f : FM} {H : List Seg} (HS : St t w f (H)) (rr1 : Bool) (h : spykeep3_spreads k = some rr1) :
    Calls Try.prog 9 #[] w (fun e w' => ∃ (g : FM), e = .returned (Value.bool rr1) ∧ FM.le f g ∧ St t w' g (H)) := by
 unfold spykeep3_spreads at h
 refine enter Try.func9 rfl (tm := #[uV, uV, uV, uV, uV, uV, uV, uV, uV, uV, uV, uV, uV, uV, uV, uV, uV, uV, uV, uV, uV, uV]) kr ?_
 intro B hret hnor hnp
 refine wp_seq_k fun K1 hK2 => rl ?_
 refine seqL1 kr ?_
 refine nl (hK2 _ _ ?_)
 refine wp_seq_k fun K3 hK4 => rl ?_
 have hq_ := bind_some h; clear h; obtain ⟨⟨vt5, vt6⟩, hc7, h⟩ := hq_
 refine seqL1 kr ?_
 refine seqK rfl (does_call (f := 21) (args := #[.agg #[.int .i64 128, .int .i64 128], .int .i64 1, .int .i64 1]) kr (optics_Point.calls k (⟨128, 128⟩ : S_Point) 1 1 HS vt5 vt6 hc7) ?_)
 rintro _ W10 ⟨f8, A12, c13, s14, rfl, L9, HS11, HO15⟩
 refine ⟨_, rfl, ?_⟩
 refine seqL5 kr ?_
 refine nl (hK4 _ _ ?_)
 refine wp_seq_k fun K17 hK18 => rl ?_
 refine seqL3 kr ?_
 have hq_ := ite_some h; clear h; rcases hq_ with ⟨c19, h⟩ | ⟨c19, h⟩
 · have c19 : vt6 = 0 := c19
   refine seqRwI 9 kr (beq_iff_eq.mpr c19) ?_
   refine seqRwI 10 kr (beq_iff_eq.mpr c19) ?_
   refine seqL5 kr ?_
   have hq_ := ite_some h; clear h; rcases hq_ with ⟨c20, h⟩ | ⟨c20, h⟩
   · have c20 : (vt5.length : Int) = 9 := c20
     refine seqRwI 13 kr (beq_iff_eq.mpr c20) ?_
     refine seqRwI 14 kr (beq_iff_eq.mpr c20) ?_
     refine seqRwI 15 kr (beq_iff_eq.mpr c20) ?_
     have hq_ := guard_some h; clear h; obtain ⟨c21, h⟩ := hq_
     have c21 : 4 < (vt5.length : Int) := c21
     obtain ⟨b25, of26, cs22, hA27, hr23, hc24⟩ := HO15.at (i := 4) (by decide) c21
     obtain rfl := hr23
     refine seqL1 kr ?_
     refine seqG kr (does_run (run_indexE hA27 (sz := 3) rfl Try.underlying33 kr (kv (.slice A12 vt5.length c13)) (kv (.int .i64 4)) (by decide) c21 W10) ?_)
     refine seqG kr (does_run (run_loadN (n := 3) rfl Try.underlying42 rfl kr (kv (.pointer (some ⟨b25, of26 + (4 : Int).toNat * 3, none⟩))) (cs := [.int .i64 ((rd vt5 4).X), .int .i64 ((rd vt5 4).Y), .int .i64 ((rd vt5 4).Light)]) rfl (fun j_ hj_ => ((hc24 HS11) j_ hj_))) ?_)
     refine seqL1 kr ?_
     refine seqG kr (does_run (run_eqS (b := ((((rd vt5 4).X) == 0) && ((((rd vt5 4).Y) == 0) && ((((rd vt5 4).Light) == 9437184) && true)))) rfl (kv (.agg #[.int .i64 ((rd vt5 4).X), .int .i64 ((rd vt5 4).Y), .int .i64 ((rd vt5 4).Light)])) (kv (.agg #[.int .i64 0, .int .i64 0, .int .i64 9437184])) kr kr W10) ?_)
     refine seqL2 kr ?_
     refine nl (hK18 _ _ ?_)
     refine wp_ret ?_
     refine hret _ _ ?_
     refine ends_still (v := Value.bool ((((rd vt5 4).X) == 0) && ((((rd vt5 4).Y) == 0) && ((((rd vt5 4).Light) == 9437184) && true)))) kr kr ?_
     have HS28 := HS11.drop
     injection h with h
     subst h
     exact ⟨f8, rfl, L9, HS28⟩
   · have c20 : ¬ ((vt5.length : Int) = 9) := c20
     refine seqRwI 13 kr (beq_eq_false_iff_ne.mpr c20) ?_
     refine seqRwI 14 kr (beq_eq_false_iff_ne.mpr c20) ?_
     refine seqRwI 15 kr (beq_eq_false_iff_ne.mpr c20) ?_
     refine seqL7 kr ?_
     refine nl (hK18 _ _ ?_)
     refine wp_ret ?_
     refine hret _ _ ?_
     refine ends_still (v := Value.bool false) kr kr ?_
     have HS29 := HS11.drop
     injection h with h
     subst h
     exact ⟨f8, rfl, L9, HS29⟩
 · have c19 : ¬ (vt6 = 0) := c19
   refine seqRwI 9 kr (beq_eq_false_iff_ne.mpr c19) ?_
   refine seqRwI 10 kr (beq_eq_false_iff_ne.mpr c19) ?_
   refine seqL12 kr ?_
   refine nl (hK18 _ _ ?_)
   refine wp_ret ?_
   refine hret _ _ ?_
   refine ends_still (v := Value.bool false) kr kr ?_
   have HS30 := HS11.drop
   injection h with h
   subst h
   exact ⟨f8, rfl, L9, HS30⟩

set_option maxRecDepth 100000 in
set_option maxHeartbeats 4000000 in
theorem spykeep3_total.calls (k : Nat) (A2 : Option Addr) (c3 : Nat) (l1 : List S_Spot) {t w : World} {f : FM} {H : List Seg} (HS : St t w f (H)) (HR4 : SlR ty_Spot f A2 c3 l1) (rr1 : Int) (h : spykeep3_total k l1 = some rr1) :
    Calls Try.prog 10 #[.slice A2 l1.length c3] w (fun e w' => ∃ (g : FM), e = .returned (Value.int .i64 rr1) ∧ FM.le f g ∧ St t w' g (H)) := by
 unfold spykeep3_total at h
 refine enter Try.func10 rfl (tm := #[.slice A2 l1.length c3, uV, uV, uV, uV, uV, uV, uV, uV, uV, uV, uV, uV, uV, uV, uV, uV]) kr ?_
 intro B hret hnor hnp
 refine wp_seq_k fun K5 hK6 => rl ?_
 refine seqL1 kr ?_
 refine nl (hK6 _ _ ?_)
 refine wp_seq_k (fun K7 hK8 => ?_)
 refine wp_seq_k fun K9 hK10 => rl ?_
 refine seqL3 kr ?_
 refine nl (hK10 _ _ ?_)
 refine blockK (fun B11 hx12 hn13 hr14 ho15 hp16 => ?_)
 have hq_ := bind_some h; clear h; obtain ⟨o17, hv64, h⟩ := hq_
 have J65 : ∀ (f58 : FM) (n63 : Int) (j62 : Nat → Value) (W60 : World) (a_ : Act), FM.le f f58 → some (n63) = some o17 → St t W60 f58 (H) → a_ = ⟨#[.slice A2 l1.length c3, uV, iV n63, uV, (j62 0), .slice A2 l1.length c3, iV (l1.length : Int), (j62 1), (j62 2), (j62 3), (j62 4), (j62 5), (j62 6), (j62 7), (j62 8), (j62 9), uV], []⟩ → K7 a_ W60 := by
  intro f58 n63 j62 W60 a_ L59 hj66 HS61  hfr_; subst hfr_
  injection hj66 with hj66; subst hj66; try dsimp only at h
  refine hK8 _ _ ?_
  refine wp_seq_k fun K68 hK69 => rl ?_
  refine seqL2 kr ?_
  refine nl (hK69 _ _ ?_)
  refine wp_ret ?_
  refine hret _ _ ?_
  refine ends_still (v := Value.int .i64 n63) kr kr ?_
  injection h with h
  subst h
  exact ⟨f58, rfl, L59, HS61⟩
 clear h; have h := hv64; clear hv64
 refine loopK (fun n_ a_ w_ => ∃ (f21 : FM) (n26 : Int) (x27 : Int) (j25 : Nat → Value), FM.le f f21 ∧ St t w_ f21 (H) ∧ spykeep3_total.l0 k l1 n_ n26 x27 = some o17 ∧ a_ = ⟨#[.slice A2 l1.length c3, uV, iV n26, uV, (j25 0), .slice A2 l1.length c3, iV (l1.length : Int), iV x27, (j25 1), (j25 2), (j25 3), (j25 4), (j25 5), (j25 6), (j25 7), (j25 8), uV], []⟩) k ⟨f, 0, 0, (jL []), fL, HS, h, kr⟩ ?_
 clear h
 rintro n20 _ W23 ⟨f21, n26, x27, j25, L22, HS24, h, rfl⟩ K18 hK19
 obtain _ | n20 := n20
 · exact nomatch h
 simp only [spykeep3_total.l0] at h
 refine wp_seq_k fun K28 hK29 => rl ?_
 refine seqL1 kr ?_
 refine nl (hK29 _ _ ?_)
 refine wp_seq_k (fun K30 hK31 => ?_)
 have hq_ := ite_some h; clear h; rcases hq_ with ⟨c33, h⟩ | ⟨c33, h⟩
 · have c33 : x27 < (l1.length : Int) := c33
   refine wpRwI 8 kr (decide_eq_true c33) ?_
   refine condT kr ?_
   refine wp_skip ?_
   refine hK31 _ _ ?_
   refine wp_seq_k (fun K34 hK35 => ?_)
   refine blockK (fun B36 hx37 hn38 hr39 ho40 hp41 => ?_)
   refine wp_seq_k fun K43 hK44 => rl ?_
   have hq_ := guard_some h; clear h; obtain ⟨c45, h⟩ := hq_
   have c45 : 0 ≤ x27 := c45
   obtain ⟨b49, of50, cs46, hA51, hr47, hc48⟩ := (HR4.mono L22).at (i := x27) c45 c33
   obtain rfl := hr47
   refine seqK rfl (does_run (run_indexE hA51 (sz := 3) rfl Try.underlying33 kr (kv (.slice A2 l1.length c3)) (kv (.int .i64 x27)) c45 c33 W23) ?_)
   refine seqK rfl (does_run (run_loadN (n := 3) rfl Try.underlying42 rfl kr (kv (.pointer (some ⟨b49, of50 + (x27 : Int).toNat * 3, none⟩))) (cs := [.int .i64 ((rd l1 x27).X), .int .i64 ((rd l1 x27).Y), .int .i64 ((rd l1 x27).Light)]) rfl (fun j_ hj_ => ((hc48 fL HS24) j_ hj_))) ?_)
   refine seqK rfl (does_alloc (z := Value.agg #[.int .i64 0, .int .i64 0, .int .i64 0]) (cs := #[.int .i64 0, .int .i64 0, .int .i64 0]) rfl kr rfl HS24 ?_)
   intro b52 W53 HS54
   refine seqK rfl (does_storeA (vs := [.int .i64 ((rd l1 x27).X), .int .i64 ((rd l1 x27).Y), .int .i64 ((rd l1 x27).Light)]) rfl kr kr kr rfl (ones rfl) HS54 kr ?_)
   intro W56 HS57
   refine nl (hK44 _ _ ?_)
   refine rl ?_
   refine seqL2 kr ?_
   refine seqK rfl (does_run (run_load rfl Try.underlying38 rfl (kv (.pointer (some ⟨b52, 2, none⟩))) (HS57.cell 2)) ?_)
   refine seqL2 kr ?_
   refine nl ?_
   refine hn38 _ _ ?_
   refine hK35 _ _ ?_
   refine rl ?_
   refine seqL2 kr ?_
   refine nl ?_
   refine hK19 n20 _ _ (Nat.lt_succ_self _) ?_
   have HS67 := HS57.drop
   exact ⟨f21, (w64 (n26 + ((rd l1 x27).Light))), (w64 (x27 + 1)), (jL [.pointer (some ⟨b52, 0, none⟩), tV, .pointer (some ⟨b49, of50 + (x27 : Int).toNat * 3, none⟩), (ag_Spot (rd l1 x27)), iV n26, .pointer (some ⟨b52, 2, none⟩), iV ((rd l1 x27).Light), iV (w64 (n26 + ((rd l1 x27).Light))), iV (w64 (x27 + 1))]), L22, HS67, h, kr⟩
 · have c33 : ¬ (x27 < (l1.length : Int)) := c33
   refine wpRwI 8 kr (decide_eq_false c33) ?_
   refine condF kr ?_
   refine wp_exit ?_
   refine hx12 _ _ ?_
   exact J65 f21 n26 (jL [(j25 0), iV x27, fV, (j25 2), (j25 3), (j25 4), (j25 5), (j25 6), (j25 7), (j25 8)]) W23 _ L22 h HS24 kr

set_option maxRecDepth 100000 in
set_option maxHeartbeats 4000000 in
theorem slices_Grow_Spot.calls (k : Nat)  (n1 : Int) {t w : World} {f : FM} {H : List Seg} (HS : St t w f (H)) (rr1 : List S_Spot) (h : slices_Grow_Spot k n1 = some rr1) :
    Calls Try.prog 23 #[.slice none 0 0, .int .i64 n1] w (fun e w' => ∃ (g : FM) (A34 : Option Addr) (c35 : Nat) (s36 : Seg), e = .returned (Value.slice A34 rr1.length c35) ∧ FM.le f g ∧ St t w' g (s36 :: H) ∧ Own ty_Spot 42 g A34 c35 s36 rr1) := by
 unfold slices_Grow_Spot at h
 refine enter Try.func23 rfl (tm := #[.slice none 0 0, iV n1, uV, uV, uV, uV, uV, uV, uV, uV, uV, uV, uV, uV, uV, uV, uV, uV, uV, uV, uV, uV, uV, uV, uV, uV, uV]) kr ?_
 intro B hret hnor hnp
 refine wp_seq_k fun K2 hK3 => rl ?_
 refine seqL1 kr ?_
 refine nl (hK3 _ _ ?_)
 refine wp_seq_k (fun K4 hK5 => ?_)
 refine wp_seq_k fun K6 hK7 => rl ?_
 refine seqL2 kr ?_
 refine nl (hK7 _ _ ?_)
 have hq_ := ite_some h; clear h; rcases hq_ with ⟨c9, h⟩ | ⟨c9, h⟩
 · have c9 : n1 < 0 := c9
   refine wpRwI 6 kr (decide_eq_true c9) ?_
   refine condT kr ?_
   exact nomatch h
 · have c9 : ¬ (n1 < 0) := c9
   refine wpRwI 6 kr (decide_eq_false c9) ?_
   refine condF kr ?_
   refine wp_skip ?_
   refine hK5 _ _ ?_
   refine wp_seq_k (fun K10 hK11 => ?_)
   refine wp_seq_k fun K12 hK13 => rl ?_
   refine seqL8 kr ?_
   refine nl (hK13 _ _ ?_)
   refine wp_seq_k fun K14 hK15 => rl ?_
   refine seqL2 kr ?_
   refine nl (hK15 _ _ ?_)
   have hq_ := ite_some h; clear h; rcases hq_ with ⟨c17, h⟩ | ⟨c17, h⟩
   · have c17 : (w64 (n1 - (w64 (0 - 0)))) > 0 := c17
     refine wpRwI 16 kr (decide_eq_true c17) ?_
     refine condT kr ?_
     refine rl ?_
     refine seqL3 kr ?_
     refine seqK rfl (does_run (run_cutH (e := ty_Spot) (xs := []) rfl Try.underlying33 kr (kv (.slice none 0 0)) (kv (.int .i64 0)) (by decide) (by decide) (Nat.le_refl 0) w) ?_)
     have hq_ := guard_some h; clear h; obtain ⟨c18, h⟩ := hq_
     have c18 : 0 < (w64 (n1 - (w64 (0 - 0)))) := c18
     have hq_ := guard_some h; clear h; obtain ⟨c19, h⟩ := hq_
     have c19 : (w64 (n1 - (w64 (0 - 0)))) * 24 ≤ 140737488355328 := c19
     refine seqL1 kr ?_
     refine seqK rfl (does_growN (e := ty_Spot) (E := 42) (u := (⟨0, 0, 0⟩ : S_Spot)) (n := w64 (n1 - (w64 (0 - 0)))) rfl (kv (.slice none 0 0)) (kv (.int .i64 (w64 (n1 - (w64 (0 - 0)))))) Try.underlying33 Try.underlying3 inf42 c18 c19 (by omega) rfl HS ?_)
     intro b20 c21 W22 s23 HS24 HO25
     have hq_ := guard_some h; clear h; obtain ⟨c27, h⟩ := hq_
     have c27 : 0 ≤ ((List.replicate (w64 (n1 - (w64 (0 - 0)))).toNat ((⟨0, 0, 0⟩ : S_Spot) : S_Spot)).length : Int) := c27
     refine seqL2 kr ?_
     refine seqK rfl (does_run (run_cutH (e := ty_Spot) (xs := (List.replicate (w64 (n1 - (w64 (0 - 0)))).toNat ((⟨0, 0, 0⟩ : S_Spot) : S_Spot))) rfl Try.underlying33 kr (kv (.slice (some ⟨b20, 0, none⟩) (List.replicate (w64 (n1 - (w64 (0 - 0)))).toNat ((⟨0, 0, 0⟩ : S_Spot) : S_Spot)).length c21)) (kv (.int .i64 0)) (by decide) c27 HO25.le W22) ?_)
     refine seqL1 kr ?_
     refine nl (hK11 _ _ ?_)
     refine wp_seq_k fun K28 hK29 => rl ?_
     refine seqL2 kr ?_
     refine nl (hK29 _ _ ?_)
     refine wp_ret ?_
     refine hret _ _ ?_
     refine ends_still (v := Value.slice (some ⟨b20, 0, none⟩) ((List.replicate (w64 (n1 - (w64 (0 - 0)))).toNat ((⟨0, 0, 0⟩ : S_Spot) : S_Spot)).take (0 : Int).toNat).length c21) kr kr ?_
     injection h with h
     subst h
     exact ⟨f, (some ⟨b20, 0, none⟩), c21, s23, rfl, FM.le.refl _, HS24, (HO25.take (0 : Int).toNat)⟩
   · have c17 : ¬ ((w64 (n1 - (w64 (0 - 0)))) > 0) := c17
     refine wpRwI 16 kr (decide_eq_false c17) ?_
     refine condF kr ?_
     refine wp_skip ?_
     refine hK11 _ _ ?_
     refine wp_seq_k fun K30 hK31 => rl ?_
     refine seqL2 kr ?_
     refine nl (hK31 _ _ ?_)
     refine wp_ret ?_
     refine hret _ _ ?_
     have HS32 := HS.cons_nil
     refine ends_still (v := Value.slice none 0 0) kr kr ?_
     injection h with h
     subst h
     exact ⟨f, none, 0, [], rfl, FM.le.refl _, HS32, (Own.nil _)⟩

set_option maxRecDepth 100000 in
set_option maxHeartbeats 4000000 in
theorem slices_Concat_Spot.calls (k : Nat) (A2 : Option Addr) (c3 : Nat) (slices1 : List (List S_Spot)) {t w : World} {f : FM} {H : List Seg} (HS : St t w f (H)) (HR4 : SlR (tSl ty_Spot) f A2 c3 slices1) (rr1 : List S_Spot) (h : slices_Concat_Spot k slices1 = some rr1) :
    Calls Try.prog 11 #[.slice A2 slices1.length c3] w (fun e w' => ∃ (g : FM) (A201 : Option Addr) (c202 : Nat) (s203 : Seg), e = .returned (Value.slice A201 rr1.length c202) ∧ FM.le f g ∧ St t w' g (s203 :: H) ∧ Own ty_Spot 42 g A201 c202 s203 rr1) := by
 unfold slices_Concat_Spot at h
 refine enter Try.func11 rfl (tm := #[.slice A2 slices1.length c3, uV, uV, uV, uV, uV, uV, uV, uV, uV, uV, uV, uV, uV, uV, uV, uV, uV, uV, uV, uV, uV, uV, uV, uV, uV, uV, uV, uV, uV, uV, uV, uV, uV, uV, uV]) kr ?_
 intro B hret hnor hnp
 refine wp_seq_k fun K5 hK6 => rl ?_
 refine seqL1 kr ?_
 refine nl (hK6 _ _ ?_)
 refine wp_seq_k fun K7 hK8 => rl ?_
 refine seqL1 kr ?_
 refine nl (hK8 _ _ ?_)
 refine wp_seq_k (fun K9 hK10 => ?_)
 refine wp_seq_k fun K11 hK12 => rl ?_
 refine seqL3 kr ?_
 refine nl (hK12 _ _ ?_)
 refine blockK (fun B13 hx14 hn15 hr16 ho17 hp18 => ?_)
 have hq_ := bind_some h; clear h; obtain ⟨o19, hv67, h⟩ := hq_
 have J68 : ∀ (f61 : FM) (size66 : Int) (j65 : Nat → Value) (W63 : World) (a_ : Act), FM.le f f61 → some (size66) = some o19 → St t W63 f61 (H) → a_ = ⟨#[.slice A2 slices1.length c3, uV, .slice none 0 0, iV size66, uV, (j65 0), uV, uV, uV, .slice A2 slices1.length c3, iV (slices1.length : Int), (j65 1), (j65 2), (j65 3), (j65 4), (j65 5), (j65 6), (j65 7), (j65 8), (j65 9), (j65 10), (j65 11), (j65 12), uV, uV, uV, uV, uV, uV, uV, uV, uV, uV, uV, uV, uV], []⟩ → K9 a_ W63 := by
  intro f61 size66 j65 W63 a_ L62 hj69 HS64  hfr_; subst hfr_
  injection hj69 with hj69; subst hj69; try dsimp only at h
  refine hK10 _ _ ?_
  refine wp_seq_k fun K70 hK71 => rl ?_
  have hq_ := bind_some h; clear h; obtain ⟨vt72, hc73, h⟩ := hq_
  refine seqL1 kr ?_
  refine seqK rfl (does_call (f := 23) (args := #[.slice none 0 0, .int .i64 size66]) kr (slices_Grow_Spot.calls k size66 HS64 vt72 hc73) ?_)
  rintro _ W76 ⟨f74, A78, c79, s80, rfl, L75, HS77, HO81⟩
  refine ⟨_, rfl, ?_⟩
  refine seqL1 kr ?_
  refine nl (hK71 _ _ ?_)
  refine wp_seq_k (fun K83 hK84 => ?_)
  refine wp_seq_k fun K85 hK86 => rl ?_
  refine seqL3 kr ?_
  refine nl (hK86 _ _ ?_)
  refine blockK (fun B87 hx88 hn89 hr90 ho91 hp92 => ?_)
  have hq_ := bind_some h; clear h; obtain ⟨o139, hv196, h⟩ := hq_
  have J197 : ∀ (f186 : FM) (A192 : Option Addr) (c193 : Nat) (s194 : Seg) (newslice191 : List S_Spot) (j190 : Nat → Value) (W188 : World) (a_ : Act), FM.le f74 f186 → some (newslice191) = some o139 → St t W188 f186 (s194 :: H) → Own ty_Spot 42 f186 A192 c193 s194 newslice191 → a_ = ⟨#[.slice A2 slices1.length c3, uV, .slice none 0 0, iV size66, uV, (j65 0), .slice A192 newslice191.length c193, uV, (j190 0), .slice A2 slices1.length c3, iV (slices1.length : Int), (j65 1), (j65 2), (j65 3), (j65 4), (j65 5), (j65 6), (j65 7), (j65 8), (j65 9), (j65 10), (j65 11), (j65 12), iV size66, (j190 1), .slice A2 slices1.length c3, iV (slices1.length : Int), (j190 2), (j190 3), (j190 4), (j190 5), (j190 6), (j190 7), (j190 8), (j190 9), uV], []⟩ → K83 a_ W188 := by
   intro f186 A192 c193 s194 newslice191 j190 W188 a_ L187 hj198 HS189 HO195 hfr_; subst hfr_
   injection hj198 with hj198; subst hj198; try dsimp only at h
   refine hK84 _ _ ?_
   refine wp_seq_k fun K199 hK200 => rl ?_
   refine seqL2 kr ?_
   refine nl (hK200 _ _ ?_)
   refine wp_ret ?_
   refine hret _ _ ?_
   refine ends_still (v := Value.slice A192 newslice191.length c193) kr kr ?_
   injection h with h
   subst h
   exact ⟨f186, A192, c193, s194, rfl, (L62.trans (L75.trans L187)), HS189, HO195⟩
  clear h; have h := hv196; clear hv196
  refine loopK (fun n_ a_ w_ => ∃ (f143 : FM) (A149 : Option Addr) (c150 : Nat) (s151 : Seg) (newslice148 : List S_Spot) (x153 : Int) (j147 : Nat → Value), FM.le f74 f143 ∧ St t w_ f143 (s151 :: H) ∧ Own ty_Spot 42 f143 A149 c150 s151 newslice148 ∧ slices_Concat_Spot.l1 k slices1 n_ newslice148 x153 = some o139 ∧ a_ = ⟨#[.slice A2 slices1.length c3, uV, .slice none 0 0, iV size66, uV, (j65 0), .slice A149 newslice148.length c150, uV, (j147 0), .slice A2 slices1.length c3, iV (slices1.length : Int), (j65 1), (j65 2), (j65 3), (j65 4), (j65 5), (j65 6), (j65 7), (j65 8), (j65 9), (j65 10), (j65 11), (j65 12), iV size66, .slice A78 vt72.length c79, .slice A2 slices1.length c3, iV (slices1.length : Int), iV x153, (j147 1), (j147 2), (j147 3), (j147 4), (j147 5), (j147 6), (j147 7), uV], []⟩) k ⟨f74, A78, c79, s80, vt72, 0, (jL []), fL, HS77, HO81, h, kr⟩ ?_
  clear h
  rintro n142 _ W145 ⟨f143, A149, c150, s151, newslice148, x153, j147, L144, HS146, HO152, h, rfl⟩ K140 hK141
  obtain _ | n142 := n142
  · exact nomatch h
  simp only [slices_Concat_Spot.l1] at h
  refine wp_seq_k fun K154 hK155 => rl ?_
  refine seqL1 kr ?_
  refine nl (hK155 _ _ ?_)
  refine wp_seq_k (fun K156 hK157 => ?_)
  have hq_ := ite_some h; clear h; rcases hq_ with ⟨c159, h⟩ | ⟨c159, h⟩
  · have c159 : x153 < (slices1.length : Int) := c159
    refine wpRwI 28 kr (decide_eq_true c159) ?_
    refine condT kr ?_
    refine wp_skip ?_
    refine hK157 _ _ ?_
    refine wp_seq_k (fun K160 hK161 => ?_)
    refine blockK (fun B162 hx163 hn164 hr165 ho166 hp167 => ?_)
    refine wp_seq_k fun K169 hK170 => rl ?_
    have hq_ := guard_some h; clear h; obtain ⟨c171, h⟩ := hq_
    have c171 : 0 ≤ x153 := c171
    obtain ⟨b175, of176, cs172, hA177, hr173, hc174⟩ := (HR4.mono (L62.trans (L75.trans L144))).at (i := x153) c171 c159
    obtain ⟨A178, c178, rfl, HR178⟩ := hr173
    refine seqK rfl (does_run (run_indexE hA177 (sz := 1) rfl Try.underlying56 kr (kv (.slice A2 slices1.length c3)) (kv (.int .i64 x153)) c171 c159 W145) ?_)
    refine seqK rfl (does_run (run_load rfl Try.underlying33 rfl (kv (.pointer (some ⟨b175, of176 + (x153 : Int).toNat * 1, none⟩))) ((hc174 fL HS146) 0 (by decide))) ?_)
    refine seqL1 kr ?_
    refine nl (hK170 _ _ ?_)
    refine rl ?_
    have hq_ := guard_some h; clear h; obtain ⟨c179, h⟩ := hq_
    have c179 : (newslice148.length + (rd slices1 x153).length) * 24 ≤ 140737488355328 := c179
    refine seqL2 kr ?_
    refine seqK rfl (does_append (e := ty_Spot) (E := 42) (xs := newslice148) (ys := (rd slices1 x153)) rfl (kv (.slice A149 newslice148.length c150)) (kv (.slice A178 (rd slices1 x153).length c178)) Try.underlying33 inf42 HO152 HS146 (HR178.rc HS146) c179 (lim63 c179 (by decide)) ?_)
    intro A180 c181 s182 W183 HS184 HO185
    refine seqL1 kr ?_
    refine nl ?_
    refine hn164 _ _ ?_
    refine hK161 _ _ ?_
    refine rl ?_
    refine seqL2 kr ?_
    refine nl ?_
    refine hK141 n142 _ _ (Nat.lt_succ_self _) ?_
    exact ⟨f143, A180, c181, s182, (newslice148 ++ (rd slices1 x153)), (w64 (x153 + 1)), (jL [.slice A178 (rd slices1 x153).length c178, tV, .pointer (some ⟨b175, of176 + (x153 : Int).toNat * 1, none⟩), .slice A178 (rd slices1 x153).length c178, .slice A149 newslice148.length c150, .slice A178 (rd slices1 x153).length c178, .slice A180 (newslice148 ++ (rd slices1 x153)).length c181, iV (w64 (x153 + 1))]), L144, HS184, HO185, h, kr⟩
  · have c159 : ¬ (x153 < (slices1.length : Int)) := c159
    refine wpRwI 28 kr (decide_eq_false c159) ?_
    refine condF kr ?_
    refine wp_exit ?_
    refine hx88 _ _ ?_
    exact J197 f143 A149 c150 s151 newslice148 (jL [(j147 0), .slice A78 vt72.length c79, iV x153, fV, (j147 2), (j147 3), (j147 4), (j147 5), (j147 6), (j147 7)]) W145 _ L144 h HS146 HO152 kr
 clear h; have h := hv67; clear hv67
 refine loopK (fun n_ a_ w_ => ∃ (f23 : FM) (size28 : Int) (x29 : Int) (j27 : Nat → Value), FM.le f f23 ∧ St t w_ f23 (H) ∧ slices_Concat_Spot.l0 k slices1 n_ size28 x29 = some o19 ∧ a_ = ⟨#[.slice A2 slices1.length c3, uV, .slice none 0 0, iV size28, uV, (j27 0), uV, uV, uV, .slice A2 slices1.length c3, iV (slices1.length : Int), iV x29, (j27 1), (j27 2), (j27 3), (j27 4), (j27 5), (j27 6), (j27 7), (j27 8), (j27 9), (j27 10), (j27 11), uV, uV, uV, uV, uV, uV, uV, uV, uV, uV, uV, uV, uV], []⟩) k ⟨f, 0, 0, (jL []), fL, HS, h, kr⟩ ?_
 clear h
 rintro n22 _ W25 ⟨f23, size28, x29, j27, L24, HS26, h, rfl⟩ K20 hK21
 obtain _ | n22 := n22
 · exact nomatch h
 simp only [slices_Concat_Spot.l0] at h
 refine wp_seq_k fun K30 hK31 => rl ?_
 refine seqL1 kr ?_
 refine nl (hK31 _ _ ?_)
 refine wp_seq_k (fun K32 hK33 => ?_)
 have hq_ := ite_some h; clear h; rcases hq_ with ⟨c35, h⟩ | ⟨c35, h⟩
 · have c35 : x29 < (slices1.length : Int) := c35
   refine wpRwI 12 kr (decide_eq_true c35) ?_
   refine condT kr ?_
   refine wp_skip ?_
   refine hK33 _ _ ?_
   refine wp_seq_k (fun K36 hK37 => ?_)
   refine blockK (fun B38 hx39 hn40 hr41 ho42 hp43 => ?_)
   refine wp_seq_k fun K45 hK46 => rl ?_
   have hq_ := guard_some h; clear h; obtain ⟨c47, h⟩ := hq_
   have c47 : 0 ≤ x29 := c47
   obtain ⟨b51, of52, cs48, hA53, hr49, hc50⟩ := (HR4.mono L24).at (i := x29) c47 c35
   obtain ⟨A54, c54, rfl, HR54⟩ := hr49
   refine seqK rfl (does_run (run_indexE hA53 (sz := 1) rfl Try.underlying56 kr (kv (.slice A2 slices1.length c3)) (kv (.int .i64 x29)) c47 c35 W25) ?_)
   refine seqK rfl (does_run (run_load rfl Try.underlying33 rfl (kv (.pointer (some ⟨b51, of52 + (x29 : Int).toNat * 1, none⟩))) ((hc50 fL HS26) 0 (by decide))) ?_)
   refine seqL1 kr ?_
   refine nl (hK46 _ _ ?_)
   refine wp_seq_k fun K55 hK56 => rl ?_
   refine seqL5 kr ?_
   refine nl (hK56 _ _ ?_)
   refine wp_seq_k fun K57 hK58 => rl ?_
   refine seqL2 kr ?_
   refine nl (hK58 _ _ ?_)
   have hq_ := ite_some h; clear h; rcases hq_ with ⟨c60, h⟩ | ⟨c60, h⟩
   · have c60 : (w64 (size28 + ((rd slices1 x29).length : Int))) < 0 := c60
     refine wpRwI 20 kr (decide_eq_true c60) ?_
     refine condT kr ?_
     exact nomatch h
   · have c60 : ¬ ((w64 (size28 + ((rd slices1 x29).length : Int))) < 0) := c60
     refine wpRwI 20 kr (decide_eq_false c60) ?_
     refine condF kr ?_
     refine wp_skip ?_
     refine hn40 _ _ ?_
     refine hK37 _ _ ?_
     refine rl ?_
     refine seqL2 kr ?_
     refine nl ?_
     refine hK21 n22 _ _ (Nat.lt_succ_self _) ?_
     exact ⟨f23, (w64 (size28 + ((rd slices1 x29).length : Int))), (w64 (x29 + 1)), (jL [.slice A54 (rd slices1 x29).length c54, tV, .pointer (some ⟨b51, of52 + (x29 : Int).toNat * 1, none⟩), .slice A54 (rd slices1 x29).length c54, iV size28, .slice A54 (rd slices1 x29).length c54, iV ((rd slices1 x29).length : Int), iV (w64 (size28 + ((rd slices1 x29).length : Int))), iV (w64 (size28 + ((rd slices1 x29).length : Int))), fV, (j27 10), iV (w64 (x29 + 1))]), L24, HS26, h, kr⟩
 · have c35 : ¬ (x29 < (slices1.length : Int)) := c35
   refine wpRwI 12 kr (decide_eq_false c35) ?_
   refine condF kr ?_
   refine wp_exit ?_
   refine hx14 _ _ ?_
   exact J68 f23 size28 (jL [(j27 0), iV x29, fV, (j27 2), (j27 3), (j27 4), (j27 5), (j27 6), (j27 7), (j27 8), (j27 9), (j27 10), (j27 11)]) W25 _ L24 h HS26 kr

set_option maxRecDepth 100000 in
set_option maxHeartbeats 4000000 in
theorem spykeep3_light.calls (k : Nat) (A2 : Option Addr) (c3 : Nat) (l1 : List S_Spot) (x5 : Int) (y6 : Int) {t w : World} {f : FM} {H : List Seg} (HS : St t w f (H)) (HR4 : SlR ty_Spot f A2 c3 l1) (rr1 : Int) (h : spykeep3_light k l1 x5 y6 = some rr1) :
    Calls Try.prog 12 #[.slice A2 l1.length c3, .int .i64 x5, .int .i64 y6] w (fun e w' => ∃ (g : FM), e = .returned (Value.int .i64 rr1) ∧ FM.le f g ∧ St t w' g (H)) := by
 unfold spykeep3_light at h
 refine enter Try.func12 rfl (tm := #[.slice A2 l1.length c3, iV x5, iV y6, uV, uV, uV, uV, uV, uV, uV, uV, uV, uV, uV, uV, uV, uV, uV, uV, uV, uV, uV, uV, uV, uV, uV, uV, uV, uV, uV, uV]) kr ?_
 intro B hret hnor hnp
 refine wp_seq_k fun K7 hK8 => rl ?_
 refine seqL1 kr ?_
 refine nl (hK8 _ _ ?_)
 refine wp_seq_k (fun K9 hK10 => ?_)
 refine wp_seq_k fun K11 hK12 => rl ?_
 refine seqL3 kr ?_
 refine nl (hK12 _ _ ?_)
 refine blockK (fun B13 hx14 hn15 hr16 ho17 hp18 => ?_)
 have hq_ := bind_some h; clear h; obtain ⟨o19, hv71, h⟩ := hq_
 have J72 : ∀ (f65 : FM) (n70 : Int) (j69 : Nat → Value) (W67 : World) (a_ : Act), FM.le f f65 → some (n70) = some o19 → St t W67 f65 (H) → a_ = ⟨#[.slice A2 l1.length c3, iV x5, iV y6, uV, uV, uV, iV n70, uV, (j69 0), .slice A2 l1.length c3, iV (l1.length : Int), (j69 1), (j69 2), (j69 3), (j69 4), (j69 5), (j69 6), (j69 7), (j69 8), (j69 9), (j69 10), (j69 11), (j69 12), (j69 13), (j69 14), (j69 15), (j69 16), (j69 17), (j69 18), (j69 19), uV], []⟩ → K9 a_ W67 := by
  intro f65 n70 j69 W67 a_ L66 hj73 HS68  hfr_; subst hfr_
  injection hj73 with hj73; subst hj73; try dsimp only at h
  refine hK10 _ _ ?_
  refine wp_seq_k fun K77 hK78 => rl ?_
  refine seqL2 kr ?_
  refine nl (hK78 _ _ ?_)
  refine wp_ret ?_
  refine hret _ _ ?_
  refine ends_still (v := Value.int .i64 n70) kr kr ?_
  injection h with h
  subst h
  exact ⟨f65, rfl, L66, HS68⟩
 clear h; have h := hv71; clear hv71
 refine loopK (fun n_ a_ w_ => ∃ (f23 : FM) (n28 : Int) (x29 : Int) (j27 : Nat → Value), FM.le f f23 ∧ St t w_ f23 (H) ∧ spykeep3_light.l0 k l1 x5 y6 n_ n28 x29 = some o19 ∧ a_ = ⟨#[.slice A2 l1.length c3, iV x5, iV y6, uV, uV, uV, iV n28, uV, (j27 0), .slice A2 l1.length c3, iV (l1.length : Int), iV x29, (j27 1), (j27 2), (j27 3), (j27 4), (j27 5), (j27 6), (j27 7), (j27 8), (j27 9), (j27 10), (j27 11), (j27 12), (j27 13), (j27 14), (j27 15), (j27 16), (j27 17), (j27 18), uV], []⟩) k ⟨f, 0, 0, (jL []), fL, HS, h, kr⟩ ?_
 clear h
 rintro n22 _ W25 ⟨f23, n28, x29, j27, L24, HS26, h, rfl⟩ K20 hK21
 obtain _ | n22 := n22
 · exact nomatch h
 simp only [spykeep3_light.l0] at h
 refine wp_seq_k fun K30 hK31 => rl ?_
 refine seqL1 kr ?_
 refine nl (hK31 _ _ ?_)
 refine wp_seq_k (fun K32 hK33 => ?_)
 have hq_ := ite_some h; clear h; rcases hq_ with ⟨c35, h⟩ | ⟨c35, h⟩
 · have c35 : x29 < (l1.length : Int) := c35
   refine wpRwI 12 kr (decide_eq_true c35) ?_
   refine condT kr ?_
   refine wp_skip ?_
   refine hK33 _ _ ?_
   refine wp_seq_k (fun K36 hK37 => ?_)
   refine blockK (fun B38 hx39 hn40 hr41 ho42 hp43 => ?_)
   refine wp_seq_k fun K45 hK46 => rl ?_
   have hq_ := guard_some h; clear h; obtain ⟨c47, h⟩ := hq_
   have c47 : 0 ≤ x29 := c47
   obtain ⟨b51, of52, cs48, hA53, hr49, hc50⟩ := (HR4.mono L24).at (i := x29) c47 c35
   obtain rfl := hr49
   refine seqK rfl (does_run (run_indexE hA53 (sz := 3) rfl Try.underlying33 kr (kv (.slice A2 l1.length c3)) (kv (.int .i64 x29)) c47 c35 W25) ?_)
   refine seqK rfl (does_run (run_loadN (n := 3) rfl Try.underlying42 rfl kr (kv (.pointer (some ⟨b51, of52 + (x29 : Int).toNat * 3, none⟩))) (cs := [.int .i64 ((rd l1 x29).X), .int .i64 ((rd l1 x29).Y), .int .i64 ((rd l1 x29).Light)]) rfl (fun j_ hj_ => ((hc50 fL HS26) j_ hj_))) ?_)
   refine seqK rfl (does_alloc (z := Value.agg #[.int .i64 0, .int .i64 0, .int .i64 0]) (cs := #[.int .i64 0, .int .i64 0, .int .i64 0]) rfl kr rfl HS26 ?_)
   intro b54 W55 HS56
   refine seqK rfl (does_storeA (vs := [.int .i64 ((rd l1 x29).X), .int .i64 ((rd l1 x29).Y), .int .i64 ((rd l1 x29).Light)]) rfl kr kr kr rfl (ones rfl) HS56 kr ?_)
   intro W58 HS59
   refine nl (hK46 _ _ ?_)
   refine wp_seq_k fun K60 hK61 => rl ?_
   refine seqL1 kr ?_
   refine seqK rfl (does_run (run_load rfl Try.underlying3 rfl (kv (.pointer (some ⟨b54, 0, none⟩))) (HS59.cell 0)) ?_)
   refine seqL3 kr ?_
   have hq_ := ite_some h; clear h; rcases hq_ with ⟨c62, h⟩ | ⟨c62, h⟩
   · have c62 : ((rd l1 x29).X) = x5 := c62
     refine seqRwI 18 kr (beq_iff_eq.mpr c62) ?_
     refine seqRwI 19 kr (beq_iff_eq.mpr c62) ?_
     refine seqL1 kr ?_
     refine seqG kr (does_run (run_load rfl Try.underlying3 rfl (kv (.pointer (some ⟨b54, 1, none⟩))) (HS59.cell 1)) ?_)
     refine seqL3 kr ?_
     refine nl (hK61 _ _ ?_)
     have hq_ := ite_some h; clear h; rcases hq_ with ⟨c64, h⟩ | ⟨c64, h⟩
     · have c64 : ((rd l1 x29).Y) = y6 := c64
       refine wpRwI 23 kr (beq_iff_eq.mpr c64) ?_
       refine wpRwI 24 kr (beq_iff_eq.mpr c64) ?_
       refine condT kr ?_
       refine rl ?_
       refine seqL2 kr ?_
       refine seqK rfl (does_run (run_load rfl Try.underlying38 rfl (kv (.pointer (some ⟨b54, 2, none⟩))) (HS59.cell 2)) ?_)
       refine seqL2 kr ?_
       refine nl ?_
       refine hn40 _ _ ?_
       refine hK37 _ _ ?_
       refine rl ?_
       refine seqL2 kr ?_
       refine nl ?_
       refine hK21 n22 _ _ (Nat.lt_succ_self _) ?_
       have HS74 := HS59.drop
       exact ⟨f23, (w64 (n28 + ((rd l1 x29).Light))), (w64 (x29 + 1)), (jL [.pointer (some ⟨b54, 0, none⟩), tV, .pointer (some ⟨b51, of52 + (x29 : Int).toNat * 3, none⟩), (ag_Spot (rd l1 x29)), .pointer (some ⟨b54, 0, none⟩), iV ((rd l1 x29).X), iV x5, tV, tV, .pointer (some ⟨b54, 1, none⟩), iV ((rd l1 x29).Y), iV y6, tV, tV, iV n28, .pointer (some ⟨b54, 2, none⟩), iV ((rd l1 x29).Light), iV (w64 (n28 + ((rd l1 x29).Light))), iV (w64 (x29 + 1))]), L24, HS74, h, kr⟩
     · have c64 : ¬ (((rd l1 x29).Y) = y6) := c64
       refine wpRwI 23 kr (beq_eq_false_iff_ne.mpr c64) ?_
       refine wpRwI 24 kr (beq_eq_false_iff_ne.mpr c64) ?_
       refine condF kr ?_
       refine wp_skip ?_
       refine hn40 _ _ ?_
       refine hK37 _ _ ?_
       refine rl ?_
       refine seqL2 kr ?_
       refine nl ?_
       refine hK21 n22 _ _ (Nat.lt_succ_self _) ?_
       have HS75 := HS59.drop
       exact ⟨f23, n28, (w64 (x29 + 1)), (jL [.pointer (some ⟨b54, 0, none⟩), tV, .pointer (some ⟨b51, of52 + (x29 : Int).toNat * 3, none⟩), (ag_Spot (rd l1 x29)), .pointer (some ⟨b54, 0, none⟩), iV ((rd l1 x29).X), iV x5, tV, tV, .pointer (some ⟨b54, 1, none⟩), iV ((rd l1 x29).Y), iV y6, fV, fV, (j27 14), (j27 15), (j27 16), (j27 17), iV (w64 (x29 + 1))]), L24, HS75, h, kr⟩
   · have c62 : ¬ (((rd l1 x29).X) = x5) := c62
     refine seqRwI 18 kr (beq_eq_false_iff_ne.mpr c62) ?_
     refine seqRwI 19 kr (beq_eq_false_iff_ne.mpr c62) ?_
     refine seqL5 kr ?_
     refine nl (hK61 _ _ ?_)
     refine condF kr ?_
     refine wp_skip ?_
     refine hn40 _ _ ?_
     refine hK37 _ _ ?_
     refine rl ?_
     refine seqL2 kr ?_
     refine nl ?_
     refine hK21 n22 _ _ (Nat.lt_succ_self _) ?_
     have HS76 := HS59.drop
     exact ⟨f23, n28, (w64 (x29 + 1)), (jL [.pointer (some ⟨b54, 0, none⟩), tV, .pointer (some ⟨b51, of52 + (x29 : Int).toNat * 3, none⟩), (ag_Spot (rd l1 x29)), .pointer (some ⟨b54, 0, none⟩), iV ((rd l1 x29).X), iV x5, fV, fV, uV, uV, uV, uV, fV, (j27 14), (j27 15), (j27 16), (j27 17), iV (w64 (x29 + 1))]), L24, HS76, h, kr⟩
 · have c35 : ¬ (x29 < (l1.length : Int)) := c35
   refine wpRwI 12 kr (decide_eq_false c35) ?_
   refine condF kr ?_
   refine wp_exit ?_
   refine hx14 _ _ ?_
   exact J72 f23 n28 (jL [(j27 0), iV x29, fV, (j27 2), (j27 3), (j27 4), (j27 5), (j27 6), (j27 7), (j27 8), (j27 9), (j27 10), (j27 11), (j27 12), (j27 13), (j27 14), (j27 15), (j27 16), (j27 17), (j27 18)]) W25 _ L24 h HS26 kr

set_option maxRecDepth 100000 in
set_option maxHeartbeats 4000000 in
theorem spykeep3_OpticsTrailsAdd.calls (k : Nat) (A5 : Option Addr) (c6 : Nat) (p1 : S_Point) (dx2 : Int) (dy3 : Int) (l4 : List Int) (n8 : Int) {t w : World} {f : FM} {H : List Seg} (HS : St t w f (H)) (HR7 : SlR (tInt .i64) f A5 c6 l4) (rr1 : Bool) (h : spykeep3_OpticsTrailsAdd k p1 dx2 dy3 l4 n8 = some rr1) :
    Calls Try.prog 3 #[.agg #[.int .i64 p1.X, .int .i64 p1.Y], .int .i64 dx2, .int .i64 dy3, .slice A5 l4.length c6, .int .i64 n8] w (fun e w' => ∃ (g : FM), e = .returned (Value.bool rr1) ∧ FM.le f g ∧ St t w' g (H)) := by
 unfold spykeep3_OpticsTrailsAdd at h
 refine enter Try.func3 rfl (tm := #[.agg #[iV p1.X, iV p1.Y], iV dx2, iV dy3, .slice A5 l4.length c6, iV n8, uV, uV, uV, uV, uV, uV, uV, uV, uV, uV, uV, uV, uV, uV, uV, uV, uV, uV, uV, uV, uV, uV, uV, uV, uV, uV, uV, uV, uV, uV, uV, uV, uV, uV, uV, uV, uV, uV, uV, uV, uV, uV, uV, uV, uV, uV, uV, uV, uV, uV, uV, uV, uV, uV, uV, uV, uV, uV, uV, uV, uV, uV, uV, uV, uV, uV, uV, uV, uV, uV, uV, uV, uV, uV, uV, uV, uV, uV, uV, uV, uV, uV, uV, uV, uV, uV, uV, uV, uV, uV, uV, uV, uV, uV, uV, uV, uV, uV, uV, uV, uV, uV, uV, uV, uV, uV, uV, uV, uV, uV, uV, uV, uV, uV, uV, uV, uV, uV, uV, uV, uV, uV, uV, uV, uV, uV, uV, uV, uV, uV, uV, uV, uV, uV, uV, uV, uV, uV, uV, uV, uV, uV, uV, uV, uV, uV, uV, uV, uV, uV, uV, uV, uV, uV, uV, uV, uV, uV, uV]) kr ?_
 intro B hret hnor hnp
 refine wp_seq_k fun K9 hK10 => rl ?_
 refine seqK rfl (does_box (cs := #[.int .i64 p1.X, .int .i64 p1.Y]) rfl (kv (.agg #[.int .i64 p1.X, .int .i64 p1.Y])) rfl HS ?_)
 intro b11 W12 HS13
 refine seqL1 kr ?_
 refine nl (hK10 _ _ ?_)
 refine wp_seq_k fun K15 hK16 => rl ?_
 refine seqL2 kr ?_
 refine seqK rfl (does_box (cs := #[.slice A5 l4.length c6, .int .i64 0]) rfl (kv (.agg #[.slice A5 l4.length c6, .int .i64 0])) rfl HS13 ?_)
 intro b17 W18 HS19
 refine seqL1 kr ?_
 refine nl (hK16 _ _ ?_)
 refine wp_seq_k fun K21 hK22 => rl ?_
 refine seqL1 kr ?_
 refine seqK rfl (does_run (run_load rfl Try.underlying22 rfl (kv (.pointer (some ⟨b11, 0, none⟩))) (HS19.u1.cell 0)) ?_)
 refine seqL2 kr ?_
 refine seqK rfl (does_run (run_load rfl Try.underlying22 rfl (kv (.pointer (some ⟨b11, 1, none⟩))) (HS19.u1.cell 1)) ?_)
 have HS23 := HS19.u1
 refine seqL2 kr ?_
 refine seqK rfl (does_storeA (vs := [.int .i64 (Int.tmod p1.X 20000), .int .i64 (Int.tmod p1.Y 20000)]) rfl kr kr kr rfl (ones rfl) HS23 kr ?_)
 intro W24 HS25
 refine nl (hK22 _ _ ?_)
 refine wp_seq_k fun K26 hK27 => rl ?_
 refine seqL6 kr ?_
 refine nl (hK27 _ _ ?_)
 refine wp_seq_k fun K28 hK29 => rl ?_
 have HS30 := HS25.u1
 have hq_ := bind_some h; clear h; obtain ⟨⟨vt31, vt32⟩, hc33, h⟩ := hq_
 refine seqL1 kr ?_
 refine seqK rfl (does_call (f := 5) (args := #[.pointer (some ⟨b17, 0, none⟩)]) kr (spykeep3_rates.calls k b17 A5 c6 (⟨l4, 0⟩ : S_Stream) HS30 HR7 vt31 vt32 hc33) ?_)
 rintro _ W36 ⟨f34, A38, c39, s40, rfl, L35, HS37, HO41⟩
 refine ⟨_, rfl, ?_⟩
 refine seqL1 kr ?_
 refine nl (hK29 _ _ ?_)
 refine wp_seq_k fun K43 hK44 => rl ?_
 refine seqL2 kr ?_
 refine nl (hK44 _ _ ?_)
 refine wp_seq_k fun K45 hK46 => rl ?_
 refine seqL1 kr ?_
 refine nl (hK46 _ _ ?_)
 refine wp_seq_k (fun K47 hK48 => ?_)
 refine wp_seq_k fun K49 hK50 => rl ?_
 refine seqL3 kr ?_
 refine nl (hK50 _ _ ?_)
 refine blockK (fun B51 hx52 hn53 hr54 ho55 hp56 => ?_)
 have hq_ := bind_some h; clear h; obtain ⟨o162, hv287, h⟩ := hq_
 have J288 : ∀ (f268 : FM) (A274 : Option Addr) (c275 : Nat) (s276 : Seg) (A280 : Option Addr) (c281 : Nat) (s282 : Seg) (b273 : List Int) (both279 : List Int) (sum285 : Int) (x286 : Int) (j272 : Nat → Value) (W270 : World) (a_ : Act), FM.le f34 f268 → some ((b273, both279, sum285, x286)) = some o162 → St t W270 f268 (s282 :: s276 :: s40 :: [(b17, .cells #[.slice A5 l4.length c6, .int .i64 x286] 28 (0, 0))] :: [(b11, .cells #[.int .i64 (Int.tmod p1.X 20000), .int .i64 (Int.tmod p1.Y 20000)] 24 (0, 0))] :: H) → Own (tInt .i64) 31 f268 A274 c275 s276 b273 → Own (tInt .i64) 31 f268 A280 c281 s282 both279 → a_ = ⟨#[.agg #[iV p1.X, iV p1.Y], iV (Int.tmod dx2 65), iV (Int.tmod dy3 65), .slice A5 l4.length c6, iV n8, pV b11 0, uV, uV, uV, uV, fV, pV b17 0, .slice A38 vt31.length c39, .slice A274 b273.length c275, .slice A280 both279.length c281, iV sum285, uV, (j272 0), uV, uV, uV, uV, uV, uV, uV, uV, .slice A5 l4.length c6, .agg #[.slice A5 l4.length c6, iV 0], pV b17 0, pV b11 0, iV p1.X, iV (Int.tmod p1.X 20000), pV b11 1, iV p1.Y, iV (Int.tmod p1.Y 20000), .agg #[iV (Int.tmod p1.X 20000), iV (Int.tmod p1.Y 20000)], iV dx2, iV (Int.tmod dx2 65), iV dy3, iV (Int.tmod dy3 65), pV b17 0, .slice A38 vt31.length c39, .slice A38 vt31.length c39, iV (vt31.length : Int), (j272 1), (j272 2), (j272 3), (j272 4), (j272 5), (j272 6), (j272 7), (j272 8), (j272 9), (j272 10), (j272 11), (j272 12), (j272 13), (j272 14), (j272 15), (j272 16), (j272 17), (j272 18), (j272 19), (j272 20), (j272 21), (j272 22), (j272 23), (j272 24), (j272 25), (j272 26), (j272 27), (j272 28), (j272 29), uV, uV, uV, uV, uV, uV, uV, uV, uV, uV, uV, uV, uV, uV, uV, uV, uV, uV, uV, uV, uV, uV, uV, uV, uV, uV, uV, uV, uV, uV, uV, uV, uV, uV, uV, uV, uV, uV, uV, uV, uV, uV, uV, uV, uV, uV, uV, uV, uV, uV, uV, uV, uV, uV, uV, uV, uV, uV, uV, uV, uV, uV, uV, uV, uV, uV, uV, uV, uV, uV, uV, uV, uV, uV, uV, uV, uV, uV, uV, uV, uV, uV, uV, uV, uV, uV, uV, uV, uV, uV, uV], []⟩ → K47 a_ W270 := by
  intro f268 A274 c275 s276 A280 c281 s282 b273 both279 sum285 x286 j272 W270 a_ L269 hj289 HS271 HO277 HO283 hfr_; subst hfr_
  injection hj289 with hj289; subst hj289; try dsimp only at h
  refine hK48 _ _ ?_
  refine wp_seq_k (fun K299 hK300 => ?_)
  refine heldG (S := Sg t f268 (s282 :: s276 :: s40 :: [(b17, .cells #[.slice A5 l4.length c6, .int .i64 x286] 28 (0, 0))] :: [(b11, .cells #[.int .i64 (Int.tmod p1.X 20000), .int .i64 (Int.tmod p1.Y 20000)] 24 (0, 0))] :: H) []) (n := 15) kr rfl HS271 ?_
  intro W301 HS302
  refine takeGQ 0 [] rfl kr kr kr kr kr kr hnp (Sg.g0 (Sx.of [] fL HS302)) (fun w_ hw_ => by obtain ⟨g_, hl_, hS_⟩ := hw_.st; exact run_loadN (n := 2) rfl Try.underlying24 rfl kr (kv (.pointer (some ⟨b11, 0, none⟩))) (cs := [.int .i64 (Int.tmod p1.X 20000), .int .i64 (Int.tmod p1.Y 20000)]) rfl (hS_.u4.cells 0 2 _ rfl)) ?_
  refine takeGL [1, 2, 3, 4, 6, 7] (n := 14) (fuel := 8) #[true, true, true, true, true, false, true, true, false, false, false, false, false, false, false] rfl kr kr kr hnp (Sg.g0 (Sx.of [] fL HS302)) ?_
  have hq_ := bind_some h; clear h; obtain ⟨vt303, hc304, h⟩ := hq_
  refine takeGE 5 kr rfl kr (does_call (f := 8) (args := #[.int .i64 n8]) kr (spykeep3_half.calls k n8 HS302 vt303 hc304) ?_)
  rintro _ W307 ⟨f305, rfl, L306, HS308⟩
  refine ⟨_, rfl, ?_⟩
  refine ⟨(Sg.g0 (Sx.of [] L306 HS308)), ?_⟩
  have hq_ := bind_some h; clear h; obtain ⟨vt309, hc310, h⟩ := hq_
  refine takeGE 8 kr rfl kr (does_call (f := 8) (args := #[.int .i64 (w64 (Int.tdiv n8 3))]) kr (spykeep3_half.calls k (w64 (Int.tdiv n8 3)) HS308 vt309 hc310) ?_)
  rintro _ W313 ⟨f311, rfl, L312, HS314⟩
  refine ⟨_, rfl, ?_⟩
  refine ⟨(Sg.g0 (Sx.of [] (L306.trans L312) HS314)), ?_⟩
  have HS315 := HS314.u2
  obtain ⟨f316, L317, HS318, HR319, th320⟩ := (HO41.mono (L269.trans (L306.trans L312))).lend HS315
  have hq_ := bind_some h; clear h; obtain ⟨⟨vt321, vt322⟩, hc323, h⟩ := hq_
  refine takeGE 9 kr rfl kr (does_call (f := 7) (args := #[.agg #[.int .i64 (Int.tmod p1.X 20000), .int .i64 (Int.tmod p1.Y 20000)], .int .i64 (Int.tmod dx2 65), .int .i64 (Int.tmod dy3 65), .slice A38 vt31.length c39, .int .i64 vt303, .int .i64 vt309]) kr (optics_Trail.calls k A38 c39 (⟨Int.tmod p1.X 20000, Int.tmod p1.Y 20000⟩ : S_Point) (Int.tmod dx2 65) (Int.tmod dy3 65) vt31 vt303 vt309 HS318 HR319 vt321 vt322 hc323) ?_)
  rintro _ W326 ⟨f324, A328, c329, s330, rfl, L325, HS327, HO331⟩
  refine ⟨_, rfl, ?_⟩
  obtain ⟨f333, L334, HS335⟩ := th320 L325 HS327
  replace HO331 := HO331.flat (g := f333) (fun _ _ _ _ h_ => h_)
  have HS341 := HS335.u5.u5.u2.u5.u5.u5
  refine ⟨(Sg.g0 (Sx.of [s330] (L306.trans (L312.trans L334)) HS341)), ?_⟩
  refine takeGL [10, 11, 12, 13, 14] (n := 5) (fuel := 0) #[true, true, true, true, true, true, true, true, true, true, true, true, true, true, true] rfl kr kr kr hnp (Sg.g0 (Sx.of [s330] (L306.trans (L312.trans L334)) HS341)) ?_
  refine doneG kr ?_ _
  refine hK300 _ _ ?_
  refine wp_seq_k (fun K342 hK343 => ?_)
  refine heldG (S := Sg t f333 (s330 :: s282 :: s276 :: s40 :: [(b17, .cells #[.slice A5 l4.length c6, .int .i64 x286] 28 (0, 0))] :: [(b11, .cells #[.int .i64 (Int.tmod p1.X 20000), .int .i64 (Int.tmod p1.Y 20000)] 24 (0, 0))] :: H) []) (n := 15) kr rfl HS341 ?_
  intro W344 HS345
  refine takeGQ 0 [] rfl kr kr kr kr kr kr hnp (Sg.g0 (Sx.of [] fL HS345)) (fun w_ hw_ => by obtain ⟨g_, hl_, hS_⟩ := hw_.st; exact run_loadN (n := 2) rfl Try.underlying24 rfl kr (kv (.pointer (some ⟨b11, 0, none⟩))) (cs := [.int .i64 (Int.tmod p1.X 20000), .int .i64 (Int.tmod p1.Y 20000)]) rfl (hS_.u5.cells 0 2 _ rfl)) ?_
  refine takeGL [1, 2, 3, 4, 6, 7] (n := 14) (fuel := 8) #[true, true, true, true, true, false, true, true, false, false, false, false, false, false, false] rfl kr kr kr hnp (Sg.g0 (Sx.of [] fL HS345)) ?_
  have hq_ := bind_some h; clear h; obtain ⟨vt346, hc347, h⟩ := hq_
  refine takeGE 5 kr rfl kr (does_call (f := 8) (args := #[.int .i64 n8]) kr (spykeep3_half.calls k n8 HS345 vt346 hc347) ?_)
  rintro _ W350 ⟨f348, rfl, L349, HS351⟩
  refine ⟨_, rfl, ?_⟩
  refine ⟨(Sg.g0 (Sx.of [] L349 HS351)), ?_⟩
  have hq_ := bind_some h; clear h; obtain ⟨vt352, hc353, h⟩ := hq_
  refine takeGE 8 kr rfl kr (does_call (f := 8) (args := #[.int .i64 (w64 (Int.tdiv n8 3))]) kr (spykeep3_half.calls k (w64 (Int.tdiv n8 3)) HS351 vt352 hc353) ?_)
  rintro _ W356 ⟨f354, rfl, L355, HS357⟩
  refine ⟨_, rfl, ?_⟩
  refine ⟨(Sg.g0 (Sx.of [] (L349.trans L355) HS357)), ?_⟩
  have HS358 := HS357.u2
  obtain ⟨f359, L360, HS361, HR362, th363⟩ := (HO277.mono (L306.trans (L312.trans (L334.trans (L349.trans L355))))).lend HS358
  have hq_ := bind_some h; clear h; obtain ⟨⟨vt364, vt365⟩, hc366, h⟩ := hq_
  refine takeGE 9 kr rfl kr (does_call (f := 7) (args := #[.agg #[.int .i64 (Int.tmod p1.X 20000), .int .i64 (Int.tmod p1.Y 20000)], .int .i64 (Int.tmod dx2 65), .int .i64 (Int.tmod dy3 65), .slice A274 b273.length c275, .int .i64 vt346, .int .i64 vt352]) kr (optics_Trail.calls k A274 c275 (⟨Int.tmod p1.X 20000, Int.tmod p1.Y 20000⟩ : S_Point) (Int.tmod dx2 65) (Int.tmod dy3 65) b273 vt346 vt352 HS361 HR362 vt364 vt365 hc366) ?_)
  rintro _ W369 ⟨f367, A371, c372, s373, rfl, L368, HS370, HO374⟩
  refine ⟨_, rfl, ?_⟩
  obtain ⟨f376, L377, HS378⟩ := th363 L368 HS370
  replace HO374 := HO374.flat (g := f376) (fun _ _ _ _ h_ => h_)
  have HS385 := HS378.u6.u6.u6.u3.u6.u6.u6
  refine ⟨(Sg.g0 (Sx.of [s373] (L349.trans (L355.trans L377)) HS385)), ?_⟩
  refine takeGL [10, 11, 12, 13, 14] (n := 5) (fuel := 0) #[true, true, true, true, true, true, true, true, true, true, true, true, true, true, true] rfl kr kr kr hnp (Sg.g0 (Sx.of [s373] (L349.trans (L355.trans L377)) HS385)) ?_
  refine doneG kr ?_ _
  refine hK343 _ _ ?_
  refine wp_seq_k (fun K386 hK387 => ?_)
  refine heldG (S := Sg t f376 (s373 :: s330 :: s282 :: s276 :: s40 :: [(b17, .cells #[.slice A5 l4.length c6, .int .i64 x286] 28 (0, 0))] :: [(b11, .cells #[.int .i64 (Int.tmod p1.X 20000), .int .i64 (Int.tmod p1.Y 20000)] 24 (0, 0))] :: H) []) (n := 15) kr rfl HS385 ?_
  intro W388 HS389
  refine takeGQ 0 [] rfl kr kr kr kr kr kr hnp (Sg.g0 (Sx.of [] fL HS389)) (fun w_ hw_ => by obtain ⟨g_, hl_, hS_⟩ := hw_.st; exact run_loadN (n := 2) rfl Try.underlying24 rfl kr (kv (.pointer (some ⟨b11, 0, none⟩))) (cs := [.int .i64 (Int.tmod p1.X 20000), .int .i64 (Int.tmod p1.Y 20000)]) rfl (hS_.u6.cells 0 2 _ rfl)) ?_
  refine takeGL [1, 2, 3, 4, 6, 7] (n := 14) (fuel := 8) #[true, true, true, true, true, false, true, true, false, false, false, false, false, false, false] rfl kr kr kr hnp (Sg.g0 (Sx.of [] fL HS389)) ?_
  have hq_ := bind_some h; clear h; obtain ⟨vt390, hc391, h⟩ := hq_
  refine takeGE 5 kr rfl kr (does_call (f := 8) (args := #[.int .i64 n8]) kr (spykeep3_half.calls k n8 HS389 vt390 hc391) ?_)
  rintro _ W394 ⟨f392, rfl, L393, HS395⟩
  refine ⟨_, rfl, ?_⟩
  refine ⟨(Sg.g0 (Sx.of [] L393 HS395)), ?_⟩
  have hq_ := bind_some h; clear h; obtain ⟨vt396, hc397, h⟩ := hq_
  refine takeGE 8 kr rfl kr (does_call (f := 8) (args := #[.int .i64 (w64 (Int.tdiv n8 3))]) kr (spykeep3_half.calls k (w64 (Int.tdiv n8 3)) HS395 vt396 hc397) ?_)
  rintro _ W400 ⟨f398, rfl, L399, HS401⟩
  refine ⟨_, rfl, ?_⟩
  refine ⟨(Sg.g0 (Sx.of [] (L393.trans L399) HS401)), ?_⟩
  have HS402 := HS401.u2
  obtain ⟨f403, L404, HS405, HR406, th407⟩ := (HO283.mono (L306.trans (L312.trans (L334.trans (L349.trans (L355.trans (L377.trans (L393.trans L399)))))))).lend HS402
  have hq_ := bind_some h; clear h; obtain ⟨⟨vt408, vt409⟩, hc410, h⟩ := hq_
  refine takeGE 9 kr rfl kr (does_call (f := 7) (args := #[.agg #[.int .i64 (Int.tmod p1.X 20000), .int .i64 (Int.tmod p1.Y 20000)], .int .i64 (Int.tmod dx2 65), .int .i64 (Int.tmod dy3 65), .slice A280 both279.length c281, .int .i64 vt390, .int .i64 vt396]) kr (optics_Trail.calls k A280 c281 (⟨Int.tmod p1.X 20000, Int.tmod p1.Y 20000⟩ : S_Point) (Int.tmod dx2 65) (Int.tmod dy3 65) both279 vt390 vt396 HS405 HR406 vt408 vt409 hc410) ?_)
  rintro _ W413 ⟨f411, A415, c416, s417, rfl, L412, HS414, HO418⟩
  refine ⟨_, rfl, ?_⟩
  obtain ⟨f420, L421, HS422⟩ := th407 L412 HS414
  replace HO418 := HO418.flat (g := f420) (fun _ _ _ _ h_ => h_)
  have HS430 := HS422.u7.u7.u7.u7.u4.u7.u7.u7
  refine ⟨(Sg.g0 (Sx.of [s417] (L393.trans (L399.trans L421)) HS430)), ?_⟩
  refine takeGL [10, 11, 12, 13, 14] (n := 5) (fuel := 0) #[true, true, true, true, true, true, true, true, true, true, true, true, true, true, true] rfl kr kr kr hnp (Sg.g0 (Sx.of [s417] (L393.trans (L399.trans L421)) HS430)) ?_
  refine doneG kr ?_ _
  refine hK387 _ _ ?_
  refine wp_seq_k (fun K431 hK432 => ?_)
  refine wp_seq_k fun K433 hK434 => rl ?_
  have hq_ := bind_some h; clear h; obtain ⟨vt435, hc436, h⟩ := hq_
  refine seqK rfl (does_call (f := 9) (args := #[]) kr (spykeep3_spreads.calls k  HS430 vt435 hc436) ?_)
  rintro _ W439 ⟨f437, rfl, L438, HS440⟩
  refine ⟨_, rfl, ?_⟩
  refine seqL2 kr ?_
  have hq_ := ite_some h; clear h; rcases hq_ with ⟨c441, h⟩ | ⟨c441, h⟩
  · have c441 : ¬ (vt435 = true) := c441
    refine seqRwI 113 kr (congrArg (fun b_ => !b_) (show vt435 = false from (Bool.eq_false_iff.mpr c441)) : (!vt435) = true) ?_
    refine seqRwI 114 kr (congrArg (fun b_ => !b_) (show vt435 = false from (Bool.eq_false_iff.mpr c441)) : (!vt435) = true) ?_
    refine seqL18 kr ?_
    refine nl (hK434 _ _ ?_)
    refine condT kr ?_
    refine wp_seq_k fun K442 hK443 => rl ?_
    refine seqL1 kr ?_
    refine nl (hK443 _ _ ?_)
    refine wp_ret ?_
    refine hret _ _ ?_
    refine ends_still (v := Value.bool false) kr kr ?_
    have HS606 := HS440.drop
    have HS607 := HS606.drop
    have HS608 := HS607.drop
    have HS609 := HS608.drop
    have HS610 := HS609.drop
    have HS611 := HS610.drop
    have HS612 := HS611.drop
    have HS613 := HS612.drop
    injection h with h
    subst h
    exact ⟨f437, rfl, (L35.trans (L269.trans (L306.trans (L312.trans (L334.trans (L349.trans (L355.trans (L377.trans (L393.trans (L399.trans (L421.trans L438))))))))))), HS613⟩
  · have c441 : ¬ (¬ (vt435 = true)) := c441
    refine seqRwI 113 (x := (!vt435)) (v := false) kr (congrArg (fun b_ => !b_) (show vt435 = true from (Decidable.of_not_not c441)) : (!vt435) = false) ?_
    refine seqRwI 114 (x := (!vt435)) (v := false) kr (congrArg (fun b_ => !b_) (show vt435 = true from (Decidable.of_not_not c441)) : (!vt435) = false) ?_
    refine seqL4 kr ?_
    have hq_ := ite_some h; clear h; rcases hq_ with ⟨c444, h⟩ | ⟨c444, h⟩
    · have c444 : vt322 ≠ 0 := c444
      refine seqRwI 116 kr (bne_iff_ne.mpr c444) ?_
      refine seqRwI 117 kr (bne_iff_ne.mpr c444) ?_
      refine seqRwI 118 kr (bne_iff_ne.mpr c444) ?_
      refine seqL14 kr ?_
      refine nl (hK434 _ _ ?_)
      refine condT kr ?_
      refine wp_seq_k fun K445 hK446 => rl ?_
      refine seqL1 kr ?_
      refine nl (hK446 _ _ ?_)
      refine wp_ret ?_
      refine hret _ _ ?_
      refine ends_still (v := Value.bool false) kr kr ?_
      have HS614 := HS440.drop
      have HS615 := HS614.drop
      have HS616 := HS615.drop
      have HS617 := HS616.drop
      have HS618 := HS617.drop
      have HS619 := HS618.drop
      have HS620 := HS619.drop
      have HS621 := HS620.drop
      injection h with h
      subst h
      exact ⟨f437, rfl, (L35.trans (L269.trans (L306.trans (L312.trans (L334.trans (L349.trans (L355.trans (L377.trans (L393.trans (L399.trans (L421.trans L438))))))))))), HS621⟩
    · have c444 : ¬ (vt322 ≠ 0) := c444
      refine seqRwI 116 (x := (vt322 != 0)) (v := false) kr (bne_eq_false_iff_eq.mpr (Decidable.of_not_not c444)) ?_
      refine seqRwI 117 (x := (vt322 != 0)) (v := false) kr (bne_eq_false_iff_eq.mpr (Decidable.of_not_not c444)) ?_
      refine seqRwI 118 (x := (vt322 != 0)) (v := false) kr (bne_eq_false_iff_eq.mpr (Decidable.of_not_not c444)) ?_
      refine seqL4 kr ?_
      have hq_ := ite_some h; clear h; rcases hq_ with ⟨c447, h⟩ | ⟨c447, h⟩
      · have c447 : vt365 ≠ 0 := c447
        refine seqRwI 120 kr (bne_iff_ne.mpr c447) ?_
        refine seqRwI 121 kr (bne_iff_ne.mpr c447) ?_
        refine seqRwI 122 kr (bne_iff_ne.mpr c447) ?_
        refine seqL10 kr ?_
        refine nl (hK434 _ _ ?_)
        refine condT kr ?_
        refine wp_seq_k fun K448 hK449 => rl ?_
        refine seqL1 kr ?_
        refine nl (hK449 _ _ ?_)
        refine wp_ret ?_
        refine hret _ _ ?_
        refine ends_still (v := Value.bool false) kr kr ?_
        have HS622 := HS440.drop
        have HS623 := HS622.drop
        have HS624 := HS623.drop
        have HS625 := HS624.drop
        have HS626 := HS625.drop
        have HS627 := HS626.drop
        have HS628 := HS627.drop
        have HS629 := HS628.drop
        injection h with h
        subst h
        exact ⟨f437, rfl, (L35.trans (L269.trans (L306.trans (L312.trans (L334.trans (L349.trans (L355.trans (L377.trans (L393.trans (L399.trans (L421.trans L438))))))))))), HS629⟩
      · have c447 : ¬ (vt365 ≠ 0) := c447
        refine seqRwI 120 (x := (vt365 != 0)) (v := false) kr (bne_eq_false_iff_eq.mpr (Decidable.of_not_not c447)) ?_
        refine seqRwI 121 (x := (vt365 != 0)) (v := false) kr (bne_eq_false_iff_eq.mpr (Decidable.of_not_not c447)) ?_
        refine seqRwI 122 (x := (vt365 != 0)) (v := false) kr (bne_eq_false_iff_eq.mpr (Decidable.of_not_not c447)) ?_
        refine seqL4 kr ?_
        have hq_ := ite_some h; clear h; rcases hq_ with ⟨c450, h⟩ | ⟨c450, h⟩
        · have c450 : vt409 ≠ 0 := c450
          refine seqRwI 124 kr (bne_iff_ne.mpr c450) ?_
          refine seqRwI 125 kr (bne_iff_ne.mpr c450) ?_
          refine seqRwI 126 kr (bne_iff_ne.mpr c450) ?_
          refine seqL6 kr ?_
          refine nl (hK434 _ _ ?_)
          refine condT kr ?_
          refine wp_seq_k fun K451 hK452 => rl ?_
          refine seqL1 kr ?_
          refine nl (hK452 _ _ ?_)
          refine wp_ret ?_
          refine hret _ _ ?_
          refine ends_still (v := Value.bool false) kr kr ?_
          have HS630 := HS440.drop
          have HS631 := HS630.drop
          have HS632 := HS631.drop
          have HS633 := HS632.drop
          have HS634 := HS633.drop
          have HS635 := HS634.drop
          have HS636 := HS635.drop
          have HS637 := HS636.drop
          injection h with h
          subst h
          exact ⟨f437, rfl, (L35.trans (L269.trans (L306.trans (L312.trans (L334.trans (L349.trans (L355.trans (L377.trans (L393.trans (L399.trans (L421.trans L438))))))))))), HS637⟩
        · have c450 : ¬ (vt409 ≠ 0) := c450
          refine seqRwI 124 (x := (vt409 != 0)) (v := false) kr (bne_eq_false_iff_eq.mpr (Decidable.of_not_not c450)) ?_
          refine seqRwI 125 (x := (vt409 != 0)) (v := false) kr (bne_eq_false_iff_eq.mpr (Decidable.of_not_not c450)) ?_
          refine seqRwI 126 (x := (vt409 != 0)) (v := false) kr (bne_eq_false_iff_eq.mpr (Decidable.of_not_not c450)) ?_
          obtain ⟨f453, L454, HS455, HR456, th457⟩ := (HO418.mono L438).lend HS440
          have hq_ := bind_some h; clear h; obtain ⟨vt458, hc459, h⟩ := hq_
          refine seqL1 kr ?_
          refine seqG kr (does_call (f := 10) (args := #[.slice A415 vt408.length c416]) kr (spykeep3_total.calls k A415 c416 vt408 HS455 HR456 vt458 hc459) ?_)
          rintro _ W462 ⟨f460, rfl, L461, HS463⟩
          refine ⟨_, rfl, ?_⟩
          obtain ⟨f464, L465, HS466⟩ := th457 L461 HS463
          refine seqL4 kr ?_
          refine nl (hK434 _ _ ?_)
          have hq_ := ite_some h; clear h; rcases hq_ with ⟨c468, h⟩ | ⟨c468, h⟩
          · have c468 : vt458 ≠ (w64 (sum285 * 16777216)) := c468
            refine wpRwI 131 kr (bne_iff_ne.mpr c468) ?_
            refine wpRwI 132 kr (bne_iff_ne.mpr c468) ?_
            refine condT kr ?_
            refine wp_seq_k fun K469 hK470 => rl ?_
            refine seqL1 kr ?_
            refine nl (hK470 _ _ ?_)
            refine wp_ret ?_
            refine hret _ _ ?_
            refine ends_still (v := Value.bool false) kr kr ?_
            have HS638 := HS466.drop
            have HS639 := HS638.drop
            have HS640 := HS639.drop
            have HS641 := HS640.drop
            have HS642 := HS641.drop
            have HS643 := HS642.drop
            have HS644 := HS643.drop
            have HS645 := HS644.drop
            injection h with h
            subst h
            exact ⟨f464, rfl, (L35.trans (L269.trans (L306.trans (L312.trans (L334.trans (L349.trans (L355.trans (L377.trans (L393.trans (L399.trans (L421.trans (L438.trans L465)))))))))))), HS645⟩
          · have c468 : ¬ (vt458 ≠ (w64 (sum285 * 16777216))) := c468
            refine wpRwI 131 (x := (vt458 != (w64 (sum285 * 16777216)))) (v := false) kr (bne_eq_false_iff_eq.mpr (Decidable.of_not_not c468)) ?_
            refine wpRwI 132 (x := (vt458 != (w64 (sum285 * 16777216)))) (v := false) kr (bne_eq_false_iff_eq.mpr (Decidable.of_not_not c468)) ?_
            refine condF kr ?_
            refine wp_skip ?_
            refine hK432 _ _ ?_
            refine wp_seq_k (fun K471 hK472 => ?_)
            refine wp_seq_k fun K473 hK474 => rl ?_
            have HS475 := HS466.u2
            obtain ⟨f476, L477, HS478, HR479⟩ := (HO331.mono (L349.trans (L355.trans (L377.trans (L393.trans (L399.trans (L421.trans (L438.trans L465)))))))).freeze HS475
            have HS480 := HS478.u1
            obtain ⟨f481, L482, HS483, HR484⟩ := (HO374.mono (L393.trans (L399.trans (L421.trans (L438.trans (L465.trans L477)))))).freeze HS480
            obtain ⟨f485, L486, HS487, HR488⟩ := (HO418.mono (L438.trans (L465.trans (L477.trans L482)))).freeze HS483
            refine seqL3 kr ?_
            refine seqK rfl (does_lit (e := (tSl ty_Spot)) (E := 33) (vs := #[(0, Value.slice A328 vt321.length c329), (1, Value.slice A371 vt364.length c372), (2, Value.slice A415 vt408.length c416)]) (cs := #[.slice A328 vt321.length c329, .slice A371 vt364.length c372, .slice A415 vt408.length c416]) (xs := ([vt321, vt364, vt408] : List (List S_Spot))) rfl Try.underlying56 kr kr ⟨[.slice A328 vt321.length c329], _, rfl, ⟨A328, c329, rfl, (HR479.mono (L482.trans L486))⟩, ⟨[.slice A371 vt364.length c372], _, rfl, ⟨A371, c372, rfl, (HR484.mono L486)⟩, ⟨[.slice A415 vt408.length c416], _, rfl, ⟨A415, c416, rfl, HR488⟩, rfl⟩⟩⟩ rfl HS487 ?_ (by decide))
            intro b489 W490 s491 HS492 _ HO493
            obtain ⟨f495, L496, HS497, HR498, th499⟩ := HO493.lend HS492
            have hq_ := bind_some h; clear h; obtain ⟨vt500, hc501, h⟩ := hq_
            refine seqK rfl (does_call (f := 11) (args := #[.slice (some ⟨b489, 0, none⟩) ([vt321, vt364, vt408] : List (List S_Spot)).length 3]) kr (slices_Concat_Spot.calls k (some ⟨b489, 0, none⟩) 3 ([vt321, vt364, vt408] : List (List S_Spot)) HS497 HR498 vt500 hc501) ?_)
            rintro _ W504 ⟨f502, A506, c507, s508, rfl, L503, HS505, HO509⟩
            refine ⟨_, rfl, ?_⟩
            obtain ⟨f511, L512, HS513⟩ := th499 L503 HS505
            replace HO509 := HO509.flat (g := f511) (fun _ _ _ _ h_ => h_)
            refine seqL2 kr ?_
            refine nl (hK474 _ _ ?_)
            refine blockK (fun B514 hx515 hn516 hr517 ho518 hp519 => ?_)
            have hq_ := bind_some h; clear h; obtain ⟨o520, hv591, h⟩ := hq_
            have JR593 : ∀ z_, some (Sum.inl z_) = some o520 → some z_ = some rr1 := by
             intro z_ e_; injection e_ with e_; subst e_; exact h
            have J592 : ∀ (f586 : FM) (j590 : Nat → Value) (W588 : World) (a_ : Act), FM.le f511 f586 → some (Sum.inr ()) = some o520 → St t W588 f586 (s491 :: s508 :: s282 :: s276 :: s40 :: [(b17, .cells #[.slice A5 l4.length c6, .int .i64 x286] 28 (0, 0))] :: [(b11, .cells #[.int .i64 (Int.tmod p1.X 20000), .int .i64 (Int.tmod p1.Y 20000)] 24 (0, 0))] :: H) → a_ = ⟨#[.agg #[iV p1.X, iV p1.Y], iV (Int.tmod dx2 65), iV (Int.tmod dy3 65), .slice A5 l4.length c6, iV n8, pV b11 0, uV, uV, uV, uV, (j590 0), pV b17 0, .slice A38 vt31.length c39, .slice A274 b273.length c275, .slice A280 both279.length c281, iV sum285, uV, (j272 0), .slice A328 vt321.length c329, iV vt322, .slice A371 vt364.length c372, iV vt365, .slice A415 vt408.length c416, iV vt409, uV, (j590 1), .slice A5 l4.length c6, .agg #[.slice A5 l4.length c6, iV 0], pV b17 0, pV b11 0, iV p1.X, iV (Int.tmod p1.X 20000), pV b11 1, iV p1.Y, iV (Int.tmod p1.Y 20000), .agg #[iV (Int.tmod p1.X 20000), iV (Int.tmod p1.Y 20000)], iV dx2, iV (Int.tmod dx2 65), iV dy3, iV (Int.tmod dy3 65), pV b17 0, .slice A38 vt31.length c39, .slice A38 vt31.length c39, iV (vt31.length : Int), (j272 1), (j272 2), (j272 3), (j272 4), (j272 5), (j272 6), (j272 7), (j272 8), (j272 9), (j272 10), (j272 11), (j272 12), (j272 13), (j272 14), (j272 15), (j272 16), (j272 17), (j272 18), (j272 19), (j272 20), (j272 21), (j272 22), (j272 23), (j272 24), (j272 25), (j272 26), (j272 27), (j272 28), (j272 29), .tuple #[.slice A328 vt321.length c329, iV vt322], .agg #[iV (Int.tmod p1.X 20000), iV (Int.tmod p1.Y 20000)], iV (Int.tmod dx2 65), iV (Int.tmod dy3 65), .slice A38 vt31.length c39, iV n8, iV vt303, iV n8, iV (w64 (Int.tdiv n8 3)), iV vt309, .tuple #[.slice A328 vt321.length c329, iV vt322], .slice A328 vt321.length c329, iV vt322, .tuple #[.slice A371 vt364.length c372, iV vt365], .agg #[iV (Int.tmod p1.X 20000), iV (Int.tmod p1.Y 20000)], iV (Int.tmod dx2 65), iV (Int.tmod dy3 65), .slice A274 b273.length c275, iV n8, iV vt346, iV n8, iV (w64 (Int.tdiv n8 3)), iV vt352, .tuple #[.slice A371 vt364.length c372, iV vt365], .slice A371 vt364.length c372, iV vt365, .tuple #[.slice A415 vt408.length c416, iV vt409], .agg #[iV (Int.tmod p1.X 20000), iV (Int.tmod p1.Y 20000)], iV (Int.tmod dx2 65), iV (Int.tmod dy3 65), .slice A280 both279.length c281, iV n8, iV vt390, iV n8, iV (w64 (Int.tdiv n8 3)), iV vt396, .tuple #[.slice A415 vt408.length c416, iV vt409], .slice A415 vt408.length c416, iV vt409, .bool vt435, fV, fV, iV vt322, fV, fV, fV, iV vt365, fV, fV, fV, iV vt409, fV, fV, fV, .slice A415 vt408.length c416, iV vt458, iV sum285, iV (w64 (sum285 * 16777216)), fV, fV, .slice A328 vt321.length c329, .slice A371 vt364.length c372, .slice A415 vt408.length c416, .slice (some ⟨b489, 0, none⟩) ([vt321, vt364, vt408] : List (List S_Spot)).length 3, .slice A506 vt500.length c507, iV (vt500.length : Int), (j590 2), (j590 3), (j590 4), (j590 5), (j590 6), (j590 7), (j590 8), (j590 9), (j590 10), (j590 11), (j590 12), (j590 13), (j590 14), (j590 15), (j590 16), (j590 17), (j590 18), (j590 19), (j590 20), (j590 21), (j590 22), (j590 23), (j590 24), (j590 25), (j590 26)], []⟩ → K471 a_ W588 := by
             intro f586 j590 W588 a_ L587 hj594 HS589  hfr_; subst hfr_
             injection hj594 with hj594; subst hj594; try dsimp only at h
             simp only [Sum.elim_inr] at h
             refine hK472 _ _ ?_
             refine wp_seq_k fun K604 hK605 => rl ?_
             refine seqL1 kr ?_
             refine nl (hK605 _ _ ?_)
             refine wp_ret ?_
             refine hret _ _ ?_
             refine ends_still (v := Value.bool true) kr kr ?_
             have HS654 := HS589.drop
             have HS655 := HS654.drop
             have HS656 := HS655.drop
             have HS657 := HS656.drop
             have HS658 := HS657.drop
             have HS659 := HS658.drop
             have HS660 := HS659.drop
             injection h with h
             subst h
             exact ⟨f586, rfl, (L35.trans (L269.trans (L306.trans (L312.trans (L334.trans (L349.trans (L355.trans (L377.trans (L393.trans (L399.trans (L421.trans (L438.trans (L465.trans (L477.trans (L482.trans (L486.trans (L512.trans L587))))))))))))))))), HS660⟩
            clear h; have h := hv591; clear hv591
            refine loopK (fun n_ a_ w_ => ∃ (f524 : FM) (x529 : Int) (j528 : Nat → Value), FM.le f511 f524 ∧ St t w_ f524 (s491 :: s508 :: s282 :: s276 :: s40 :: [(b17, .cells #[.slice A5 l4.length c6, .int .i64 x286] 28 (0, 0))] :: [(b11, .cells #[.int .i64 (Int.tmod p1.X 20000), .int .i64 (Int.tmod p1.Y 20000)] 24 (0, 0))] :: H) ∧ spykeep3_OpticsTrailsAdd.l1 k vt500 vt321 vt364 vt408 n_ x529 = some o520 ∧ a_ = ⟨#[.agg #[iV p1.X, iV p1.Y], iV (Int.tmod dx2 65), iV (Int.tmod dy3 65), .slice A5 l4.length c6, iV n8, pV b11 0, uV, uV, uV, uV, (j528 0), pV b17 0, .slice A38 vt31.length c39, .slice A274 b273.length c275, .slice A280 both279.length c281, iV sum285, uV, (j272 0), .slice A328 vt321.length c329, iV vt322, .slice A371 vt364.length c372, iV vt365, .slice A415 vt408.length c416, iV vt409, uV, (j528 1), .slice A5 l4.length c6, .agg #[.slice A5 l4.length c6, iV 0], pV b17 0, pV b11 0, iV p1.X, iV (Int.tmod p1.X 20000), pV b11 1, iV p1.Y, iV (Int.tmod p1.Y 20000), .agg #[iV (Int.tmod p1.X 20000), iV (Int.tmod p1.Y 20000)], iV dx2, iV (Int.tmod dx2 65), iV dy3, iV (Int.tmod dy3 65), pV b17 0, .slice A38 vt31.length c39, .slice A38 vt31.length c39, iV (vt31.length : Int), (j272 1), (j272 2), (j272 3), (j272 4), (j272 5), (j272 6), (j272 7), (j272 8), (j272 9), (j272 10), (j272 11), (j272 12), (j272 13), (j272 14), (j272 15), (j272 16), (j272 17), (j272 18), (j272 19), (j272 20), (j272 21), (j272 22), (j272 23), (j272 24), (j272 25), (j272 26), (j272 27), (j272 28), (j272 29), .tuple #[.slice A328 vt321.length c329, iV vt322], .agg #[iV (Int.tmod p1.X 20000), iV (Int.tmod p1.Y 20000)], iV (Int.tmod dx2 65), iV (Int.tmod dy3 65), .slice A38 vt31.length c39, iV n8, iV vt303, iV n8, iV (w64 (Int.tdiv n8 3)), iV vt309, .tuple #[.slice A328 vt321.length c329, iV vt322], .slice A328 vt321.length c329, iV vt322, .tuple #[.slice A371 vt364.length c372, iV vt365], .agg #[iV (Int.tmod p1.X 20000), iV (Int.tmod p1.Y 20000)], iV (Int.tmod dx2 65), iV (Int.tmod dy3 65), .slice A274 b273.length c275, iV n8, iV vt346, iV n8, iV (w64 (Int.tdiv n8 3)), iV vt352, .tuple #[.slice A371 vt364.length c372, iV vt365], .slice A371 vt364.length c372, iV vt365, .tuple #[.slice A415 vt408.length c416, iV vt409], .agg #[iV (Int.tmod p1.X 20000), iV (Int.tmod p1.Y 20000)], iV (Int.tmod dx2 65), iV (Int.tmod dy3 65), .slice A280 both279.length c281, iV n8, iV vt390, iV n8, iV (w64 (Int.tdiv n8 3)), iV vt396, .tuple #[.slice A415 vt408.length c416, iV vt409], .slice A415 vt408.length c416, iV vt409, .bool vt435, fV, fV, iV vt322, fV, fV, fV, iV vt365, fV, fV, fV, iV vt409, fV, fV, fV, .slice A415 vt408.length c416, iV vt458, iV sum285, iV (w64 (sum285 * 16777216)), fV, fV, .slice A328 vt321.length c329, .slice A371 vt364.length c372, .slice A415 vt408.length c416, .slice (some ⟨b489, 0, none⟩) ([vt321, vt364, vt408] : List (List S_Spot)).length 3, .slice A506 vt500.length c507, iV (vt500.length : Int), iV x529, (j528 2), (j528 3), (j528 4), (j528 5), (j528 6), (j528 7), (j528 8), (j528 9), (j528 10), (j528 11), (j528 12), (j528 13), (j528 14), (j528 15), (j528 16), (j528 17), (j528 18), (j528 19), (j528 20), (j528 21), (j528 22), (j528 23), (j528 24), (j528 25)], []⟩) k ⟨f511, 0, (jL [fV]), fL, HS513, h, kr⟩ ?_
            clear h
            rintro n523 _ W526 ⟨f524, x529, j528, L525, HS527, h, rfl⟩ K521 hK522
            obtain _ | n523 := n523
            · exact nomatch h
            simp only [spykeep3_OpticsTrailsAdd.l1] at h
            refine wp_seq_k fun K530 hK531 => rl ?_
            refine seqL1 kr ?_
            refine nl (hK531 _ _ ?_)
            refine wp_seq_k (fun K532 hK533 => ?_)
            have hq_ := ite_some h; clear h; rcases hq_ with ⟨c535, h⟩ | ⟨c535, h⟩
            · have c535 : x529 < (vt500.length : Int) := c535
              refine wpRwI 140 kr (decide_eq_true c535) ?_
              refine condT kr ?_
              refine wp_skip ?_
              refine hK533 _ _ ?_
              refine wp_seq_k (fun K536 hK537 => ?_)
              refine blockK (fun B538 hx539 hn540 hr541 ho542 hp543 => ?_)
              refine wp_seq_k fun K545 hK546 => rl ?_
              have hq_ := guard_some h; clear h; obtain ⟨c547, h⟩ := hq_
              have c547 : 0 ≤ x529 := c547
              obtain ⟨b551, of552, cs548, hA553, hr549, hc550⟩ := (HO509.mono L525).at (i := x529) c547 c535
              obtain rfl := hr549
              refine seqK rfl (does_run (run_indexE hA553 (sz := 3) rfl Try.underlying33 kr (kv (.slice A506 vt500.length c507)) (kv (.int .i64 x529)) c547 c535 W526) ?_)
              refine seqK rfl (does_run (run_loadN (n := 3) rfl Try.underlying42 rfl kr (kv (.pointer (some ⟨b551, of552 + (x529 : Int).toNat * 3, none⟩))) (cs := [.int .i64 ((rd vt500 x529).X), .int .i64 ((rd vt500 x529).Y), .int .i64 ((rd vt500 x529).Light)]) rfl (fun j_ hj_ => ((hc550 HS527.u1) j_ hj_))) ?_)
              refine seqK rfl (does_alloc (z := Value.agg #[.int .i64 0, .int .i64 0, .int .i64 0]) (cs := #[.int .i64 0, .int .i64 0, .int .i64 0]) rfl kr rfl HS527 ?_)
              intro b554 W555 HS556
              refine seqK rfl (does_storeA (vs := [.int .i64 ((rd vt500 x529).X), .int .i64 ((rd vt500 x529).Y), .int .i64 ((rd vt500 x529).Light)]) rfl kr kr kr rfl (ones rfl) HS556 kr ?_)
              intro W558 HS559
              refine nl (hK546 _ _ ?_)
              refine wp_seq_k (fun K560 hK561 => ?_)
              refine heldG (S := Sg t f524 ([(b554, .cells #[.int .i64 ((rd vt500 x529).X), .int .i64 ((rd vt500 x529).Y), .int .i64 ((rd vt500 x529).Light)] 42 (0, 0))] :: s491 :: s508 :: s282 :: s276 :: s40 :: [(b17, .cells #[.slice A5 l4.length c6, .int .i64 x286] 28 (0, 0))] :: [(b11, .cells #[.int .i64 (Int.tmod p1.X 20000), .int .i64 (Int.tmod p1.Y 20000)] 24 (0, 0))] :: H) []) (n := 20) kr rfl HS559 ?_
              intro W562 HS563
              refine takeGL [0, 1] (n := 20) (fuel := 18) #[true, true, false, false, false, false, false, false, false, false, false, false, false, false, false, false, false, false, false, false] rfl kr kr kr (fun ch_ a_ w_ q_ => (fun ch_ a_ w_ q_ => hnp ch_ a_ w_ (hp519 ch_ a_ w_ q_)) ch_ a_ w_ (hp543 ch_ a_ w_ q_)) (Sg.g0 (Sx.of [] fL HS563)) ?_
              refine takeGQ 2 [] rfl kr kr kr kr kr kr (fun ch_ a_ w_ q_ => (fun ch_ a_ w_ q_ => hnp ch_ a_ w_ (hp519 ch_ a_ w_ q_)) ch_ a_ w_ (hp543 ch_ a_ w_ q_)) (Sg.g0 (Sx.of [] fL HS563)) (fun w_ hw_ => by obtain ⟨g_, hl_, hS_⟩ := hw_.st; exact run_load rfl Try.underlying3 rfl (kv (.pointer (some ⟨b554, 0, none⟩))) (hS_.cell 0)) ?_
              refine takeGL [3] (n := 17) (fuel := 16) #[true, true, true, true, false, false, false, false, false, false, false, false, false, false, false, false, false, false, false, false] rfl kr kr kr (fun ch_ a_ w_ q_ => (fun ch_ a_ w_ q_ => hnp ch_ a_ w_ (hp519 ch_ a_ w_ q_)) ch_ a_ w_ (hp543 ch_ a_ w_ q_)) (Sg.g0 (Sx.of [] fL HS563)) ?_
              refine takeGQ 4 [] rfl kr kr kr kr kr kr (fun ch_ a_ w_ q_ => (fun ch_ a_ w_ q_ => hnp ch_ a_ w_ (hp519 ch_ a_ w_ q_)) ch_ a_ w_ (hp543 ch_ a_ w_ q_)) (Sg.g0 (Sx.of [] fL HS563)) (fun w_ hw_ => by obtain ⟨g_, hl_, hS_⟩ := hw_.st; exact run_load rfl Try.underlying3 rfl (kv (.pointer (some ⟨b554, 1, none⟩))) (hS_.cell 1)) ?_
              refine takeGL [6, 7] (n := 15) (fuel := 13) #[true, true, true, true, true, false, true, true, false, false, false, false, false, false, false, false, false, false, false, false] rfl kr kr kr (fun ch_ a_ w_ q_ => (fun ch_ a_ w_ q_ => hnp ch_ a_ w_ (hp519 ch_ a_ w_ q_)) ch_ a_ w_ (hp543 ch_ a_ w_ q_)) (Sg.g0 (Sx.of [] fL HS563)) ?_
              refine takeGQ 8 [] rfl kr kr kr kr kr kr (fun ch_ a_ w_ q_ => (fun ch_ a_ w_ q_ => hnp ch_ a_ w_ (hp519 ch_ a_ w_ q_)) ch_ a_ w_ (hp543 ch_ a_ w_ q_)) (Sg.g0 (Sx.of [] fL HS563)) (fun w_ hw_ => by obtain ⟨g_, hl_, hS_⟩ := hw_.st; exact run_load rfl Try.underlying3 rfl (kv (.pointer (some ⟨b554, 0, none⟩))) (hS_.cell 0)) ?_
              refine takeGL [9] (n := 12) (fuel := 11) #[true, true, true, true, true, false, true, true, true, true, false, false, false, false, false, false, false, false, false, false] rfl kr kr kr (fun ch_ a_ w_ q_ => (fun ch_ a_ w_ q_ => hnp ch_ a_ w_ (hp519 ch_ a_ w_ q_)) ch_ a_ w_ (hp543 ch_ a_ w_ q_)) (Sg.g0 (Sx.of [] fL HS563)) ?_
              refine takeGQ 10 [] rfl kr kr kr kr kr kr (fun ch_ a_ w_ q_ => (fun ch_ a_ w_ q_ => hnp ch_ a_ w_ (hp519 ch_ a_ w_ q_)) ch_ a_ w_ (hp543 ch_ a_ w_ q_)) (Sg.g0 (Sx.of [] fL HS563)) (fun w_ hw_ => by obtain ⟨g_, hl_, hS_⟩ := hw_.st; exact run_load rfl Try.underlying3 rfl (kv (.pointer (some ⟨b554, 1, none⟩))) (hS_.cell 1)) ?_
              refine takeGL [13, 14] (n := 10) (fuel := 8) #[true, true, true, true, true, false, true, true, true, true, true, false, false, true, true, false, false, false, false, false] rfl kr kr kr (fun ch_ a_ w_ q_ => (fun ch_ a_ w_ q_ => hnp ch_ a_ w_ (hp519 ch_ a_ w_ q_)) ch_ a_ w_ (hp543 ch_ a_ w_ q_)) (Sg.g0 (Sx.of [] fL HS563)) ?_
              refine takeGQ 15 [] rfl kr kr kr kr kr kr (fun ch_ a_ w_ q_ => (fun ch_ a_ w_ q_ => hnp ch_ a_ w_ (hp519 ch_ a_ w_ q_)) ch_ a_ w_ (hp543 ch_ a_ w_ q_)) (Sg.g0 (Sx.of [] fL HS563)) (fun w_ hw_ => by obtain ⟨g_, hl_, hS_⟩ := hw_.st; exact run_load rfl Try.underlying3 rfl (kv (.pointer (some ⟨b554, 0, none⟩))) (hS_.cell 0)) ?_
              refine takeGL [16] (n := 7) (fuel := 6) #[true, true, true, true, true, false, true, true, true, true, true, false, false, true, true, true, true, false, false, false] rfl kr kr kr (fun ch_ a_ w_ q_ => (fun ch_ a_ w_ q_ => hnp ch_ a_ w_ (hp519 ch_ a_ w_ q_)) ch_ a_ w_ (hp543 ch_ a_ w_ q_)) (Sg.g0 (Sx.of [] fL HS563)) ?_
              refine takeGQ 17 [] rfl kr kr kr kr kr kr (fun ch_ a_ w_ q_ => (fun ch_ a_ w_ q_ => hnp ch_ a_ w_ (hp519 ch_ a_ w_ q_)) ch_ a_ w_ (hp543 ch_ a_ w_ q_)) (Sg.g0 (Sx.of [] fL HS563)) (fun w_ hw_ => by obtain ⟨g_, hl_, hS_⟩ := hw_.st; exact run_load rfl Try.underlying3 rfl (kv (.pointer (some ⟨b554, 1, none⟩))) (hS_.cell 1)) ?_
              have hq_ := bind_some h; clear h; obtain ⟨vt564, hc565, h⟩ := hq_
              refine takeGE 5 kr rfl kr (does_call (f := 12) (args := #[.slice A328 vt321.length c329, .int .i64 ((rd vt500 x529).X), .int .i64 ((rd vt500 x529).Y)]) kr (spykeep3_light.calls k A328 c329 vt321 ((rd vt500 x529).X) ((rd vt500 x529).Y) HS563 (HR479.mono (L482.trans (L486.trans (L512.trans L525)))) vt564 hc565) ?_)
              rintro _ W568 ⟨f566, rfl, L567, HS569⟩
              refine ⟨_, rfl, ?_⟩
              refine ⟨(Sg.g0 (Sx.of [] L567 HS569)), ?_⟩
              have hq_ := bind_some h; clear h; obtain ⟨vt570, hc571, h⟩ := hq_
              refine takeGE 11 kr rfl kr (does_call (f := 12) (args := #[.slice A371 vt364.length c372, .int .i64 ((rd vt500 x529).X), .int .i64 ((rd vt500 x529).Y)]) kr (spykeep3_light.calls k A371 c372 vt364 ((rd vt500 x529).X) ((rd vt500 x529).Y) HS569 (HR484.mono (L486.trans (L512.trans (L525.trans L567)))) vt570 hc571) ?_)
              rintro _ W574 ⟨f572, rfl, L573, HS575⟩
              refine ⟨_, rfl, ?_⟩
              refine ⟨(Sg.g0 (Sx.of [] (L567.trans L573) HS575)), ?_⟩
              refine takeGL [12] (n := 3) (fuel := 2) #[true, true, true, true, true, true, true, true, true, true, true, true, true, true, true, true, true, true, false, false] rfl kr kr kr (fun ch_ a_ w_ q_ => (fun ch_ a_ w_ q_ => hnp ch_ a_ w_ (hp519 ch_ a_ w_ q_)) ch_ a_ w_ (hp543 ch_ a_ w_ q_)) (Sg.g0 (Sx.of [] (L567.trans L573) HS575)) ?_
              have hq_ := bind_some h; clear h; obtain ⟨vt576, hc577, h⟩ := hq_
              refine takeGE 18 kr rfl kr (does_call (f := 12) (args := #[.slice A415 vt408.length c416, .int .i64 ((rd vt500 x529).X), .int .i64 ((rd vt500 x529).Y)]) kr (spykeep3_light.calls k A415 c416 vt408 ((rd vt500 x529).X) ((rd vt500 x529).Y) HS575 (HR488.mono (L512.trans (L525.trans (L567.trans L573)))) vt576 hc577) ?_)
              rintro _ W580 ⟨f578, rfl, L579, HS581⟩
              refine ⟨_, rfl, ?_⟩
              refine ⟨(Sg.g0 (Sx.of [] (L567.trans (L573.trans L579)) HS581)), ?_⟩
              refine takeGL [19] (n := 1) (fuel := 0) #[true, true, true, true, true, true, true, true, true, true, true, true, true, true, true, true, true, true, true, true] rfl kr kr kr (fun ch_ a_ w_ q_ => (fun ch_ a_ w_ q_ => hnp ch_ a_ w_ (hp519 ch_ a_ w_ q_)) ch_ a_ w_ (hp543 ch_ a_ w_ q_)) (Sg.g0 (Sx.of [] (L567.trans (L573.trans L579)) HS581)) ?_
              refine doneG kr ?_ _
              refine hK561 _ _ ?_
              have hq_ := ite_some h; clear h; rcases hq_ with ⟨c583, h⟩ | ⟨c583, h⟩
              · have c583 : (w64 (vt564 + vt570)) ≠ vt576 := c583
                refine wpRwI 162 kr (bne_iff_ne.mpr c583) ?_
                refine condT kr ?_
                refine wp_seq_k fun K584 hK585 => rl ?_
                refine seqL1 kr ?_
                refine nl (hK585 _ _ ?_)
                refine wp_ret ?_
                refine hr541 _ _ ?_
                refine hr517 _ _ ?_
                refine hret _ _ ?_
                refine ends_still (v := Value.bool false) kr kr ?_
                have HS646 := HS581.drop
                have HS647 := HS646.drop
                have HS648 := HS647.drop
                have HS649 := HS648.drop
                have HS650 := HS649.drop
                have HS651 := HS650.drop
                have HS652 := HS651.drop
                have HS653 := HS652.drop
                replace h := JR593 _ h
                injection h with h
                subst h
                exact ⟨f578, rfl, (L35.trans (L269.trans (L306.trans (L312.trans (L334.trans (L349.trans (L355.trans (L377.trans (L393.trans (L399.trans (L421.trans (L438.trans (L465.trans (L477.trans (L482.trans (L486.trans (L512.trans (L525.trans (L567.trans (L573.trans L579)))))))))))))))))))), HS653⟩
              · have c583 : ¬ ((w64 (vt564 + vt570)) ≠ vt576) := c583
                refine wpRwI 162 (x := ((w64 (vt564 + vt570)) != vt576)) (v := false) kr (bne_eq_false_iff_eq.mpr (Decidable.of_not_not c583)) ?_
                refine condF kr ?_
                refine wp_skip ?_
                refine hn540 _ _ ?_
                refine hK537 _ _ ?_
                refine rl ?_
                refine seqL2 kr ?_
                refine nl ?_
                refine hK522 n523 _ _ (Nat.lt_succ_self _) ?_
                have HS602 := HS581.u7.u7.u7.u7.u7.u7.u7.u7
                have HS603 := HS602.drop
                exact ⟨f578, (w64 (x529 + 1)), (jL [(j528 0), .pointer (some ⟨b554, 0, none⟩), tV, .pointer (some ⟨b551, of552 + (x529 : Int).toNat * 3, none⟩), (ag_Spot (rd vt500 x529)), .slice A328 vt321.length c329, .pointer (some ⟨b554, 0, none⟩), iV ((rd vt500 x529).X), .pointer (some ⟨b554, 1, none⟩), iV ((rd vt500 x529).Y), iV vt564, .slice A371 vt364.length c372, .pointer (some ⟨b554, 0, none⟩), iV ((rd vt500 x529).X), .pointer (some ⟨b554, 1, none⟩), iV ((rd vt500 x529).Y), iV vt570, iV (w64 (vt564 + vt570)), .slice A415 vt408.length c416, .pointer (some ⟨b554, 0, none⟩), iV ((rd vt500 x529).X), .pointer (some ⟨b554, 1, none⟩), iV ((rd vt500 x529).Y), iV vt576, fV, iV (w64 (x529 + 1))]), (L525.trans (L567.trans (L573.trans L579))), HS603, h, kr⟩
            · have c535 : ¬ (x529 < (vt500.length : Int)) := c535
              refine wpRwI 140 kr (decide_eq_false c535) ?_
              refine condF kr ?_
              refine wp_exit ?_
              refine hx515 _ _ ?_
              exact J592 f524 (jL [(j528 0), (j528 1), iV x529, fV, (j528 3), (j528 4), (j528 5), (j528 6), (j528 7), (j528 8), (j528 9), (j528 10), (j528 11), (j528 12), (j528 13), (j528 14), (j528 15), (j528 16), (j528 17), (j528 18), (j528 19), (j528 20), (j528 21), (j528 22), (j528 23), (j528 24), (j528 25)]) W526 _ L525 h HS527 kr
 clear h; have h := hv287; clear hv287
 have HS290 := HS37.cons_nil
 have HS292 := HS290.cons_nil
 refine loopK (fun n_ a_ w_ => ∃ (f166 : FM) (A172 : Option Addr) (c173 : Nat) (s174 : Seg) (A178 : Option Addr) (c179 : Nat) (s180 : Seg) (b171 : List Int) (both177 : List Int) (sum183 : Int) (x184 : Int) (x185 : Int) (j170 : Nat → Value), FM.le f34 f166 ∧ St t w_ f166 (s180 :: s174 :: s40 :: [(b17, .cells #[.slice A5 l4.length c6, .int .i64 x185] 28 (0, 0))] :: [(b11, .cells #[.int .i64 (Int.tmod p1.X 20000), .int .i64 (Int.tmod p1.Y 20000)] 24 (0, 0))] :: H) ∧ Own (tInt .i64) 31 f166 A172 c173 s174 b171 ∧ Own (tInt .i64) 31 f166 A178 c179 s180 both177 ∧ spykeep3_OpticsTrailsAdd.l0 k vt31 l4 n_ b171 both177 sum183 x184 x185 = some o162 ∧ a_ = ⟨#[.agg #[iV p1.X, iV p1.Y], iV (Int.tmod dx2 65), iV (Int.tmod dy3 65), .slice A5 l4.length c6, iV n8, pV b11 0, uV, uV, uV, uV, fV, pV b17 0, .slice A38 vt31.length c39, .slice A172 b171.length c173, .slice A178 both177.length c179, iV sum183, uV, (j170 0), uV, uV, uV, uV, uV, uV, uV, uV, .slice A5 l4.length c6, .agg #[.slice A5 l4.length c6, iV 0], pV b17 0, pV b11 0, iV p1.X, iV (Int.tmod p1.X 20000), pV b11 1, iV p1.Y, iV (Int.tmod p1.Y 20000), .agg #[iV (Int.tmod p1.X 20000), iV (Int.tmod p1.Y 20000)], iV dx2, iV (Int.tmod dx2 65), iV dy3, iV (Int.tmod dy3 65), pV b17 0, .slice A38 vt31.length c39, .slice A38 vt31.length c39, iV (vt31.length : Int), iV x184, (j170 1), (j170 2), (j170 3), (j170 4), (j170 5), (j170 6), (j170 7), (j170 8), (j170 9), (j170 10), (j170 11), (j170 12), (j170 13), (j170 14), (j170 15), (j170 16), (j170 17), (j170 18), (j170 19), (j170 20), (j170 21), (j170 22), (j170 23), (j170 24), (j170 25), (j170 26), (j170 27), (j170 28), uV, uV, uV, uV, uV, uV, uV, uV, uV, uV, uV, uV, uV, uV, uV, uV, uV, uV, uV, uV, uV, uV, uV, uV, uV, uV, uV, uV, uV, uV, uV, uV, uV, uV, uV, uV, uV, uV, uV, uV, uV, uV, uV, uV, uV, uV, uV, uV, uV, uV, uV, uV, uV, uV, uV, uV, uV, uV, uV, uV, uV, uV, uV, uV, uV, uV, uV, uV, uV, uV, uV, uV, uV, uV, uV, uV, uV, uV, uV, uV, uV, uV, uV, uV, uV, uV, uV, uV, uV, uV, uV], []⟩) k ⟨f34, none, 0, [], none, 0, [], ([] : List Int), ([] : List Int), 0, 0, vt32, (jL []), fL, HS292, (Own.nil _), (Own.nil _), h, kr⟩ ?_
 clear h
 rintro n165 _ W168 ⟨f166, A172, c173, s174, A178, c179, s180, b171, both177, sum183, x184, x185, j170, L167, HS169, HO175, HO181, h, rfl⟩ K163 hK164
 obtain _ | n165 := n165
 · exact nomatch h
 simp only [spykeep3_OpticsTrailsAdd.l0] at h
 refine wp_seq_k fun K186 hK187 => rl ?_
 refine seqL1 kr ?_
 refine nl (hK187 _ _ ?_)
 refine wp_seq_k (fun K188 hK189 => ?_)
 have hq_ := ite_some h; clear h; rcases hq_ with ⟨c191, h⟩ | ⟨c191, h⟩
 · have c191 : x184 < (vt31.length : Int) := c191
   refine wpRwI 45 kr (decide_eq_true c191) ?_
   refine condT kr ?_
   refine wp_skip ?_
   refine hK189 _ _ ?_
   refine wp_seq_k (fun K192 hK193 => ?_)
   refine blockK (fun B194 hx195 hn196 hr197 ho198 hp199 => ?_)
   refine wp_seq_k fun K201 hK202 => rl ?_
   have hq_ := guard_some h; clear h; obtain ⟨c203, h⟩ := hq_
   have c203 : 0 ≤ x184 := c203
   obtain ⟨b207, of208, cs204, hA209, hr205, hc206⟩ := (HO41.mono L167).at (i := x184) c203 c191
   obtain rfl := hr205
   refine seqK rfl (does_run (run_indexE hA209 (sz := 1) rfl Try.underlying29 kr (kv (.slice A38 vt31.length c39)) (kv (.int .i64 x184)) c203 c191 W168) ?_)
   refine seqK rfl (does_run (run_load rfl Try.underlying31 rfl (kv (.pointer (some ⟨b207, of208 + (x184 : Int).toNat * 1, none⟩))) ((hc206 HS169.u2) 0 (by decide))) ?_)
   refine seqL1 kr ?_
   refine nl (hK202 _ _ ?_)
   refine wp_seq_k fun K210 hK211 => rl ?_
   have HS212 := HS169.u3
   have hq_ := bind_some h; clear h; obtain ⟨⟨vt213, vt214⟩, hc215, h⟩ := hq_
   refine seqL2 kr ?_
   refine seqK rfl (does_call (f := 6) (args := #[.pointer (some ⟨b17, 0, none⟩), .int .i64 5000]) kr (spymake_Stream_Next.calls k b17 A5 c6 (⟨l4, x185⟩ : S_Stream) 5000 HS212 (HR7.mono (L35.trans L167)) vt213 vt214 hc215) ?_)
   rintro _ W218 ⟨f216, rfl, L217, HS219⟩
   refine ⟨_, rfl, ?_⟩
   refine seqK rfl (does_lit (e := (tInt .i64)) (E := 31) (vs := #[(0, Value.int .i64 vt213)]) (cs := #[.int .i64 vt213]) (xs := ([vt213] : List Int)) rfl Try.underlying29 kr kr ⟨[.int .i64 vt213], _, rfl, rfl, rfl⟩ rfl HS219 ?_ (by decide))
   intro b220 W221 s222 HS223 _ HO224
   have hq_ := guard_some h; clear h; obtain ⟨c226, h⟩ := hq_
   have c226 : (b171.length + 1) * 8 ≤ 140737488355328 := c226
   have HS228 := HS223.u3.u1
   refine seqK rfl (does_append1 (e := (tInt .i64)) (E := 31) (xs := b171) (ys := ([vt213] : List Int)) rfl (kv (.slice A172 b171.length c173)) (kv (.slice (some ⟨b220, 0, none⟩) ([vt213] : List Int).length 1)) Try.underlying29 inf31 (HO175.mono L217) HO224 HS228 c226 (lim63 c226 (by decide)) ?_)
   intro A229 c230 s231 W232 HS233 HO234
   refine seqL1 kr ?_
   refine nl (hK211 _ _ ?_)
   refine wp_seq_k fun K235 hK236 => rl ?_
   have hq_ := guard_some h; clear h; obtain ⟨c237, h⟩ := hq_
   have c237 : 0 ≤ (w64 (((b171 ++ ([vt213] : List Int)).length : Int) - 1)) := c237
   have hq_ := guard_some h; clear h; obtain ⟨c238, h⟩ := hq_
   have c238 : (w64 (((b171 ++ ([vt213] : List Int)).length : Int) - 1)) < ((b171 ++ ([vt213] : List Int)).length : Int) := c238
   obtain ⟨b242, of243, cs239, hA244, hr240, hc241⟩ := HO234.at (i := w64 (((b171 ++ ([vt213] : List Int)).length : Int) - 1)) c237 c238
   obtain rfl := hr240
   refine seqL6 kr ?_
   refine seqK rfl (does_run (run_indexE hA244 (sz := 1) rfl Try.underlying29 kr (kv (.slice A229 (b171 ++ ([vt213] : List Int)).length c230)) (kv (.int .i64 (w64 (((b171 ++ ([vt213] : List Int)).length : Int) - 1)))) c237 c238 W232) ?_)
   refine seqK rfl (does_run (run_load rfl Try.underlying31 rfl (kv (.pointer (some ⟨b242, of243 + (w64 (((b171 ++ ([vt213] : List Int)).length : Int) - 1) : Int).toNat * 1, none⟩))) ((hc241 HS233) 0 (by decide))) ?_)
   refine seqL1 kr ?_
   refine seqK rfl (does_lit (e := (tInt .i64)) (E := 31) (vs := #[(0, Value.int .i64 (w64 ((rd vt31 x184) + (rd (b171 ++ ([vt213] : List Int)) (w64 (((b171 ++ ([vt213] : List Int)).length : Int) - 1))))))]) (cs := #[.int .i64 (w64 ((rd vt31 x184) + (rd (b171 ++ ([vt213] : List Int)) (w64 (((b171 ++ ([vt213] : List Int)).length : Int) - 1)))))]) (xs := ([w64 ((rd vt31 x184) + (rd (b171 ++ ([vt213] : List Int)) (w64 (((b171 ++ ([vt213] : List Int)).length : Int) - 1))))] : List Int)) rfl Try.underlying29 kr kr ⟨[.int .i64 (w64 ((rd vt31 x184) + (rd (b171 ++ ([vt213] : List Int)) (w64 (((b171 ++ ([vt213] : List Int)).length : Int) - 1)))))], _, rfl, rfl, rfl⟩ rfl HS233 ?_ (by decide))
   intro b245 W246 s247 HS248 _ HO249
   have hq_ := guard_some h; clear h; obtain ⟨c251, h⟩ := hq_
   have c251 : (both177.length + 1) * 8 ≤ 140737488355328 := c251
   have HS253 := HS248.u3.u1
   refine seqK rfl (does_append1 (e := (tInt .i64)) (E := 31) (xs := both177) (ys := ([w64 ((rd vt31 x184) + (rd (b171 ++ ([vt213] : List Int)) (w64 (((b171 ++ ([vt213] : List Int)).length : Int) - 1))))] : List Int)) rfl (kv (.slice A178 both177.length c179)) (kv (.slice (some ⟨b245, 0, none⟩) ([w64 ((rd vt31 x184) + (rd (b171 ++ ([vt213] : List Int)) (w64 (((b171 ++ ([vt213] : List Int)).length : Int) - 1))))] : List Int).length 1)) Try.underlying29 inf31 (HO181.mono L217) HO249 HS253 c251 (lim63 c251 (by decide)) ?_)
   intro A254 c255 s256 W257 HS258 HO259
   refine seqL1 kr ?_
   refine nl (hK236 _ _ ?_)
   refine rl ?_
   have hq_ := guard_some h; clear h; obtain ⟨c260, h⟩ := hq_
   have c260 : 0 ≤ (w64 (((both177 ++ ([w64 ((rd vt31 x184) + (rd (b171 ++ ([vt213] : List Int)) (w64 (((b171 ++ ([vt213] : List Int)).length : Int) - 1))))] : List Int)).length : Int) - 1)) := c260
   have hq_ := guard_some h; clear h; obtain ⟨c261, h⟩ := hq_
   have c261 : (w64 (((both177 ++ ([w64 ((rd vt31 x184) + (rd (b171 ++ ([vt213] : List Int)) (w64 (((b171 ++ ([vt213] : List Int)).length : Int) - 1))))] : List Int)).length : Int) - 1)) < ((both177 ++ ([w64 ((rd vt31 x184) + (rd (b171 ++ ([vt213] : List Int)) (w64 (((b171 ++ ([vt213] : List Int)).length : Int) - 1))))] : List Int)).length : Int) := c261
   obtain ⟨b265, of266, cs262, hA267, hr263, hc264⟩ := HO259.at (i := w64 (((both177 ++ ([w64 ((rd vt31 x184) + (rd (b171 ++ ([vt213] : List Int)) (w64 (((b171 ++ ([vt213] : List Int)).length : Int) - 1))))] : List Int)).length : Int) - 1)) c260 c261
   obtain rfl := hr263
   refine seqL5 kr ?_
   refine seqK rfl (does_run (run_indexE hA267 (sz := 1) rfl Try.underlying29 kr (kv (.slice A254 (both177 ++ ([w64 ((rd vt31 x184) + (rd (b171 ++ ([vt213] : List Int)) (w64 (((b171 ++ ([vt213] : List Int)).length : Int) - 1))))] : List Int)).length c255)) (kv (.int .i64 (w64 (((both177 ++ ([w64 ((rd vt31 x184) + (rd (b171 ++ ([vt213] : List Int)) (w64 (((b171 ++ ([vt213] : List Int)).length : Int) - 1))))] : List Int)).length : Int) - 1)))) c260 c261 W257) ?_)
   refine seqK rfl (does_run (run_load rfl Try.underlying31 rfl (kv (.pointer (some ⟨b265, of266 + (w64 (((both177 ++ ([w64 ((rd vt31 x184) + (rd (b171 ++ ([vt213] : List Int)) (w64 (((b171 ++ ([vt213] : List Int)).length : Int) - 1))))] : List Int)).length : Int) - 1) : Int).toNat * 1, none⟩))) ((hc264 HS258) 0 (by decide))) ?_)
   refine seqL2 kr ?_
   refine nl ?_
   refine hn196 _ _ ?_
   refine hK193 _ _ ?_
   refine rl ?_
   refine seqL2 kr ?_
   refine nl ?_
   refine hK164 n165 _ _ (Nat.lt_succ_self _) ?_
   have HS298 := HS258.u4.u3.u4.u4.u4
   exact ⟨f216, A229, c230, s231, A254, c255, s256, (b171 ++ ([vt213] : List Int)), (both177 ++ ([w64 ((rd vt31 x184) + (rd (b171 ++ ([vt213] : List Int)) (w64 (((b171 ++ ([vt213] : List Int)).length : Int) - 1))))] : List Int)), (w64 (sum183 + (rd (both177 ++ ([w64 ((rd vt31 x184) + (rd (b171 ++ ([vt213] : List Int)) (w64 (((b171 ++ ([vt213] : List Int)).length : Int) - 1))))] : List Int)) (w64 (((both177 ++ ([w64 ((rd vt31 x184) + (rd (b171 ++ ([vt213] : List Int)) (w64 (((b171 ++ ([vt213] : List Int)).length : Int) - 1))))] : List Int)).length : Int) - 1))))), (w64 (x184 + 1)), vt214, (jL [iV (rd vt31 x184), tV, .pointer (some ⟨b207, of208 + (x184 : Int).toNat * 1, none⟩), iV (rd vt31 x184), .slice A172 b171.length c173, .pointer (some ⟨b17, 0, none⟩), iV vt213, .slice (some ⟨b220, 0, none⟩) ([vt213] : List Int).length 1, .slice A229 (b171 ++ ([vt213] : List Int)).length c230, .slice A178 both177.length c179, iV (rd vt31 x184), .slice A229 (b171 ++ ([vt213] : List Int)).length c230, .slice A229 (b171 ++ ([vt213] : List Int)).length c230, iV ((b171 ++ ([vt213] : List Int)).length : Int), iV (w64 (((b171 ++ ([vt213] : List Int)).length : Int) - 1)), .pointer (some ⟨b242, of243 + (w64 (((b171 ++ ([vt213] : List Int)).length : Int) - 1) : Int).toNat * 1, none⟩), iV (rd (b171 ++ ([vt213] : List Int)) (w64 (((b171 ++ ([vt213] : List Int)).length : Int) - 1))), iV (w64 ((rd vt31 x184) + (rd (b171 ++ ([vt213] : List Int)) (w64 (((b171 ++ ([vt213] : List Int)).length : Int) - 1))))), .slice (some ⟨b245, 0, none⟩) ([w64 ((rd vt31 x184) + (rd (b171 ++ ([vt213] : List Int)) (w64 (((b171 ++ ([vt213] : List Int)).length : Int) - 1))))] : List Int).length 1, .slice A254 (both177 ++ ([w64 ((rd vt31 x184) + (rd (b171 ++ ([vt213] : List Int)) (w64 (((b171 ++ ([vt213] : List Int)).length : Int) - 1))))] : List Int)).length c255, iV sum183, .slice A254 (both177 ++ ([w64 ((rd vt31 x184) + (rd (b171 ++ ([vt213] : List Int)) (w64 (((b171 ++ ([vt213] : List Int)).length : Int) - 1))))] : List Int)).length c255, .slice A254 (both177 ++ ([w64 ((rd vt31 x184) + (rd (b171 ++ ([vt213] : List Int)) (w64 (((b171 ++ ([vt213] : List Int)).length : Int) - 1))))] : List Int)).length c255, iV ((both177 ++ ([w64 ((rd vt31 x184) + (rd (b171 ++ ([vt213] : List Int)) (w64 (((b171 ++ ([vt213] : List Int)).length : Int) - 1))))] : List Int)).length : Int), iV (w64 (((both177 ++ ([w64 ((rd vt31 x184) + (rd (b171 ++ ([vt213] : List Int)) (w64 (((b171 ++ ([vt213] : List Int)).length : Int) - 1))))] : List Int)).length : Int) - 1)), .pointer (some ⟨b265, of266 + (w64 (((both177 ++ ([w64 ((rd vt31 x184) + (rd (b171 ++ ([vt213] : List Int)) (w64 (((b171 ++ ([vt213] : List Int)).length : Int) - 1))))] : List Int)).length : Int) - 1) : Int).toNat * 1, none⟩), iV (rd (both177 ++ ([w64 ((rd vt31 x184) + (rd (b171 ++ ([vt213] : List Int)) (w64 (((b171 ++ ([vt213] : List Int)).length : Int) - 1))))] : List Int)) (w64 (((both177 ++ ([w64 ((rd vt31 x184) + (rd (b171 ++ ([vt213] : List Int)) (w64 (((b171 ++ ([vt213] : List Int)).length : Int) - 1))))] : List Int)).length : Int) - 1))), iV (w64 (sum183 + (rd (both177 ++ ([w64 ((rd vt31 x184) + (rd (b171 ++ ([vt213] : List Int)) (w64 (((b171 ++ ([vt213] : List Int)).length : Int) - 1))))] : List Int)) (w64 (((both177 ++ ([w64 ((rd vt31 x184) + (rd (b171 ++ ([vt213] : List Int)) (w64 (((b171 ++ ([vt213] : List Int)).length : Int) - 1))))] : List Int)).length : Int) - 1))))), iV (w64 (x184 + 1))]), (L167.trans L217), HS298, HO234, HO259, h, kr⟩
 · have c191 : ¬ (x184 < (vt31.length : Int)) := c191
   refine wpRwI 45 kr (decide_eq_false c191) ?_
   refine condF kr ?_
   refine wp_exit ?_
   refine hx52 _ _ ?_
   exact J288 f166 A172 c173 s174 A178 c179 s180 b171 both177 sum183 x185 (jL [(j170 0), iV x184, fV, (j170 2), (j170 3), (j170 4), (j170 5), (j170 6), (j170 7), (j170 8), (j170 9), (j170 10), (j170 11), (j170 12), (j170 13), (j170 14), (j170 15), (j170 16), (j170 17), (j170 18), (j170 19), (j170 20), (j170 21), (j170 22), (j170 23), (j170 24), (j170 25), (j170 26), (j170 27), (j170 28)]) W168 _ L167 h HS169 HO175 HO181 kr

end Go.Sp.X3
