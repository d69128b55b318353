import Derived.Test.YtiibkbligihgoaaGreatProg
import Derived.Test.YtiibkbligihgoaaGreatSpCopy
import Derived.Test.YtiibkbligihgoaaGreatFR6
import Derived.Test.YtiibkbligihgoaaGreatShelf
import Derived.Test.YtiibkbligihgoaaGreatSpMapR
import Derived.Test.YtiibkbligihgoaaGreatSpKeys
import Derived.Test.YtiibkbligihgoaaGreatSpNode
import Derived.Test.YtiibkbligihgoaaGreatSpKeyP
import Derived.Test.YtiibkbligihgoaaGreatSpArr
import Derived.Test.YtiibkbligihgoaaGreatSpRound
import Derived.Test.YtiibkbligihgoaaGreatKR6n0
namespace Go.Sp.R6
open Go Go.Sp Go.Proofs
set_option linter.unusedVariables false
attribute [local irreducible] wpList AnyL Code.wp Calls Does Code.wpIn wpListIn CallsIn bodyPostM LeavesInM
set_option maxRecDepth 100000 in
set_option maxHeartbeats 4000000 in
theorem spykeep3_Ask.calls (k : Nat) (b1 : Nat) (A4 : Option Addr) (c5 : Nat) (A8 : Option Addr) (c9 : Nat) (s3 : S_Stream) (rows7 : List S_Row) {t w : World} {f : FM} {H : List Seg} (HS : St t w f ([(b1, .cells #[.slice A4 s3.L.length c5, .int .i64 s3.vat] 26 (0, 0))] :: H)) (HR6 : SlR (tInt .i64) f A4 c5 s3.L) (HR10 : SlR ty_Row f A8 c9 rows7) (rr1 : S_Ask) (rr2 : Int) (h : spykeep3_Ask k s3 rows7 = some (rr1, rr2)) :
    Calls Tryz.prog 18 #[.pointer (some ⟨b1, 0, none⟩), .slice A8 rows7.length c9] w (fun e w' => ∃ (g : FM) (A660 : Option Addr) (c661 : Nat) (s662 : Seg), e = .returned (Value.agg #[.slice A660 rr1.Cones.length c661, .int .i64 rr1.From, .int .i64 rr1.To, .int .i64 rr1.Least, .int .i64 rr1.Ban]) ∧ FM.le f g ∧ St t w' g (s662 :: [(b1, .cells #[.slice A4 s3.L.length c5, .int .i64 rr2] 26 (0, 0))] :: H) ∧ Own ty_Cone 55 g A660 c661 s662 rr1.Cones) := by
 unfold spykeep3_Ask at h
 refine enter Tryz.func18 rfl (tm := #[pV b1 0, .slice A8 rows7.length c9, uV, uV, uV, uV, uV, uV, uV, uV, uV, uV, uV, uV, uV, uV, uV, uV, uV, uV, uV, uV, uV, uV, uV, uV, uV, uV, uV, uV, uV, uV, uV, uV, uV, uV, uV, uV, uV, uV, uV, uV, uV, uV, uV, uV, uV, uV, uV, uV, uV, uV, uV, uV, uV, uV, uV, uV, uV, uV, uV, uV, uV, uV, uV, uV, uV, uV, uV, uV, uV, uV, uV, uV, uV, uV, uV, uV, uV, uV, uV, uV, uV, uV, uV, uV, uV, uV, uV, uV, uV, uV, uV, uV, uV, uV, uV, uV, uV, uV, uV, uV, uV, uV]) kr ?_
 intro B hret hnor hnp
 refine wp_seq_k fun K11 hK12 => rl ?_
 refine seqK rfl (does_alloc (z := Value.agg #[.slice none 0 0, .int .i64 0, .int .i64 0, .int .i64 0, .int .i64 0]) (cs := #[.slice none 0 0, .int .i64 0, .int .i64 0, .int .i64 0, .int .i64 0]) rfl kr rfl HS ?_)
 intro b13 W14 HS15
 refine nl (hK12 _ _ ?_)
 refine wp_seq_k fun K17 hK18 => rl ?_
 have HS19 := HS15.u1
 have hq_ := bind_some h; clear h; obtain ⟨⟨vt20, vt21⟩, hc22, h⟩ := hq_
 refine seqL1 kr ?_
 refine seqK rfl (does_call (f := 27) (args := #[.pointer (some ⟨b1, 0, none⟩), .int .i64 (-6000), .int .i64 1000]) kr (spymake_Stream_Range.calls k b1 A4 c5 s3 (-6000) 1000 HS19 HR6 vt20 vt21 hc22) ?_)
 rintro _ W25 ⟨f23, rfl, L24, HS26⟩
 refine ⟨_, rfl, ?_⟩
 have hq_ := bind_some h; clear h; obtain ⟨⟨vt27, vt28⟩, hc29, h⟩ := hq_
 refine seqL1 kr ?_
 refine seqK rfl (does_call (f := 20) (args := #[.pointer (some ⟨b1, 0, none⟩), .int .i64 300]) kr (spymake_Stream_Next.calls k b1 A4 c5 (⟨s3.L, vt21⟩ : S_Stream) 300 HS26 (HR6.mono L24) vt27 vt28 hc29) ?_)
 rintro _ W32 ⟨f30, rfl, L31, HS33⟩
 refine ⟨_, rfl, ?_⟩
 have hq_ := bind_some h; clear h; obtain ⟨⟨vt34, vt35⟩, hc36, h⟩ := hq_
 refine seqL1 kr ?_
 refine seqK rfl (does_call (f := 20) (args := #[.pointer (some ⟨b1, 0, none⟩), .int .i64 4]) kr (spymake_Stream_Next.calls k b1 A4 c5 (⟨s3.L, vt28⟩ : S_Stream) 4 HS33 (HR6.mono (L24.trans L31)) vt34 vt35 hc36) ?_)
 rintro _ W39 ⟨f37, rfl, L38, HS40⟩
 refine ⟨_, rfl, ?_⟩
 refine seqL1 kr ?_
 refine seqK rfl (does_alloc (z := Value.agg #[.slice none 0 0, .int .i64 0, .int .i64 0, .int .i64 0, .int .i64 0]) (cs := #[.slice none 0 0, .int .i64 0, .int .i64 0, .int .i64 0, .int .i64 0]) rfl kr rfl HS40 ?_)
 intro b41 W42 HS43
 refine seqK rfl (does_storeA (vs := [.slice none 0 0, .int .i64 vt20, .int .i64 17592186044416, .int .i64 vt27, .int .i64 vt34]) rfl kr kr kr rfl (ones rfl) HS43 kr ?_)
 intro W45 HS46
 refine nl (hK18 _ _ ?_)
 refine wp_seq_k (fun K47 hK48 => ?_)
 refine wp_seq_k fun K49 hK50 => rl ?_
 have HS51 := HS46.u1
 have hq_ := bind_some h; clear h; obtain ⟨⟨vt52, vt53⟩, hc54, h⟩ := hq_
 refine seqL1 kr ?_
 refine seqK rfl (does_call (f := 20) (args := #[.pointer (some ⟨b1, 0, none⟩), .int .i64 3]) kr (spymake_Stream_Next.calls k b1 A4 c5 (⟨s3.L, vt35⟩ : S_Stream) 3 HS51 (HR6.mono (L24.trans (L31.trans L38))) vt52 vt53 hc54) ?_)
 rintro _ W57 ⟨f55, rfl, L56, HS58⟩
 refine ⟨_, rfl, ?_⟩
 refine seqL1 kr ?_
 refine nl (hK50 _ _ ?_)
 have hq_ := bind_some h; clear h; obtain ⟨v59, hv83, h⟩ := hq_
 have J84 : ∀ (f76 : FM) (x81 : Int) (x82 : Int) (j80 : Nat → Value) (W78 : World) (a_ : Act), FM.le f55 f76 → some ((x81, x82)) = some v59 → St t W78 f76 ([(b1, .cells #[.slice A4 s3.L.length c5, .int .i64 x81] 26 (0, 0))] :: [(b41, .cells #[.slice none 0 0, .int .i64 vt20, .int .i64 x82, .int .i64 vt27, .int .i64 vt34] 51 (0, 0))] :: [(b13, .cells #[.slice none 0 0, .int .i64 0, .int .i64 0, .int .i64 0, .int .i64 0] 51 (0, 0))] :: H) → a_ = ⟨#[pV b1 0, .slice A8 rows7.length c9, uV, uV, pV b13 0, pV b41 0, uV, uV, uV, pV b1 0, iV vt20, pV b1 0, iV vt27, pV b1 0, iV vt34, .agg #[.slice none 0 0, iV vt20, iV 17592186044416, iV vt27, iV vt34], pV b1 0, iV vt52, .bool (vt52 == 0), (j80 0), (j80 1), (j80 2), (j80 3), (j80 4), (j80 5), uV, uV, uV, uV, uV, uV, uV, uV, uV, uV, uV, uV, uV, uV, uV, uV, uV, uV, uV, uV, uV, uV, uV, uV, uV, uV, uV, uV, uV, uV, uV, uV, uV, uV, uV, uV, uV, uV, uV, uV, uV, uV, uV, uV, uV, uV, uV, uV, uV, uV, uV, uV, uV, uV, uV, uV, uV, uV, uV, uV, uV, uV, uV, uV, uV, uV, uV, uV, uV, uV, uV, uV, uV, uV, uV, uV, uV, uV, uV], []⟩ → K47 a_ W78 := by
  intro f76 x81 x82 j80 W78 a_ L77 hj85 HS79  hfr_; subst hfr_
  injection hj85 with hj85; subst hj85; try dsimp only at h
  refine hK48 _ _ ?_
  refine wp_seq_k (fun K89 hK90 => ?_)
  refine wp_seq_k fun K91 hK92 => rl ?_
  have hq_ := bind_some h; clear h; obtain ⟨⟨vt93, vt94⟩, hc95, h⟩ := hq_
  refine seqL1 kr ?_
  refine seqK rfl (does_call (f := 20) (args := #[.pointer (some ⟨b1, 0, none⟩), .int .i64 2]) kr (spymake_Stream_Next.calls k b1 A4 c5 (⟨s3.L, x81⟩ : S_Stream) 2 HS79 (HR6.mono (L24.trans (L31.trans (L38.trans (L56.trans L77))))) vt93 vt94 hc95) ?_)
  rintro _ W98 ⟨f96, rfl, L97, HS99⟩
  refine ⟨_, rfl, ?_⟩
  refine seqL1 kr ?_
  refine nl (hK92 _ _ ?_)
  have hq_ := bind_some h; clear h; obtain ⟨v100, hv114, h⟩ := hq_
  have J115 : ∀ (f107 : FM) (x112 : Int) (x113 : Int) (j111 : Nat → Value) (W109 : World) (a_ : Act), FM.le f96 f107 → some ((x112, x113)) = some v100 → St t W109 f107 ([(b1, .cells #[.slice A4 s3.L.length c5, .int .i64 vt94] 26 (0, 0))] :: [(b41, .cells #[.slice none 0 0, .int .i64 vt20, .int .i64 x82, .int .i64 x112, .int .i64 x113] 51 (0, 0))] :: [(b13, .cells #[.slice none 0 0, .int .i64 0, .int .i64 0, .int .i64 0, .int .i64 0] 51 (0, 0))] :: H) → a_ = ⟨#[pV b1 0, .slice A8 rows7.length c9, uV, uV, pV b13 0, pV b41 0, uV, uV, uV, pV b1 0, iV vt20, pV b1 0, iV vt27, pV b1 0, iV vt34, .agg #[.slice none 0 0, iV vt20, iV 17592186044416, iV vt27, iV vt34], pV b1 0, iV vt52, .bool (vt52 == 0), (j80 0), (j80 1), (j80 2), (j80 3), (j80 4), (j80 5), pV b1 0, iV vt93, .bool (vt93 == 0), (j111 0), (j111 1), uV, uV, uV, uV, uV, uV, uV, uV, uV, uV, uV, uV, uV, uV, uV, uV, uV, uV, uV, uV, uV, uV, uV, uV, uV, uV, uV, uV, uV, uV, uV, uV, uV, uV, uV, uV, uV, uV, uV, uV, uV, uV, uV, uV, uV, uV, uV, uV, uV, uV, uV, uV, uV, uV, uV, uV, uV, uV, uV, uV, uV, uV, uV, uV, uV, uV, uV, uV, uV, uV, uV, uV, uV, uV], []⟩ → K89 a_ W109 := by
   intro f107 x112 x113 j111 W109 a_ L108 hj116 HS110  hfr_; subst hfr_
   injection hj116 with hj116; subst hj116; try dsimp only at h
   refine hK90 _ _ ?_
   refine wp_seq_k (fun K120 hK121 => ?_)
   refine wp_seq_k fun K122 hK123 => rl ?_
   have hq_ := bind_some h; clear h; obtain ⟨⟨vt124, vt125⟩, hc126, h⟩ := hq_
   refine seqL1 kr ?_
   refine seqK rfl (does_call (f := 20) (args := #[.pointer (some ⟨b1, 0, none⟩), .int .i64 3]) kr (spymake_Stream_Next.calls k b1 A4 c5 (⟨s3.L, vt94⟩ : S_Stream) 3 HS110 (HR6.mono (L24.trans (L31.trans (L38.trans (L56.trans (L77.trans (L97.trans L108))))))) vt124 vt125 hc126) ?_)
   rintro _ W129 ⟨f127, rfl, L128, HS130⟩
   refine ⟨_, rfl, ?_⟩
   refine seqL1 kr ?_
   refine nl (hK123 _ _ ?_)
   refine blockK (fun B131 hx132 hn133 hr134 ho135 hp136 => ?_)
   have hq_ := bind_some h; clear h; obtain ⟨o364, hv602, h⟩ := hq_
   have J603 : ∀ (f590 : FM) (A597 : Option Addr) (c598 : Nat) (s599 : Seg) (x595 : Int) (x596 : List S_Cone) (j594 : Nat → Value) (W592 : World) (a_ : Act), FM.le f127 f590 → some ((x595, x596)) = some o364 → St t W592 f590 (s599 :: [(b1, .cells #[.slice A4 s3.L.length c5, .int .i64 x595] 26 (0, 0))] :: [(b41, .cells #[.slice A597 x596.length c598, .int .i64 vt20, .int .i64 x82, .int .i64 x112, .int .i64 x113] 51 (0, 0))] :: [(b13, .cells #[.slice none 0 0, .int .i64 0, .int .i64 0, .int .i64 0, .int .i64 0] 51 (0, 0))] :: H) → Own ty_Cone 55 f590 A597 c598 s599 x596 → a_ = ⟨#[pV b1 0, .slice A8 rows7.length c9, uV, uV, pV b13 0, pV b41 0, (j594 0), (j594 1), (j594 2), pV b1 0, iV vt20, pV b1 0, iV vt27, pV b1 0, iV vt34, .agg #[.slice none 0 0, iV vt20, iV 17592186044416, iV vt27, iV vt34], pV b1 0, iV vt52, .bool (vt52 == 0), (j80 0), (j80 1), (j80 2), (j80 3), (j80 4), (j80 5), pV b1 0, iV vt93, .bool (vt93 == 0), (j111 0), (j111 1), pV b1 0, iV vt124, (j594 3), (j594 4), (j594 5), (j594 6), (j594 7), (j594 8), (j594 9), (j594 10), (j594 11), (j594 12), (j594 13), (j594 14), (j594 15), (j594 16), (j594 17), (j594 18), (j594 19), (j594 20), (j594 21), (j594 22), (j594 23), (j594 24), (j594 25), (j594 26), (j594 27), (j594 28), (j594 29), (j594 30), (j594 31), (j594 32), (j594 33), (j594 34), (j594 35), (j594 36), (j594 37), (j594 38), (j594 39), (j594 40), (j594 41), (j594 42), (j594 43), (j594 44), (j594 45), (j594 46), (j594 47), (j594 48), (j594 49), (j594 50), (j594 51), (j594 52), (j594 53), (j594 54), (j594 55), (j594 56), (j594 57), (j594 58), (j594 59), (j594 60), (j594 61), (j594 62), (j594 63), (j594 64), (j594 65), (j594 66), (j594 67), (j594 68), (j594 69), (j594 70), (j594 71), (j594 72), (j594 73), uV], []⟩ → K120 a_ W592 := by
    intro f590 A597 c598 s599 x595 x596 j594 W592 a_ L591 hj604 HS593 HO600 hfr_; subst hfr_
    injection hj604 with hj604; subst hj604; try dsimp only at h
    refine hK121 _ _ ?_
    refine wp_seq_k fun K649 hK650 => rl ?_
    refine seqK rfl (does_run (run_loadN (n := 5) rfl Tryz.underlying51 rfl kr (kv (.pointer (some ⟨b41, 0, none⟩))) (cs := [.slice A597 x596.length c598, .int .i64 vt20, .int .i64 x82, .int .i64 x112, .int .i64 x113]) rfl (HS593.u2.cells 0 5 _ rfl)) ?_)
    have HS651 := HS593.u3
    refine seqK rfl (does_storeA (vs := [.slice A597 x596.length c598, .int .i64 vt20, .int .i64 x82, .int .i64 x112, .int .i64 x113]) rfl kr kr kr rfl (ones rfl) HS651 kr ?_)
    intro W652 HS653
    refine nl (hK650 _ _ ?_)
    refine wp_ret ?_
    refine hret _ _ ?_
    refine ends (v := Value.agg #[.slice A597 x596.length c598, .int .i64 vt20, .int .i64 x82, .int .i64 x112, .int .i64 x113]) (results1 (q1 := .cell 4 51) kr (resN (n := 5) (cs := [.slice A597 x596.length c598, .int .i64 vt20, .int .i64 x82, .int .i64 x112, .int .i64 x113]) (kv (.pointer (some ⟨b13, 0, none⟩))) Tryz.underlying51 rfl kr rfl (HS653.cells 0 5 _ rfl))) kr ?_
    have HS657 := HS653.u2.u2.u3.u3
    have HS658 := HS657.drop
    have HS659 := HS658.drop
    injection h with h
    injection h with h0_ h
    subst h0_ h
    exact ⟨f590, A597, c598, s599, rfl, (L24.trans (L31.trans (L38.trans (L56.trans (L77.trans (L97.trans (L108.trans (L128.trans L591)))))))), HS659, HO600⟩
   clear h; have h := hv602; clear hv602
   have HS605 := HS130.cons_nil
   refine loopK (fun n_ a_ w_ => ∃ (f368 : FM) (A376 : Option Addr) (c377 : Nat) (s378 : Seg) (x373 : Int) (x374 : Int) (x375 : List S_Cone) (j372 : Nat → Value), FM.le f127 f368 ∧ St t w_ f368 (s378 :: [(b1, .cells #[.slice A4 s3.L.length c5, .int .i64 x374] 26 (0, 0))] :: [(b41, .cells #[.slice A376 x375.length c377, .int .i64 vt20, .int .i64 x82, .int .i64 x112, .int .i64 x113] 51 (0, 0))] :: [(b13, .cells #[.slice none 0 0, .int .i64 0, .int .i64 0, .int .i64 0, .int .i64 0] 51 (0, 0))] :: H) ∧ Own ty_Cone 55 f368 A376 c377 s378 x375 ∧ spykeep3_Ask.l0 k vt124 s3 rows7 n_ x373 x374 x375 = some o364 ∧ a_ = ⟨#[pV b1 0, .slice A8 rows7.length c9, uV, uV, pV b13 0, pV b41 0, (j372 0), (j372 1), (j372 2), pV b1 0, iV vt20, pV b1 0, iV vt27, pV b1 0, iV vt34, .agg #[.slice none 0 0, iV vt20, iV 17592186044416, iV vt27, iV vt34], pV b1 0, iV vt52, .bool (vt52 == 0), (j80 0), (j80 1), (j80 2), (j80 3), (j80 4), (j80 5), pV b1 0, iV vt93, .bool (vt93 == 0), (j111 0), (j111 1), pV b1 0, iV vt124, iV x373, (j372 3), (j372 4), (j372 5), (j372 6), (j372 7), (j372 8), (j372 9), (j372 10), (j372 11), (j372 12), (j372 13), (j372 14), (j372 15), (j372 16), (j372 17), (j372 18), (j372 19), (j372 20), (j372 21), (j372 22), (j372 23), (j372 24), (j372 25), (j372 26), (j372 27), (j372 28), (j372 29), (j372 30), (j372 31), (j372 32), (j372 33), (j372 34), (j372 35), (j372 36), (j372 37), (j372 38), (j372 39), (j372 40), (j372 41), (j372 42), (j372 43), (j372 44), (j372 45), (j372 46), (j372 47), (j372 48), (j372 49), (j372 50), (j372 51), (j372 52), (j372 53), (j372 54), (j372 55), (j372 56), (j372 57), (j372 58), (j372 59), (j372 60), (j372 61), (j372 62), (j372 63), (j372 64), (j372 65), (j372 66), (j372 67), (j372 68), (j372 69), (j372 70), (j372 71), (j372 72), uV], []⟩) k ⟨f127, none, 0, [], 0, vt125, ([] : List S_Cone), (jL []), fL, HS605, (Own.nil _), h, kr⟩ ?_
   clear h
   rintro n367 _ W370 ⟨f368, A376, c377, s378, x373, x374, x375, j372, L369, HS371, HO379, h, rfl⟩ K365 hK366
   obtain _ | n367 := n367
   · exact nomatch h
   simp only [spykeep3_Ask.l0] at h
   refine wp_seq_k fun K381 hK382 => rl ?_
   refine seqL1 kr ?_
   refine nl (hK382 _ _ ?_)
   refine wp_seq_k (fun K383 hK384 => ?_)
   have hq_ := ite_some h; clear h; rcases hq_ with ⟨c386, h⟩ | ⟨c386, h⟩
   · have c386 : x373 < vt124 := c386
     refine wpRwI 33 kr (decide_eq_true c386) ?_
     refine condT kr ?_
     refine wp_skip ?_
     refine hK384 _ _ ?_
     refine wp_seq_k (fun K387 hK388 => ?_)
     refine blockK (fun B389 hx390 hn391 hr392 ho393 hp394 => ?_)
     refine wp_seq_k fun K396 hK397 => rl ?_
     have HS398 := HS371.u1
     have hq_ := bind_some h; clear h; obtain ⟨⟨vt399, vt400⟩, hc401, h⟩ := hq_
     refine seqL1 kr ?_
     refine seqK rfl (does_call (f := 13) (args := #[.pointer (some ⟨b1, 0, none⟩)]) kr (spymake_Stream_Vec.calls k b1 A4 c5 (⟨s3.L, x374⟩ : S_Stream) HS398 (HR6.mono (L24.trans (L31.trans (L38.trans (L56.trans (L77.trans (L97.trans (L108.trans (L128.trans L369))))))))) vt399 vt400 hc401) ?_)
     rintro _ W404 ⟨f402, rfl, L403, HS405⟩
     refine ⟨_, rfl, ?_⟩
     have hq_ := bind_some h; clear h; obtain ⟨⟨vt406, vt407⟩, hc408, h⟩ := hq_
     refine seqL1 kr ?_
     refine seqK rfl (does_call (f := 20) (args := #[.pointer (some ⟨b1, 0, none⟩), .int .i64 1073741825]) kr (spymake_Stream_Next.calls k b1 A4 c5 (⟨s3.L, vt400⟩ : S_Stream) 1073741825 HS405 (HR6.mono (L24.trans (L31.trans (L38.trans (L56.trans (L77.trans (L97.trans (L108.trans (L128.trans (L369.trans L403)))))))))) vt406 vt407 hc408) ?_)
     rintro _ W411 ⟨f409, rfl, L410, HS412⟩
     refine ⟨_, rfl, ?_⟩
     refine seqL1 kr ?_
     refine seqK rfl (does_alloc (z := Value.agg #[.int .i64 0, .int .i64 0, .int .i64 0, .int .i64 0]) (cs := #[.int .i64 0, .int .i64 0, .int .i64 0, .int .i64 0]) rfl kr rfl HS412 ?_)
     intro b413 W414 HS415
     refine seqK rfl (does_storeA (vs := [.int .i64 vt399.X, .int .i64 vt399.Y, .int .i64 vt399.Z, .int .i64 vt406]) rfl kr kr kr rfl (ones rfl) HS415 kr ?_)
     intro W417 HS418
     refine nl (hK397 _ _ ?_)
     refine wp_seq_k (fun K419 hK420 => ?_)
     refine wp_seq_k fun K421 hK422 => rl ?_
     refine seqL4 kr ?_
     have hq_ := ite_some h; clear h; rcases hq_ with ⟨c423, h⟩ | ⟨c423, h⟩
     · have c423 : (rows7.length : Int) > 0 := c423
       refine seqRwI 41 kr (decide_eq_true c423) ?_
       refine seqRwI 42 kr (decide_eq_true c423) ?_
       have HS424 := HS418.u1
       have hq_ := bind_some h; clear h; obtain ⟨⟨vt425, vt426⟩, hc427, h⟩ := hq_
       refine seqL1 kr ?_
       refine seqG kr (does_call (f := 20) (args := #[.pointer (some ⟨b1, 0, none⟩), .int .i64 3]) kr (spymake_Stream_Next.calls k b1 A4 c5 (⟨s3.L, vt407⟩ : S_Stream) 3 HS424 (HR6.mono (L24.trans (L31.trans (L38.trans (L56.trans (L77.trans (L97.trans (L108.trans (L128.trans (L369.trans (L403.trans L410))))))))))) vt425 vt426 hc427) ?_)
       rintro _ W430 ⟨f428, rfl, L429, HS431⟩
       refine ⟨_, rfl, ?_⟩
       refine seqL2 kr ?_
       refine nl (hK422 _ _ ?_)
       have hq_ := ite_some h; clear h; rcases hq_ with ⟨c433, h⟩ | ⟨c433, h⟩
       · have c433 : vt425 > 0 := c433
         refine wpRwI 45 kr (decide_eq_true c433) ?_
         refine wpRwI 46 kr (decide_eq_true c433) ?_
         refine condT kr ?_
         refine wp_seq_k fun K434 hK435 => rl ?_
         have hq_ := bind_some h; clear h; obtain ⟨⟨vt436, vt437⟩, hc438, h⟩ := hq_
         refine seqL4 kr ?_
         refine seqK rfl (does_call (f := 20) (args := #[.pointer (some ⟨b1, 0, none⟩), .int .i64 (rows7.length : Int)]) kr (spymake_Stream_Next.calls k b1 A4 c5 (⟨s3.L, vt426⟩ : S_Stream) (rows7.length : Int) HS431 (HR6.mono (L24.trans (L31.trans (L38.trans (L56.trans (L77.trans (L97.trans (L108.trans (L128.trans (L369.trans (L403.trans (L410.trans L429)))))))))))) vt436 vt437 hc438) ?_)
         rintro _ W441 ⟨f439, rfl, L440, HS442⟩
         refine ⟨_, rfl, ?_⟩
         have hq_ := guard_some h; clear h; obtain ⟨c443, h⟩ := hq_
         have c443 : 0 ≤ vt436 := c443
         have hq_ := guard_some h; clear h; obtain ⟨c444, h⟩ := hq_
         have c444 : vt436 < (rows7.length : Int) := c444
         obtain ⟨b448, of449, cs445, hA450, hr446, hc447⟩ := (HR10.mono (L24.trans (L31.trans (L38.trans (L56.trans (L77.trans (L97.trans (L108.trans (L128.trans (L369.trans (L403.trans (L410.trans (L429.trans L440))))))))))))).at (i := vt436) c443 c444
         obtain ⟨A451, c451, rfl, HR451⟩ := hr446
         refine seqK rfl (does_run (run_indexE hA450 (sz := 18) rfl Tryz.underlying45 kr (kv (.slice A8 rows7.length c9)) (kv (.int .i64 vt436)) c443 c444 W441) ?_)
         refine seqL1 kr ?_
         refine seqK rfl (does_run (run_loadN (n := 9) rfl Tryz.underlying31 rfl kr (kv (.pointer (some ⟨b448, of449 + (vt436 : Int).toNat * 18 + 1, none⟩))) (cs := [.int .i64 ((((rd rows7 vt436).Box).X).Lo), .int .i64 ((((rd rows7 vt436).Box).X).Hi), .bool ((((rd rows7 vt436).Box).X).Unknown), .int .i64 ((((rd rows7 vt436).Box).Y).Lo), .int .i64 ((((rd rows7 vt436).Box).Y).Hi), .bool ((((rd rows7 vt436).Box).Y).Unknown), .int .i64 ((((rd rows7 vt436).Box).Z).Lo), .int .i64 ((((rd rows7 vt436).Box).Z).Hi), .bool ((((rd rows7 vt436).Box).Z).Unknown)]) rfl (part_cells (fo := 1) (n := 9) (full := [.int .i64 ((rd rows7 vt436).ID), .int .i64 ((((rd rows7 vt436).Box).X).Lo), .int .i64 ((((rd rows7 vt436).Box).X).Hi), .bool ((((rd rows7 vt436).Box).X).Unknown), .int .i64 ((((rd rows7 vt436).Box).Y).Lo), .int .i64 ((((rd rows7 vt436).Box).Y).Hi), .bool ((((rd rows7 vt436).Box).Y).Unknown), .int .i64 ((((rd rows7 vt436).Box).Z).Lo), .int .i64 ((((rd rows7 vt436).Box).Z).Hi), .bool ((((rd rows7 vt436).Box).Z).Unknown), .int .i64 (((rd rows7 vt436).Flux).Lo), .int .i64 (((rd rows7 vt436).Flux).Hi), .bool (((rd rows7 vt436).Flux).Unknown), .int .i64 (((rd rows7 vt436).When).Lo), .int .i64 (((rd rows7 vt436).When).Hi), .bool (((rd rows7 vt436).When).Unknown), .slice A451 ((rd rows7 vt436).Frames).length c451, .int .i64 ((rd rows7 vt436).Marks)]) (cs := [.int .i64 ((((rd rows7 vt436).Box).X).Lo), .int .i64 ((((rd rows7 vt436).Box).X).Hi), .bool ((((rd rows7 vt436).Box).X).Unknown), .int .i64 ((((rd rows7 vt436).Box).Y).Lo), .int .i64 ((((rd rows7 vt436).Box).Y).Hi), .bool ((((rd rows7 vt436).Box).Y).Unknown), .int .i64 ((((rd rows7 vt436).Box).Z).Lo), .int .i64 ((((rd rows7 vt436).Box).Z).Hi), .bool ((((rd rows7 vt436).Box).Z).Unknown)]) (fun j_ hj_ => (hc447 fL HS442) j_ hj_) rfl (Nat.le_of_ble_eq_true rfl))) ?_)
         refine seqK rfl (does_alloc (z := Value.agg #[.int .i64 0, .int .i64 0, .bool false, .int .i64 0, .int .i64 0, .bool false, .int .i64 0, .int .i64 0, .bool false]) (cs := #[.int .i64 0, .int .i64 0, .bool false, .int .i64 0, .int .i64 0, .bool false, .int .i64 0, .int .i64 0, .bool false]) rfl kr rfl HS442 ?_)
         intro b452 W453 HS454
         refine seqK rfl (does_storeA (vs := [.int .i64 ((((rd rows7 vt436).Box).X).Lo), .int .i64 ((((rd rows7 vt436).Box).X).Hi), .bool ((((rd rows7 vt436).Box).X).Unknown), .int .i64 ((((rd rows7 vt436).Box).Y).Lo), .int .i64 ((((rd rows7 vt436).Box).Y).Hi), .bool ((((rd rows7 vt436).Box).Y).Unknown), .int .i64 ((((rd rows7 vt436).Box).Z).Lo), .int .i64 ((((rd rows7 vt436).Box).Z).Hi), .bool ((((rd rows7 vt436).Box).Z).Unknown)]) rfl kr kr kr rfl (ones rfl) HS454 kr ?_)
         intro W456 HS457
         refine nl (hK435 _ _ ?_)
         refine wp_seq_k fun K458 hK459 => rl ?_
         refine seqL2 kr ?_
         refine seqK rfl (does_run (run_load rfl Tryz.underlying27 rfl (kv (.pointer (some ⟨b452, 0, none⟩))) (HS457.cell 0)) ?_)
         refine seqL2 kr ?_
         refine seqK rfl (does_run (run_load rfl Tryz.underlying27 rfl (kv (.pointer (some ⟨b452, 3, none⟩))) (HS457.cell 3)) ?_)
         refine seqL2 kr ?_
         refine seqK rfl (does_run (run_load rfl Tryz.underlying27 rfl (kv (.pointer (some ⟨b452, 6, none⟩))) (HS457.cell 6)) ?_)
         refine seqL1 kr ?_
         refine seqK rfl (does_alloc (z := Value.agg #[.int .i64 0, .int .i64 0, .int .i64 0]) (cs := #[.int .i64 0, .int .i64 0, .int .i64 0]) rfl kr rfl HS457 ?_)
         intro b460 W461 HS462
         refine seqK rfl (does_storeA (vs := [.int .i64 ((((rd rows7 vt436).Box).X).Lo), .int .i64 ((((rd rows7 vt436).Box).Y).Lo), .int .i64 ((((rd rows7 vt436).Box).Z).Lo)]) rfl kr kr kr rfl (ones rfl) HS462 kr ?_)
         intro W464 HS465
         refine nl (hK459 _ _ ?_)
         refine wp_seq_k fun K466 hK467 => rl ?_
         refine seqK rfl (does_run (run_loadN (n := 3) rfl Tryz.underlying39 rfl kr (kv (.pointer (some ⟨b460, 0, none⟩))) (cs := [.int .i64 ((((rd rows7 vt436).Box).X).Lo), .int .i64 ((((rd rows7 vt436).Box).Y).Lo), .int .i64 ((((rd rows7 vt436).Box).Z).Lo)]) rfl (HS465.cells 0 3 _ rfl)) ?_)
         refine seqL1 kr ?_
         refine seqK rfl (does_run (run_neS (b := ((((((rd rows7 vt436).Box).X).Lo) == 0) && ((((((rd rows7 vt436).Box).Y).Lo) == 0) && ((((((rd rows7 vt436).Box).Z).Lo) == 0) && true)))) rfl (kv (.agg #[.int .i64 ((((rd rows7 vt436).Box).X).Lo), .int .i64 ((((rd rows7 vt436).Box).Y).Lo), .int .i64 ((((rd rows7 vt436).Box).Z).Lo)])) (kv (.agg #[.int .i64 0, .int .i64 0, .int .i64 0])) kr kr W464) ?_)
         refine seqL1 kr ?_
         have hq_ := ite_some h; clear h; rcases hq_ with ⟨c468, h⟩ | ⟨c468, h⟩
         · have c468 : (!((((((rd rows7 vt436).Box).X).Lo) == 0) && ((((((rd rows7 vt436).Box).Y).Lo) == 0) && ((((((rd rows7 vt436).Box).Z).Lo) == 0) && true)))) = true := c468
           refine seqRwI 67 kr c468 ?_
           refine seqRwI 68 kr c468 ?_
           refine seqL1 kr ?_
           refine seqG kr (does_run (run_load rfl Tryz.underlying2 rfl (kv (.pointer (some ⟨b460, 0, none⟩))) (HS465.cell 0)) ?_)
           refine seqL1 kr ?_
           refine seqG kr (does_run (run_load rfl Tryz.underlying2 rfl (kv (.pointer (some ⟨b460, 0, none⟩))) (HS465.cell 0)) ?_)
           refine seqL2 kr ?_
           refine seqG kr (does_run (run_load rfl Tryz.underlying2 rfl (kv (.pointer (some ⟨b460, 1, none⟩))) (HS465.cell 1)) ?_)
           refine seqL1 kr ?_
           refine seqG kr (does_run (run_load rfl Tryz.underlying2 rfl (kv (.pointer (some ⟨b460, 1, none⟩))) (HS465.cell 1)) ?_)
           refine seqL2 kr ?_
           refine seqG kr (does_run (run_load rfl Tryz.underlying2 rfl (kv (.pointer (some ⟨b460, 2, none⟩))) (HS465.cell 2)) ?_)
           refine seqL1 kr ?_
           refine seqG kr (does_run (run_load rfl Tryz.underlying2 rfl (kv (.pointer (some ⟨b460, 2, none⟩))) (HS465.cell 2)) ?_)
           refine seqL4 kr ?_
           refine nl (hK467 _ _ ?_)
           have hq_ := ite_some h; clear h; rcases hq_ with ⟨c470, h⟩ | ⟨c470, h⟩
           · have c470 : (mx (mx (mx (mx (mx ((((rd rows7 vt436).Box).X).Lo) (w64 (0 - ((((rd rows7 vt436).Box).X).Lo)))) ((((rd rows7 vt436).Box).Y).Lo)) (w64 (0 - ((((rd rows7 vt436).Box).Y).Lo)))) ((((rd rows7 vt436).Box).Z).Lo)) (w64 (0 - ((((rd rows7 vt436).Box).Z).Lo)))) ≤ 1048576 := c470
             refine wpRwI 85 kr (decide_eq_true c470) ?_
             refine wpRwI 86 kr (decide_eq_true c470) ?_
             refine condT kr ?_
             have HS477 := HS465.u6.u6.u6.u4.u4.u6.u6
             refine heldG (S := Sg t f439 ([(b460, .cells #[.int .i64 ((((rd rows7 vt436).Box).X).Lo), .int .i64 ((((rd rows7 vt436).Box).Y).Lo), .int .i64 ((((rd rows7 vt436).Box).Z).Lo)] 39 (0, 0))] :: [(b452, .cells #[.int .i64 ((((rd rows7 vt436).Box).X).Lo), .int .i64 ((((rd rows7 vt436).Box).X).Hi), .bool ((((rd rows7 vt436).Box).X).Unknown), .int .i64 ((((rd rows7 vt436).Box).Y).Lo), .int .i64 ((((rd rows7 vt436).Box).Y).Hi), .bool ((((rd rows7 vt436).Box).Y).Unknown), .int .i64 ((((rd rows7 vt436).Box).Z).Lo), .int .i64 ((((rd rows7 vt436).Box).Z).Hi), .bool ((((rd rows7 vt436).Box).Z).Unknown)] 31 (0, 0))] :: s378 :: [(b41, .cells #[.slice A376 x375.length c377, .int .i64 vt20, .int .i64 x82, .int .i64 x112, .int .i64 x113] 51 (0, 0))] :: [(b13, .cells #[.slice none 0 0, .int .i64 0, .int .i64 0, .int .i64 0, .int .i64 0] 51 (0, 0))] :: H) [(3, [(b1, .cells #[.slice A4 s3.L.length c5, .int .i64 vt437] 26 (0, 0))]), (8, [(b413, .cells #[.int .i64 vt399.X, .int .i64 vt399.Y, .int .i64 vt399.Z, .int .i64 vt406] 55 (0, 0))])]) (n := 11) kr rfl HS477 ?_
             intro W478 HS479
             refine takeGQ 0 [] rfl kr kr kr kr kr kr (fun ch_ a_ w_ q_ => (fun ch_ a_ w_ q_ => hnp ch_ a_ w_ (hp136 ch_ a_ w_ q_)) ch_ a_ w_ (hp394 ch_ a_ w_ q_)) (Sg.g2 (Sx.of [[(b1, .cells #[.slice A4 s3.L.length c5, .int .i64 vt437] 26 (0, 0))], [(b413, .cells #[.int .i64 vt399.X, .int .i64 vt399.Y, .int .i64 vt399.Z, .int .i64 vt406] 55 (0, 0))]] fL HS479) (fun _ => St.only [] HS479 fL) (fun _ => St.only [[(b1, .cells #[.slice A4 s3.L.length c5, .int .i64 vt437] 26 (0, 0))]] HS479 fL)) (fun w_ hw_ => by obtain ⟨g_, hl_, hS_⟩ := hw_.st; exact run_loadN (n := 3) rfl Tryz.underlying39 rfl kr (kv (.pointer (some ⟨b460, 0, none⟩))) (cs := [.int .i64 ((((rd rows7 vt436).Box).X).Lo), .int .i64 ((((rd rows7 vt436).Box).Y).Lo), .int .i64 ((((rd rows7 vt436).Box).Z).Lo)]) rfl (hS_.cells 0 3 _ rfl)) ?_
             refine takeGL [1, 2, 7] (n := 10) (fuel := 7) #[true, true, true, false, false, false, false, true, false, false, false] rfl kr kr kr (fun ch_ a_ w_ q_ => (fun ch_ a_ w_ q_ => hnp ch_ a_ w_ (hp136 ch_ a_ w_ q_)) ch_ a_ w_ (hp394 ch_ a_ w_ q_)) (Sg.g2 (Sx.of [[(b1, .cells #[.slice A4 s3.L.length c5, .int .i64 vt437] 26 (0, 0))], [(b413, .cells #[.int .i64 vt399.X, .int .i64 vt399.Y, .int .i64 vt399.Z, .int .i64 vt406] 55 (0, 0))]] fL HS479) (fun _ => St.only [] HS479 fL) (fun _ => St.only [[(b1, .cells #[.slice A4 s3.L.length c5, .int .i64 vt437] 26 (0, 0))]] HS479 fL)) ?_
             have hq_ := bind_some h; clear h; obtain ⟨⟨vt480, vt481⟩, hc482, h⟩ := hq_
             refine takeGE 3 kr rfl kr (does_call (f := 27) (args := #[.pointer (some ⟨b1, 0, none⟩), .int .i64 1, .int .i64 29]) kr (spymake_Stream_Range.calls k b1 A4 c5 (⟨s3.L, vt437⟩ : S_Stream) 1 29 HS479 (HR6.mono (L24.trans (L31.trans (L38.trans (L56.trans (L77.trans (L97.trans (L108.trans (L128.trans (L369.trans (L403.trans (L410.trans (L429.trans L440))))))))))))) vt480 vt481 hc482) ?_)
             rintro _ W485 ⟨f483, rfl, L484, HS486⟩
             refine ⟨_, rfl, ?_⟩
             refine ⟨(Sg.g2 (Sx.of [[(b1, .cells #[.slice A4 s3.L.length c5, .int .i64 vt481] 26 (0, 0))], [(b413, .cells #[.int .i64 vt399.X, .int .i64 vt399.Y, .int .i64 vt399.Z, .int .i64 vt406] 55 (0, 0))]] L484 HS486) (fun hl_ => Bool.noConfusion (show true = false from hl_)) (fun _ => St.only [[(b1, .cells #[.slice A4 s3.L.length c5, .int .i64 vt481] 26 (0, 0))]] HS486 L484)), ?_⟩
             have hq_ := guard_some h; clear h; obtain ⟨c487, h⟩ := hq_
             have c487 : ¬ (vt480 < 0) := c487
             refine takeGQ 4 [] rfl kr kr kr kr kr kr (fun ch_ a_ w_ q_ => (fun ch_ a_ w_ q_ => hnp ch_ a_ w_ (hp136 ch_ a_ w_ q_)) ch_ a_ w_ (hp394 ch_ a_ w_ q_)) (Sg.g2 (Sx.of [[(b1, .cells #[.slice A4 s3.L.length c5, .int .i64 vt481] 26 (0, 0))], [(b413, .cells #[.int .i64 vt399.X, .int .i64 vt399.Y, .int .i64 vt399.Z, .int .i64 vt406] 55 (0, 0))]] L484 HS486) (fun hl_ => Bool.noConfusion (show true = false from hl_)) (fun _ => St.only [[(b1, .cells #[.slice A4 s3.L.length c5, .int .i64 vt481] 26 (0, 0))]] HS486 L484)) (fun w_ hw_ => by obtain ⟨g_, hl_, hS_⟩ := hw_.st; exact run_shl rfl (kv (.int .i64 1)) (kv (.int .i64 vt480)) c487 w_) ?_
             have hq_ := bind_some h; clear h; obtain ⟨⟨vt488, vt489⟩, hc490, h⟩ := hq_
             refine takeGE 5 kr rfl kr (does_call (f := 20) (args := #[.pointer (some ⟨b1, 0, none⟩), .int .i64 (w64 (1 * 2 ^ (min (vt480).toNat 64)))]) kr (spymake_Stream_Next.calls k b1 A4 c5 (⟨s3.L, vt481⟩ : S_Stream) (w64 (1 * 2 ^ (min (vt480).toNat 64))) HS486 (HR6.mono (L24.trans (L31.trans (L38.trans (L56.trans (L77.trans (L97.trans (L108.trans (L128.trans (L369.trans (L403.trans (L410.trans (L429.trans (L440.trans L484)))))))))))))) vt488 vt489 hc490) ?_)
             rintro _ W493 ⟨f491, rfl, L492, HS494⟩
             refine ⟨_, rfl, ?_⟩
             refine ⟨(Sg.g2 (Sx.of [[(b1, .cells #[.slice A4 s3.L.length c5, .int .i64 vt489] 26 (0, 0))], [(b413, .cells #[.int .i64 vt399.X, .int .i64 vt399.Y, .int .i64 vt399.Z, .int .i64 vt406] 55 (0, 0))]] (L484.trans L492) HS494) (fun hl_ => Bool.noConfusion (show true = false from hl_)) (fun _ => St.only [[(b1, .cells #[.slice A4 s3.L.length c5, .int .i64 vt489] 26 (0, 0))]] HS494 (L484.trans L492))), ?_⟩
             refine takeGL [6] (n := 4) (fuel := 3) #[true, true, true, true, true, true, true, true, false, false, false] rfl kr kr kr (fun ch_ a_ w_ q_ => (fun ch_ a_ w_ q_ => hnp ch_ a_ w_ (hp136 ch_ a_ w_ q_)) ch_ a_ w_ (hp394 ch_ a_ w_ q_)) (Sg.g2 (Sx.of [[(b1, .cells #[.slice A4 s3.L.length c5, .int .i64 vt489] 26 (0, 0))], [(b413, .cells #[.int .i64 vt399.X, .int .i64 vt399.Y, .int .i64 vt399.Z, .int .i64 vt406] 55 (0, 0))]] (L484.trans L492) HS494) (fun hl_ => Bool.noConfusion (show true = false from hl_)) (fun _ => St.only [[(b1, .cells #[.slice A4 s3.L.length c5, .int .i64 vt489] 26 (0, 0))]] HS494 (L484.trans L492))) ?_
             have HS495 := HS494.u1
             refine takeGE 8 kr rfl kr (does_store (n := 3) (vs := [.int .i64 ((((rd rows7 vt436).Box).X).Lo), .int .i64 ((((rd rows7 vt436).Box).Y).Lo), .int .i64 ((((rd rows7 vt436).Box).Z).Lo)]) (cs' := #[.int .i64 ((((rd rows7 vt436).Box).X).Lo), .int .i64 ((((rd rows7 vt436).Box).Y).Lo), .int .i64 ((((rd rows7 vt436).Box).Z).Lo), .int .i64 vt406]) rfl kr (kv (.pointer (some ⟨b413, 0, none⟩))) (kv (.agg #[.int .i64 ((((rd rows7 vt436).Box).X).Lo), .int .i64 ((((rd rows7 vt436).Box).Y).Lo), .int .i64 ((((rd rows7 vt436).Box).Z).Lo)])) rfl rfl (ones rfl) HS495 (Nat.le_of_ble_eq_true rfl) kr ?_)
             intro W496 HS497
             refine ⟨(Sg.g2 (Sx.of [[(b413, .cells #[.int .i64 ((((rd rows7 vt436).Box).X).Lo), .int .i64 ((((rd rows7 vt436).Box).Y).Lo), .int .i64 ((((rd rows7 vt436).Box).Z).Lo), .int .i64 vt406] 55 (0, 0))], [(b1, .cells #[.slice A4 s3.L.length c5, .int .i64 vt489] 26 (0, 0))]] (L484.trans L492) HS497) (fun hl_ => Bool.noConfusion (show true = false from hl_)) (fun hl_ => Bool.noConfusion (show true = false from hl_))), ?_⟩
             refine takeGL [9] (n := 2) (fuel := 1) #[true, true, true, true, true, true, true, true, true, true, false] rfl kr kr kr (fun ch_ a_ w_ q_ => (fun ch_ a_ w_ q_ => hnp ch_ a_ w_ (hp136 ch_ a_ w_ q_)) ch_ a_ w_ (hp394 ch_ a_ w_ q_)) (Sg.g2 (Sx.of [[(b413, .cells #[.int .i64 ((((rd rows7 vt436).Box).X).Lo), .int .i64 ((((rd rows7 vt436).Box).Y).Lo), .int .i64 ((((rd rows7 vt436).Box).Z).Lo), .int .i64 vt406] 55 (0, 0))], [(b1, .cells #[.slice A4 s3.L.length c5, .int .i64 vt489] 26 (0, 0))]] (L484.trans L492) HS497) (fun hl_ => Bool.noConfusion (show true = false from hl_)) (fun hl_ => Bool.noConfusion (show true = false from hl_))) ?_
             refine takeGE 10 kr rfl kr (does_store (n := 1) (vs := [.int .i64 (w64 (1073741824 - vt488))]) (cs' := #[.int .i64 ((((rd rows7 vt436).Box).X).Lo), .int .i64 ((((rd rows7 vt436).Box).Y).Lo), .int .i64 ((((rd rows7 vt436).Box).Z).Lo), .int .i64 (w64 (1073741824 - vt488))]) rfl kr (kv (.pointer (some ⟨b413, 3, none⟩))) (kv (.int .i64 (w64 (1073741824 - vt488)))) rfl rfl (ones rfl) HS497 (Nat.le_of_ble_eq_true rfl) kr ?_)
             intro W498 HS499
             refine ⟨(Sg.g2 (Sx.of [[(b413, .cells #[.int .i64 ((((rd rows7 vt436).Box).X).Lo), .int .i64 ((((rd rows7 vt436).Box).Y).Lo), .int .i64 ((((rd rows7 vt436).Box).Z).Lo), .int .i64 (w64 (1073741824 - vt488))] 55 (0, 0))], [(b1, .cells #[.slice A4 s3.L.length c5, .int .i64 vt489] 26 (0, 0))]] (L484.trans L492) HS499) (fun hl_ => Bool.noConfusion (show true = false from hl_)) (fun hl_ => Bool.noConfusion (show true = false from hl_))), ?_⟩
             refine doneG kr ?_ _
             refine hK420 _ _ ?_
             refine rl ?_
             refine seqL1 kr ?_
             refine seqK rfl (does_run (run_load rfl Tryz.underlying47 rfl (kv (.pointer (some ⟨b41, 0, none⟩))) (HS499.u5.cell 0)) ?_)
             refine seqK rfl (does_run (run_loadN (n := 4) rfl Tryz.underlying55 rfl kr (kv (.pointer (some ⟨b413, 0, none⟩))) (cs := [.int .i64 ((((rd rows7 vt436).Box).X).Lo), .int .i64 ((((rd rows7 vt436).Box).Y).Lo), .int .i64 ((((rd rows7 vt436).Box).Z).Lo), .int .i64 (w64 (1073741824 - vt488))]) rfl (HS499.cells 0 4 _ rfl)) ?_)
             refine seqK rfl (does_lit (e := ty_Cone) (E := 55) (vs := #[(0, Value.agg #[.int .i64 ((((rd rows7 vt436).Box).X).Lo), .int .i64 ((((rd rows7 vt436).Box).Y).Lo), .int .i64 ((((rd rows7 vt436).Box).Z).Lo), .int .i64 (w64 (1073741824 - vt488))])]) (cs := #[.int .i64 ((((rd rows7 vt436).Box).X).Lo), .int .i64 ((((rd rows7 vt436).Box).Y).Lo), .int .i64 ((((rd rows7 vt436).Box).Z).Lo), .int .i64 (w64 (1073741824 - vt488))]) (xs := ([(⟨(⟨(((rd rows7 vt436).Box).X).Lo, (((rd rows7 vt436).Box).Y).Lo, (((rd rows7 vt436).Box).Z).Lo⟩ : S_Vec), w64 (1073741824 - vt488)⟩ : S_Cone)] : List S_Cone)) rfl Tryz.underlying47 kr kr ⟨[.int .i64 ((((rd rows7 vt436).Box).X).Lo), .int .i64 ((((rd rows7 vt436).Box).Y).Lo), .int .i64 ((((rd rows7 vt436).Box).Z).Lo), .int .i64 (w64 (1073741824 - vt488))], _, rfl, rfl, rfl⟩ rfl HS499 ?_ (by decide))
             intro b500 W501 s502 HS503 _ HO504
             have hq_ := guard_some h; clear h; obtain ⟨c506, h⟩ := hq_
             have c506 : (x375.length + 1) * 32 ≤ 140737488355328 := c506
             have HS508 := HS503.u5.u1
             refine seqK rfl (does_append1 (e := ty_Cone) (E := 55) (xs := x375) (ys := ([(⟨(⟨(((rd rows7 vt436).Box).X).Lo, (((rd rows7 vt436).Box).Y).Lo, (((rd rows7 vt436).Box).Z).Lo⟩ : S_Vec), w64 (1073741824 - vt488)⟩ : S_Cone)] : List S_Cone)) rfl (kv (.slice A376 x375.length c377)) (kv (.slice (some ⟨b500, 0, none⟩) ([(⟨(⟨(((rd rows7 vt436).Box).X).Lo, (((rd rows7 vt436).Box).Y).Lo, (((rd rows7 vt436).Box).Z).Lo⟩ : S_Vec), w64 (1073741824 - vt488)⟩ : S_Cone)] : List S_Cone).length 1)) Tryz.underlying47 inf55 (HO379.mono (L403.trans (L410.trans (L429.trans (L440.trans (L484.trans L492)))))) HO504 HS508 c506 (lim63 c506 (by decide)) ?_)
             intro A509 c510 s511 W512 HS513 HO514
             have HS515 := HS513.u5
             refine seqL1 kr ?_
             refine seqK rfl (does_store (n := 1) (vs := [.slice A509 (x375 ++ ([(⟨(⟨(((rd rows7 vt436).Box).X).Lo, (((rd rows7 vt436).Box).Y).Lo, (((rd rows7 vt436).Box).Z).Lo⟩ : S_Vec), w64 (1073741824 - vt488)⟩ : S_Cone)] : List S_Cone)).length c510]) (cs' := #[.slice A509 (x375 ++ ([(⟨(⟨(((rd rows7 vt436).Box).X).Lo, (((rd rows7 vt436).Box).Y).Lo, (((rd rows7 vt436).Box).Z).Lo⟩ : S_Vec), w64 (1073741824 - vt488)⟩ : S_Cone)] : List S_Cone)).length c510, .int .i64 vt20, .int .i64 x82, .int .i64 x112, .int .i64 x113]) rfl kr (kv (.pointer (some ⟨b41, 0, none⟩))) (kv (.slice A509 (x375 ++ ([(⟨(⟨(((rd rows7 vt436).Box).X).Lo, (((rd rows7 vt436).Box).Y).Lo, (((rd rows7 vt436).Box).Z).Lo⟩ : S_Vec), w64 (1073741824 - vt488)⟩ : S_Cone)] : List S_Cone)).length c510)) rfl rfl (ones rfl) HS515 (Nat.le_of_ble_eq_true rfl) kr ?_)
             intro W516 HS517
             refine nl ?_
             refine hn391 _ _ ?_
             refine hK388 _ _ ?_
             refine rl ?_
             refine seqL2 kr ?_
             refine nl ?_
             refine hK366 n367 _ _ (Nat.lt_succ_self _) ?_
             have HS613 := HS517.u6.u1.u4.u3.u6.u6.u6
             have HS614 := HS613.drop
             have HS615 := HS614.drop
             have HS616 := HS615.drop
             exact ⟨f491, A509, c510, s511, (w64 (x373 + 1)), vt489, (x375 ++ ([(⟨(⟨(((rd rows7 vt436).Box).X).Lo, (((rd rows7 vt436).Box).Y).Lo, (((rd rows7 vt436).Box).Z).Lo⟩ : S_Vec), w64 (1073741824 - vt488)⟩ : S_Cone)] : List S_Cone)), (jL [.pointer (some ⟨b413, 0, none⟩), .pointer (some ⟨b452, 0, none⟩), .pointer (some ⟨b460, 0, none⟩), tV, .pointer (some ⟨b1, 0, none⟩), (ag_Vec vt399), .pointer (some ⟨b1, 0, none⟩), iV vt406, .agg #[.int .i64 vt399.X, .int .i64 vt399.Y, .int .i64 vt399.Z, .int .i64 vt406], .slice A8 rows7.length c9, iV (rows7.length : Int), tV, tV, .pointer (some ⟨b1, 0, none⟩), iV vt425, tV, tV, .slice A8 rows7.length c9, .pointer (some ⟨b1, 0, none⟩), .slice A8 rows7.length c9, iV (rows7.length : Int), iV vt436, .pointer (some ⟨b448, of449 + (vt436 : Int).toNat * 18, none⟩), .pointer (some ⟨b448, of449 + (vt436 : Int).toNat * 18 + 1, none⟩), (ag_Box ((rd rows7 vt436).Box)), .pointer (some ⟨b452, 0, none⟩), .pointer (some ⟨b452, 0, none⟩), iV ((((rd rows7 vt436).Box).X).Lo), .pointer (some ⟨b452, 3, none⟩), .pointer (some ⟨b452, 3, none⟩), iV ((((rd rows7 vt436).Box).Y).Lo), .pointer (some ⟨b452, 6, none⟩), .pointer (some ⟨b452, 6, none⟩), iV ((((rd rows7 vt436).Box).Z).Lo), .agg #[.int .i64 ((((rd rows7 vt436).Box).X).Lo), .int .i64 ((((rd rows7 vt436).Box).Y).Lo), .int .i64 ((((rd rows7 vt436).Box).Z).Lo)], .agg #[.int .i64 ((((rd rows7 vt436).Box).X).Lo), .int .i64 ((((rd rows7 vt436).Box).Y).Lo), .int .i64 ((((rd rows7 vt436).Box).Z).Lo)], .agg #[.int .i64 0, .int .i64 0, .int .i64 0], tV, tV, .pointer (some ⟨b460, 0, none⟩), iV ((((rd rows7 vt436).Box).X).Lo), .pointer (some ⟨b460, 0, none⟩), iV ((((rd rows7 vt436).Box).X).Lo), iV (w64 (0 - ((((rd rows7 vt436).Box).X).Lo))), .pointer (some ⟨b460, 1, none⟩), iV ((((rd rows7 vt436).Box).Y).Lo), .pointer (some ⟨b460, 1, none⟩), iV ((((rd rows7 vt436).Box).Y).Lo), iV (w64 (0 - ((((rd rows7 vt436).Box).Y).Lo))), .pointer (some ⟨b460, 2, none⟩), iV ((((rd rows7 vt436).Box).Z).Lo), .pointer (some ⟨b460, 2, none⟩), iV ((((rd rows7 vt436).Box).Z).Lo), iV (w64 (0 - ((((rd rows7 vt436).Box).Z).Lo))), iV (mx (mx (mx (mx (mx ((((rd rows7 vt436).Box).X).Lo) (w64 (0 - ((((rd rows7 vt436).Box).X).Lo)))) ((((rd rows7 vt436).Box).Y).Lo)) (w64 (0 - ((((rd rows7 vt436).Box).Y).Lo)))) ((((rd rows7 vt436).Box).Z).Lo)) (w64 (0 - ((((rd rows7 vt436).Box).Z).Lo)))), tV, tV, .agg #[.int .i64 ((((rd rows7 vt436).Box).X).Lo), .int .i64 ((((rd rows7 vt436).Box).Y).Lo), .int .i64 ((((rd rows7 vt436).Box).Z).Lo)], .pointer (some ⟨b1, 0, none⟩), .pointer (some ⟨b1, 0, none⟩), iV vt480, iV (w64 (1 * 2 ^ (min (vt480).toNat 64))), iV vt488, iV (w64 (1073741824 - vt488)), .pointer (some ⟨b413, 0, none⟩), .pointer (some ⟨b413, 3, none⟩), .pointer (some ⟨b41, 0, none⟩), .slice A376 x375.length c377, .agg #[.int .i64 ((((rd rows7 vt436).Box).X).Lo), .int .i64 ((((rd rows7 vt436).Box).Y).Lo), .int .i64 ((((rd rows7 vt436).Box).Z).Lo), .int .i64 (w64 (1073741824 - vt488))], .slice (some ⟨b500, 0, none⟩) ([(⟨(⟨(((rd rows7 vt436).Box).X).Lo, (((rd rows7 vt436).Box).Y).Lo, (((rd rows7 vt436).Box).Z).Lo⟩ : S_Vec), w64 (1073741824 - vt488)⟩ : S_Cone)] : List S_Cone).length 1, .slice A509 (x375 ++ ([(⟨(⟨(((rd rows7 vt436).Box).X).Lo, (((rd rows7 vt436).Box).Y).Lo, (((rd rows7 vt436).Box).Z).Lo⟩ : S_Vec), w64 (1073741824 - vt488)⟩ : S_Cone)] : List S_Cone)).length c510, .pointer (some ⟨b41, 0, none⟩), iV (w64 (x373 + 1))]), (L369.trans (L403.trans (L410.trans (L429.trans (L440.trans (L484.trans L492)))))), HS616, HO514, h, kr⟩
           · have c470 : ¬ ((mx (mx (mx (mx (mx ((((rd rows7 vt436).Box).X).Lo) (w64 (0 - ((((rd rows7 vt436).Box).X).Lo)))) ((((rd rows7 vt436).Box).Y).Lo)) (w64 (0 - ((((rd rows7 vt436).Box).Y).Lo)))) ((((rd rows7 vt436).Box).Z).Lo)) (w64 (0 - ((((rd rows7 vt436).Box).Z).Lo)))) ≤ 1048576) := c470
             refine wpRwI 85 kr (decide_eq_false c470) ?_
             refine wpRwI 86 kr (decide_eq_false c470) ?_
             refine condF kr ?_
             refine wp_skip ?_
             refine hK420 _ _ ?_
             refine rl ?_
             refine seqL1 kr ?_
             refine seqK rfl (does_run (run_load rfl Tryz.underlying47 rfl (kv (.pointer (some ⟨b41, 0, none⟩))) (HS465.u5.cell 0)) ?_)
             refine seqK rfl (does_run (run_loadN (n := 4) rfl Tryz.underlying55 rfl kr (kv (.pointer (some ⟨b413, 0, none⟩))) (cs := [.int .i64 vt399.X, .int .i64 vt399.Y, .int .i64 vt399.Z, .int .i64 vt406]) rfl (HS465.u3.cells 0 4 _ rfl)) ?_)
             refine seqK rfl (does_lit (e := ty_Cone) (E := 55) (vs := #[(0, Value.agg #[.int .i64 vt399.X, .int .i64 vt399.Y, .int .i64 vt399.Z, .int .i64 vt406])]) (cs := #[.int .i64 vt399.X, .int .i64 vt399.Y, .int .i64 vt399.Z, .int .i64 vt406]) (xs := ([(⟨vt399, vt406⟩ : S_Cone)] : List S_Cone)) rfl Tryz.underlying47 kr kr ⟨[.int .i64 vt399.X, .int .i64 vt399.Y, .int .i64 vt399.Z, .int .i64 vt406], _, rfl, rfl, rfl⟩ rfl HS465 ?_ (by decide))
             intro b518 W519 s520 HS521 _ HO522
             have hq_ := guard_some h; clear h; obtain ⟨c524, h⟩ := hq_
             have c524 : (x375.length + 1) * 32 ≤ 140737488355328 := c524
             have HS526 := HS521.u5.u1
             refine seqK rfl (does_append1 (e := ty_Cone) (E := 55) (xs := x375) (ys := ([(⟨vt399, vt406⟩ : S_Cone)] : List S_Cone)) rfl (kv (.slice A376 x375.length c377)) (kv (.slice (some ⟨b518, 0, none⟩) ([(⟨vt399, vt406⟩ : S_Cone)] : List S_Cone).length 1)) Tryz.underlying47 inf55 (HO379.mono (L403.trans (L410.trans (L429.trans L440)))) HO522 HS526 c524 (lim63 c524 (by decide)) ?_)
             intro A527 c528 s529 W530 HS531 HO532
             have HS533 := HS531.u5
             refine seqL1 kr ?_
             refine seqK rfl (does_store (n := 1) (vs := [.slice A527 (x375 ++ ([(⟨vt399, vt406⟩ : S_Cone)] : List S_Cone)).length c528]) (cs' := #[.slice A527 (x375 ++ ([(⟨vt399, vt406⟩ : S_Cone)] : List S_Cone)).length c528, .int .i64 vt20, .int .i64 x82, .int .i64 x112, .int .i64 x113]) rfl kr (kv (.pointer (some ⟨b41, 0, none⟩))) (kv (.slice A527 (x375 ++ ([(⟨vt399, vt406⟩ : S_Cone)] : List S_Cone)).length c528)) rfl rfl (ones rfl) HS533 (Nat.le_of_ble_eq_true rfl) kr ?_)
             intro W534 HS535
             refine nl ?_
             refine hn391 _ _ ?_
             refine hK388 _ _ ?_
             refine rl ?_
             refine seqL2 kr ?_
             refine nl ?_
             refine hK366 n367 _ _ (Nat.lt_succ_self _) ?_
             have HS623 := HS535.u6.u1.u5.u3.u6.u6.u6
             have HS624 := HS623.drop
             have HS625 := HS624.drop
             have HS626 := HS625.drop
             exact ⟨f439, A527, c528, s529, (w64 (x373 + 1)), vt437, (x375 ++ ([(⟨vt399, vt406⟩ : S_Cone)] : List S_Cone)), (jL [.pointer (some ⟨b413, 0, none⟩), .pointer (some ⟨b452, 0, none⟩), .pointer (some ⟨b460, 0, none⟩), tV, .pointer (some ⟨b1, 0, none⟩), (ag_Vec vt399), .pointer (some ⟨b1, 0, none⟩), iV vt406, .agg #[.int .i64 vt399.X, .int .i64 vt399.Y, .int .i64 vt399.Z, .int .i64 vt406], .slice A8 rows7.length c9, iV (rows7.length : Int), tV, tV, .pointer (some ⟨b1, 0, none⟩), iV vt425, tV, tV, .slice A8 rows7.length c9, .pointer (some ⟨b1, 0, none⟩), .slice A8 rows7.length c9, iV (rows7.length : Int), iV vt436, .pointer (some ⟨b448, of449 + (vt436 : Int).toNat * 18, none⟩), .pointer (some ⟨b448, of449 + (vt436 : Int).toNat * 18 + 1, none⟩), (ag_Box ((rd rows7 vt436).Box)), .pointer (some ⟨b452, 0, none⟩), .pointer (some ⟨b452, 0, none⟩), iV ((((rd rows7 vt436).Box).X).Lo), .pointer (some ⟨b452, 3, none⟩), .pointer (some ⟨b452, 3, none⟩), iV ((((rd rows7 vt436).Box).Y).Lo), .pointer (some ⟨b452, 6, none⟩), .pointer (some ⟨b452, 6, none⟩), iV ((((rd rows7 vt436).Box).Z).Lo), .agg #[.int .i64 ((((rd rows7 vt436).Box).X).Lo), .int .i64 ((((rd rows7 vt436).Box).Y).Lo), .int .i64 ((((rd rows7 vt436).Box).Z).Lo)], .agg #[.int .i64 ((((rd rows7 vt436).Box).X).Lo), .int .i64 ((((rd rows7 vt436).Box).Y).Lo), .int .i64 ((((rd rows7 vt436).Box).Z).Lo)], .agg #[.int .i64 0, .int .i64 0, .int .i64 0], tV, tV, .pointer (some ⟨b460, 0, none⟩), iV ((((rd rows7 vt436).Box).X).Lo), .pointer (some ⟨b460, 0, none⟩), iV ((((rd rows7 vt436).Box).X).Lo), iV (w64 (0 - ((((rd rows7 vt436).Box).X).Lo))), .pointer (some ⟨b460, 1, none⟩), iV ((((rd rows7 vt436).Box).Y).Lo), .pointer (some ⟨b460, 1, none⟩), iV ((((rd rows7 vt436).Box).Y).Lo), iV (w64 (0 - ((((rd rows7 vt436).Box).Y).Lo))), .pointer (some ⟨b460, 2, none⟩), iV ((((rd rows7 vt436).Box).Z).Lo), .pointer (some ⟨b460, 2, none⟩), iV ((((rd rows7 vt436).Box).Z).Lo), iV (w64 (0 - ((((rd rows7 vt436).Box).Z).Lo))), iV (mx (mx (mx (mx (mx ((((rd rows7 vt436).Box).X).Lo) (w64 (0 - ((((rd rows7 vt436).Box).X).Lo)))) ((((rd rows7 vt436).Box).Y).Lo)) (w64 (0 - ((((rd rows7 vt436).Box).Y).Lo)))) ((((rd rows7 vt436).Box).Z).Lo)) (w64 (0 - ((((rd rows7 vt436).Box).Z).Lo)))), fV, fV, (j372 57), (j372 58), (j372 59), (j372 60), (j372 61), (j372 62), (j372 63), (j372 64), (j372 65), .pointer (some ⟨b41, 0, none⟩), .slice A376 x375.length c377, .agg #[.int .i64 vt399.X, .int .i64 vt399.Y, .int .i64 vt399.Z, .int .i64 vt406], .slice (some ⟨b518, 0, none⟩) ([(⟨vt399, vt406⟩ : S_Cone)] : List S_Cone).length 1, .slice A527 (x375 ++ ([(⟨vt399, vt406⟩ : S_Cone)] : List S_Cone)).length c528, .pointer (some ⟨b41, 0, none⟩), iV (w64 (x373 + 1))]), (L369.trans (L403.trans (L410.trans (L429.trans L440)))), HS626, HO532, h, kr⟩
         · have c468 : ¬ ((!((((((rd rows7 vt436).Box).X).Lo) == 0) && ((((((rd rows7 vt436).Box).Y).Lo) == 0) && ((((((rd rows7 vt436).Box).Z).Lo) == 0) && true)))) = true) := c468
           refine seqRwI 67 kr (Bool.eq_false_iff.mpr c468) ?_
           refine seqRwI 68 kr (Bool.eq_false_iff.mpr c468) ?_
           refine seqL18 kr ?_
           refine nl (hK467 _ _ ?_)
           refine condF kr ?_
           refine wp_skip ?_
           refine hK420 _ _ ?_
           refine rl ?_
           refine seqL1 kr ?_
           refine seqK rfl (does_run (run_load rfl Tryz.underlying47 rfl (kv (.pointer (some ⟨b41, 0, none⟩))) (HS465.u5.cell 0)) ?_)
           refine seqK rfl (does_run (run_loadN (n := 4) rfl Tryz.underlying55 rfl kr (kv (.pointer (some ⟨b413, 0, none⟩))) (cs := [.int .i64 vt399.X, .int .i64 vt399.Y, .int .i64 vt399.Z, .int .i64 vt406]) rfl (HS465.u3.cells 0 4 _ rfl)) ?_)
           refine seqK rfl (does_lit (e := ty_Cone) (E := 55) (vs := #[(0, Value.agg #[.int .i64 vt399.X, .int .i64 vt399.Y, .int .i64 vt399.Z, .int .i64 vt406])]) (cs := #[.int .i64 vt399.X, .int .i64 vt399.Y, .int .i64 vt399.Z, .int .i64 vt406]) (xs := ([(⟨vt399, vt406⟩ : S_Cone)] : List S_Cone)) rfl Tryz.underlying47 kr kr ⟨[.int .i64 vt399.X, .int .i64 vt399.Y, .int .i64 vt399.Z, .int .i64 vt406], _, rfl, rfl, rfl⟩ rfl HS465 ?_ (by decide))
           intro b536 W537 s538 HS539 _ HO540
           have hq_ := guard_some h; clear h; obtain ⟨c542, h⟩ := hq_
           have c542 : (x375.length + 1) * 32 ≤ 140737488355328 := c542
           have HS544 := HS539.u5.u1
           refine seqK rfl (does_append1 (e := ty_Cone) (E := 55) (xs := x375) (ys := ([(⟨vt399, vt406⟩ : S_Cone)] : List S_Cone)) rfl (kv (.slice A376 x375.length c377)) (kv (.slice (some ⟨b536, 0, none⟩) ([(⟨vt399, vt406⟩ : S_Cone)] : List S_Cone).length 1)) Tryz.underlying47 inf55 (HO379.mono (L403.trans (L410.trans (L429.trans L440)))) HO540 HS544 c542 (lim63 c542 (by decide)) ?_)
           intro A545 c546 s547 W548 HS549 HO550
           have HS551 := HS549.u5
           refine seqL1 kr ?_
           refine seqK rfl (does_store (n := 1) (vs := [.slice A545 (x375 ++ ([(⟨vt399, vt406⟩ : S_Cone)] : List S_Cone)).length c546]) (cs' := #[.slice A545 (x375 ++ ([(⟨vt399, vt406⟩ : S_Cone)] : List S_Cone)).length c546, .int .i64 vt20, .int .i64 x82, .int .i64 x112, .int .i64 x113]) rfl kr (kv (.pointer (some ⟨b41, 0, none⟩))) (kv (.slice A545 (x375 ++ ([(⟨vt399, vt406⟩ : S_Cone)] : List S_Cone)).length c546)) rfl rfl (ones rfl) HS551 (Nat.le_of_ble_eq_true rfl) kr ?_)
           intro W552 HS553
           refine nl ?_
           refine hn391 _ _ ?_
           refine hK388 _ _ ?_
           refine rl ?_
           refine seqL2 kr ?_
           refine nl ?_
           refine hK366 n367 _ _ (Nat.lt_succ_self _) ?_
           have HS633 := HS553.u6.u1.u5.u3.u6.u6.u6
           have HS634 := HS633.drop
           have HS635 := HS634.drop
           have HS636 := HS635.drop
           exact ⟨f439, A545, c546, s547, (w64 (x373 + 1)), vt437, (x375 ++ ([(⟨vt399, vt406⟩ : S_Cone)] : List S_Cone)), (jL [.pointer (some ⟨b413, 0, none⟩), .pointer (some ⟨b452, 0, none⟩), .pointer (some ⟨b460, 0, none⟩), tV, .pointer (some ⟨b1, 0, none⟩), (ag_Vec vt399), .pointer (some ⟨b1, 0, none⟩), iV vt406, .agg #[.int .i64 vt399.X, .int .i64 vt399.Y, .int .i64 vt399.Z, .int .i64 vt406], .slice A8 rows7.length c9, iV (rows7.length : Int), tV, tV, .pointer (some ⟨b1, 0, none⟩), iV vt425, tV, tV, .slice A8 rows7.length c9, .pointer (some ⟨b1, 0, none⟩), .slice A8 rows7.length c9, iV (rows7.length : Int), iV vt436, .pointer (some ⟨b448, of449 + (vt436 : Int).toNat * 18, none⟩), .pointer (some ⟨b448, of449 + (vt436 : Int).toNat * 18 + 1, none⟩), (ag_Box ((rd rows7 vt436).Box)), .pointer (some ⟨b452, 0, none⟩), .pointer (some ⟨b452, 0, none⟩), iV ((((rd rows7 vt436).Box).X).Lo), .pointer (some ⟨b452, 3, none⟩), .pointer (some ⟨b452, 3, none⟩), iV ((((rd rows7 vt436).Box).Y).Lo), .pointer (some ⟨b452, 6, none⟩), .pointer (some ⟨b452, 6, none⟩), iV ((((rd rows7 vt436).Box).Z).Lo), .agg #[.int .i64 ((((rd rows7 vt436).Box).X).Lo), .int .i64 ((((rd rows7 vt436).Box).Y).Lo), .int .i64 ((((rd rows7 vt436).Box).Z).Lo)], .agg #[.int .i64 ((((rd rows7 vt436).Box).X).Lo), .int .i64 ((((rd rows7 vt436).Box).Y).Lo), .int .i64 ((((rd rows7 vt436).Box).Z).Lo)], .agg #[.int .i64 0, .int .i64 0, .int .i64 0], fV, fV, uV, uV, uV, uV, uV, uV, uV, uV, uV, uV, uV, uV, uV, uV, uV, uV, uV, fV, (j372 57), (j372 58), (j372 59), (j372 60), (j372 61), (j372 62), (j372 63), (j372 64), (j372 65), .pointer (some ⟨b41, 0, none⟩), .slice A376 x375.length c377, .agg #[.int .i64 vt399.X, .int .i64 vt399.Y, .int .i64 vt399.Z, .int .i64 vt406], .slice (some ⟨b536, 0, none⟩) ([(⟨vt399, vt406⟩ : S_Cone)] : List S_Cone).length 1, .slice A545 (x375 ++ ([(⟨vt399, vt406⟩ : S_Cone)] : List S_Cone)).length c546, .pointer (some ⟨b41, 0, none⟩), iV (w64 (x373 + 1))]), (L369.trans (L403.trans (L410.trans (L429.trans L440)))), HS636, HO550, h, kr⟩
       · have c433 : ¬ (vt425 > 0) := c433
         refine wpRwI 45 kr (decide_eq_false c433) ?_
         refine wpRwI 46 kr (decide_eq_false c433) ?_
         refine condF kr ?_
         refine wp_skip ?_
         refine hK420 _ _ ?_
         refine rl ?_
         refine seqL1 kr ?_
         refine seqK rfl (does_run (run_load rfl Tryz.underlying47 rfl (kv (.pointer (some ⟨b41, 0, none⟩))) (HS431.u3.cell 0)) ?_)
         refine seqK rfl (does_run (run_loadN (n := 4) rfl Tryz.underlying55 rfl kr (kv (.pointer (some ⟨b413, 0, none⟩))) (cs := [.int .i64 vt399.X, .int .i64 vt399.Y, .int .i64 vt399.Z, .int .i64 vt406]) rfl (HS431.u1.cells 0 4 _ rfl)) ?_)
         refine seqK rfl (does_lit (e := ty_Cone) (E := 55) (vs := #[(0, Value.agg #[.int .i64 vt399.X, .int .i64 vt399.Y, .int .i64 vt399.Z, .int .i64 vt406])]) (cs := #[.int .i64 vt399.X, .int .i64 vt399.Y, .int .i64 vt399.Z, .int .i64 vt406]) (xs := ([(⟨vt399, vt406⟩ : S_Cone)] : List S_Cone)) rfl Tryz.underlying47 kr kr ⟨[.int .i64 vt399.X, .int .i64 vt399.Y, .int .i64 vt399.Z, .int .i64 vt406], _, rfl, rfl, rfl⟩ rfl HS431 ?_ (by decide))
         intro b554 W555 s556 HS557 _ HO558
         have hq_ := guard_some h; clear h; obtain ⟨c560, h⟩ := hq_
         have c560 : (x375.length + 1) * 32 ≤ 140737488355328 := c560
         have HS562 := HS557.u3.u1
         refine seqK rfl (does_append1 (e := ty_Cone) (E := 55) (xs := x375) (ys := ([(⟨vt399, vt406⟩ : S_Cone)] : List S_Cone)) rfl (kv (.slice A376 x375.length c377)) (kv (.slice (some ⟨b554, 0, none⟩) ([(⟨vt399, vt406⟩ : S_Cone)] : List S_Cone).length 1)) Tryz.underlying47 inf55 (HO379.mono (L403.trans (L410.trans L429))) HO558 HS562 c560 (lim63 c560 (by decide)) ?_)
         intro A563 c564 s565 W566 HS567 HO568
         have HS569 := HS567.u3
         refine seqL1 kr ?_
         refine seqK rfl (does_store (n := 1) (vs := [.slice A563 (x375 ++ ([(⟨vt399, vt406⟩ : S_Cone)] : List S_Cone)).length c564]) (cs' := #[.slice A563 (x375 ++ ([(⟨vt399, vt406⟩ : S_Cone)] : List S_Cone)).length c564, .int .i64 vt20, .int .i64 x82, .int .i64 x112, .int .i64 x113]) rfl kr (kv (.pointer (some ⟨b41, 0, none⟩))) (kv (.slice A563 (x375 ++ ([(⟨vt399, vt406⟩ : S_Cone)] : List S_Cone)).length c564)) rfl rfl (ones rfl) HS569 (Nat.le_of_ble_eq_true rfl) kr ?_)
         intro W570 HS571
         refine nl ?_
         refine hn391 _ _ ?_
         refine hK388 _ _ ?_
         refine rl ?_
         refine seqL2 kr ?_
         refine nl ?_
         refine hK366 n367 _ _ (Nat.lt_succ_self _) ?_
         have HS641 := HS571.u4.u1.u3.u3.u4
         have HS642 := HS641.drop
         exact ⟨f428, A563, c564, s565, (w64 (x373 + 1)), vt426, (x375 ++ ([(⟨vt399, vt406⟩ : S_Cone)] : List S_Cone)), (jL [.pointer (some ⟨b413, 0, none⟩), (j372 1), (j372 2), tV, .pointer (some ⟨b1, 0, none⟩), (ag_Vec vt399), .pointer (some ⟨b1, 0, none⟩), iV vt406, .agg #[.int .i64 vt399.X, .int .i64 vt399.Y, .int .i64 vt399.Z, .int .i64 vt406], .slice A8 rows7.length c9, iV (rows7.length : Int), tV, tV, .pointer (some ⟨b1, 0, none⟩), iV vt425, fV, fV, (j372 17), (j372 18), (j372 19), (j372 20), (j372 21), (j372 22), (j372 23), (j372 24), (j372 25), (j372 26), (j372 27), (j372 28), (j372 29), (j372 30), (j372 31), (j372 32), (j372 33), (j372 34), (j372 35), (j372 36), (j372 37), (j372 38), (j372 39), (j372 40), (j372 41), (j372 42), (j372 43), (j372 44), (j372 45), (j372 46), (j372 47), (j372 48), (j372 49), (j372 50), (j372 51), (j372 52), (j372 53), (j372 54), (j372 55), (j372 56), (j372 57), (j372 58), (j372 59), (j372 60), (j372 61), (j372 62), (j372 63), (j372 64), (j372 65), .pointer (some ⟨b41, 0, none⟩), .slice A376 x375.length c377, .agg #[.int .i64 vt399.X, .int .i64 vt399.Y, .int .i64 vt399.Z, .int .i64 vt406], .slice (some ⟨b554, 0, none⟩) ([(⟨vt399, vt406⟩ : S_Cone)] : List S_Cone).length 1, .slice A563 (x375 ++ ([(⟨vt399, vt406⟩ : S_Cone)] : List S_Cone)).length c564, .pointer (some ⟨b41, 0, none⟩), iV (w64 (x373 + 1))]), (L369.trans (L403.trans (L410.trans L429))), HS642, HO568, h, kr⟩
     · have c423 : ¬ ((rows7.length : Int) > 0) := c423
       refine seqRwI 41 kr (decide_eq_false c423) ?_
       refine seqRwI 42 kr (decide_eq_false c423) ?_
       refine seqL4 kr ?_
       refine nl (hK422 _ _ ?_)
       refine condF kr ?_
       refine wp_skip ?_
       refine hK420 _ _ ?_
       refine rl ?_
       refine seqL1 kr ?_
       refine seqK rfl (does_run (run_load rfl Tryz.underlying47 rfl (kv (.pointer (some ⟨b41, 0, none⟩))) (HS418.u3.cell 0)) ?_)
       refine seqK rfl (does_run (run_loadN (n := 4) rfl Tryz.underlying55 rfl kr (kv (.pointer (some ⟨b413, 0, none⟩))) (cs := [.int .i64 vt399.X, .int .i64 vt399.Y, .int .i64 vt399.Z, .int .i64 vt406]) rfl (HS418.cells 0 4 _ rfl)) ?_)
       refine seqK rfl (does_lit (e := ty_Cone) (E := 55) (vs := #[(0, Value.agg #[.int .i64 vt399.X, .int .i64 vt399.Y, .int .i64 vt399.Z, .int .i64 vt406])]) (cs := #[.int .i64 vt399.X, .int .i64 vt399.Y, .int .i64 vt399.Z, .int .i64 vt406]) (xs := ([(⟨vt399, vt406⟩ : S_Cone)] : List S_Cone)) rfl Tryz.underlying47 kr kr ⟨[.int .i64 vt399.X, .int .i64 vt399.Y, .int .i64 vt399.Z, .int .i64 vt406], _, rfl, rfl, rfl⟩ rfl HS418 ?_ (by decide))
       intro b572 W573 s574 HS575 _ HO576
       have hq_ := guard_some h; clear h; obtain ⟨c578, h⟩ := hq_
       have c578 : (x375.length + 1) * 32 ≤ 140737488355328 := c578
       have HS580 := HS575.u3.u1
       refine seqK rfl (does_append1 (e := ty_Cone) (E := 55) (xs := x375) (ys := ([(⟨vt399, vt406⟩ : S_Cone)] : List S_Cone)) rfl (kv (.slice A376 x375.length c377)) (kv (.slice (some ⟨b572, 0, none⟩) ([(⟨vt399, vt406⟩ : S_Cone)] : List S_Cone).length 1)) Tryz.underlying47 inf55 (HO379.mono (L403.trans L410)) HO576 HS580 c578 (lim63 c578 (by decide)) ?_)
       intro A581 c582 s583 W584 HS585 HO586
       have HS587 := HS585.u3
       refine seqL1 kr ?_
       refine seqK rfl (does_store (n := 1) (vs := [.slice A581 (x375 ++ ([(⟨vt399, vt406⟩ : S_Cone)] : List S_Cone)).length c582]) (cs' := #[.slice A581 (x375 ++ ([(⟨vt399, vt406⟩ : S_Cone)] : List S_Cone)).length c582, .int .i64 vt20, .int .i64 x82, .int .i64 x112, .int .i64 x113]) rfl kr (kv (.pointer (some ⟨b41, 0, none⟩))) (kv (.slice A581 (x375 ++ ([(⟨vt399, vt406⟩ : S_Cone)] : List S_Cone)).length c582)) rfl rfl (ones rfl) HS587 (Nat.le_of_ble_eq_true rfl) kr ?_)
       intro W588 HS589
       refine nl ?_
       refine hn391 _ _ ?_
       refine hK388 _ _ ?_
       refine rl ?_
       refine seqL2 kr ?_
       refine nl ?_
       refine hK366 n367 _ _ (Nat.lt_succ_self _) ?_
       have HS647 := HS589.u4.u1.u4.u3.u4
       have HS648 := HS647.drop
       exact ⟨f409, A581, c582, s583, (w64 (x373 + 1)), vt407, (x375 ++ ([(⟨vt399, vt406⟩ : S_Cone)] : List S_Cone)), (jL [.pointer (some ⟨b413, 0, none⟩), (j372 1), (j372 2), tV, .pointer (some ⟨b1, 0, none⟩), (ag_Vec vt399), .pointer (some ⟨b1, 0, none⟩), iV vt406, .agg #[.int .i64 vt399.X, .int .i64 vt399.Y, .int .i64 vt399.Z, .int .i64 vt406], .slice A8 rows7.length c9, iV (rows7.length : Int), fV, fV, uV, uV, uV, fV, (j372 17), (j372 18), (j372 19), (j372 20), (j372 21), (j372 22), (j372 23), (j372 24), (j372 25), (j372 26), (j372 27), (j372 28), (j372 29), (j372 30), (j372 31), (j372 32), (j372 33), (j372 34), (j372 35), (j372 36), (j372 37), (j372 38), (j372 39), (j372 40), (j372 41), (j372 42), (j372 43), (j372 44), (j372 45), (j372 46), (j372 47), (j372 48), (j372 49), (j372 50), (j372 51), (j372 52), (j372 53), (j372 54), (j372 55), (j372 56), (j372 57), (j372 58), (j372 59), (j372 60), (j372 61), (j372 62), (j372 63), (j372 64), (j372 65), .pointer (some ⟨b41, 0, none⟩), .slice A376 x375.length c377, .agg #[.int .i64 vt399.X, .int .i64 vt399.Y, .int .i64 vt399.Z, .int .i64 vt406], .slice (some ⟨b572, 0, none⟩) ([(⟨vt399, vt406⟩ : S_Cone)] : List S_Cone).length 1, .slice A581 (x375 ++ ([(⟨vt399, vt406⟩ : S_Cone)] : List S_Cone)).length c582, .pointer (some ⟨b41, 0, none⟩), iV (w64 (x373 + 1))]), (L369.trans (L403.trans L410)), HS648, HO586, h, kr⟩
   · have c386 : ¬ (x373 < vt124) := c386
     refine wpRwI 33 kr (decide_eq_false c386) ?_
     refine condF kr ?_
     refine wp_exit ?_
     refine hx132 _ _ ?_
     exact J603 f368 A376 c377 s378 x374 x375 (jL [(j372 0), (j372 1), (j372 2), iV x373, fV, (j372 4), (j372 5), (j372 6), (j372 7), (j372 8), (j372 9), (j372 10), (j372 11), (j372 12), (j372 13), (j372 14), (j372 15), (j372 16), (j372 17), (j372 18), (j372 19), (j372 20), (j372 21), (j372 22), (j372 23), (j372 24), (j372 25), (j372 26), (j372 27), (j372 28), (j372 29), (j372 30), (j372 31), (j372 32), (j372 33), (j372 34), (j372 35), (j372 36), (j372 37), (j372 38), (j372 39), (j372 40), (j372 41), (j372 42), (j372 43), (j372 44), (j372 45), (j372 46), (j372 47), (j372 48), (j372 49), (j372 50), (j372 51), (j372 52), (j372 53), (j372 54), (j372 55), (j372 56), (j372 57), (j372 58), (j372 59), (j372 60), (j372 61), (j372 62), (j372 63), (j372 64), (j372 65), (j372 66), (j372 67), (j372 68), (j372 69), (j372 70), (j372 71), (j372 72)]) W370 _ L369 h HS371 HO379 kr
  clear h; have h := hv114; clear hv114
  have hq_ := ite_some h; clear h; rcases hq_ with ⟨c101, h⟩ | ⟨c101, h⟩
  · have c101 : vt93 = 0 := c101
    refine wpRwI 27 kr (beq_iff_eq.mpr c101) ?_
    refine condT kr ?_
    refine rl ?_
    have HS102 := HS99.u1
    refine seqL1 kr ?_
    refine seqK rfl (does_store (n := 1) (vs := [.int .i64 0]) (cs' := #[.slice none 0 0, .int .i64 vt20, .int .i64 x82, .int .i64 vt27, .int .i64 0]) rfl kr (kv (.pointer (some ⟨b41, 4, none⟩))) (kv (.int .i64 0)) rfl rfl (ones rfl) HS102 (Nat.le_of_ble_eq_true rfl) kr ?_)
    intro W103 HS104
    refine seqL1 kr ?_
    refine seqK rfl (does_store (n := 1) (vs := [.int .i64 0]) (cs' := #[.slice none 0 0, .int .i64 vt20, .int .i64 x82, .int .i64 0, .int .i64 0]) rfl kr (kv (.pointer (some ⟨b41, 3, none⟩))) (kv (.int .i64 0)) rfl rfl (ones rfl) HS104 (Nat.le_of_ble_eq_true rfl) kr ?_)
    intro W105 HS106
    refine nl ?_
    refine fnRwI (F := K89) 27 (x := true) (v := (vt93 == 0)) kr (Eq.symm (beq_iff_eq.mpr c101)) ?_
    have HS119 := HS106.u2.u1.u2
    exact J115 f96 0 0 (jL [.pointer (some ⟨b41, 4, none⟩), .pointer (some ⟨b41, 3, none⟩)]) W105 _ fL h HS119 kr
  · have c101 : ¬ (vt93 = 0) := c101
    refine wpRwI 27 kr (beq_eq_false_iff_ne.mpr c101) ?_
    refine condF kr ?_
    refine wp_skip ?_
    refine fnRwI (F := K89) 27 (x := false) (v := (vt93 == 0)) kr (Eq.symm (beq_eq_false_iff_ne.mpr c101)) ?_
    exact J115 f96 vt27 vt34 (jL []) W98 _ fL h HS99 kr
 clear h; have h := hv83; clear hv83
 have hq_ := ite_some h; clear h; rcases hq_ with ⟨c60, h⟩ | ⟨c60, h⟩
 · have c60 : vt52 = 0 := c60
   refine wpRwI 18 kr (beq_iff_eq.mpr c60) ?_
   refine condT kr ?_
   have HS63 := HS58.u2.u2.u2
   refine heldG (S := Sg t f55 ([(b13, .cells #[.slice none 0 0, .int .i64 0, .int .i64 0, .int .i64 0, .int .i64 0] 51 (0, 0))] :: H) [(3, [(b1, .cells #[.slice A4 s3.L.length c5, .int .i64 vt53] 26 (0, 0))]), (6, [(b41, .cells #[.slice none 0 0, .int .i64 vt20, .int .i64 17592186044416, .int .i64 vt27, .int .i64 vt34] 51 (0, 0))])]) (n := 7) kr rfl HS63 ?_
   intro W64 HS65
   refine takeGL [0] (n := 7) (fuel := 6) #[true, false, false, false, false, false, false] rfl kr kr kr hnp (Sg.g2 (Sx.of [[(b1, .cells #[.slice A4 s3.L.length c5, .int .i64 vt53] 26 (0, 0))], [(b41, .cells #[.slice none 0 0, .int .i64 vt20, .int .i64 17592186044416, .int .i64 vt27, .int .i64 vt34] 51 (0, 0))]] fL HS65) (fun _ => St.only [] HS65 fL) (fun _ => St.only [[(b1, .cells #[.slice A4 s3.L.length c5, .int .i64 vt53] 26 (0, 0))]] HS65 fL)) ?_
   refine takeGQ 1 [6] rfl kr kr kr kr kr kr hnp (Sg.g2 (Sx.of [[(b1, .cells #[.slice A4 s3.L.length c5, .int .i64 vt53] 26 (0, 0))], [(b41, .cells #[.slice none 0 0, .int .i64 vt20, .int .i64 17592186044416, .int .i64 vt27, .int .i64 vt34] 51 (0, 0))]] fL HS65) (fun _ => St.only [] HS65 fL) (fun _ => St.only [[(b1, .cells #[.slice A4 s3.L.length c5, .int .i64 vt53] 26 (0, 0))]] HS65 fL)) (fun w_ hw_ => by obtain ⟨g_, hl_, hS_⟩ := hw_.seg (j := 6) (s := [(b41, .cells #[.slice none 0 0, .int .i64 vt20, .int .i64 17592186044416, .int .i64 vt27, .int .i64 vt34] 51 (0, 0))]) (by simp) (by simp); exact run_load rfl Tryz.underlying48 rfl (kv (.pointer (some ⟨b41, 1, none⟩))) (hS_.cell 1)) ?_
   refine takeGL [2] (n := 5) (fuel := 4) #[true, true, true, false, false, false, false] rfl kr kr kr hnp (Sg.g2 (Sx.of [[(b1, .cells #[.slice A4 s3.L.length c5, .int .i64 vt53] 26 (0, 0))], [(b41, .cells #[.slice none 0 0, .int .i64 vt20, .int .i64 17592186044416, .int .i64 vt27, .int .i64 vt34] 51 (0, 0))]] fL HS65) (fun _ => St.only [] HS65 fL) (fun _ => St.only [[(b1, .cells #[.slice A4 s3.L.length c5, .int .i64 vt53] 26 (0, 0))]] HS65 fL)) ?_
   have hq_ := bind_some h; clear h; obtain ⟨⟨vt66, vt67⟩, hc68, h⟩ := hq_
   refine takeGE 3 kr rfl kr (does_call (f := 20) (args := #[.pointer (some ⟨b1, 0, none⟩), .int .i64 9000]) kr (spymake_Stream_Next.calls k b1 A4 c5 (⟨s3.L, vt53⟩ : S_Stream) 9000 HS65 (HR6.mono (L24.trans (L31.trans (L38.trans L56)))) vt66 vt67 hc68) ?_)
   rintro _ W71 ⟨f69, rfl, L70, HS72⟩
   refine ⟨_, rfl, ?_⟩
   refine ⟨(Sg.g2 (Sx.of [[(b1, .cells #[.slice A4 s3.L.length c5, .int .i64 vt67] 26 (0, 0))], [(b41, .cells #[.slice none 0 0, .int .i64 vt20, .int .i64 17592186044416, .int .i64 vt27, .int .i64 vt34] 51 (0, 0))]] L70 HS72) (fun hl_ => Bool.noConfusion (show true = false from hl_)) (fun _ => St.only [[(b1, .cells #[.slice A4 s3.L.length c5, .int .i64 vt67] 26 (0, 0))]] HS72 L70)), ?_⟩
   refine takeGL [4, 5] (n := 3) (fuel := 1) #[true, true, true, true, true, true, false] rfl kr kr kr hnp (Sg.g2 (Sx.of [[(b1, .cells #[.slice A4 s3.L.length c5, .int .i64 vt67] 26 (0, 0))], [(b41, .cells #[.slice none 0 0, .int .i64 vt20, .int .i64 17592186044416, .int .i64 vt27, .int .i64 vt34] 51 (0, 0))]] L70 HS72) (fun hl_ => Bool.noConfusion (show true = false from hl_)) (fun _ => St.only [[(b1, .cells #[.slice A4 s3.L.length c5, .int .i64 vt67] 26 (0, 0))]] HS72 L70)) ?_
   have HS73 := HS72.u1
   refine takeGE 6 kr rfl kr (does_store (n := 1) (vs := [.int .i64 (w64 (vt20 + vt66))]) (cs' := #[.slice none 0 0, .int .i64 vt20, .int .i64 (w64 (vt20 + vt66)), .int .i64 vt27, .int .i64 vt34]) rfl kr (kv (.pointer (some ⟨b41, 2, none⟩))) (kv (.int .i64 (w64 (vt20 + vt66)))) rfl rfl (ones rfl) HS73 (Nat.le_of_ble_eq_true rfl) kr ?_)
   intro W74 HS75
   refine ⟨(Sg.g2 (Sx.of [[(b41, .cells #[.slice none 0 0, .int .i64 vt20, .int .i64 (w64 (vt20 + vt66)), .int .i64 vt27, .int .i64 vt34] 51 (0, 0))], [(b1, .cells #[.slice A4 s3.L.length c5, .int .i64 vt67] 26 (0, 0))]] L70 HS75) (fun hl_ => Bool.noConfusion (show true = false from hl_)) (fun hl_ => Bool.noConfusion (show true = false from hl_))), ?_⟩
   refine doneG kr ?_ _
   refine fnRwI (F := K47) 18 (x := true) (v := (vt52 == 0)) kr (Eq.symm (beq_iff_eq.mpr c60)) ?_
   have HS88 := HS75.u2.u1.u2
   exact J84 f69 vt67 (w64 (vt20 + vt66)) (jL [.pointer (some ⟨b41, 1, none⟩), iV vt20, .pointer (some ⟨b1, 0, none⟩), iV vt66, iV (w64 (vt20 + vt66)), .pointer (some ⟨b41, 2, none⟩)]) W74 _ L70 h HS88 kr
 · have c60 : ¬ (vt52 = 0) := c60
   refine wpRwI 18 kr (beq_eq_false_iff_ne.mpr c60) ?_
   refine condF kr ?_
   refine wp_skip ?_
   refine fnRwI (F := K47) 18 (x := false) (v := (vt52 == 0)) kr (Eq.symm (beq_eq_false_iff_ne.mpr c60)) ?_
   exact J84 f55 vt53 17592186044416 (jL []) W57 _ fL h HS58 kr

set_option maxRecDepth 100000 in
set_option maxHeartbeats 4000000 in
theorem bound_Check_Coord.calls (k : Nat)  (b1 : S_Bound) {t w : World} {f : FM} {H : List Seg} (HS : St t w f (H)) (rr1 : Int) (h : bound_Check_Coord k b1 = some rr1) :
    Calls Tryz.prog 94 #[.agg #[.int .i64 b1.Lo, .int .i64 b1.Hi, .bool b1.Unknown]] w (fun e w' => ∃ (g : FM), e = .returned (Value.int .i64 rr1) ∧ FM.le f g ∧ St t w' g (H)) := by
 unfold bound_Check_Coord at h
 refine enter Tryz.func94 rfl (tm := #[(ag_Bound b1), uV, uV, uV, uV, uV, uV, uV, uV, uV, uV, uV, uV, uV, uV, uV, uV, uV, uV, uV, uV, uV, uV, uV, uV, uV, uV, uV, uV, uV, uV, uV, uV, uV, uV, uV, uV]) kr ?_
 intro B hret hnor hnp
 refine wp_seq_k fun K2 hK3 => rl ?_
 refine seqK rfl (does_box (cs := #[.int .i64 b1.Lo, .int .i64 b1.Hi, .bool b1.Unknown]) rfl (kv (.agg #[.int .i64 b1.Lo, .int .i64 b1.Hi, .bool b1.Unknown])) rfl HS ?_)
 intro b4 W5 HS6
 refine seqL1 kr ?_
 refine nl (hK3 _ _ ?_)
 refine wp_seq_k (fun K8 hK9 => ?_)
 refine blockK (fun B10 hx11 hn12 hr13 ho14 hp15 => ?_)
 refine wp_seq_k fun K17 hK18 => rl ?_
 refine seqL1 kr ?_
 refine seqK rfl (does_run (run_load rfl Tryz.underlying4 rfl (kv (.pointer (some ⟨b4, 2, none⟩))) (HS6.cell 2)) ?_)
 refine seqL1 kr ?_
 have hq_ := ite_some h; clear h; rcases hq_ with ⟨c19, h⟩ | ⟨c19, h⟩
 · have c19 : b1.Unknown = true := c19
   refine seqRwI 5 kr c19 ?_
   refine seqRwI 6 kr c19 ?_
   refine seqL1 kr ?_
   refine seqG kr (does_run (run_load rfl Tryz.underlying27 rfl (kv (.pointer (some ⟨b4, 0, none⟩))) (HS6.cell 0)) ?_)
   refine seqL2 kr ?_
   have hq_ := ite_some h; clear h; rcases hq_ with ⟨c20, h⟩ | ⟨c20, h⟩
   · have c20 : b1.Lo ≠ 0 := c20
     refine seqRwI 9 kr (bne_iff_ne.mpr c20) ?_
     refine seqRwI 10 kr (bne_iff_ne.mpr c20) ?_
     refine seqL6 kr ?_
     refine nl (hK18 _ _ ?_)
     refine condT kr ?_
     refine wp_seq_k fun K21 hK22 => rl ?_
     refine seqL1 kr ?_
     refine nl (hK22 _ _ ?_)
     refine wp_ret ?_
     refine hr13 _ _ ?_
     refine hret _ _ ?_
     refine ends_still (v := Value.int .i64 3) kr kr ?_
     have HS61 := HS6.drop
     injection h with h
     subst h
     exact ⟨f, rfl, FM.le.refl _, HS61⟩
   · have c20 : ¬ (b1.Lo ≠ 0) := c20
     refine seqRwI 9 (x := (b1.Lo != 0)) (v := false) kr (bne_eq_false_iff_eq.mpr (Decidable.of_not_not c20)) ?_
     refine seqRwI 10 (x := (b1.Lo != 0)) (v := false) kr (bne_eq_false_iff_eq.mpr (Decidable.of_not_not c20)) ?_
     refine seqL1 kr ?_
     refine seqG kr (does_run (run_load rfl Tryz.underlying27 rfl (kv (.pointer (some ⟨b4, 1, none⟩))) (HS6.cell 1)) ?_)
     refine seqL4 kr ?_
     refine nl (hK18 _ _ ?_)
     have hq_ := ite_some h; clear h; rcases hq_ with ⟨c24, h⟩ | ⟨c24, h⟩
     · have c24 : b1.Hi ≠ 0 := c24
       refine wpRwI 3 kr (bne_iff_ne.mpr c24) ?_
       refine wpRwI 13 kr (bne_iff_ne.mpr c24) ?_
       refine wpRwI 14 kr (bne_iff_ne.mpr c24) ?_
       refine wpRwI 15 kr (bne_iff_ne.mpr c24) ?_
       refine condT kr ?_
       refine wp_seq_k fun K25 hK26 => rl ?_
       refine seqL1 kr ?_
       refine nl (hK26 _ _ ?_)
       refine wp_ret ?_
       refine hr13 _ _ ?_
       refine hret _ _ ?_
       refine ends_still (v := Value.int .i64 3) kr kr ?_
       have HS62 := HS6.drop
       injection h with h
       subst h
       exact ⟨f, rfl, FM.le.refl _, HS62⟩
     · have c24 : ¬ (b1.Hi ≠ 0) := c24
       refine wpRwI 3 (x := (b1.Hi != 0)) (v := false) kr (bne_eq_false_iff_eq.mpr (Decidable.of_not_not c24)) ?_
       refine wpRwI 13 (x := (b1.Hi != 0)) (v := false) kr (bne_eq_false_iff_eq.mpr (Decidable.of_not_not c24)) ?_
       refine wpRwI 14 (x := (b1.Hi != 0)) (v := false) kr (bne_eq_false_iff_eq.mpr (Decidable.of_not_not c24)) ?_
       refine wpRwI 15 (x := (b1.Hi != 0)) (v := false) kr (bne_eq_false_iff_eq.mpr (Decidable.of_not_not c24)) ?_
       refine condF kr ?_
       refine wp_seq_k fun K27 hK28 => rl ?_
       refine seqL1 kr ?_
       refine seqK rfl (does_run (run_load rfl Tryz.underlying27 rfl (kv (.pointer (some ⟨b4, 0, none⟩))) (HS6.cell 0)) ?_)
       refine seqL1 kr ?_
       refine seqK rfl (does_run (run_load rfl Tryz.underlying27 rfl (kv (.pointer (some ⟨b4, 1, none⟩))) (HS6.cell 1)) ?_)
       refine seqL3 kr ?_
       have hq_ := ite_some h; clear h; rcases hq_ with ⟨c29, h⟩ | ⟨c29, h⟩
       · have c29 : (mn b1.Lo b1.Hi) < (-1152921504606846976) := c29
         refine seqRwI 22 kr (decide_eq_true c29) ?_
         refine seqRwI 23 kr (decide_eq_true c29) ?_
         refine seqL8 kr ?_
         refine nl (hK28 _ _ ?_)
         refine condT kr ?_
         refine wp_seq_k fun K30 hK31 => rl ?_
         refine seqL1 kr ?_
         refine nl (hK31 _ _ ?_)
         refine wp_ret ?_
         refine hr13 _ _ ?_
         refine hret _ _ ?_
         refine ends_still (v := Value.int .i64 4) kr kr ?_
         have HS63 := HS6.drop
         injection h with h
         subst h
         exact ⟨f, rfl, FM.le.refl _, HS63⟩
       · have c29 : ¬ ((mn b1.Lo b1.Hi) < (-1152921504606846976)) := c29
         refine seqRwI 22 kr (decide_eq_false c29) ?_
         refine seqRwI 23 kr (decide_eq_false c29) ?_
         refine seqL1 kr ?_
         refine seqG kr (does_run (run_load rfl Tryz.underlying27 rfl (kv (.pointer (some ⟨b4, 0, none⟩))) (HS6.cell 0)) ?_)
         refine seqL1 kr ?_
         refine seqG kr (does_run (run_load rfl Tryz.underlying27 rfl (kv (.pointer (some ⟨b4, 1, none⟩))) (HS6.cell 1)) ?_)
         refine seqL4 kr ?_
         refine nl (hK28 _ _ ?_)
         have hq_ := ite_some h; clear h; rcases hq_ with ⟨c33, h⟩ | ⟨c33, h⟩
         · have c33 : (mx b1.Lo b1.Hi) > 1152921504606846976 := c33
           refine wpRwI 16 kr (decide_eq_true c33) ?_
           refine wpRwI 29 kr (decide_eq_true c33) ?_
           refine wpRwI 30 kr (decide_eq_true c33) ?_
           refine condT kr ?_
           refine wp_seq_k fun K34 hK35 => rl ?_
           refine seqL1 kr ?_
           refine nl (hK35 _ _ ?_)
           refine wp_ret ?_
           refine hr13 _ _ ?_
           refine hret _ _ ?_
           refine ends_still (v := Value.int .i64 4) kr kr ?_
           have HS64 := HS6.drop
           injection h with h
           subst h
           exact ⟨f, rfl, FM.le.refl _, HS64⟩
         · have c33 : ¬ ((mx b1.Lo b1.Hi) > 1152921504606846976) := c33
           refine wpRwI 16 kr (decide_eq_false c33) ?_
           refine wpRwI 29 kr (decide_eq_false c33) ?_
           refine wpRwI 30 kr (decide_eq_false c33) ?_
           refine condF kr ?_
           refine wp_seq_k fun K36 hK37 => rl ?_
           refine seqL1 kr ?_
           refine seqK rfl (does_run (run_load rfl Tryz.underlying27 rfl (kv (.pointer (some ⟨b4, 0, none⟩))) (HS6.cell 0)) ?_)
           refine seqL1 kr ?_
           refine seqK rfl (does_run (run_load rfl Tryz.underlying27 rfl (kv (.pointer (some ⟨b4, 1, none⟩))) (HS6.cell 1)) ?_)
           refine seqL2 kr ?_
           refine nl (hK37 _ _ ?_)
           have hq_ := ite_some h; clear h; rcases hq_ with ⟨c39, h⟩ | ⟨c39, h⟩
           · have c39 : b1.Lo > b1.Hi := c39
             refine wpRwI 31 kr (decide_eq_true c39) ?_
             refine wpRwI 36 kr (decide_eq_true c39) ?_
             refine condT kr ?_
             refine wp_seq_k fun K40 hK41 => rl ?_
             refine seqL1 kr ?_
             refine nl (hK41 _ _ ?_)
             refine wp_ret ?_
             refine hr13 _ _ ?_
             refine hret _ _ ?_
             refine ends_still (v := Value.int .i64 11) kr kr ?_
             have HS65 := HS6.drop
             injection h with h
             subst h
             exact ⟨f, rfl, FM.le.refl _, HS65⟩
           · have c39 : ¬ (b1.Lo > b1.Hi) := c39
             refine wpRwI 31 kr (decide_eq_false c39) ?_
             refine wpRwI 36 kr (decide_eq_false c39) ?_
             refine condF kr ?_
             refine wp_skip ?_
             refine hn12 _ _ ?_
             refine hK9 _ _ ?_
             refine wp_seq_k fun K57 hK58 => rl ?_
             refine seqL1 kr ?_
             refine nl (hK58 _ _ ?_)
             refine wp_ret ?_
             refine hret _ _ ?_
             refine ends_still (v := Value.int .i64 0) kr kr ?_
             have HS69 := HS6.drop
             injection h with h
             subst h
             exact ⟨f, rfl, FM.le.refl _, HS69⟩
 · have c19 : ¬ (b1.Unknown = true) := c19
   refine seqRwI 5 kr (Bool.eq_false_iff.mpr c19) ?_
   refine seqRwI 6 kr (Bool.eq_false_iff.mpr c19) ?_
   refine seqL10 kr ?_
   refine nl (hK18 _ _ ?_)
   refine condF kr ?_
   refine wp_seq_k fun K42 hK43 => rl ?_
   refine seqL1 kr ?_
   refine seqK rfl (does_run (run_load rfl Tryz.underlying27 rfl (kv (.pointer (some ⟨b4, 0, none⟩))) (HS6.cell 0)) ?_)
   refine seqL1 kr ?_
   refine seqK rfl (does_run (run_load rfl Tryz.underlying27 rfl (kv (.pointer (some ⟨b4, 1, none⟩))) (HS6.cell 1)) ?_)
   refine seqL3 kr ?_
   have hq_ := ite_some h; clear h; rcases hq_ with ⟨c44, h⟩ | ⟨c44, h⟩
   · have c44 : (mn b1.Lo b1.Hi) < (-1152921504606846976) := c44
     refine seqRwI 22 kr (decide_eq_true c44) ?_
     refine seqRwI 23 kr (decide_eq_true c44) ?_
     refine seqL8 kr ?_
     refine nl (hK43 _ _ ?_)
     refine condT kr ?_
     refine wp_seq_k fun K45 hK46 => rl ?_
     refine seqL1 kr ?_
     refine nl (hK46 _ _ ?_)
     refine wp_ret ?_
     refine hr13 _ _ ?_
     refine hret _ _ ?_
     refine ends_still (v := Value.int .i64 4) kr kr ?_
     have HS66 := HS6.drop
     injection h with h
     subst h
     exact ⟨f, rfl, FM.le.refl _, HS66⟩
   · have c44 : ¬ ((mn b1.Lo b1.Hi) < (-1152921504606846976)) := c44
     refine seqRwI 22 kr (decide_eq_false c44) ?_
     refine seqRwI 23 kr (decide_eq_false c44) ?_
     refine seqL1 kr ?_
     refine seqG kr (does_run (run_load rfl Tryz.underlying27 rfl (kv (.pointer (some ⟨b4, 0, none⟩))) (HS6.cell 0)) ?_)
     refine seqL1 kr ?_
     refine seqG kr (does_run (run_load rfl Tryz.underlying27 rfl (kv (.pointer (some ⟨b4, 1, none⟩))) (HS6.cell 1)) ?_)
     refine seqL4 kr ?_
     refine nl (hK43 _ _ ?_)
     have hq_ := ite_some h; clear h; rcases hq_ with ⟨c48, h⟩ | ⟨c48, h⟩
     · have c48 : (mx b1.Lo b1.Hi) > 1152921504606846976 := c48
       refine wpRwI 16 kr (decide_eq_true c48) ?_
       refine wpRwI 29 kr (decide_eq_true c48) ?_
       refine wpRwI 30 kr (decide_eq_true c48) ?_
       refine condT kr ?_
       refine wp_seq_k fun K49 hK50 => rl ?_
       refine seqL1 kr ?_
       refine nl (hK50 _ _ ?_)
       refine wp_ret ?_
       refine hr13 _ _ ?_
       refine hret _ _ ?_
       refine ends_still (v := Value.int .i64 4) kr kr ?_
       have HS67 := HS6.drop
       injection h with h
       subst h
       exact ⟨f, rfl, FM.le.refl _, HS67⟩
     · have c48 : ¬ ((mx b1.Lo b1.Hi) > 1152921504606846976) := c48
       refine wpRwI 16 kr (decide_eq_false c48) ?_
       refine wpRwI 29 kr (decide_eq_false c48) ?_
       refine wpRwI 30 kr (decide_eq_false c48) ?_
       refine condF kr ?_
       refine wp_seq_k fun K51 hK52 => rl ?_
       refine seqL1 kr ?_
       refine seqK rfl (does_run (run_load rfl Tryz.underlying27 rfl (kv (.pointer (some ⟨b4, 0, none⟩))) (HS6.cell 0)) ?_)
       refine seqL1 kr ?_
       refine seqK rfl (does_run (run_load rfl Tryz.underlying27 rfl (kv (.pointer (some ⟨b4, 1, none⟩))) (HS6.cell 1)) ?_)
       refine seqL2 kr ?_
       refine nl (hK52 _ _ ?_)
       have hq_ := ite_some h; clear h; rcases hq_ with ⟨c54, h⟩ | ⟨c54, h⟩
       · have c54 : b1.Lo > b1.Hi := c54
         refine wpRwI 31 kr (decide_eq_true c54) ?_
         refine wpRwI 36 kr (decide_eq_true c54) ?_
         refine condT kr ?_
         refine wp_seq_k fun K55 hK56 => rl ?_
         refine seqL1 kr ?_
         refine nl (hK56 _ _ ?_)
         refine wp_ret ?_
         refine hr13 _ _ ?_
         refine hret _ _ ?_
         refine ends_still (v := Value.int .i64 11) kr kr ?_
         have HS68 := HS6.drop
         injection h with h
         subst h
         exact ⟨f, rfl, FM.le.refl _, HS68⟩
       · have c54 : ¬ (b1.Lo > b1.Hi) := c54
         refine wpRwI 31 kr (decide_eq_false c54) ?_
         refine wpRwI 36 kr (decide_eq_false c54) ?_
         refine condF kr ?_
         refine wp_skip ?_
         refine hn12 _ _ ?_
         refine hK9 _ _ ?_
         refine wp_seq_k fun K59 hK60 => rl ?_
         refine seqL1 kr ?_
         refine nl (hK60 _ _ ?_)
         refine wp_ret ?_
         refine hret _ _ ?_
         refine ends_still (v := Value.int .i64 0) kr kr ?_
         have HS70 := HS6.drop
         injection h with h
         subst h
         exact ⟨f, rfl, FM.le.refl _, HS70⟩

set_option maxRecDepth 100000 in
set_option maxHeartbeats 4000000 in
theorem catalog_ends_Coord.calls (k : Nat)  (b1 : S_Bound) (most2 : Int) {t w : World} {f : FM} {H : List Seg} (HS : St t w f (H)) (rr1 : Int) (h : catalog_ends_Coord k b1 most2 = some rr1) :
    Calls Tryz.prog 96 #[.agg #[.int .i64 b1.Lo, .int .i64 b1.Hi, .bool b1.Unknown], .int .i64 most2] w (fun e w' => ∃ (g : FM), e = .returned (Value.int .i64 rr1) ∧ FM.le f g ∧ St t w' g (H)) := by
 unfold catalog_ends_Coord at h
 refine enter Tryz.func96 rfl (tm := #[(ag_Bound b1), iV most2, uV, uV, uV, uV, uV, uV, uV, uV, uV, uV, uV, uV, uV, uV, uV, uV, uV, uV, uV, uV]) kr ?_
 intro B hret hnor hnp
 refine wp_seq_k fun K3 hK4 => rl ?_
 refine seqK rfl (does_box (cs := #[.int .i64 b1.Lo, .int .i64 b1.Hi, .bool b1.Unknown]) rfl (kv (.agg #[.int .i64 b1.Lo, .int .i64 b1.Hi, .bool b1.Unknown])) rfl HS ?_)
 intro b5 W6 HS7
 refine seqL1 kr ?_
 refine nl (hK4 _ _ ?_)
 refine wp_seq_k (fun K9 hK10 => ?_)
 refine wp_seq_k fun K11 hK12 => rl ?_
 refine seqK rfl (does_run (run_loadN (n := 3) rfl Tryz.underlying29 rfl kr (kv (.pointer (some ⟨b5, 0, none⟩))) (cs := [.int .i64 b1.Lo, .int .i64 b1.Hi, .bool b1.Unknown]) rfl (HS7.cells 0 3 _ rfl)) ?_)
 have hq_ := bind_some h; clear h; obtain ⟨vt13, hc14, h⟩ := hq_
 refine seqK rfl (does_call (f := 94) (args := #[.agg #[.int .i64 b1.Lo, .int .i64 b1.Hi, .bool b1.Unknown]]) kr (bound_Check_Coord.calls k b1 HS7 vt13 hc14) ?_)
 rintro _ W17 ⟨f15, rfl, L16, HS18⟩
 refine ⟨_, rfl, ?_⟩
 refine seqL1 kr ?_
 refine nl (hK12 _ _ ?_)
 refine wp_seq_k fun K19 hK20 => rl ?_
 refine seqL2 kr ?_
 refine nl (hK20 _ _ ?_)
 have hq_ := ite_some h; clear h; rcases hq_ with ⟨c22, h⟩ | ⟨c22, h⟩
 · have c22 : vt13 ≠ 0 := c22
   refine wpRwI 9 kr (bne_iff_ne.mpr c22) ?_
   refine condT kr ?_
   refine wp_seq_k fun K23 hK24 => rl ?_
   refine seqL2 kr ?_
   refine nl (hK24 _ _ ?_)
   refine wp_ret ?_
   refine hret _ _ ?_
   refine ends_still (v := Value.int .i64 vt13) kr kr ?_
   have HS38 := HS18.drop
   injection h with h
   subst h
   exact ⟨f15, rfl, L16, HS38⟩
 · have c22 : ¬ (vt13 ≠ 0) := c22
   refine wpRwI 9 (x := (vt13 != 0)) (v := false) kr (bne_eq_false_iff_eq.mpr (Decidable.of_not_not c22)) ?_
   refine condF kr ?_
   refine wp_skip ?_
   refine hK10 _ _ ?_
   refine wp_seq_k (fun K25 hK26 => ?_)
   refine wp_seq_k fun K27 hK28 => rl ?_
   refine seqL1 kr ?_
   refine seqK rfl (does_run (run_load rfl Tryz.underlying27 rfl (kv (.pointer (some ⟨b5, 0, none⟩))) (HS18.cell 0)) ?_)
   refine seqL4 kr ?_
   have hq_ := ite_some h; clear h; rcases hq_ with ⟨c29, h⟩ | ⟨c29, h⟩
   · have c29 : b1.Lo < (w64 (0 - most2)) := c29
     refine seqRwI 15 kr (decide_eq_true c29) ?_
     refine seqRwI 16 kr (decide_eq_true c29) ?_
     refine seqL5 kr ?_
     refine nl (hK28 _ _ ?_)
     refine condT kr ?_
     refine wp_seq_k fun K30 hK31 => rl ?_
     refine seqL1 kr ?_
     refine nl (hK31 _ _ ?_)
     refine wp_ret ?_
     refine hret _ _ ?_
     refine ends_still (v := Value.int .i64 4) kr kr ?_
     have HS39 := HS18.drop
     injection h with h
     subst h
     exact ⟨f15, rfl, L16, HS39⟩
   · have c29 : ¬ (b1.Lo < (w64 (0 - most2))) := c29
     refine seqRwI 15 kr (decide_eq_false c29) ?_
     refine seqRwI 16 kr (decide_eq_false c29) ?_
     refine seqL1 kr ?_
     refine seqG kr (does_run (run_load rfl Tryz.underlying27 rfl (kv (.pointer (some ⟨b5, 1, none⟩))) (HS18.cell 1)) ?_)
     refine seqL3 kr ?_
     refine nl (hK28 _ _ ?_)
     have hq_ := ite_some h; clear h; rcases hq_ with ⟨c33, h⟩ | ⟨c33, h⟩
     · have c33 : b1.Hi > most2 := c33
       refine wpRwI 20 kr (decide_eq_true c33) ?_
       refine wpRwI 21 kr (decide_eq_true c33) ?_
       refine condT kr ?_
       refine wp_seq_k fun K34 hK35 => rl ?_
       refine seqL1 kr ?_
       refine nl (hK35 _ _ ?_)
       refine wp_ret ?_
       refine hret _ _ ?_
       refine ends_still (v := Value.int .i64 4) kr kr ?_
       have HS40 := HS18.drop
       injection h with h
       subst h
       exact ⟨f15, rfl, L16, HS40⟩
     · have c33 : ¬ (b1.Hi > most2) := c33
       refine wpRwI 20 kr (decide_eq_false c33) ?_
       refine wpRwI 21 kr (decide_eq_false c33) ?_
       refine condF kr ?_
       refine wp_skip ?_
       refine hK26 _ _ ?_
       refine wp_seq_k fun K36 hK37 => rl ?_
       refine seqL1 kr ?_
       refine nl (hK37 _ _ ?_)
       refine wp_ret ?_
       refine hret _ _ ?_
       refine ends_still (v := Value.int .i64 0) kr kr ?_
       have HS41 := HS18.drop
       injection h with h
       subst h
       exact ⟨f15, rfl, L16, HS41⟩

set_option maxRecDepth 100000 in
set_option maxHeartbeats 4000000 in
theorem bound_Check_Quanta.calls (k : Nat)  (b1 : S_Bound) {t w : World} {f : FM} {H : List Seg} (HS : St t w f (H)) (rr1 : Int) (h : bound_Check_Quanta k b1 = some rr1) :
    Calls Tryz.prog 120 #[.agg #[.int .i64 b1.Lo, .int .i64 b1.Hi, .bool b1.Unknown]] w (fun e w' => ∃ (g : FM), e = .returned (Value.int .i64 rr1) ∧ FM.le f g ∧ St t w' g (H)) := by
 unfold bound_Check_Quanta at h
 refine enter Tryz.func120 rfl (tm := #[(ag_Bound b1), uV, uV, uV, uV, uV, uV, uV, uV, uV, uV, uV, uV, uV, uV, uV, uV, uV, uV, uV, uV, uV, uV, uV, uV, uV, uV, uV, uV, uV, uV, uV, uV, uV, uV, uV, uV]) kr ?_
 intro B hret hnor hnp
 refine wp_seq_k fun K2 hK3 => rl ?_
 refine seqK rfl (does_box (cs := #[.int .i64 b1.Lo, .int .i64 b1.Hi, .bool b1.Unknown]) rfl (kv (.agg #[.int .i64 b1.Lo, .int .i64 b1.Hi, .bool b1.Unknown])) rfl HS ?_)
 intro b4 W5 HS6
 refine seqL1 kr ?_
 refine nl (hK3 _ _ ?_)
 refine wp_seq_k (fun K8 hK9 => ?_)
 refine blockK (fun B10 hx11 hn12 hr13 ho14 hp15 => ?_)
 refine wp_seq_k fun K17 hK18 => rl ?_
 refine seqL1 kr ?_
 refine seqK rfl (does_run (run_load rfl Tryz.underlying4 rfl (kv (.pointer (some ⟨b4, 2, none⟩))) (HS6.cell 2)) ?_)
 refine seqL1 kr ?_
 have hq_ := ite_some h; clear h; rcases hq_ with ⟨c19, h⟩ | ⟨c19, h⟩
 · have c19 : b1.Unknown = true := c19
   refine seqRwI 5 kr c19 ?_
   refine seqRwI 6 kr c19 ?_
   refine seqL1 kr ?_
   refine seqG kr (does_run (run_load rfl Tryz.underlying49 rfl (kv (.pointer (some ⟨b4, 0, none⟩))) (HS6.cell 0)) ?_)
   refine seqL2 kr ?_
   have hq_ := ite_some h; clear h; rcases hq_ with ⟨c20, h⟩ | ⟨c20, h⟩
   · have c20 : b1.Lo ≠ 0 := c20
     refine seqRwI 9 kr (bne_iff_ne.mpr c20) ?_
     refine seqRwI 10 kr (bne_iff_ne.mpr c20) ?_
     refine seqL6 kr ?_
     refine nl (hK18 _ _ ?_)
     refine condT kr ?_
     refine wp_seq_k fun K21 hK22 => rl ?_
     refine seqL1 kr ?_
     refine nl (hK22 _ _ ?_)
     refine wp_ret ?_
     refine hr13 _ _ ?_
     refine hret _ _ ?_
     refine ends_still (v := Value.int .i64 3) kr kr ?_
     have HS61 := HS6.drop
     injection h with h
     subst h
     exact ⟨f, rfl, FM.le.refl _, HS61⟩
   · have c20 : ¬ (b1.Lo ≠ 0) := c20
     refine seqRwI 9 (x := (b1.Lo != 0)) (v := false) kr (bne_eq_false_iff_eq.mpr (Decidable.of_not_not c20)) ?_
     refine seqRwI 10 (x := (b1.Lo != 0)) (v := false) kr (bne_eq_false_iff_eq.mpr (Decidable.of_not_not c20)) ?_
     refine seqL1 kr ?_
     refine seqG kr (does_run (run_load rfl Tryz.underlying49 rfl (kv (.pointer (some ⟨b4, 1, none⟩))) (HS6.cell 1)) ?_)
     refine seqL4 kr ?_
     refine nl (hK18 _ _ ?_)
     have hq_ := ite_some h; clear h; rcases hq_ with ⟨c24, h⟩ | ⟨c24, h⟩
     · have c24 : b1.Hi ≠ 0 := c24
       refine wpRwI 3 kr (bne_iff_ne.mpr c24) ?_
       refine wpRwI 13 kr (bne_iff_ne.mpr c24) ?_
       refine wpRwI 14 kr (bne_iff_ne.mpr c24) ?_
       refine wpRwI 15 kr (bne_iff_ne.mpr c24) ?_
       refine condT kr ?_
       refine wp_seq_k fun K25 hK26 => rl ?_
       refine seqL1 kr ?_
       refine nl (hK26 _ _ ?_)
       refine wp_ret ?_
       refine hr13 _ _ ?_
       refine hret _ _ ?_
       refine ends_still (v := Value.int .i64 3) kr kr ?_
       have HS62 := HS6.drop
       injection h with h
       subst h
       exact ⟨f, rfl, FM.le.refl _, HS62⟩
     · have c24 : ¬ (b1.Hi ≠ 0) := c24
       refine wpRwI 3 (x := (b1.Hi != 0)) (v := false) kr (bne_eq_false_iff_eq.mpr (Decidable.of_not_not c24)) ?_
       refine wpRwI 13 (x := (b1.Hi != 0)) (v := false) kr (bne_eq_false_iff_eq.mpr (Decidable.of_not_not c24)) ?_
       refine wpRwI 14 (x := (b1.Hi != 0)) (v := false) kr (bne_eq_false_iff_eq.mpr (Decidable.of_not_not c24)) ?_
       refine wpRwI 15 (x := (b1.Hi != 0)) (v := false) kr (bne_eq_false_iff_eq.mpr (Decidable.of_not_not c24)) ?_
       refine condF kr ?_
       refine wp_seq_k fun K27 hK28 => rl ?_
       refine seqL1 kr ?_
       refine seqK rfl (does_run (run_load rfl Tryz.underlying49 rfl (kv (.pointer (some ⟨b4, 0, none⟩))) (HS6.cell 0)) ?_)
       refine seqL1 kr ?_
       refine seqK rfl (does_run (run_load rfl Tryz.underlying49 rfl (kv (.pointer (some ⟨b4, 1, none⟩))) (HS6.cell 1)) ?_)
       refine seqL3 kr ?_
       have hq_ := ite_some h; clear h; rcases hq_ with ⟨c29, h⟩ | ⟨c29, h⟩
       · have c29 : (mn b1.Lo b1.Hi) < (-1152921504606846976) := c29
         refine seqRwI 22 kr (decide_eq_true c29) ?_
         refine seqRwI 23 kr (decide_eq_true c29) ?_
         refine seqL8 kr ?_
         refine nl (hK28 _ _ ?_)
         refine condT kr ?_
         refine wp_seq_k fun K30 hK31 => rl ?_
         refine seqL1 kr ?_
         refine nl (hK31 _ _ ?_)
         refine wp_ret ?_
         refine hr13 _ _ ?_
         refine hret _ _ ?_
         refine ends_still (v := Value.int .i64 4) kr kr ?_
         have HS63 := HS6.drop
         injection h with h
         subst h
         exact ⟨f, rfl, FM.le.refl _, HS63⟩
       · have c29 : ¬ ((mn b1.Lo b1.Hi) < (-1152921504606846976)) := c29
         refine seqRwI 22 kr (decide_eq_false c29) ?_
         refine seqRwI 23 kr (decide_eq_false c29) ?_
         refine seqL1 kr ?_
         refine seqG kr (does_run (run_load rfl Tryz.underlying49 rfl (kv (.pointer (some ⟨b4, 0, none⟩))) (HS6.cell 0)) ?_)
         refine seqL1 kr ?_
         refine seqG kr (does_run (run_load rfl Tryz.underlying49 rfl (kv (.pointer (some ⟨b4, 1, none⟩))) (HS6.cell 1)) ?_)
         refine seqL4 kr ?_
         refine nl (hK28 _ _ ?_)
         have hq_ := ite_some h; clear h; rcases hq_ with ⟨c33, h⟩ | ⟨c33, h⟩
         · have c33 : (mx b1.Lo b1.Hi) > 1152921504606846976 := c33
           refine wpRwI 16 kr (decide_eq_true c33) ?_
           refine wpRwI 29 kr (decide_eq_true c33) ?_
           refine wpRwI 30 kr (decide_eq_true c33) ?_
           refine condT kr ?_
           refine wp_seq_k fun K34 hK35 => rl ?_
           refine seqL1 kr ?_
           refine nl (hK35 _ _ ?_)
           refine wp_ret ?_
           refine hr13 _ _ ?_
           refine hret _ _ ?_
           refine ends_still (v := Value.int .i64 4) kr kr ?_
           have HS64 := HS6.drop
           injection h with h
           subst h
           exact ⟨f, rfl, FM.le.refl _, HS64⟩
         · have c33 : ¬ ((mx b1.Lo b1.Hi) > 1152921504606846976) := c33
           refine wpRwI 16 kr (decide_eq_false c33) ?_
           refine wpRwI 29 kr (decide_eq_false c33) ?_
           refine wpRwI 30 kr (decide_eq_false c33) ?_
           refine condF kr ?_
           refine wp_seq_k fun K36 hK37 => rl ?_
           refine seqL1 kr ?_
           refine seqK rfl (does_run (run_load rfl Tryz.underlying49 rfl (kv (.pointer (some ⟨b4, 0, none⟩))) (HS6.cell 0)) ?_)
           refine seqL1 kr ?_
           refine seqK rfl (does_run (run_load rfl Tryz.underlying49 rfl (kv (.pointer (some ⟨b4, 1, none⟩))) (HS6.cell 1)) ?_)
           refine seqL2 kr ?_
           refine nl (hK37 _ _ ?_)
           have hq_ := ite_some h; clear h; rcases hq_ with ⟨c39, h⟩ | ⟨c39, h⟩
           · have c39 : b1.Lo > b1.Hi := c39
             refine wpRwI 31 kr (decide_eq_true c39) ?_
             refine wpRwI 36 kr (decide_eq_true c39) ?_
             refine condT kr ?_
             refine wp_seq_k fun K40 hK41 => rl ?_
             refine seqL1 kr ?_
             refine nl (hK41 _ _ ?_)
             refine wp_ret ?_
             refine hr13 _ _ ?_
             refine hret _ _ ?_
             refine ends_still (v := Value.int .i64 11) kr kr ?_
             have HS65 := HS6.drop
             injection h with h
             subst h
             exact ⟨f, rfl, FM.le.refl _, HS65⟩
           · have c39 : ¬ (b1.Lo > b1.Hi) := c39
             refine wpRwI 31 kr (decide_eq_false c39) ?_
             refine wpRwI 36 kr (decide_eq_false c39) ?_
             refine condF kr ?_
             refine wp_skip ?_
             refine hn12 _ _ ?_
             refine hK9 _ _ ?_
             refine wp_seq_k fun K57 hK58 => rl ?_
             refine seqL1 kr ?_
             refine nl (hK58 _ _ ?_)
             refine wp_ret ?_
             refine hret _ _ ?_
             refine ends_still (v := Value.int .i64 0) kr kr ?_
             have HS69 := HS6.drop
             injection h with h
             subst h
             exact ⟨f, rfl, FM.le.refl _, HS69⟩
 · have c19 : ¬ (b1.Unknown = true) := c19
   refine seqRwI 5 kr (Bool.eq_false_iff.mpr c19) ?_
   refine seqRwI 6 kr (Bool.eq_false_iff.mpr c19) ?_
   refine seqL10 kr ?_
   refine nl (hK18 _ _ ?_)
   refine condF kr ?_
   refine wp_seq_k fun K42 hK43 => rl ?_
   refine seqL1 kr ?_
   refine seqK rfl (does_run (run_load rfl Tryz.underlying49 rfl (kv (.pointer (some ⟨b4, 0, none⟩))) (HS6.cell 0)) ?_)
   refine seqL1 kr ?_
   refine seqK rfl (does_run (run_load rfl Tryz.underlying49 rfl (kv (.pointer (some ⟨b4, 1, none⟩))) (HS6.cell 1)) ?_)
   refine seqL3 kr ?_
   have hq_ := ite_some h; clear h; rcases hq_ with ⟨c44, h⟩ | ⟨c44, h⟩
   · have c44 : (mn b1.Lo b1.Hi) < (-1152921504606846976) := c44
     refine seqRwI 22 kr (decide_eq_true c44) ?_
     refine seqRwI 23 kr (decide_eq_true c44) ?_
     refine seqL8 kr ?_
     refine nl (hK43 _ _ ?_)
     refine condT kr ?_
     refine wp_seq_k fun K45 hK46 => rl ?_
     refine seqL1 kr ?_
     refine nl (hK46 _ _ ?_)
     refine wp_ret ?_
     refine hr13 _ _ ?_
     refine hret _ _ ?_
     refine ends_still (v := Value.int .i64 4) kr kr ?_
     have HS66 := HS6.drop
     injection h with h
     subst h
     exact ⟨f, rfl, FM.le.refl _, HS66⟩
   · have c44 : ¬ ((mn b1.Lo b1.Hi) < (-1152921504606846976)) := c44
     refine seqRwI 22 kr (decide_eq_false c44) ?_
     refine seqRwI 23 kr (decide_eq_false c44) ?_
     refine seqL1 kr ?_
     refine seqG kr (does_run (run_load rfl Tryz.underlying49 rfl (kv (.pointer (some ⟨b4, 0, none⟩))) (HS6.cell 0)) ?_)
     refine seqL1 kr ?_
     refine seqG kr (does_run (run_load rfl Tryz.underlying49 rfl (kv (.pointer (some ⟨b4, 1, none⟩))) (HS6.cell 1)) ?_)
     refine seqL4 kr ?_
     refine nl (hK43 _ _ ?_)
     have hq_ := ite_some h; clear h; rcases hq_ with ⟨c48, h⟩ | ⟨c48, h⟩
     · have c48 : (mx b1.Lo b1.Hi) > 1152921504606846976 := c48
       refine wpRwI 16 kr (decide_eq_true c48) ?_
       refine wpRwI 29 kr (decide_eq_true c48) ?_
       refine wpRwI 30 kr (decide_eq_true c48) ?_
       refine condT kr ?_
       refine wp_seq_k fun K49 hK50 => rl ?_
       refine seqL1 kr ?_
       refine nl (hK50 _ _ ?_)
       refine wp_ret ?_
       refine hr13 _ _ ?_
       refine hret _ _ ?_
       refine ends_still (v := Value.int .i64 4) kr kr ?_
       have HS67 := HS6.drop
       injection h with h
       subst h
       exact ⟨f, rfl, FM.le.refl _, HS67⟩
     · have c48 : ¬ ((mx b1.Lo b1.Hi) > 1152921504606846976) := c48
       refine wpRwI 16 kr (decide_eq_false c48) ?_
       refine wpRwI 29 kr (decide_eq_false c48) ?_
       refine wpRwI 30 kr (decide_eq_false c48) ?_
       refine condF kr ?_
       refine wp_seq_k fun K51 hK52 => rl ?_
       refine seqL1 kr ?_
       refine seqK rfl (does_run (run_load rfl Tryz.underlying49 rfl (kv (.pointer (some ⟨b4, 0, none⟩))) (HS6.cell 0)) ?_)
       refine seqL1 kr ?_
       refine seqK rfl (does_run (run_load rfl Tryz.underlying49 rfl (kv (.pointer (some ⟨b4, 1, none⟩))) (HS6.cell 1)) ?_)
       refine seqL2 kr ?_
       refine nl (hK52 _ _ ?_)
       have hq_ := ite_some h; clear h; rcases hq_ with ⟨c54, h⟩ | ⟨c54, h⟩
       · have c54 : b1.Lo > b1.Hi := c54
         refine wpRwI 31 kr (decide_eq_true c54) ?_
         refine wpRwI 36 kr (decide_eq_true c54) ?_
         refine condT kr ?_
         refine wp_seq_k fun K55 hK56 => rl ?_
         refine seqL1 kr ?_
         refine nl (hK56 _ _ ?_)
         refine wp_ret ?_
         refine hr13 _ _ ?_
         refine hret _ _ ?_
         refine ends_still (v := Value.int .i64 11) kr kr ?_
         have HS68 := HS6.drop
         injection h with h
         subst h
         exact ⟨f, rfl, FM.le.refl _, HS68⟩
       · have c54 : ¬ (b1.Lo > b1.Hi) := c54
         refine wpRwI 31 kr (decide_eq_false c54) ?_
         refine wpRwI 36 kr (decide_eq_false c54) ?_
         refine condF kr ?_
         refine wp_skip ?_
         refine hn12 _ _ ?_
         refine hK9 _ _ ?_
         refine wp_seq_k fun K59 hK60 => rl ?_
         refine seqL1 kr ?_
         refine nl (hK60 _ _ ?_)
         refine wp_ret ?_
         refine hret _ _ ?_
         refine ends_still (v := Value.int .i64 0) kr kr ?_
         have HS70 := HS6.drop
         injection h with h
         subst h
         exact ⟨f, rfl, FM.le.refl _, HS70⟩

set_option maxRecDepth 100000 in
set_option maxHeartbeats 4000000 in
theorem catalog_ends_Quanta.calls (k : Nat)  (b1 : S_Bound) (most2 : Int) {t w : World} {f : FM} {H : List Seg} (HS : St t w f (H)) (rr1 : Int) (h : catalog_ends_Quanta k b1 most2 = some rr1) :
    Calls Tryz.prog 98 #[.agg #[.int .i64 b1.Lo, .int .i64 b1.Hi, .bool b1.Unknown], .int .i64 most2] w (fun e w' => ∃ (g : FM), e = .returned (Value.int .i64 rr1) ∧ FM.le f g ∧ St t w' g (H)) := by
 unfold catalog_ends_Quanta at h
 refine enter Tryz.func98 rfl (tm := #[(ag_Bound b1), iV most2, uV, uV, uV, uV, uV, uV, uV, uV, uV, uV, uV, uV, uV, uV, uV, uV, uV, uV, uV, uV]) kr ?_
 intro B hret hnor hnp
 refine wp_seq_k fun K3 hK4 => rl ?_
 refine seqK rfl (does_box (cs := #[.int .i64 b1.Lo, .int .i64 b1.Hi, .bool b1.Unknown]) rfl (kv (.agg #[.int .i64 b1.Lo, .int .i64 b1.Hi, .bool b1.Unknown])) rfl HS ?_)
 intro b5 W6 HS7
 refine seqL1 kr ?_
 refine nl (hK4 _ _ ?_)
 refine wp_seq_k (fun K9 hK10 => ?_)
 refine wp_seq_k fun K11 hK12 => rl ?_
 refine seqK rfl (does_run (run_loadN (n := 3) rfl Tryz.underlying95 rfl kr (kv (.pointer (some ⟨b5, 0, none⟩))) (cs := [.int .i64 b1.Lo, .int .i64 b1.Hi, .bool b1.Unknown]) rfl (HS7.cells 0 3 _ rfl)) ?_)
 have hq_ := bind_some h; clear h; obtain ⟨vt13, hc14, h⟩ := hq_
 refine seqK rfl (does_call (f := 120) (args := #[.agg #[.int .i64 b1.Lo, .int .i64 b1.Hi, .bool b1.Unknown]]) kr (bound_Check_Quanta.calls k b1 HS7 vt13 hc14) ?_)
 rintro _ W17 ⟨f15, rfl, L16, HS18⟩
 refine ⟨_, rfl, ?_⟩
 refine seqL1 kr ?_
 refine nl (hK12 _ _ ?_)
 refine wp_seq_k fun K19 hK20 => rl ?_
 refine seqL2 kr ?_
 refine nl (hK20 _ _ ?_)
 have hq_ := ite_some h; clear h; rcases hq_ with ⟨c22, h⟩ | ⟨c22, h⟩
 · have c22 : vt13 ≠ 0 := c22
   refine wpRwI 9 kr (bne_iff_ne.mpr c22) ?_
   refine condT kr ?_
   refine wp_seq_k fun K23 hK24 => rl ?_
   refine seqL2 kr ?_
   refine nl (hK24 _ _ ?_)
   refine wp_ret ?_
   refine hret _ _ ?_
   refine ends_still (v := Value.int .i64 vt13) kr kr ?_
   have HS38 := HS18.drop
   injection h with h
   subst h
   exact ⟨f15, rfl, L16, HS38⟩
 · have c22 : ¬ (vt13 ≠ 0) := c22
   refine wpRwI 9 (x := (vt13 != 0)) (v := false) kr (bne_eq_false_iff_eq.mpr (Decidable.of_not_not c22)) ?_
   refine condF kr ?_
   refine wp_skip ?_
   refine hK10 _ _ ?_
   refine wp_seq_k (fun K25 hK26 => ?_)
   refine wp_seq_k fun K27 hK28 => rl ?_
   refine seqL1 kr ?_
   refine seqK rfl (does_run (run_load rfl Tryz.underlying49 rfl (kv (.pointer (some ⟨b5, 0, none⟩))) (HS18.cell 0)) ?_)
   refine seqL4 kr ?_
   have hq_ := ite_some h; clear h; rcases hq_ with ⟨c29, h⟩ | ⟨c29, h⟩
   · have c29 : b1.Lo < (w64 (0 - most2)) := c29
     refine seqRwI 15 kr (decide_eq_true c29) ?_
     refine seqRwI 16 kr (decide_eq_true c29) ?_
     refine seqL5 kr ?_
     refine nl (hK28 _ _ ?_)
     refine condT kr ?_
     refine wp_seq_k fun K30 hK31 => rl ?_
     refine seqL1 kr ?_
     refine nl (hK31 _ _ ?_)
     refine wp_ret ?_
     refine hret _ _ ?_
     refine ends_still (v := Value.int .i64 4) kr kr ?_
     have HS39 := HS18.drop
     injection h with h
     subst h
     exact ⟨f15, rfl, L16, HS39⟩
   · have c29 : ¬ (b1.Lo < (w64 (0 - most2))) := c29
     refine seqRwI 15 kr (decide_eq_false c29) ?_
     refine seqRwI 16 kr (decide_eq_false c29) ?_
     refine seqL1 kr ?_
     refine seqG kr (does_run (run_load rfl Tryz.underlying49 rfl (kv (.pointer (some ⟨b5, 1, none⟩))) (HS18.cell 1)) ?_)
     refine seqL3 kr ?_
     refine nl (hK28 _ _ ?_)
     have hq_ := ite_some h; clear h; rcases hq_ with ⟨c33, h⟩ | ⟨c33, h⟩
     · have c33 : b1.Hi > most2 := c33
       refine wpRwI 20 kr (decide_eq_true c33) ?_
       refine wpRwI 21 kr (decide_eq_true c33) ?_
       refine condT kr ?_
       refine wp_seq_k fun K34 hK35 => rl ?_
       refine seqL1 kr ?_
       refine nl (hK35 _ _ ?_)
       refine wp_ret ?_
       refine hret _ _ ?_
       refine ends_still (v := Value.int .i64 4) kr kr ?_
       have HS40 := HS18.drop
       injection h with h
       subst h
       exact ⟨f15, rfl, L16, HS40⟩
     · have c33 : ¬ (b1.Hi > most2) := c33
       refine wpRwI 20 kr (decide_eq_false c33) ?_
       refine wpRwI 21 kr (decide_eq_false c33) ?_
       refine condF kr ?_
       refine wp_skip ?_
       refine hK26 _ _ ?_
       refine wp_seq_k fun K36 hK37 => rl ?_
       refine seqL1 kr ?_
       refine nl (hK37 _ _ ?_)
       refine wp_ret ?_
       refine hret _ _ ?_
       refine ends_still (v := Value.int .i64 0) kr kr ?_
       have HS41 := HS18.drop
       injection h with h
       subst h
       exact ⟨f15, rfl, L16, HS41⟩

set_option maxRecDepth 100000 in
set_option maxHeartbeats 4000000 in
theorem bound_Check_Tick.calls (k : Nat)  (b1 : S_Bound) {t w : World} {f : FM} {H : List Seg} (HS : St t w f (H)) (rr1 : Int) (h : bound_Check_Tick k b1 = some rr1) :
    Calls Tryz.prog 121 #[.agg #[.int .i64 b1.Lo, .int .i64 b1.Hi, .bool b1.Unknown]] w (fun e w' => ∃ (g : FM), e = .returned (Value.int .i64 rr1) ∧ FM.le f g ∧ St t w' g (H)) := by
 unfold bound_Check_Tick at h
 refine enter Tryz.func121 rfl (tm := #[(ag_Bound b1), uV, uV, uV, uV, uV, uV, uV, uV, uV, uV, uV, uV, uV, uV, uV, uV, uV, uV, uV, uV, uV, uV, uV, uV, uV, uV, uV, uV, uV, uV, uV, uV, uV, uV, uV, uV]) kr ?_
 intro B hret hnor hnp
 refine wp_seq_k fun K2 hK3 => rl ?_
 refine seqK rfl (does_box (cs := #[.int .i64 b1.Lo, .int .i64 b1.Hi, .bool b1.Unknown]) rfl (kv (.agg #[.int .i64 b1.Lo, .int .i64 b1.Hi, .bool b1.Unknown])) rfl HS ?_)
 intro b4 W5 HS6
 refine seqL1 kr ?_
 refine nl (hK3 _ _ ?_)
 refine wp_seq_k (fun K8 hK9 => ?_)
 refine blockK (fun B10 hx11 hn12 hr13 ho14 hp15 => ?_)
 refine wp_seq_k fun K17 hK18 => rl ?_
 refine seqL1 kr ?_
 refine seqK rfl (does_run (run_load rfl Tryz.underlying4 rfl (kv (.pointer (some ⟨b4, 2, none⟩))) (HS6.cell 2)) ?_)
 refine seqL1 kr ?_
 have hq_ := ite_some h; clear h; rcases hq_ with ⟨c19, h⟩ | ⟨c19, h⟩
 · have c19 : b1.Unknown = true := c19
   refine seqRwI 5 kr c19 ?_
   refine seqRwI 6 kr c19 ?_
   refine seqL1 kr ?_
   refine seqG kr (does_run (run_load rfl Tryz.underlying48 rfl (kv (.pointer (some ⟨b4, 0, none⟩))) (HS6.cell 0)) ?_)
   refine seqL2 kr ?_
   have hq_ := ite_some h; clear h; rcases hq_ with ⟨c20, h⟩ | ⟨c20, h⟩
   · have c20 : b1.Lo ≠ 0 := c20
     refine seqRwI 9 kr (bne_iff_ne.mpr c20) ?_
     refine seqRwI 10 kr (bne_iff_ne.mpr c20) ?_
     refine seqL6 kr ?_
     refine nl (hK18 _ _ ?_)
     refine condT kr ?_
     refine wp_seq_k fun K21 hK22 => rl ?_
     refine seqL1 kr ?_
     refine nl (hK22 _ _ ?_)
     refine wp_ret ?_
     refine hr13 _ _ ?_
     refine hret _ _ ?_
     refine ends_still (v := Value.int .i64 3) kr kr ?_
     have HS61 := HS6.drop
     injection h with h
     subst h
     exact ⟨f, rfl, FM.le.refl _, HS61⟩
   · have c20 : ¬ (b1.Lo ≠ 0) := c20
     refine seqRwI 9 (x := (b1.Lo != 0)) (v := false) kr (bne_eq_false_iff_eq.mpr (Decidable.of_not_not c20)) ?_
     refine seqRwI 10 (x := (b1.Lo != 0)) (v := false) kr (bne_eq_false_iff_eq.mpr (Decidable.of_not_not c20)) ?_
     refine seqL1 kr ?_
     refine seqG kr (does_run (run_load rfl Tryz.underlying48 rfl (kv (.pointer (some ⟨b4, 1, none⟩))) (HS6.cell 1)) ?_)
     refine seqL4 kr ?_
     refine nl (hK18 _ _ ?_)
     have hq_ := ite_some h; clear h; rcases hq_ with ⟨c24, h⟩ | ⟨c24, h⟩
     · have c24 : b1.Hi ≠ 0 := c24
       refine wpRwI 3 kr (bne_iff_ne.mpr c24) ?_
       refine wpRwI 13 kr (bne_iff_ne.mpr c24) ?_
       refine wpRwI 14 kr (bne_iff_ne.mpr c24) ?_
       refine wpRwI 15 kr (bne_iff_ne.mpr c24) ?_
       refine condT kr ?_
       refine wp_seq_k fun K25 hK26 => rl ?_
       refine seqL1 kr ?_
       refine nl (hK26 _ _ ?_)
       refine wp_ret ?_
       refine hr13 _ _ ?_
       refine hret _ _ ?_
       refine ends_still (v := Value.int .i64 3) kr kr ?_
       have HS62 := HS6.drop
       injection h with h
       subst h
       exact ⟨f, rfl, FM.le.refl _, HS62⟩
     · have c24 : ¬ (b1.Hi ≠ 0) := c24
       refine wpRwI 3 (x := (b1.Hi != 0)) (v := false) kr (bne_eq_false_iff_eq.mpr (Decidable.of_not_not c24)) ?_
       refine wpRwI 13 (x := (b1.Hi != 0)) (v := false) kr (bne_eq_false_iff_eq.mpr (Decidable.of_not_not c24)) ?_
       refine wpRwI 14 (x := (b1.Hi != 0)) (v := false) kr (bne_eq_false_iff_eq.mpr (Decidable.of_not_not c24)) ?_
       refine wpRwI 15 (x := (b1.Hi != 0)) (v := false) kr (bne_eq_false_iff_eq.mpr (Decidable.of_not_not c24)) ?_
       refine condF kr ?_
       refine wp_seq_k fun K27 hK28 => rl ?_
       refine seqL1 kr ?_
       refine seqK rfl (does_run (run_load rfl Tryz.underlying48 rfl (kv (.pointer (some ⟨b4, 0, none⟩))) (HS6.cell 0)) ?_)
       refine seqL1 kr ?_
       refine seqK rfl (does_run (run_load rfl Tryz.underlying48 rfl (kv (.pointer (some ⟨b4, 1, none⟩))) (HS6.cell 1)) ?_)
       refine seqL3 kr ?_
       have hq_ := ite_some h; clear h; rcases hq_ with ⟨c29, h⟩ | ⟨c29, h⟩
       · have c29 : (mn b1.Lo b1.Hi) < (-1152921504606846976) := c29
         refine seqRwI 22 kr (decide_eq_true c29) ?_
         refine seqRwI 23 kr (decide_eq_true c29) ?_
         refine seqL8 kr ?_
         refine nl (hK28 _ _ ?_)
         refine condT kr ?_
         refine wp_seq_k fun K30 hK31 => rl ?_
         refine seqL1 kr ?_
         refine nl (hK31 _ _ ?_)
         refine wp_ret ?_
         refine hr13 _ _ ?_
         refine hret _ _ ?_
         refine ends_still (v := Value.int .i64 4) kr kr ?_
         have HS63 := HS6.drop
         injection h with h
         subst h
         exact ⟨f, rfl, FM.le.refl _, HS63⟩
       · have c29 : ¬ ((mn b1.Lo b1.Hi) < (-1152921504606846976)) := c29
         refine seqRwI 22 kr (decide_eq_false c29) ?_
         refine seqRwI 23 kr (decide_eq_false c29) ?_
         refine seqL1 kr ?_
         refine seqG kr (does_run (run_load rfl Tryz.underlying48 rfl (kv (.pointer (some ⟨b4, 0, none⟩))) (HS6.cell 0)) ?_)
         refine seqL1 kr ?_
         refine seqG kr (does_run (run_load rfl Tryz.underlying48 rfl (kv (.pointer (some ⟨b4, 1, none⟩))) (HS6.cell 1)) ?_)
         refine seqL4 kr ?_
         refine nl (hK28 _ _ ?_)
         have hq_ := ite_some h; clear h; rcases hq_ with ⟨c33, h⟩ | ⟨c33, h⟩
         · have c33 : (mx b1.Lo b1.Hi) > 1152921504606846976 := c33
           refine wpRwI 16 kr (decide_eq_true c33) ?_
           refine wpRwI 29 kr (decide_eq_true c33) ?_
           refine wpRwI 30 kr (decide_eq_true c33) ?_
           refine condT kr ?_
           refine wp_seq_k fun K34 hK35 => rl ?_
           refine seqL1 kr ?_
           refine nl (hK35 _ _ ?_)
           refine wp_ret ?_
           refine hr13 _ _ ?_
           refine hret _ _ ?_
           refine ends_still (v := Value.int .i64 4) kr kr ?_
           have HS64 := HS6.drop
           injection h with h
           subst h
           exact ⟨f, rfl, FM.le.refl _, HS64⟩
         · have c33 : ¬ ((mx b1.Lo b1.Hi) > 1152921504606846976) := c33
           refine wpRwI 16 kr (decide_eq_false c33) ?_
           refine wpRwI 29 kr (decide_eq_false c33) ?_
           refine wpRwI 30 kr (decide_eq_false c33) ?_
           refine condF kr ?_
           refine wp_seq_k fun K36 hK37 => rl ?_
           refine seqL1 kr ?_
           refine seqK rfl (does_run (run_load rfl Tryz.underlying48 rfl (kv (.pointer (some ⟨b4, 0, none⟩))) (HS6.cell 0)) ?_)
           refine seqL1 kr ?_
           refine seqK rfl (does_run (run_load rfl Tryz.underlying48 rfl (kv (.pointer (some ⟨b4, 1, none⟩))) (HS6.cell 1)) ?_)
           refine seqL2 kr ?_
           refine nl (hK37 _ _ ?_)
           have hq_ := ite_some h; clear h; rcases hq_ with ⟨c39, h⟩ | ⟨c39, h⟩
           · have c39 : b1.Lo > b1.Hi := c39
             refine wpRwI 31 kr (decide_eq_true c39) ?_
             refine wpRwI 36 kr (decide_eq_true c39) ?_
             refine condT kr ?_
             refine wp_seq_k fun K40 hK41 => rl ?_
             refine seqL1 kr ?_
             refine nl (hK41 _ _ ?_)
             refine wp_ret ?_
             refine hr13 _ _ ?_
             refine hret _ _ ?_
             refine ends_still (v := Value.int .i64 11) kr kr ?_
             have HS65 := HS6.drop
             injection h with h
             subst h
             exact ⟨f, rfl, FM.le.refl _, HS65⟩
           · have c39 : ¬ (b1.Lo > b1.Hi) := c39
             refine wpRwI 31 kr (decide_eq_false c39) ?_
             refine wpRwI 36 kr (decide_eq_false c39) ?_
             refine condF kr ?_
             refine wp_skip ?_
             refine hn12 _ _ ?_
             refine hK9 _ _ ?_
             refine wp_seq_k fun K57 hK58 => rl ?_
             refine seqL1 kr ?_
             refine nl (hK58 _ _ ?_)
             refine wp_ret ?_
             refine hret _ _ ?_
             refine ends_still (v := Value.int .i64 0) kr kr ?_
             have HS69 := HS6.drop
             injection h with h
             subst h
             exact ⟨f, rfl, FM.le.refl _, HS69⟩
 · have c19 : ¬ (b1.Unknown = true) := c19
   refine seqRwI 5 kr (Bool.eq_false_iff.mpr c19) ?_
   refine seqRwI 6 kr (Bool.eq_false_iff.mpr c19) ?_
   refine seqL10 kr ?_
   refine nl (hK18 _ _ ?_)
   refine condF kr ?_
   refine wp_seq_k fun K42 hK43 => rl ?_
   refine seqL1 kr ?_
   refine seqK rfl (does_run (run_load rfl Tryz.underlying48 rfl (kv (.pointer (some ⟨b4, 0, none⟩))) (HS6.cell 0)) ?_)
   refine seqL1 kr ?_
   refine seqK rfl (does_run (run_load rfl Tryz.underlying48 rfl (kv (.pointer (some ⟨b4, 1, none⟩))) (HS6.cell 1)) ?_)
   refine seqL3 kr ?_
   have hq_ := ite_some h; clear h; rcases hq_ with ⟨c44, h⟩ | ⟨c44, h⟩
   · have c44 : (mn b1.Lo b1.Hi) < (-1152921504606846976) := c44
     refine seqRwI 22 kr (decide_eq_true c44) ?_
     refine seqRwI 23 kr (decide_eq_true c44) ?_
     refine seqL8 kr ?_
     refine nl (hK43 _ _ ?_)
     refine condT kr ?_
     refine wp_seq_k fun K45 hK46 => rl ?_
     refine seqL1 kr ?_
     refine nl (hK46 _ _ ?_)
     refine wp_ret ?_
     refine hr13 _ _ ?_
     refine hret _ _ ?_
     refine ends_still (v := Value.int .i64 4) kr kr ?_
     have HS66 := HS6.drop
     injection h with h
     subst h
     exact ⟨f, rfl, FM.le.refl _, HS66⟩
   · have c44 : ¬ ((mn b1.Lo b1.Hi) < (-1152921504606846976)) := c44
     refine seqRwI 22 kr (decide_eq_false c44) ?_
     refine seqRwI 23 kr (decide_eq_false c44) ?_
     refine seqL1 kr ?_
     refine seqG kr (does_run (run_load rfl Tryz.underlying48 rfl (kv (.pointer (some ⟨b4, 0, none⟩))) (HS6.cell 0)) ?_)
     refine seqL1 kr ?_
     refine seqG kr (does_run (run_load rfl Tryz.underlying48 rfl (kv (.pointer (some ⟨b4, 1, none⟩))) (HS6.cell 1)) ?_)
     refine seqL4 kr ?_
     refine nl (hK43 _ _ ?_)
     have hq_ := ite_some h; clear h; rcases hq_ with ⟨c48, h⟩ | ⟨c48, h⟩
     · have c48 : (mx b1.Lo b1.Hi) > 1152921504606846976 := c48
       refine wpRwI 16 kr (decide_eq_true c48) ?_
       refine wpRwI 29 kr (decide_eq_true c48) ?_
       refine wpRwI 30 kr (decide_eq_true c48) ?_
       refine condT kr ?_
       refine wp_seq_k fun K49 hK50 => rl ?_
       refine seqL1 kr ?_
       refine nl (hK50 _ _ ?_)
       refine wp_ret ?_
       refine hr13 _ _ ?_
       refine hret _ _ ?_
       refine ends_still (v := Value.int .i64 4) kr kr ?_
       have HS67 := HS6.drop
       injection h with h
       subst h
       exact ⟨f, rfl, FM.le.refl _, HS67⟩
     · have c48 : ¬ ((mx b1.Lo b1.Hi) > 1152921504606846976) := c48
       refine wpRwI 16 kr (decide_eq_false c48) ?_
       refine wpRwI 29 kr (decide_eq_false c48) ?_
       refine wpRwI 30 kr (decide_eq_false c48) ?_
       refine condF kr ?_
       refine wp_seq_k fun K51 hK52 => rl ?_
       refine seqL1 kr ?_
       refine seqK rfl (does_run (run_load rfl Tryz.underlying48 rfl (kv (.pointer (some ⟨b4, 0, none⟩))) (HS6.cell 0)) ?_)
       refine seqL1 kr ?_
       refine seqK rfl (does_run (run_load rfl Tryz.underlying48 rfl (kv (.pointer (some ⟨b4, 1, none⟩))) (HS6.cell 1)) ?_)
       refine seqL2 kr ?_
       refine nl (hK52 _ _ ?_)
       have hq_ := ite_some h; clear h; rcases hq_ with ⟨c54, h⟩ | ⟨c54, h⟩
       · have c54 : b1.Lo > b1.Hi := c54
         refine wpRwI 31 kr (decide_eq_true c54) ?_
         refine wpRwI 36 kr (decide_eq_true c54) ?_
         refine condT kr ?_
         refine wp_seq_k fun K55 hK56 => rl ?_
         refine seqL1 kr ?_
         refine nl (hK56 _ _ ?_)
         refine wp_ret ?_
         refine hr13 _ _ ?_
         refine hret _ _ ?_
         refine ends_still (v := Value.int .i64 11) kr kr ?_
         have HS68 := HS6.drop
         injection h with h
         subst h
         exact ⟨f, rfl, FM.le.refl _, HS68⟩
       · have c54 : ¬ (b1.Lo > b1.Hi) := c54
         refine wpRwI 31 kr (decide_eq_false c54) ?_
         refine wpRwI 36 kr (decide_eq_false c54) ?_
         refine condF kr ?_
         refine wp_skip ?_
         refine hn12 _ _ ?_
         refine hK9 _ _ ?_
         refine wp_seq_k fun K59 hK60 => rl ?_
         refine seqL1 kr ?_
         refine nl (hK60 _ _ ?_)
         refine wp_ret ?_
         refine hret _ _ ?_
         refine ends_still (v := Value.int .i64 0) kr kr ?_
         have HS70 := HS6.drop
         injection h with h
         subst h
         exact ⟨f, rfl, FM.le.refl _, HS70⟩

set_option maxRecDepth 100000 in
set_option maxHeartbeats 4000000 in
theorem catalog_ends_Tick.calls (k : Nat)  (b1 : S_Bound) (most2 : Int) {t w : World} {f : FM} {H : List Seg} (HS : St t w f (H)) (rr1 : Int) (h : catalog_ends_Tick k b1 most2 = some rr1) :
    Calls Tryz.prog 99 #[.agg #[.int .i64 b1.Lo, .int .i64 b1.Hi, .bool b1.Unknown], .int .i64 most2] w (fun e w' => ∃ (g : FM), e = .returned (Value.int .i64 rr1) ∧ FM.le f g ∧ St t w' g (H)) := by
 unfold catalog_ends_Tick at h
 refine enter Tryz.func99 rfl (tm := #[(ag_Bound b1), iV most2, uV, uV, uV, uV, uV, uV, uV, uV, uV, uV, uV, uV, uV, uV, uV, uV, uV, uV, uV, uV]) kr ?_
 intro B hret hnor hnp
 refine wp_seq_k fun K3 hK4 => rl ?_
 refine seqK rfl (does_box (cs := #[.int .i64 b1.Lo, .int .i64 b1.Hi, .bool b1.Unknown]) rfl (kv (.agg #[.int .i64 b1.Lo, .int .i64 b1.Hi, .bool b1.Unknown])) rfl HS ?_)
 intro b5 W6 HS7
 refine seqL1 kr ?_
 refine nl (hK4 _ _ ?_)
 refine wp_seq_k (fun K9 hK10 => ?_)
 refine wp_seq_k fun K11 hK12 => rl ?_
 refine seqK rfl (does_run (run_loadN (n := 3) rfl Tryz.underlying97 rfl kr (kv (.pointer (some ⟨b5, 0, none⟩))) (cs := [.int .i64 b1.Lo, .int .i64 b1.Hi, .bool b1.Unknown]) rfl (HS7.cells 0 3 _ rfl)) ?_)
 have hq_ := bind_some h; clear h; obtain ⟨vt13, hc14, h⟩ := hq_
 refine seqK rfl (does_call (f := 121) (args := #[.agg #[.int .i64 b1.Lo, .int .i64 b1.Hi, .bool b1.Unknown]]) kr (bound_Check_Tick.calls k b1 HS7 vt13 hc14) ?_)
 rintro _ W17 ⟨f15, rfl, L16, HS18⟩
 refine ⟨_, rfl, ?_⟩
 refine seqL1 kr ?_
 refine nl (hK12 _ _ ?_)
 refine wp_seq_k fun K19 hK20 => rl ?_
 refine seqL2 kr ?_
 refine nl (hK20 _ _ ?_)
 have hq_ := ite_some h; clear h; rcases hq_ with ⟨c22, h⟩ | ⟨c22, h⟩
 · have c22 : vt13 ≠ 0 := c22
   refine wpRwI 9 kr (bne_iff_ne.mpr c22) ?_
   refine condT kr ?_
   refine wp_seq_k fun K23 hK24 => rl ?_
   refine seqL2 kr ?_
   refine nl (hK24 _ _ ?_)
   refine wp_ret ?_
   refine hret _ _ ?_
   refine ends_still (v := Value.int .i64 vt13) kr kr ?_
   have HS38 := HS18.drop
   injection h with h
   subst h
   exact ⟨f15, rfl, L16, HS38⟩
 · have c22 : ¬ (vt13 ≠ 0) := c22
   refine wpRwI 9 (x := (vt13 != 0)) (v := false) kr (bne_eq_false_iff_eq.mpr (Decidable.of_not_not c22)) ?_
   refine condF kr ?_
   refine wp_skip ?_
   refine hK10 _ _ ?_
   refine wp_seq_k (fun K25 hK26 => ?_)
   refine wp_seq_k fun K27 hK28 => rl ?_
   refine seqL1 kr ?_
   refine seqK rfl (does_run (run_load rfl Tryz.underlying48 rfl (kv (.pointer (some ⟨b5, 0, none⟩))) (HS18.cell 0)) ?_)
   refine seqL4 kr ?_
   have hq_ := ite_some h; clear h; rcases hq_ with ⟨c29, h⟩ | ⟨c29, h⟩
   · have c29 : b1.Lo < (w64 (0 - most2)) := c29
     refine seqRwI 15 kr (decide_eq_true c29) ?_
     refine seqRwI 16 kr (decide_eq_true c29) ?_
     refine seqL5 kr ?_
     refine nl (hK28 _ _ ?_)
     refine condT kr ?_
     refine wp_seq_k fun K30 hK31 => rl ?_
     refine seqL1 kr ?_
     refine nl (hK31 _ _ ?_)
     refine wp_ret ?_
     refine hret _ _ ?_
     refine ends_still (v := Value.int .i64 4) kr kr ?_
     have HS39 := HS18.drop
     injection h with h
     subst h
     exact ⟨f15, rfl, L16, HS39⟩
   · have c29 : ¬ (b1.Lo < (w64 (0 - most2))) := c29
     refine seqRwI 15 kr (decide_eq_false c29) ?_
     refine seqRwI 16 kr (decide_eq_false c29) ?_
     refine seqL1 kr ?_
     refine seqG kr (does_run (run_load rfl Tryz.underlying48 rfl (kv (.pointer (some ⟨b5, 1, none⟩))) (HS18.cell 1)) ?_)
     refine seqL3 kr ?_
     refine nl (hK28 _ _ ?_)
     have hq_ := ite_some h; clear h; rcases hq_ with ⟨c33, h⟩ | ⟨c33, h⟩
     · have c33 : b1.Hi > most2 := c33
       refine wpRwI 20 kr (decide_eq_true c33) ?_
       refine wpRwI 21 kr (decide_eq_true c33) ?_
       refine condT kr ?_
       refine wp_seq_k fun K34 hK35 => rl ?_
       refine seqL1 kr ?_
       refine nl (hK35 _ _ ?_)
       refine wp_ret ?_
       refine hret _ _ ?_
       refine ends_still (v := Value.int .i64 4) kr kr ?_
       have HS40 := HS18.drop
       injection h with h
       subst h
       exact ⟨f15, rfl, L16, HS40⟩
     · have c33 : ¬ (b1.Hi > most2) := c33
       refine wpRwI 20 kr (decide_eq_false c33) ?_
       refine wpRwI 21 kr (decide_eq_false c33) ?_
       refine condF kr ?_
       refine wp_skip ?_
       refine hK26 _ _ ?_
       refine wp_seq_k fun K36 hK37 => rl ?_
       refine seqL1 kr ?_
       refine nl (hK37 _ _ ?_)
       refine wp_ret ?_
       refine hret _ _ ?_
       refine ends_still (v := Value.int .i64 0) kr kr ?_
       have HS41 := HS18.drop
       injection h with h
       subst h
       exact ⟨f15, rfl, L16, HS41⟩

set_option maxRecDepth 100000 in
set_option maxHeartbeats 4000000 in
theorem cmp_Or_Errno.calls (k : Nat) (A2 : Option Addr) (c3 : Nat) (vals1 : List Int) {t w : World} {f : FM} {H : List Seg} (HS : St t w f (H)) (HR4 : SlR (tInt .i64) f A2 c3 vals1) (rr1 : Int) (h : cmp_Or_Errno k vals1 = some rr1) :
    Calls Tryz.prog 97 #[.slice A2 vals1.length c3] w (fun e w' => ∃ (g : FM), e = .returned (Value.int .i64 rr1) ∧ FM.le f g ∧ St t w' g (H)) := by
 unfold cmp_Or_Errno at h
 refine enter Tryz.func97 rfl (tm := #[.slice A2 vals1.length c3, uV, uV, uV, uV, uV, uV, uV, uV, uV, uV, uV, uV, uV, uV, uV, uV, uV]) kr ?_
 intro B hret hnor hnp
 refine wp_seq_k fun K5 hK6 => rl ?_
 refine seqL1 kr ?_
 refine nl (hK6 _ _ ?_)
 refine wp_seq_k fun K7 hK8 => rl ?_
 refine seqL1 kr ?_
 refine nl (hK8 _ _ ?_)
 refine wp_seq_k (fun K9 hK10 => ?_)
 refine wp_seq_k fun K11 hK12 => rl ?_
 refine seqL3 kr ?_
 refine nl (hK12 _ _ ?_)
 refine blockK (fun B13 hx14 hn15 hr16 ho17 hp18 => ?_)
 have hq_ := bind_some h; clear h; obtain ⟨o19, hv64, h⟩ := hq_
 have JR66 : ∀ z_, some (Sum.inl z_) = some o19 → some z_ = some rr1 := by
  intro z_ e_; injection e_ with e_; subst e_; exact h
 have J65 : ∀ (f59 : FM) (j63 : Nat → Value) (W61 : World) (a_ : Act), FM.le f f59 → some (Sum.inr ()) = some o19 → St t W61 f59 (H) → a_ = ⟨#[.slice A2 vals1.length c3, uV, (j63 0), iV 0, uV, (j63 1), .slice A2 vals1.length c3, iV (vals1.length : Int), (j63 2), (j63 3), (j63 4), (j63 5), (j63 6), (j63 7), (j63 8), (j63 9), (j63 10), uV], []⟩ → K9 a_ W61 := by
  intro f59 j63 W61 a_ L60 hj67 HS62  hfr_; subst hfr_
  injection hj67 with hj67; subst hj67; try dsimp only at h
  simp only [Sum.elim_inr] at h
  refine hK10 _ _ ?_
  refine wp_seq_k fun K68 hK69 => rl ?_
  refine seqL2 kr ?_
  refine nl (hK69 _ _ ?_)
  refine wp_ret ?_
  refine hret _ _ ?_
  refine ends_still (v := Value.int .i64 0) kr kr ?_
  injection h with h
  subst h
  exact ⟨f59, rfl, L60, HS62⟩
 clear h; have h := hv64; clear hv64
 refine loopK (fun n_ a_ w_ => ∃ (f23 : FM) (x28 : Int) (j27 : Nat → Value), FM.le f f23 ∧ St t w_ f23 (H) ∧ cmp_Or_Errno.l0 k vals1 n_ x28 = some o19 ∧ a_ = ⟨#[.slice A2 vals1.length c3, uV, (j27 0), iV 0, uV, (j27 1), .slice A2 vals1.length c3, iV (vals1.length : Int), iV x28, (j27 2), (j27 3), (j27 4), (j27 5), (j27 6), (j27 7), (j27 8), (j27 9), uV], []⟩) k ⟨f, 0, (jL [iV 0]), fL, HS, h, kr⟩ ?_
 clear h
 rintro n22 _ W25 ⟨f23, x28, j27, L24, HS26, h, rfl⟩ K20 hK21
 obtain _ | n22 := n22
 · exact nomatch h
 simp only [cmp_Or_Errno.l0] at h
 refine wp_seq_k fun K29 hK30 => rl ?_
 refine seqL1 kr ?_
 refine nl (hK30 _ _ ?_)
 refine wp_seq_k (fun K31 hK32 => ?_)
 have hq_ := ite_some h; clear h; rcases hq_ with ⟨c34, h⟩ | ⟨c34, h⟩
 · have c34 : x28 < (vals1.length : Int) := c34
   refine wpRwI 9 kr (decide_eq_true c34) ?_
   refine condT kr ?_
   refine wp_skip ?_
   refine hK32 _ _ ?_
   refine wp_seq_k (fun K35 hK36 => ?_)
   refine blockK (fun B37 hx38 hn39 hr40 ho41 hp42 => ?_)
   refine wp_seq_k fun K44 hK45 => rl ?_
   have hq_ := guard_some h; clear h; obtain ⟨c46, h⟩ := hq_
   have c46 : 0 ≤ x28 := c46
   obtain ⟨b50, of51, cs47, hA52, hr48, hc49⟩ := (HR4.mono L24).at (i := x28) c46 c34
   obtain rfl := hr48
   refine seqK rfl (does_run (run_indexE hA52 (sz := 1) rfl Tryz.underlying190 kr (kv (.slice A2 vals1.length c3)) (kv (.int .i64 x28)) c46 c34 W25) ?_)
   refine seqK rfl (does_run (run_load rfl Tryz.underlying58 rfl (kv (.pointer (some ⟨b50, of51 + (x28 : Int).toNat * 1, none⟩))) ((hc49 fL HS26) 0 (by decide))) ?_)
   refine seqL1 kr ?_
   refine nl (hK45 _ _ ?_)
   refine wp_seq_k fun K53 hK54 => rl ?_
   refine seqL3 kr ?_
   refine nl (hK54 _ _ ?_)
   have hq_ := ite_some h; clear h; rcases hq_ with ⟨c56, h⟩ | ⟨c56, h⟩
   · have c56 : (rd vals1 x28) ≠ 0 := c56
     refine wpRwI 14 kr (bne_iff_ne.mpr c56) ?_
     refine condT kr ?_
     refine wp_seq_k fun K57 hK58 => rl ?_
     refine seqL2 kr ?_
     refine nl (hK58 _ _ ?_)
     refine wp_ret ?_
     refine hr40 _ _ ?_
     refine hr16 _ _ ?_
     refine hret _ _ ?_
     refine ends_still (v := Value.int .i64 (rd vals1 x28)) kr kr ?_
     replace h := JR66 _ h
     injection h with h
     subst h
     exact ⟨f23, rfl, L24, HS26⟩
   · have c56 : ¬ ((rd vals1 x28) ≠ 0) := c56
     refine wpRwI 14 (x := ((rd vals1 x28) != 0)) (v := false) kr (bne_eq_false_iff_eq.mpr (Decidable.of_not_not c56)) ?_
     refine condF kr ?_
     refine wp_skip ?_
     refine hn39 _ _ ?_
     refine hK36 _ _ ?_
     refine rl ?_
     refine seqL2 kr ?_
     refine nl ?_
     refine hK21 n22 _ _ (Nat.lt_succ_self _) ?_
     exact ⟨f23, (w64 (x28 + 1)), (jL [(j27 0), iV (rd vals1 x28), tV, .pointer (some ⟨b50, of51 + (x28 : Int).toNat * 1, none⟩), iV (rd vals1 x28), iV (rd vals1 x28), iV 0, fV, (j27 8), iV (w64 (x28 + 1))]), L24, HS26, h, kr⟩
 · have c34 : ¬ (x28 < (vals1.length : Int)) := c34
   refine wpRwI 9 kr (decide_eq_false c34) ?_
   refine condF kr ?_
   refine wp_exit ?_
   refine hx14 _ _ ?_
   exact J65 f23 (jL [(j27 0), (j27 1), iV x28, fV, (j27 3), (j27 4), (j27 5), (j27 6), (j27 7), (j27 8), (j27 9)]) W25 _ L24 h HS26 kr

end Go.Sp.R6
