import Derived.Test.YtiibkbligihgoaaGreatProg
import Derived.Test.YtiibkbligihgoaaGreatSpCopy
import Derived.Test.YtiibkbligihgoaaGreatFQ5
import Derived.Test.YtiibkbligihgoaaGreatShelf
import Derived.Test.YtiibkbligihgoaaGreatSpMapR
import Derived.Test.YtiibkbligihgoaaGreatSpKeys
import Derived.Test.YtiibkbligihgoaaGreatSpRound
import Derived.Test.YtiibkbligihgoaaGreatKQ5n0
import Derived.Test.YtiibkbligihgoaaGreatKQ5n1
import Derived.Test.YtiibkbligihgoaaGreatKQ5n2
import Derived.Test.YtiibkbligihgoaaGreatKQ5n3
import Derived.Test.YtiibkbligihgoaaGreatKQ5n4
namespace Go.Sp.Q5
open Go Go.Sp Go.Proofs
set_option linter.unusedVariables false
attribute [local irreducible] wpList AnyL Code.wp Calls Does Code.wpIn wpListIn CallsIn bodyPostM LeavesInM
set_option maxRecDepth 100000 in
set_option maxHeartbeats 4000000 in
theorem query_New.calls (k : Nat) (A2 : Option Addr) (c3 : Nat) (rows1 : List S_Row) (level5 : Int) {t w : World} {f : FM} {H : List Seg} (HS : St t w f (H)) (HR4 : SlR ty_Row f A2 c3 rows1) (rr1 : S_Index) (rr2 : Int) (h : query_New k rows1 level5 = some (rr1, rr2)) :
    Calls Tryz.prog 24 #[.slice A2 rows1.length c3, .int .i64 level5] w (fun e w' => ∃ (g : FM) (A624 : Option Addr) (c625 : Nat) (A626 : Option Addr) (c627 : Nat) (A628 : Option Addr) (c629 : Nat) (b630 : Nat), e = .returned (Value.tuple #[.pointer (some ⟨b630, 0, none⟩), .int .i64 rr2]) ∧ FM.le f g ∧ St t w' g ([(b630, .cells #[.slice A624 rr1.rows.length c625, .int .i64 rr1.level, .slice A626 rr1.roots.length c627, .slice A628 rr1.loose.length c629] 109 (0, 0))] :: H) ∧ SlR ty_Row g A624 c625 rr1.rows ∧ SlR tNone g A626 c627 rr1.roots ∧ SlR (tInt .i64) g A628 c629 rr1.loose) := by
 unfold query_New at h
 refine enter Tryz.func24 rfl (tm := #[.slice A2 rows1.length c3, iV level5, uV, uV, uV, uV, uV, uV, uV, uV, uV, uV, uV, uV, uV, uV, uV, uV, uV, uV, uV, uV, uV, uV, uV, uV, uV, uV, uV, uV, uV, uV, uV, uV, uV, uV, uV, uV, uV, uV, uV, uV, uV, uV, uV, uV, uV, uV, uV, uV, uV, uV, uV, uV, uV, uV, uV, uV, uV, uV, uV, uV, uV, uV, uV, uV, uV, uV, uV, uV, uV, uV, uV, uV, uV, uV, uV, uV, uV, uV, uV, uV, uV, uV, uV, uV, uV, uV, uV, uV, uV, uV, uV, uV, uV, uV, uV, uV, uV, uV, uV, uV, uV, uV, uV, uV, uV, uV, uV, uV, uV, uV, uV, uV, uV, uV, uV, uV, uV, uV, uV, uV, uV, uV, uV, uV, uV, uV, uV, uV, uV, uV, uV, uV, uV, uV, uV, uV, uV, uV, uV, uV, uV, uV, uV, uV, uV, uV, uV, uV, uV, uV, uV, uV, uV, uV, uV, uV, uV, uV, uV, uV, uV, uV, uV, uV, uV, uV, uV, uV, uV, uV, uV, uV, uV, uV, uV, uV, uV, uV, uV, uV, uV, uV, uV, uV, uV, uV, uV, uV, uV, uV]) kr ?_
 intro B hret hnor hnp
 refine wp_seq_k fun K6 hK7 => rl ?_
 refine seqL2 kr ?_
 refine nl (hK7 _ _ ?_)
 refine wp_seq_k (fun K8 hK9 => ?_)
 refine wp_seq_k fun K10 hK11 => rl ?_
 have hq_ := bind_some h; clear h; obtain ⟨vt12, hc13, h⟩ := hq_
 refine seqL1 kr ?_
 refine seqK rfl (does_call (f := 42) (args := #[.slice A2 rows1.length c3]) kr (catalog_Check.calls k A2 c3 rows1 HS HR4 vt12 hc13) ?_)
 rintro _ W16 ⟨f14, rfl, L15, HS17⟩
 refine ⟨_, rfl, ?_⟩
 refine seqL1 kr ?_
 refine nl (hK11 _ _ ?_)
 refine wp_seq_k fun K18 hK19 => rl ?_
 refine seqL2 kr ?_
 refine nl (hK19 _ _ ?_)
 have hq_ := ite_some h; clear h; rcases hq_ with ⟨c21, h⟩ | ⟨c21, h⟩
 · have c21 : vt12 ≠ 0 := c21
   refine wpRwI 26 kr (bne_iff_ne.mpr c21) ?_
   refine condT kr ?_
   refine wp_seq_k (fun K22 hK23 => ?_)
   exact nomatch h
 · have c21 : ¬ (vt12 ≠ 0) := c21
   refine wpRwI 26 (x := (vt12 != 0)) (v := false) kr (bne_eq_false_iff_eq.mpr (Decidable.of_not_not c21)) ?_
   refine condF kr ?_
   refine wp_skip ?_
   refine hK9 _ _ ?_
   refine wp_seq_k (fun K24 hK25 => ?_)
   refine wp_seq_k fun K26 hK27 => rl ?_
   refine seqL3 kr ?_
   have hq_ := ite_some h; clear h; rcases hq_ with ⟨c28, h⟩ | ⟨c28, h⟩
   · have c28 : level5 < 0 := c28
     refine seqRwI 29 kr (decide_eq_true c28) ?_
     refine seqRwI 30 kr (decide_eq_true c28) ?_
     refine seqL3 kr ?_
     refine nl (hK27 _ _ ?_)
     refine condT kr ?_
     refine wp_seq_k (fun K29 hK30 => ?_)
     exact nomatch h
   · have c28 : ¬ (level5 < 0) := c28
     refine seqRwI 29 kr (decide_eq_false c28) ?_
     refine seqRwI 30 kr (decide_eq_false c28) ?_
     refine seqL3 kr ?_
     refine nl (hK27 _ _ ?_)
     have hq_ := ite_some h; clear h; rcases hq_ with ⟨c32, h⟩ | ⟨c32, h⟩
     · have c32 : level5 > 12 := c32
       refine wpRwI 32 kr (decide_eq_true c32) ?_
       refine wpRwI 33 kr (decide_eq_true c32) ?_
       refine condT kr ?_
       refine wp_seq_k (fun K33 hK34 => ?_)
       exact nomatch h
     · have c32 : ¬ (level5 > 12) := c32
       refine wpRwI 32 kr (decide_eq_false c32) ?_
       refine wpRwI 33 kr (decide_eq_false c32) ?_
       refine condF kr ?_
       refine wp_skip ?_
       refine hK25 _ _ ?_
       refine wp_seq_k fun K35 hK36 => rl ?_
       have hq_ := bind_some h; clear h; obtain ⟨vt37, hc38, h⟩ := hq_
       refine seqL1 kr ?_
       refine seqK rfl (does_call (f := 45) (args := #[.slice A2 rows1.length c3]) kr (catalog_Copy.calls k A2 c3 rows1 HS17 (HR4.mono L15) vt37 hc38) ?_)
       rintro _ W41 ⟨f39, A43, c44, s45, rfl, L40, HS42, HO46⟩
       refine ⟨_, rfl, ?_⟩
       refine seqL2 kr ?_
       refine seqK rfl (does_box (cs := #[.slice A43 vt37.length c44, .int .i64 level5, .slice none 0 0, .slice none 0 0]) rfl (kv (.agg #[.slice A43 vt37.length c44, .int .i64 level5, .slice none 0 0, .slice none 0 0])) rfl HS42 ?_)
       intro b48 W49 HS50
       refine seqL1 kr ?_
       refine nl (hK36 _ _ ?_)
       refine wp_seq_k fun K52 hK53 => rl ?_
       refine seqK rfl (does_makeMapR (mty tNone) 100110 rfl HS50 ?_)
       intro b54 W55 s56 HS57 HO58
       refine seqL1 kr ?_
       refine nl (hK53 _ _ ?_)
       refine wp_seq_k (fun K60 hK61 => ?_)
       refine wp_seq_k fun K62 hK63 => rl ?_
       refine seqL3 kr ?_
       refine seqK rfl (does_run (run_load rfl Tryz.underlying45 rfl (kv (.pointer (some ⟨b48, 0, none⟩))) (HS57.u1.cell 0)) ?_)
       refine seqL2 kr ?_
       refine nl (hK63 _ _ ?_)
       refine blockK (fun B64 hx65 hn66 hr67 ho68 hp69 => ?_)
       have hq_ := bind_some h; clear h; obtain ⟨o179, hv301, h⟩ := hq_
       have J302 : ∀ (f290 : FM) (A296 : Option Addr) (c297 : Nat) (s298 : Seg) (x295 : List Int) (j294 : Nat → Value) (W292 : World) (a_ : Act), FM.le f39 f290 → some (x295) = some o179 → St t W292 f290 (s298 :: s56 :: [(b48, .cells #[.slice A43 vt37.length c44, .int .i64 level5, .slice none 0 0, .slice A296 x295.length c297] 109 (0, 0))] :: s45 :: H) → Own (tInt .i64) 3 f290 A296 c297 s298 x295 → a_ = ⟨#[.slice A2 rows1.length c3, iV level5, uV, uV, .pointer none, iV 0, iV vt12, pV b48 0, .map (mb (some ⟨b54, 0, none⟩)), (j294 0), (j294 1), (j294 2), (j294 3), (j294 4), (j294 5), (j294 6), uV, uV, uV, uV, uV, uV, uV, .slice A2 rows1.length c3, iV vt12, iV vt12, fV, uV, iV level5, fV, fV, iV level5, fV, fV, .slice A2 rows1.length c3, .slice A43 vt37.length c44, iV level5, .agg #[.slice A43 vt37.length c44, iV level5, .slice none 0 0, .slice none 0 0], pV b48 0, .map (mb (some ⟨b54, 0, none⟩)), pV b48 0, pV b48 0, pV b48 0, .slice A43 vt37.length c44, iV (vt37.length : Int), (j294 7), (j294 8), (j294 9), (j294 10), (j294 11), (j294 12), (j294 13), (j294 14), (j294 15), (j294 16), (j294 17), (j294 18), (j294 19), (j294 20), (j294 21), (j294 22), (j294 23), (j294 24), (j294 25), (j294 26), (j294 27), (j294 28), (j294 29), (j294 30), (j294 31), (j294 32), (j294 33), (j294 34), (j294 35), (j294 36), (j294 37), (j294 38), (j294 39), (j294 40), (j294 41), (j294 42), (j294 43), (j294 44), (j294 45), (j294 46), (j294 47), (j294 48), (j294 49), (j294 50), (j294 51), (j294 52), (j294 53), (j294 54), (j294 55), (j294 56), (j294 57), (j294 58), (j294 59), (j294 60), (j294 61), (j294 62), (j294 63), (j294 64), (j294 65), (j294 66), (j294 67), (j294 68), (j294 69), (j294 70), (j294 71), (j294 72), uV, uV, uV, uV, uV, uV, uV, uV, uV, uV, uV, uV, uV, uV, uV, uV, uV, uV, uV, uV, uV, uV, uV, uV, uV, uV, uV, uV, uV, uV, uV, uV, uV, uV, uV, uV, uV, uV, uV, uV, uV, uV, uV, uV, uV, uV, uV, uV, uV, uV, uV, uV, uV, uV, uV, uV, uV, uV, uV, uV, uV, uV, uV, uV, uV, uV, uV, uV, uV, uV, uV, uV, uV, uV, uV, uV, uV, uV, uV, uV, uV], []⟩ → K60 a_ W292 := by
        intro f290 A296 c297 s298 x295 j294 W292 a_ L291 hj303 HS293 HO299 hfr_; subst hfr_
        injection hj303 with hj303; subst hj303; try dsimp only at h
        refine hK61 _ _ ?_
        refine wp_seq_k (fun K322 hK323 => ?_)
        refine wp_seq_k fun K324 hK325 => rl ?_
        refine seqL2 kr ?_
        refine nl (hK325 _ _ ?_)
        refine blockK (fun B326 hx327 hn328 hr329 ho330 hp331 => ?_)
        have hq_ := bind_some h; clear h; obtain ⟨o428, hv536, h⟩ := hq_
        have J537 : ∀ (f526 : FM) (A532 : Option Addr) (c533 : Nat) (s534 : Seg) (vat531 : List (Int × Unit)) (j530 : Nat → Value) (W528 : World) (a_ : Act), FM.le f290 f526 → some (vat531) = some o428 → St t W528 f526 (s298 :: s534 :: [(b48, .cells #[.slice A43 vt37.length c44, .int .i64 level5, .slice none 0 0, .slice A296 x295.length c297] 109 (0, 0))] :: s45 :: H) → OwnM (mty tNone) 100110 f526 A532 c533 s534 vat531 → a_ = ⟨#[.slice A2 rows1.length c3, iV level5, uV, uV, .pointer none, iV 0, iV vt12, pV b48 0, .map (mb A532), (j294 0), (j294 1), (j294 2), (j294 3), (j294 4), (j294 5), (j294 6), (j530 0), uV, (j530 1), (j530 2), (j530 3), uV, uV, .slice A2 rows1.length c3, iV vt12, iV vt12, fV, uV, iV level5, fV, fV, iV level5, fV, fV, .slice A2 rows1.length c3, .slice A43 vt37.length c44, iV level5, .agg #[.slice A43 vt37.length c44, iV level5, .slice none 0 0, .slice none 0 0], pV b48 0, (j530 4), pV b48 0, pV b48 0, pV b48 0, .slice A43 vt37.length c44, iV (vt37.length : Int), (j294 7), (j294 8), (j294 9), (j294 10), (j294 11), (j294 12), (j294 13), (j294 14), (j294 15), (j294 16), (j294 17), (j294 18), (j294 19), (j294 20), (j294 21), (j294 22), (j294 23), (j294 24), (j294 25), (j294 26), (j294 27), (j294 28), (j294 29), (j294 30), (j294 31), (j294 32), (j294 33), (j294 34), (j294 35), (j294 36), (j294 37), (j294 38), (j294 39), (j294 40), (j294 41), (j294 42), (j294 43), (j294 44), (j294 45), (j294 46), (j294 47), (j294 48), (j294 49), (j294 50), (j294 51), (j294 52), (j294 53), (j294 54), (j294 55), (j294 56), (j294 57), (j294 58), (j294 59), (j294 60), (j294 61), (j294 62), (j294 63), (j294 64), (j294 65), (j294 66), (j294 67), (j294 68), (j294 69), (j294 70), (j294 71), (j294 72), iV level5, (j530 5), (j530 6), (j530 7), (j530 8), (j530 9), (j530 10), (j530 11), (j530 12), (j530 13), (j530 14), (j530 15), (j530 16), (j530 17), (j530 18), (j530 19), (j530 20), (j530 21), (j530 22), (j530 23), (j530 24), (j530 25), (j530 26), (j530 27), (j530 28), (j530 29), (j530 30), (j530 31), (j530 32), (j530 33), (j530 34), (j530 35), (j530 36), (j530 37), (j530 38), (j530 39), (j530 40), (j530 41), (j530 42), (j530 43), (j530 44), (j530 45), (j530 46), (j530 47), (j530 48), (j530 49), (j530 50), (j530 51), (j530 52), (j530 53), (j530 54), (j530 55), (j530 56), (j530 57), (j530 58), (j530 59), (j530 60), (j530 61), (j530 62), uV, uV, uV, uV, uV, uV, uV, uV, uV, uV, uV, uV, uV, uV, uV, uV, uV, uV, uV, uV, uV, uV], []⟩ → K322 a_ W528 := by
         intro f526 A532 c533 s534 vat531 j530 W528 a_ L527 hj538 HS529 HO535 hfr_; subst hfr_
         injection hj538 with hj538; subst hj538; try dsimp only at h
         refine hK323 _ _ ?_
         refine wp_seq_k (fun K549 hK550 => ?_)
         refine wp_seq_k fun K551 hK552 => rl ?_
         refine seqL1 kr ?_
         refine seqK rfl (does_call (f := 50) (args := #[Value.map (mb A532)]) kr (keys_calls (M := 110) (g := 86) Tryz.keys50 rfl rfl rfl HS529) ?_)
         rintro _ W554 ⟨b553, rfl, HS555⟩
         refine ⟨_, rfl, ?_⟩
         have HS558 := HS555.u2.u1
         have hq_ := bind_some h; clear h; obtain ⟨vt559, hc560, h⟩ := hq_
         refine seqK rfl (does_call (f := 49) (args := #[Value.func (.func 86) #[] #[.pointer (some ⟨b553, 0, none⟩)]]) kr (sorted_calls Tryz.keys50 Tryz.sorted49 rfl rfl rfl rfl rfl Tryz.underlying113 Tryz.slices_Sort_int Tryz.slices_Sort_int_none (Go.Proofs.enters_of Tryz.func85 kr rfl) (Go.Proofs.enters_of Tryz.func86 kr rfl) HO535 HS558 vt559 hc560) ?_)
         rintro _ W564 ⟨A561, c562, s563, rfl, HS565, HO566⟩
         refine ⟨_, rfl, ?_⟩
         refine seqL2 kr ?_
         refine nl (hK552 _ _ ?_)
         refine blockK (fun B568 hx569 hn570 hr571 ho572 hp573 => ?_)
         have hq_ := bind_some h; clear h; obtain ⟨o574, hv606, h⟩ := hq_
         have J607 : ∀ (f601 : FM) (j605 : Nat → Value) (W603 : World) (a_ : Act), FM.le f526 f601 → some (()) = some o574 → St t W603 f601 (s563 :: [(b553, .cells #[.map (mb A532)] 110 (0, 0))] :: s534 :: s298 :: [(b48, .cells #[.slice A43 vt37.length c44, .int .i64 level5, .slice none 0 0, .slice A296 x295.length c297] 109 (0, 0))] :: s45 :: H) → a_ = ⟨#[.slice A2 rows1.length c3, iV level5, uV, uV, .pointer none, iV 0, iV vt12, pV b48 0, .map (mb A532), (j294 0), (j294 1), (j294 2), (j294 3), (j294 4), (j294 5), (j294 6), (j530 0), uV, (j530 1), (j530 2), (j530 3), uV, (j605 0), .slice A2 rows1.length c3, iV vt12, iV vt12, fV, uV, iV level5, fV, fV, iV level5, fV, fV, .slice A2 rows1.length c3, .slice A43 vt37.length c44, iV level5, .agg #[.slice A43 vt37.length c44, iV level5, .slice none 0 0, .slice none 0 0], pV b48 0, (j530 4), pV b48 0, pV b48 0, pV b48 0, .slice A43 vt37.length c44, iV (vt37.length : Int), (j294 7), (j294 8), (j294 9), (j294 10), (j294 11), (j294 12), (j294 13), (j294 14), (j294 15), (j294 16), (j294 17), (j294 18), (j294 19), (j294 20), (j294 21), (j294 22), (j294 23), (j294 24), (j294 25), (j294 26), (j294 27), (j294 28), (j294 29), (j294 30), (j294 31), (j294 32), (j294 33), (j294 34), (j294 35), (j294 36), (j294 37), (j294 38), (j294 39), (j294 40), (j294 41), (j294 42), (j294 43), (j294 44), (j294 45), (j294 46), (j294 47), (j294 48), (j294 49), (j294 50), (j294 51), (j294 52), (j294 53), (j294 54), (j294 55), (j294 56), (j294 57), (j294 58), (j294 59), (j294 60), (j294 61), (j294 62), (j294 63), (j294 64), (j294 65), (j294 66), (j294 67), (j294 68), (j294 69), (j294 70), (j294 71), (j294 72), iV level5, (j530 5), (j530 6), (j530 7), (j530 8), (j530 9), (j530 10), (j530 11), (j530 12), (j530 13), (j530 14), (j530 15), (j530 16), (j530 17), (j530 18), (j530 19), (j530 20), (j530 21), (j530 22), (j530 23), (j530 24), (j530 25), (j530 26), (j530 27), (j530 28), (j530 29), (j530 30), (j530 31), (j530 32), (j530 33), (j530 34), (j530 35), (j530 36), (j530 37), (j530 38), (j530 39), (j530 40), (j530 41), (j530 42), (j530 43), (j530 44), (j530 45), (j530 46), (j530 47), (j530 48), (j530 49), (j530 50), (j530 51), (j530 52), (j530 53), (j530 54), (j530 55), (j530 56), (j530 57), (j530 58), (j530 59), (j530 60), (j530 61), (j530 62), .map (mb A532), .func (.func 86) #[] #[pV b553 0], .slice A561 vt559.length c562, iV (vt559.length : Int), (j605 1), (j605 2), (j605 3), (j605 4), (j605 5), (j605 6), (j605 7), (j605 8), (j605 9), (j605 10), (j605 11), (j605 12), (j605 13), (j605 14), (j605 15), (j605 16), (j605 17), uV], []⟩ → K549 a_ W603 := by
          intro f601 j605 W603 a_ L602 hj608 HS604  hfr_; subst hfr_
          injection hj608 with hj608; subst hj608; try dsimp only at h
          refine hK550 _ _ ?_
          refine wp_seq_k fun K609 hK610 => rl ?_
          refine seqL3 kr ?_
          refine nl (hK610 _ _ ?_)
          refine wp_ret ?_
          refine hret _ _ ?_
          have HS611 := HS604.u5
          obtain ⟨f612, L613, HS614, HR615⟩ := (HO46.mono (L291.trans (L527.trans L602))).freeze HS611
          have HS616 := HS614.u3
          obtain ⟨f617, L618, HS619, HR620⟩ := (HO299.mono (L527.trans (L602.trans L613))).freeze HS616
          refine ends_still (v := Value.tuple #[.pointer (some ⟨b48, 0, none⟩), .int .i64 0]) kr kr ?_
          have HS621 := HS619.drop
          have HS622 := HS621.drop
          have HS623 := HS622.drop
          injection h with h
          injection h with h0_ h
          subst h0_ h
          exact ⟨f617, A43, c44, none, 0, A296, c297, b48, rfl, (L15.trans (L40.trans (L291.trans (L527.trans (L602.trans (L613.trans L618)))))), HS623, (HR615.mono L618), (SlR.nil _ _), HR620⟩
         clear h; have h := hv606; clear hv606
         refine loopK (fun n_ a_ w_ => ∃ (f578 : FM) (x583 : Int) (j582 : Nat → Value), FM.le f526 f578 ∧ St t w_ f578 (s563 :: [(b553, .cells #[.map (mb A532)] 110 (0, 0))] :: s534 :: s298 :: [(b48, .cells #[.slice A43 vt37.length c44, .int .i64 level5, .slice none 0 0, .slice A296 x295.length c297] 109 (0, 0))] :: s45 :: H) ∧ query_New.l3 k vt559 n_ x583 = some o574 ∧ a_ = ⟨#[.slice A2 rows1.length c3, iV level5, uV, uV, .pointer none, iV 0, iV vt12, pV b48 0, .map (mb A532), (j294 0), (j294 1), (j294 2), (j294 3), (j294 4), (j294 5), (j294 6), (j530 0), uV, (j530 1), (j530 2), (j530 3), uV, (j582 0), .slice A2 rows1.length c3, iV vt12, iV vt12, fV, uV, iV level5, fV, fV, iV level5, fV, fV, .slice A2 rows1.length c3, .slice A43 vt37.length c44, iV level5, .agg #[.slice A43 vt37.length c44, iV level5, .slice none 0 0, .slice none 0 0], pV b48 0, (j530 4), pV b48 0, pV b48 0, pV b48 0, .slice A43 vt37.length c44, iV (vt37.length : Int), (j294 7), (j294 8), (j294 9), (j294 10), (j294 11), (j294 12), (j294 13), (j294 14), (j294 15), (j294 16), (j294 17), (j294 18), (j294 19), (j294 20), (j294 21), (j294 22), (j294 23), (j294 24), (j294 25), (j294 26), (j294 27), (j294 28), (j294 29), (j294 30), (j294 31), (j294 32), (j294 33), (j294 34), (j294 35), (j294 36), (j294 37), (j294 38), (j294 39), (j294 40), (j294 41), (j294 42), (j294 43), (j294 44), (j294 45), (j294 46), (j294 47), (j294 48), (j294 49), (j294 50), (j294 51), (j294 52), (j294 53), (j294 54), (j294 55), (j294 56), (j294 57), (j294 58), (j294 59), (j294 60), (j294 61), (j294 62), (j294 63), (j294 64), (j294 65), (j294 66), (j294 67), (j294 68), (j294 69), (j294 70), (j294 71), (j294 72), iV level5, (j530 5), (j530 6), (j530 7), (j530 8), (j530 9), (j530 10), (j530 11), (j530 12), (j530 13), (j530 14), (j530 15), (j530 16), (j530 17), (j530 18), (j530 19), (j530 20), (j530 21), (j530 22), (j530 23), (j530 24), (j530 25), (j530 26), (j530 27), (j530 28), (j530 29), (j530 30), (j530 31), (j530 32), (j530 33), (j530 34), (j530 35), (j530 36), (j530 37), (j530 38), (j530 39), (j530 40), (j530 41), (j530 42), (j530 43), (j530 44), (j530 45), (j530 46), (j530 47), (j530 48), (j530 49), (j530 50), (j530 51), (j530 52), (j530 53), (j530 54), (j530 55), (j530 56), (j530 57), (j530 58), (j530 59), (j530 60), (j530 61), (j530 62), .map (mb A532), .func (.func 86) #[] #[pV b553 0], .slice A561 vt559.length c562, iV (vt559.length : Int), iV x583, (j582 1), (j582 2), (j582 3), (j582 4), (j582 5), (j582 6), (j582 7), (j582 8), (j582 9), (j582 10), (j582 11), (j582 12), (j582 13), (j582 14), (j582 15), (j582 16), uV], []⟩) k ⟨f526, 0, (jL []), fL, HS565, h, kr⟩ ?_
         clear h
         rintro n577 _ W580 ⟨f578, x583, j582, L579, HS581, h, rfl⟩ K575 hK576
         obtain _ | n577 := n577
         · exact nomatch h
         simp only [query_New.l3] at h
         refine wp_seq_k fun K584 hK585 => rl ?_
         refine seqL1 kr ?_
         refine nl (hK585 _ _ ?_)
         refine wp_seq_k (fun K586 hK587 => ?_)
         have hq_ := ite_some h; clear h; rcases hq_ with ⟨c589, h⟩ | ⟨c589, h⟩
         · have c589 : x583 < (vt559.length : Int) := c589
           refine wpRwI 175 kr (decide_eq_true c589) ?_
           refine condT kr ?_
           refine wp_skip ?_
           refine hK587 _ _ ?_
           refine wp_seq_k (fun K590 hK591 => ?_)
           refine blockK (fun B592 hx593 hn594 hr595 ho596 hp597 => ?_)
           refine wp_seq_k (fun K599 hK600 => ?_)
           exact nomatch h
         · have c589 : ¬ (x583 < (vt559.length : Int)) := c589
           refine wpRwI 175 kr (decide_eq_false c589) ?_
           refine condF kr ?_
           refine wp_exit ?_
           refine hx569 _ _ ?_
           exact J607 f578 (jL [(j582 0), iV x583, fV, (j582 2), (j582 3), (j582 4), (j582 5), (j582 6), (j582 7), (j582 8), (j582 9), (j582 10), (j582 11), (j582 12), (j582 13), (j582 14), (j582 15), (j582 16)]) W580 _ L579 h HS581 kr
        clear h; have h := hv536; clear hv536
        refine loopK (fun n_ a_ w_ => ∃ (f432 : FM) (A438 : Option Addr) (c439 : Nat) (s440 : Seg) (vat437 : List (Int × Unit)) (x442 : Int) (j436 : Nat → Value), FM.le f290 f432 ∧ St t w_ f432 (s298 :: s440 :: [(b48, .cells #[.slice A43 vt37.length c44, .int .i64 level5, .slice none 0 0, .slice A296 x295.length c297] 109 (0, 0))] :: s45 :: H) ∧ OwnM (mty tNone) 100110 f432 A438 c439 s440 vat437 ∧ query_New.l1 k level5 n_ vat437 x442 = some o428 ∧ a_ = ⟨#[.slice A2 rows1.length c3, iV level5, uV, uV, .pointer none, iV 0, iV vt12, pV b48 0, .map (mb A438), (j294 0), (j294 1), (j294 2), (j294 3), (j294 4), (j294 5), (j294 6), (j436 0), uV, (j436 1), (j436 2), (j436 3), uV, uV, .slice A2 rows1.length c3, iV vt12, iV vt12, fV, uV, iV level5, fV, fV, iV level5, fV, fV, .slice A2 rows1.length c3, .slice A43 vt37.length c44, iV level5, .agg #[.slice A43 vt37.length c44, iV level5, .slice none 0 0, .slice none 0 0], pV b48 0, .map (mb (some ⟨b54, 0, none⟩)), pV b48 0, pV b48 0, pV b48 0, .slice A43 vt37.length c44, iV (vt37.length : Int), (j294 7), (j294 8), (j294 9), (j294 10), (j294 11), (j294 12), (j294 13), (j294 14), (j294 15), (j294 16), (j294 17), (j294 18), (j294 19), (j294 20), (j294 21), (j294 22), (j294 23), (j294 24), (j294 25), (j294 26), (j294 27), (j294 28), (j294 29), (j294 30), (j294 31), (j294 32), (j294 33), (j294 34), (j294 35), (j294 36), (j294 37), (j294 38), (j294 39), (j294 40), (j294 41), (j294 42), (j294 43), (j294 44), (j294 45), (j294 46), (j294 47), (j294 48), (j294 49), (j294 50), (j294 51), (j294 52), (j294 53), (j294 54), (j294 55), (j294 56), (j294 57), (j294 58), (j294 59), (j294 60), (j294 61), (j294 62), (j294 63), (j294 64), (j294 65), (j294 66), (j294 67), (j294 68), (j294 69), (j294 70), (j294 71), (j294 72), iV level5, iV x442, (j436 4), (j436 5), (j436 6), (j436 7), (j436 8), (j436 9), (j436 10), (j436 11), (j436 12), (j436 13), (j436 14), (j436 15), (j436 16), (j436 17), (j436 18), (j436 19), (j436 20), (j436 21), (j436 22), (j436 23), (j436 24), (j436 25), (j436 26), (j436 27), (j436 28), (j436 29), (j436 30), (j436 31), (j436 32), (j436 33), (j436 34), (j436 35), (j436 36), (j436 37), (j436 38), (j436 39), (j436 40), (j436 41), (j436 42), (j436 43), (j436 44), (j436 45), (j436 46), (j436 47), (j436 48), (j436 49), (j436 50), (j436 51), (j436 52), (j436 53), (j436 54), (j436 55), (j436 56), (j436 57), (j436 58), (j436 59), (j436 60), uV, uV, uV, uV, uV, uV, uV, uV, uV, uV, uV, uV, uV, uV, uV, uV, uV, uV, uV, uV, uV, uV], []⟩) k ⟨f290, (some ⟨b54, 0, none⟩), 0, s56, ([] : List (Int × Unit)), 0, (jL []), fL, HS293, (HO58.mono L291), h, kr⟩ ?_
        clear h
        rintro n431 _ W434 ⟨f432, A438, c439, s440, vat437, x442, j436, L433, HS435, HO441, h, rfl⟩ K429 hK430
        obtain _ | n431 := n431
        · exact nomatch h
        simp only [query_New.l1] at h
        refine wp_seq_k fun K443 hK444 => rl ?_
        refine seqL1 kr ?_
        refine nl (hK444 _ _ ?_)
        refine wp_seq_k (fun K445 hK446 => ?_)
        have hq_ := ite_some h; clear h; rcases hq_ with ⟨c448, h⟩ | ⟨c448, h⟩
        · have c448 : x442 < level5 := c448
          refine wpRwI 113 kr (decide_eq_true c448) ?_
          refine condT kr ?_
          refine wp_skip ?_
          refine hK446 _ _ ?_
          refine wp_seq_k (fun K449 hK450 => ?_)
          refine blockK (fun B451 hx452 hn453 hr454 ho455 hp456 => ?_)
          refine wp_seq_k fun K458 hK459 => rl ?_
          refine seqK rfl (does_makeMapR (mty tNone) 100110 rfl HS435 ?_)
          intro b460 W461 s462 HS463 HO464
          refine seqL1 kr ?_
          refine nl (hK459 _ _ ?_)
          refine wp_seq_k (fun K466 hK467 => ?_)
          refine wp_seq_k fun K468 hK469 => rl ?_
          refine seqL1 kr ?_
          refine seqK rfl (does_call (f := 50) (args := #[Value.map (mb A438)]) kr (keys_calls (M := 110) (g := 86) Tryz.keys50 rfl rfl rfl HS463) ?_)
          rintro _ W471 ⟨b470, rfl, HS472⟩
          refine ⟨_, rfl, ?_⟩
          have HS475 := HS472.u3.u1
          have hq_ := bind_some h; clear h; obtain ⟨vt476, hc477, h⟩ := hq_
          refine seqK rfl (does_call (f := 49) (args := #[Value.func (.func 86) #[] #[.pointer (some ⟨b470, 0, none⟩)]]) kr (sorted_calls Tryz.keys50 Tryz.sorted49 rfl rfl rfl rfl rfl Tryz.underlying113 Tryz.slices_Sort_int Tryz.slices_Sort_int_none (Go.Proofs.enters_of Tryz.func85 kr rfl) (Go.Proofs.enters_of Tryz.func86 kr rfl) HO441 HS475 vt476 hc477) ?_)
          rintro _ W481 ⟨A478, c479, s480, rfl, HS482, HO483⟩
          refine ⟨_, rfl, ?_⟩
          refine seqL2 kr ?_
          refine nl (hK469 _ _ ?_)
          refine blockK (fun B485 hx486 hn487 hr488 ho489 hp490 => ?_)
          have hq_ := bind_some h; clear h; obtain ⟨o491, hv523, h⟩ := hq_
          have J524 : ∀ (f518 : FM) (j522 : Nat → Value) (W520 : World) (a_ : Act), FM.le f432 f518 → some (()) = some o491 → St t W520 f518 (s480 :: [(b470, .cells #[.map (mb A438)] 110 (0, 0))] :: s440 :: s462 :: s298 :: [(b48, .cells #[.slice A43 vt37.length c44, .int .i64 level5, .slice none 0 0, .slice A296 x295.length c297] 109 (0, 0))] :: s45 :: H) → a_ = ⟨#[.slice A2 rows1.length c3, iV level5, uV, uV, .pointer none, iV 0, iV vt12, pV b48 0, .map (mb A438), (j294 0), (j294 1), (j294 2), (j294 3), (j294 4), (j294 5), (j294 6), .map (mb (some ⟨b460, 0, none⟩)), uV, (j522 0), (j522 1), (j522 2), uV, uV, .slice A2 rows1.length c3, iV vt12, iV vt12, fV, uV, iV level5, fV, fV, iV level5, fV, fV, .slice A2 rows1.length c3, .slice A43 vt37.length c44, iV level5, .agg #[.slice A43 vt37.length c44, iV level5, .slice none 0 0, .slice none 0 0], pV b48 0, .map (mb (some ⟨b54, 0, none⟩)), pV b48 0, pV b48 0, pV b48 0, .slice A43 vt37.length c44, iV (vt37.length : Int), (j294 7), (j294 8), (j294 9), (j294 10), (j294 11), (j294 12), (j294 13), (j294 14), (j294 15), (j294 16), (j294 17), (j294 18), (j294 19), (j294 20), (j294 21), (j294 22), (j294 23), (j294 24), (j294 25), (j294 26), (j294 27), (j294 28), (j294 29), (j294 30), (j294 31), (j294 32), (j294 33), (j294 34), (j294 35), (j294 36), (j294 37), (j294 38), (j294 39), (j294 40), (j294 41), (j294 42), (j294 43), (j294 44), (j294 45), (j294 46), (j294 47), (j294 48), (j294 49), (j294 50), (j294 51), (j294 52), (j294 53), (j294 54), (j294 55), (j294 56), (j294 57), (j294 58), (j294 59), (j294 60), (j294 61), (j294 62), (j294 63), (j294 64), (j294 65), (j294 66), (j294 67), (j294 68), (j294 69), (j294 70), (j294 71), (j294 72), iV level5, iV x442, tV, .map (mb (some ⟨b460, 0, none⟩)), .map (mb A438), .func (.func 86) #[] #[pV b470 0], .slice A478 vt476.length c479, iV (vt476.length : Int), (j522 3), (j522 4), (j522 5), (j522 6), (j522 7), (j522 8), (j522 9), (j522 10), (j522 11), (j522 12), (j522 13), (j522 14), (j522 15), (j522 16), (j522 17), (j522 18), (j522 19), (j522 20), (j522 21), (j522 22), (j522 23), (j522 24), (j522 25), (j522 26), (j522 27), (j522 28), (j522 29), (j522 30), (j522 31), (j522 32), (j522 33), (j522 34), (j522 35), (j522 36), (j522 37), (j522 38), (j522 39), (j522 40), (j522 41), (j522 42), (j522 43), (j522 44), (j522 45), (j522 46), (j522 47), (j522 48), (j522 49), (j522 50), (j522 51), (j436 59), (j436 60), uV, uV, uV, uV, uV, uV, uV, uV, uV, uV, uV, uV, uV, uV, uV, uV, uV, uV, uV, uV, uV, uV], []⟩ → K466 a_ W520 := by
           intro f518 j522 W520 a_ L519 hj525 HS521  hfr_; subst hfr_
           injection hj525 with hj525; subst hj525; try dsimp only at h
           refine hK467 _ _ ?_
           refine rl ?_
           refine seqL2 kr ?_
           refine nl ?_
           refine hn453 _ _ ?_
           refine hK450 _ _ ?_
           refine rl ?_
           refine seqL2 kr ?_
           refine nl ?_
           refine hK430 n431 _ _ (Nat.lt_succ_self _) ?_
           have HS545 := HS521.u6.u6.u5.u6.u6.u6.u6
           have HS546 := HS545.drop
           have HS547 := HS546.drop
           have HS548 := HS547.drop
           exact ⟨f518, (some ⟨b460, 0, none⟩), 0, s462, ([] : List (Int × Unit)), (w64 (x442 + 1)), (jL [.map (mb (some ⟨b460, 0, none⟩)), (j522 0), (j522 1), (j522 2), tV, .map (mb (some ⟨b460, 0, none⟩)), .map (mb A438), .func (.func 86) #[] #[.pointer (some ⟨b470, 0, none⟩)], .slice A478 vt476.length c479, iV (vt476.length : Int), (j522 3), (j522 4), (j522 5), (j522 6), (j522 7), (j522 8), (j522 9), (j522 10), (j522 11), (j522 12), (j522 13), (j522 14), (j522 15), (j522 16), (j522 17), (j522 18), (j522 19), (j522 20), (j522 21), (j522 22), (j522 23), (j522 24), (j522 25), (j522 26), (j522 27), (j522 28), (j522 29), (j522 30), (j522 31), (j522 32), (j522 33), (j522 34), (j522 35), (j522 36), (j522 37), (j522 38), (j522 39), (j522 40), (j522 41), (j522 42), (j522 43), (j522 44), (j522 45), (j522 46), (j522 47), (j522 48), (j522 49), (j522 50), (j522 51), .map (mb (some ⟨b460, 0, none⟩)), iV (w64 (x442 + 1))]), (L433.trans L519), HS548, (HO464.mono L519), h, kr⟩
          clear h; have h := hv523; clear hv523
          refine loopK (fun n_ a_ w_ => ∃ (f495 : FM) (x500 : Int) (j499 : Nat → Value), FM.le f432 f495 ∧ St t w_ f495 (s480 :: [(b470, .cells #[.map (mb A438)] 110 (0, 0))] :: s440 :: s462 :: s298 :: [(b48, .cells #[.slice A43 vt37.length c44, .int .i64 level5, .slice none 0 0, .slice A296 x295.length c297] 109 (0, 0))] :: s45 :: H) ∧ query_New.l2 k vt476 n_ x500 = some o491 ∧ a_ = ⟨#[.slice A2 rows1.length c3, iV level5, uV, uV, .pointer none, iV 0, iV vt12, pV b48 0, .map (mb A438), (j294 0), (j294 1), (j294 2), (j294 3), (j294 4), (j294 5), (j294 6), .map (mb (some ⟨b460, 0, none⟩)), uV, (j499 0), (j499 1), (j499 2), uV, uV, .slice A2 rows1.length c3, iV vt12, iV vt12, fV, uV, iV level5, fV, fV, iV level5, fV, fV, .slice A2 rows1.length c3, .slice A43 vt37.length c44, iV level5, .agg #[.slice A43 vt37.length c44, iV level5, .slice none 0 0, .slice none 0 0], pV b48 0, .map (mb (some ⟨b54, 0, none⟩)), pV b48 0, pV b48 0, pV b48 0, .slice A43 vt37.length c44, iV (vt37.length : Int), (j294 7), (j294 8), (j294 9), (j294 10), (j294 11), (j294 12), (j294 13), (j294 14), (j294 15), (j294 16), (j294 17), (j294 18), (j294 19), (j294 20), (j294 21), (j294 22), (j294 23), (j294 24), (j294 25), (j294 26), (j294 27), (j294 28), (j294 29), (j294 30), (j294 31), (j294 32), (j294 33), (j294 34), (j294 35), (j294 36), (j294 37), (j294 38), (j294 39), (j294 40), (j294 41), (j294 42), (j294 43), (j294 44), (j294 45), (j294 46), (j294 47), (j294 48), (j294 49), (j294 50), (j294 51), (j294 52), (j294 53), (j294 54), (j294 55), (j294 56), (j294 57), (j294 58), (j294 59), (j294 60), (j294 61), (j294 62), (j294 63), (j294 64), (j294 65), (j294 66), (j294 67), (j294 68), (j294 69), (j294 70), (j294 71), (j294 72), iV level5, iV x442, tV, .map (mb (some ⟨b460, 0, none⟩)), .map (mb A438), .func (.func 86) #[] #[pV b470 0], .slice A478 vt476.length c479, iV (vt476.length : Int), iV x500, (j499 3), (j499 4), (j499 5), (j499 6), (j499 7), (j499 8), (j499 9), (j499 10), (j499 11), (j499 12), (j499 13), (j499 14), (j499 15), (j499 16), (j499 17), (j499 18), (j499 19), (j499 20), (j499 21), (j499 22), (j499 23), (j499 24), (j499 25), (j499 26), (j499 27), (j499 28), (j499 29), (j499 30), (j499 31), (j499 32), (j499 33), (j499 34), (j499 35), (j499 36), (j499 37), (j499 38), (j499 39), (j499 40), (j499 41), (j499 42), (j499 43), (j499 44), (j499 45), (j499 46), (j499 47), (j499 48), (j499 49), (j499 50), (j436 59), (j436 60), uV, uV, uV, uV, uV, uV, uV, uV, uV, uV, uV, uV, uV, uV, uV, uV, uV, uV, uV, uV, uV, uV], []⟩) k ⟨f432, 0, (jL [(j436 1), (j436 2), (j436 3), (j436 11), (j436 12), (j436 13), (j436 14), (j436 15), (j436 16), (j436 17), (j436 18), (j436 19), (j436 20), (j436 21), (j436 22), (j436 23), (j436 24), (j436 25), (j436 26), (j436 27), (j436 28), (j436 29), (j436 30), (j436 31), (j436 32), (j436 33), (j436 34), (j436 35), (j436 36), (j436 37), (j436 38), (j436 39), (j436 40), (j436 41), (j436 42), (j436 43), (j436 44), (j436 45), (j436 46), (j436 47), (j436 48), (j436 49), (j436 50), (j436 51), (j436 52), (j436 53), (j436 54), (j436 55), (j436 56), (j436 57), (j436 58)]), fL, HS482, h, kr⟩ ?_
          clear h
          rintro n494 _ W497 ⟨f495, x500, j499, L496, HS498, h, rfl⟩ K492 hK493
          obtain _ | n494 := n494
          · exact nomatch h
          simp only [query_New.l2] at h
          refine wp_seq_k fun K501 hK502 => rl ?_
          refine seqL1 kr ?_
          refine nl (hK502 _ _ ?_)
          refine wp_seq_k (fun K503 hK504 => ?_)
          have hq_ := ite_some h; clear h; rcases hq_ with ⟨c506, h⟩ | ⟨c506, h⟩
          · have c506 : x500 < (vt476.length : Int) := c506
            refine wpRwI 120 kr (decide_eq_true c506) ?_
            refine condT kr ?_
            refine wp_skip ?_
            refine hK504 _ _ ?_
            refine wp_seq_k (fun K507 hK508 => ?_)
            refine blockK (fun B509 hx510 hn511 hr512 ho513 hp514 => ?_)
            refine wp_seq_k (fun K516 hK517 => ?_)
            exact nomatch h
          · have c506 : ¬ (x500 < (vt476.length : Int)) := c506
            refine wpRwI 120 kr (decide_eq_false c506) ?_
            refine condF kr ?_
            refine wp_exit ?_
            refine hx486 _ _ ?_
            exact J524 f495 (jL [(j499 0), (j499 1), (j499 2), iV x500, fV, (j499 4), (j499 5), (j499 6), (j499 7), (j499 8), (j499 9), (j499 10), (j499 11), (j499 12), (j499 13), (j499 14), (j499 15), (j499 16), (j499 17), (j499 18), (j499 19), (j499 20), (j499 21), (j499 22), (j499 23), (j499 24), (j499 25), (j499 26), (j499 27), (j499 28), (j499 29), (j499 30), (j499 31), (j499 32), (j499 33), (j499 34), (j499 35), (j499 36), (j499 37), (j499 38), (j499 39), (j499 40), (j499 41), (j499 42), (j499 43), (j499 44), (j499 45), (j499 46), (j499 47), (j499 48), (j499 49), (j499 50)]) W497 _ L496 h HS498 kr
        · have c448 : ¬ (x442 < level5) := c448
          refine wpRwI 113 kr (decide_eq_false c448) ?_
          refine condF kr ?_
          refine wp_exit ?_
          refine hx327 _ _ ?_
          exact J537 f432 A438 c439 s440 vat437 (jL [(j436 0), (j436 1), (j436 2), (j436 3), .map (mb (some ⟨b54, 0, none⟩)), iV x442, fV, (j436 5), (j436 6), (j436 7), (j436 8), (j436 9), (j436 10), (j436 11), (j436 12), (j436 13), (j436 14), (j436 15), (j436 16), (j436 17), (j436 18), (j436 19), (j436 20), (j436 21), (j436 22), (j436 23), (j436 24), (j436 25), (j436 26), (j436 27), (j436 28), (j436 29), (j436 30), (j436 31), (j436 32), (j436 33), (j436 34), (j436 35), (j436 36), (j436 37), (j436 38), (j436 39), (j436 40), (j436 41), (j436 42), (j436 43), (j436 44), (j436 45), (j436 46), (j436 47), (j436 48), (j436 49), (j436 50), (j436 51), (j436 52), (j436 53), (j436 54), (j436 55), (j436 56), (j436 57), (j436 58), (j436 59), (j436 60)]) W434 _ L433 h HS435 HO441 kr
       clear h; have h := hv301; clear hv301
       have HS304 := HS57.cons_nil
       refine loopK (fun n_ a_ w_ => ∃ (f183 : FM) (A190 : Option Addr) (c191 : Nat) (s192 : Seg) (x188 : Int) (x189 : List Int) (j187 : Nat → Value), FM.le f39 f183 ∧ St t w_ f183 (s192 :: s56 :: [(b48, .cells #[.slice A43 vt37.length c44, .int .i64 level5, .slice none 0 0, .slice A190 x189.length c191] 109 (0, 0))] :: s45 :: H) ∧ Own (tInt .i64) 3 f183 A190 c191 s192 x189 ∧ query_New.l0 k vt37 n_ x188 x189 = some o179 ∧ a_ = ⟨#[.slice A2 rows1.length c3, iV level5, uV, uV, .pointer none, iV 0, iV vt12, pV b48 0, .map (mb (some ⟨b54, 0, none⟩)), (j187 0), (j187 1), (j187 2), (j187 3), (j187 4), (j187 5), (j187 6), uV, uV, uV, uV, uV, uV, uV, .slice A2 rows1.length c3, iV vt12, iV vt12, fV, uV, iV level5, fV, fV, iV level5, fV, fV, .slice A2 rows1.length c3, .slice A43 vt37.length c44, iV level5, .agg #[.slice A43 vt37.length c44, iV level5, .slice none 0 0, .slice none 0 0], pV b48 0, .map (mb (some ⟨b54, 0, none⟩)), pV b48 0, pV b48 0, pV b48 0, .slice A43 vt37.length c44, iV (vt37.length : Int), iV x188, (j187 7), (j187 8), (j187 9), (j187 10), (j187 11), (j187 12), (j187 13), (j187 14), (j187 15), (j187 16), (j187 17), (j187 18), (j187 19), (j187 20), (j187 21), (j187 22), (j187 23), (j187 24), (j187 25), (j187 26), (j187 27), (j187 28), (j187 29), (j187 30), (j187 31), (j187 32), (j187 33), (j187 34), (j187 35), (j187 36), (j187 37), (j187 38), (j187 39), (j187 40), (j187 41), (j187 42), (j187 43), (j187 44), (j187 45), (j187 46), (j187 47), (j187 48), (j187 49), (j187 50), (j187 51), (j187 52), (j187 53), (j187 54), (j187 55), (j187 56), (j187 57), (j187 58), (j187 59), (j187 60), (j187 61), (j187 62), (j187 63), (j187 64), (j187 65), (j187 66), (j187 67), (j187 68), (j187 69), (j187 70), (j187 71), uV, uV, uV, uV, uV, uV, uV, uV, uV, uV, uV, uV, uV, uV, uV, uV, uV, uV, uV, uV, uV, uV, uV, uV, uV, uV, uV, uV, uV, uV, uV, uV, uV, uV, uV, uV, uV, uV, uV, uV, uV, uV, uV, uV, uV, uV, uV, uV, uV, uV, uV, uV, uV, uV, uV, uV, uV, uV, uV, uV, uV, uV, uV, uV, uV, uV, uV, uV, uV, uV, uV, uV, uV, uV, uV, uV, uV, uV, uV, uV, uV], []⟩) k ⟨f39, none, 0, [], 0, ([] : List Int), (jL []), fL, HS304, (Own.nil _), h, kr⟩ ?_
       clear h
       rintro n182 _ W185 ⟨f183, A190, c191, s192, x188, x189, j187, L184, HS186, HO193, h, rfl⟩ K180 hK181
       obtain _ | n182 := n182
       · exact nomatch h
       simp only [query_New.l0] at h
       refine wp_seq_k fun K195 hK196 => rl ?_
       refine seqL1 kr ?_
       refine nl (hK196 _ _ ?_)
       refine wp_seq_k (fun K197 hK198 => ?_)
       have hq_ := ite_some h; clear h; rcases hq_ with ⟨c200, h⟩ | ⟨c200, h⟩
       · have c200 : x188 < (vt37.length : Int) := c200
         refine wpRwI 46 kr (decide_eq_true c200) ?_
         refine condT kr ?_
         refine wp_skip ?_
         refine hK198 _ _ ?_
         refine wp_seq_k (fun K201 hK202 => ?_)
         refine blockK (fun B203 hx204 hn205 hr206 ho207 hp208 => ?_)
         refine wp_seq_k fun K210 hK211 => rl ?_
         have hq_ := guard_some h; clear h; obtain ⟨c212, h⟩ := hq_
         have c212 : 0 ≤ x188 := c212
         obtain ⟨b216, of217, cs213, hA218, hr214, hc215⟩ := (HO46.mono L184).at (i := x188) c212 c200
         obtain ⟨A219, c219, rfl, HR219⟩ := hr214
         refine seqL1 kr ?_
         refine seqK rfl (does_run (run_indexE hA218 (sz := 18) rfl Tryz.underlying45 kr (kv (.slice A43 vt37.length c44)) (kv (.int .i64 x188)) c212 c200 W185) ?_)
         refine seqK rfl (does_run (run_loadN (n := 18) rfl Tryz.underlying99 rfl kr (kv (.pointer (some ⟨b216, of217 + (x188 : Int).toNat * 18, none⟩))) (cs := [.int .i64 ((rd vt37 x188).ID), .int .i64 ((((rd vt37 x188).Box).X).Lo), .int .i64 ((((rd vt37 x188).Box).X).Hi), .bool ((((rd vt37 x188).Box).X).Unknown), .int .i64 ((((rd vt37 x188).Box).Y).Lo), .int .i64 ((((rd vt37 x188).Box).Y).Hi), .bool ((((rd vt37 x188).Box).Y).Unknown), .int .i64 ((((rd vt37 x188).Box).Z).Lo), .int .i64 ((((rd vt37 x188).Box).Z).Hi), .bool ((((rd vt37 x188).Box).Z).Unknown), .int .i64 (((rd vt37 x188).Flux).Lo), .int .i64 (((rd vt37 x188).Flux).Hi), .bool (((rd vt37 x188).Flux).Unknown), .int .i64 (((rd vt37 x188).When).Lo), .int .i64 (((rd vt37 x188).When).Hi), .bool (((rd vt37 x188).When).Unknown), .slice A219 ((rd vt37 x188).Frames).length c219, .int .i64 ((rd vt37 x188).Marks)]) rfl (fun j_ hj_ => ((hc215 HS186.u3) j_ hj_))) ?_)
         refine seqK rfl (does_alloc (z := Value.agg #[.int .i64 0, .int .i64 0, .int .i64 0, .bool false, .int .i64 0, .int .i64 0, .bool false, .int .i64 0, .int .i64 0, .bool false, .int .i64 0, .int .i64 0, .bool false, .int .i64 0, .int .i64 0, .bool false, .slice none 0 0, .int .i64 0]) (cs := #[.int .i64 0, .int .i64 0, .int .i64 0, .bool false, .int .i64 0, .int .i64 0, .bool false, .int .i64 0, .int .i64 0, .bool false, .int .i64 0, .int .i64 0, .bool false, .int .i64 0, .int .i64 0, .bool false, .slice none 0 0, .int .i64 0]) rfl kr rfl HS186 ?_)
         intro b220 W221 HS222
         refine seqL1 kr ?_
         refine seqK rfl (does_storeA (vs := [.int .i64 ((rd vt37 x188).ID), .int .i64 ((((rd vt37 x188).Box).X).Lo), .int .i64 ((((rd vt37 x188).Box).X).Hi), .bool ((((rd vt37 x188).Box).X).Unknown), .int .i64 ((((rd vt37 x188).Box).Y).Lo), .int .i64 ((((rd vt37 x188).Box).Y).Hi), .bool ((((rd vt37 x188).Box).Y).Unknown), .int .i64 ((((rd vt37 x188).Box).Z).Lo), .int .i64 ((((rd vt37 x188).Box).Z).Hi), .bool ((((rd vt37 x188).Box).Z).Unknown), .int .i64 (((rd vt37 x188).Flux).Lo), .int .i64 (((rd vt37 x188).Flux).Hi), .bool (((rd vt37 x188).Flux).Unknown), .int .i64 (((rd vt37 x188).When).Lo), .int .i64 (((rd vt37 x188).When).Hi), .bool (((rd vt37 x188).When).Unknown), .slice A219 ((rd vt37 x188).Frames).length c219, .int .i64 ((rd vt37 x188).Marks)]) rfl kr kr kr rfl (ones rfl) HS222 kr ?_)
         intro W224 HS225
         refine nl (hK211 _ _ ?_)
         refine wp_seq_k fun K226 hK227 => rl ?_
         refine seqL1 kr ?_
         refine seqK rfl (does_run (run_loadN (n := 9) rfl Tryz.underlying31 rfl kr (kv (.pointer (some ⟨b220, 1, none⟩))) (cs := [.int .i64 ((((rd vt37 x188).Box).X).Lo), .int .i64 ((((rd vt37 x188).Box).X).Hi), .bool ((((rd vt37 x188).Box).X).Unknown), .int .i64 ((((rd vt37 x188).Box).Y).Lo), .int .i64 ((((rd vt37 x188).Box).Y).Hi), .bool ((((rd vt37 x188).Box).Y).Unknown), .int .i64 ((((rd vt37 x188).Box).Z).Lo), .int .i64 ((((rd vt37 x188).Box).Z).Hi), .bool ((((rd vt37 x188).Box).Z).Unknown)]) rfl (HS225.cells 1 9 _ rfl)) ?_)
         have hq_ := bind_some h; clear h; obtain ⟨⟨vt228, vt229⟩, hc230, h⟩ := hq_
         refine seqK rfl (does_call (f := 46) (args := #[.agg #[.int .i64 ((((rd vt37 x188).Box).X).Lo), .int .i64 ((((rd vt37 x188).Box).X).Hi), .bool ((((rd vt37 x188).Box).X).Unknown), .int .i64 ((((rd vt37 x188).Box).Y).Lo), .int .i64 ((((rd vt37 x188).Box).Y).Hi), .bool ((((rd vt37 x188).Box).Y).Unknown), .int .i64 ((((rd vt37 x188).Box).Z).Lo), .int .i64 ((((rd vt37 x188).Box).Z).Hi), .bool ((((rd vt37 x188).Box).Z).Unknown)]]) kr (query_middle.calls k ((rd vt37 x188).Box) HS225 vt228 vt229 hc230) ?_)
         rintro _ W233 ⟨f231, rfl, L232, HS234⟩
         refine ⟨_, rfl, ?_⟩
         refine seqL3 kr ?_
         refine seqK rfl (does_alloc (z := Value.agg #[.int .i64 0, .int .i64 0, .int .i64 0]) (cs := #[.int .i64 0, .int .i64 0, .int .i64 0]) rfl kr rfl HS234 ?_)
         intro b235 W236 HS237
         refine seqK rfl (does_storeA (vs := [.int .i64 vt228.X, .int .i64 vt228.Y, .int .i64 vt228.Z]) rfl kr kr kr rfl (ones rfl) HS237 kr ?_)
         intro W239 HS240
         refine seqL1 kr ?_
         refine nl (hK227 _ _ ?_)
         refine wp_seq_k (fun K241 hK242 => ?_)
         refine wp_seq_k fun K243 hK244 => rl ?_
         refine seqL3 kr ?_
         have hq_ := ite_some h; clear h; rcases hq_ with ⟨c245, h⟩ | ⟨c245, h⟩
         · have c245 : ¬ (vt229 = true) := c245
           refine seqRwI 57 kr (congrArg (fun b_ => !b_) (show vt229 = false from (Bool.eq_false_iff.mpr c245)) : (!vt229) = true) ?_
           refine seqRwI 58 kr (congrArg (fun b_ => !b_) (show vt229 = false from (Bool.eq_false_iff.mpr c245)) : (!vt229) = true) ?_
           refine seqL4 kr ?_
           refine nl (hK244 _ _ ?_)
           refine condT kr ?_
           refine wp_seq_k fun K246 hK247 => rl ?_
           refine seqL4 kr ?_
           refine seqK rfl (does_run (run_load rfl Tryz.underlying22 rfl (kv (.pointer (some ⟨b48, 3, none⟩))) (HS240.u4.cell 3)) ?_)
           refine seqL1 kr ?_
           refine seqK rfl (does_lit (e := (tInt .i64)) (E := 3) (vs := #[(0, Value.int .i64 x188)]) (cs := #[.int .i64 x188]) (xs := ([x188] : List Int)) rfl Tryz.underlying22 kr kr ⟨[.int .i64 x188], _, rfl, rfl, rfl⟩ rfl HS240 ?_ (by decide))
           intro b248 W249 s250 HS251 _ HO252
           have hq_ := guard_some h; clear h; obtain ⟨c254, h⟩ := hq_
           have c254 : (x189.length + 1) * 8 ≤ 140737488355328 := c254
           have HS256 := HS251.u3.u1
           refine seqK rfl (does_append1 (e := (tInt .i64)) (E := 3) (xs := x189) (ys := ([x188] : List Int)) rfl (kv (.slice A190 x189.length c191)) (kv (.slice (some ⟨b248, 0, none⟩) ([x188] : List Int).length 1)) Tryz.underlying22 inf3 (HO193.mono L232) HO252 HS256 c254 (lim63 c254 (by decide)) ?_)
           intro A257 c258 s259 W260 HS261 HO262
           have HS263 := HS261.u4
           refine seqL2 kr ?_
           refine seqK rfl (does_store (n := 1) (vs := [.slice A257 (x189 ++ ([x188] : List Int)).length c258]) (cs' := #[.slice A43 vt37.length c44, .int .i64 level5, .slice none 0 0, .slice A257 (x189 ++ ([x188] : List Int)).length c258]) rfl kr (kv (.pointer (some ⟨b48, 3, none⟩))) (kv (.slice A257 (x189 ++ ([x188] : List Int)).length c258)) rfl rfl (ones rfl) HS263 (Nat.le_of_ble_eq_true rfl) kr ?_)
           intro W264 HS265
           refine nl (hK247 _ _ ?_)
           refine wp_exit ?_
           refine hx204 _ _ ?_
           refine hK202 _ _ ?_
           refine rl ?_
           refine seqL2 kr ?_
           refine nl ?_
           refine hK181 n182 _ _ (Nat.lt_succ_self _) ?_
           have HS311 := HS265.u5.u1.u5.u3.u5.u5
           have HS312 := HS311.drop
           have HS313 := HS312.drop
           exact ⟨f231, A257, c258, s259, (w64 (x188 + 1)), (x189 ++ ([x188] : List Int)), (jL [iV x188, .pointer (some ⟨b220, 0, none⟩), .pointer (some ⟨b235, 0, none⟩), .bool vt229, (j187 4), (j187 5), (j187 6), tV, iV x188, .pointer (some ⟨b216, of217 + (x188 : Int).toNat * 18, none⟩), (ag_Row (rd vt37 x188) A219 c219), .tuple #[(ag_Vec vt228), .bool vt229], .pointer (some ⟨b220, 1, none⟩), (ag_Box ((rd vt37 x188).Box)), .tuple #[(ag_Vec vt228), .bool vt229], (ag_Vec vt228), .bool vt229, .bool vt229, tV, tV, uV, uV, uV, tV, .pointer (some ⟨b48, 0, none⟩), .pointer (some ⟨b48, 0, none⟩), .pointer (some ⟨b48, 0, none⟩), .pointer (some ⟨b48, 3, none⟩), .slice A190 x189.length c191, iV x188, .slice (some ⟨b248, 0, none⟩) ([x188] : List Int).length 1, .slice A257 (x189 ++ ([x188] : List Int)).length c258, .pointer (some ⟨b48, 0, none⟩), .pointer (some ⟨b48, 3, none⟩), (j187 34), (j187 35), (j187 36), (j187 37), (j187 38), (j187 39), (j187 40), (j187 41), (j187 42), (j187 43), (j187 44), (j187 45), (j187 46), (j187 47), (j187 48), (j187 49), (j187 50), (j187 51), (j187 52), (j187 53), (j187 54), (j187 55), (j187 56), (j187 57), (j187 58), (j187 59), (j187 60), (j187 61), (j187 62), (j187 63), (j187 64), (j187 65), (j187 66), (j187 67), (j187 68), (j187 69), (j187 70), iV (w64 (x188 + 1))]), (L184.trans L232), HS313, HO262, h, kr⟩
         · have c245 : ¬ (¬ (vt229 = true)) := c245
           refine seqRwI 57 (x := (!vt229)) (v := false) kr (congrArg (fun b_ => !b_) (show vt229 = true from (Decidable.of_not_not c245)) : (!vt229) = false) ?_
           refine seqRwI 58 (x := (!vt229)) (v := false) kr (congrArg (fun b_ => !b_) (show vt229 = true from (Decidable.of_not_not c245)) : (!vt229) = false) ?_
           refine seqL2 kr ?_
           refine seqG kr (does_run (run_load rfl Tryz.underlying4 rfl (kv (.pointer (some ⟨b220, 15, none⟩))) (HS240.u1.cell 15)) ?_)
           refine seqL1 kr ?_
           refine nl (hK244 _ _ ?_)
           have hq_ := ite_some h; clear h; rcases hq_ with ⟨c267, h⟩ | ⟨c267, h⟩
           · have c267 : (((rd vt37 x188).When).Unknown) = true := c267
             refine wpRwI 61 kr c267 ?_
             refine wpRwI 62 kr c267 ?_
             refine condT kr ?_
             refine wp_seq_k fun K268 hK269 => rl ?_
             refine seqL4 kr ?_
             refine seqK rfl (does_run (run_load rfl Tryz.underlying22 rfl (kv (.pointer (some ⟨b48, 3, none⟩))) (HS240.u4.cell 3)) ?_)
             refine seqL1 kr ?_
             refine seqK rfl (does_lit (e := (tInt .i64)) (E := 3) (vs := #[(0, Value.int .i64 x188)]) (cs := #[.int .i64 x188]) (xs := ([x188] : List Int)) rfl Tryz.underlying22 kr kr ⟨[.int .i64 x188], _, rfl, rfl, rfl⟩ rfl HS240 ?_ (by decide))
             intro b270 W271 s272 HS273 _ HO274
             have hq_ := guard_some h; clear h; obtain ⟨c276, h⟩ := hq_
             have c276 : (x189.length + 1) * 8 ≤ 140737488355328 := c276
             have HS278 := HS273.u3.u1
             refine seqK rfl (does_append1 (e := (tInt .i64)) (E := 3) (xs := x189) (ys := ([x188] : List Int)) rfl (kv (.slice A190 x189.length c191)) (kv (.slice (some ⟨b270, 0, none⟩) ([x188] : List Int).length 1)) Tryz.underlying22 inf3 (HO193.mono L232) HO274 HS278 c276 (lim63 c276 (by decide)) ?_)
             intro A279 c280 s281 W282 HS283 HO284
             have HS285 := HS283.u4
             refine seqL2 kr ?_
             refine seqK rfl (does_store (n := 1) (vs := [.slice A279 (x189 ++ ([x188] : List Int)).length c280]) (cs' := #[.slice A43 vt37.length c44, .int .i64 level5, .slice none 0 0, .slice A279 (x189 ++ ([x188] : List Int)).length c280]) rfl kr (kv (.pointer (some ⟨b48, 3, none⟩))) (kv (.slice A279 (x189 ++ ([x188] : List Int)).length c280)) rfl rfl (ones rfl) HS285 (Nat.le_of_ble_eq_true rfl) kr ?_)
             intro W286 HS287
             refine nl (hK269 _ _ ?_)
             refine wp_exit ?_
             refine hx204 _ _ ?_
             refine hK202 _ _ ?_
             refine rl ?_
             refine seqL2 kr ?_
             refine nl ?_
             refine hK181 n182 _ _ (Nat.lt_succ_self _) ?_
             have HS319 := HS287.u5.u1.u5.u3.u5.u5
             have HS320 := HS319.drop
             have HS321 := HS320.drop
             exact ⟨f231, A279, c280, s281, (w64 (x188 + 1)), (x189 ++ ([x188] : List Int)), (jL [iV x188, .pointer (some ⟨b220, 0, none⟩), .pointer (some ⟨b235, 0, none⟩), .bool vt229, (j187 4), (j187 5), (j187 6), tV, iV x188, .pointer (some ⟨b216, of217 + (x188 : Int).toNat * 18, none⟩), (ag_Row (rd vt37 x188) A219 c219), .tuple #[(ag_Vec vt228), .bool vt229], .pointer (some ⟨b220, 1, none⟩), (ag_Box ((rd vt37 x188).Box)), .tuple #[(ag_Vec vt228), .bool vt229], (ag_Vec vt228), .bool vt229, .bool vt229, fV, fV, .pointer (some ⟨b220, 13, none⟩), .pointer (some ⟨b220, 15, none⟩), tV, tV, .pointer (some ⟨b48, 0, none⟩), .pointer (some ⟨b48, 0, none⟩), .pointer (some ⟨b48, 0, none⟩), .pointer (some ⟨b48, 3, none⟩), .slice A190 x189.length c191, iV x188, .slice (some ⟨b270, 0, none⟩) ([x188] : List Int).length 1, .slice A279 (x189 ++ ([x188] : List Int)).length c280, .pointer (some ⟨b48, 0, none⟩), .pointer (some ⟨b48, 3, none⟩), (j187 34), (j187 35), (j187 36), (j187 37), (j187 38), (j187 39), (j187 40), (j187 41), (j187 42), (j187 43), (j187 44), (j187 45), (j187 46), (j187 47), (j187 48), (j187 49), (j187 50), (j187 51), (j187 52), (j187 53), (j187 54), (j187 55), (j187 56), (j187 57), (j187 58), (j187 59), (j187 60), (j187 61), (j187 62), (j187 63), (j187 64), (j187 65), (j187 66), (j187 67), (j187 68), (j187 69), (j187 70), iV (w64 (x188 + 1))]), (L184.trans L232), HS321, HO284, h, kr⟩
           · have c267 : ¬ ((((rd vt37 x188).When).Unknown) = true) := c267
             refine wpRwI 61 kr (Bool.eq_false_iff.mpr c267) ?_
             refine wpRwI 62 kr (Bool.eq_false_iff.mpr c267) ?_
             refine condF kr ?_
             refine wp_skip ?_
             refine hK242 _ _ ?_
             refine wp_seq_k (fun K288 hK289 => ?_)
             exact nomatch h
       · have c200 : ¬ (x188 < (vt37.length : Int)) := c200
         refine wpRwI 46 kr (decide_eq_false c200) ?_
         refine condF kr ?_
         refine wp_exit ?_
         refine hx65 _ _ ?_
         exact J302 f183 A190 c191 s192 x189 (jL [(j187 0), (j187 1), (j187 2), (j187 3), (j187 4), (j187 5), (j187 6), iV x188, fV, (j187 8), (j187 9), (j187 10), (j187 11), (j187 12), (j187 13), (j187 14), (j187 15), (j187 16), (j187 17), (j187 18), (j187 19), (j187 20), (j187 21), (j187 22), (j187 23), (j187 24), (j187 25), (j187 26), (j187 27), (j187 28), (j187 29), (j187 30), (j187 31), (j187 32), (j187 33), (j187 34), (j187 35), (j187 36), (j187 37), (j187 38), (j187 39), (j187 40), (j187 41), (j187 42), (j187 43), (j187 44), (j187 45), (j187 46), (j187 47), (j187 48), (j187 49), (j187 50), (j187 51), (j187 52), (j187 53), (j187 54), (j187 55), (j187 56), (j187 57), (j187 58), (j187 59), (j187 60), (j187 61), (j187 62), (j187 63), (j187 64), (j187 65), (j187 66), (j187 67), (j187 68), (j187 69), (j187 70), (j187 71)]) W185 _ L184 h HS186 HO193 kr

set_option maxRecDepth 100000 in
set_option maxHeartbeats 4000000 in
theorem query_Index_Run_1.calls (k : Nat) (b1 : Nat) (b3 : Nat) (A10 : Option Addr) (c11 : Nat) (A13 : Option Addr) (c14 : Nat) (A16 : Option Addr) (c17 : Nat) (b5 : Nat) (A20 : Option Addr) (c21 : Nat) (b7 : Nat) (A24 : Option Addr) (c25 : Nat) (s26 : Seg) (v9 : S_Index) (v19 : S_Ask) (v23 : List S_Answer) (i29 : Int) {t w : World} {f : FM} {H : List Seg} (HS : St t w f ([(b1, .cells #[.pointer (some ⟨b3, 0, none⟩)] 66 (0, 0))] :: [(b3, .cells #[.slice A10 v9.rows.length c11, .int .i64 v9.level, .slice A13 v9.roots.length c14, .slice A16 v9.loose.length c17] 109 (0, 0))] :: [(b5, .cells #[.slice A20 v19.Cones.length c21, .int .i64 v19.From, .int .i64 v19.To, .int .i64 v19.Least, .int .i64 v19.Ban] 51 (0, 0))] :: [(b7, .cells #[.slice A24 v23.length c25] 57 (0, 0))] :: s26 :: H)) (HR12 : SlR ty_Row f A10 c11 v9.rows) (HR15 : SlR tNone f A13 c14 v9.roots) (HR18 : SlR (tInt .i64) f A16 c17 v9.loose) (HR22 : SlR ty_Cone f A20 c21 v19.Cones) (HO27 : Own ty_Answer 62 f A24 c25 s26 v23) (rr1 : List S_Answer) (h : query_Index_Run_1 k v9 v19 v23 i29 = some rr1) :
    Calls Tryz.prog 51 #[.int .i64 i29, .pointer (some ⟨b1, 0, none⟩), .pointer (some ⟨b5, 0, none⟩), .pointer (some ⟨b7, 0, none⟩)] w (fun e w' => ∃ (g : FM) (A87 : Option Addr) (c88 : Nat) (s89 : Seg), e = .returned (Value.tuple #[]) ∧ FM.le f g ∧ St t w' g (s89 :: [(b1, .cells #[.pointer (some ⟨b3, 0, none⟩)] 66 (0, 0))] :: [(b3, .cells #[.slice A10 v9.rows.length c11, .int .i64 v9.level, .slice A13 v9.roots.length c14, .slice A16 v9.loose.length c17] 109 (0, 0))] :: [(b5, .cells #[.slice A20 v19.Cones.length c21, .int .i64 v19.From, .int .i64 v19.To, .int .i64 v19.Least, .int .i64 v19.Ban] 51 (0, 0))] :: [(b7, .cells #[.slice A87 rr1.length c88] 57 (0, 0))] :: H) ∧ Own ty_Answer 62 g A87 c88 s89 rr1) := by
 unfold query_Index_Run_1 at h
 refine enter Tryz.func51 rfl (tm := #[iV i29, pV b1 0, pV b5 0, pV b7 0, uV, uV, uV, uV, uV, uV, uV, uV, uV, uV, uV, uV, uV, uV, uV, uV, uV, uV, uV, uV, uV, uV, uV, uV, uV, uV]) kr ?_
 intro B hret hnor hnp
 refine wp_seq_k (fun K30 hK31 => ?_)
 refine heldG (S := Sg t f ([(b1, .cells #[.pointer (some ⟨b3, 0, none⟩)] 66 (0, 0))] :: [(b3, .cells #[.slice A10 v9.rows.length c11, .int .i64 v9.level, .slice A13 v9.roots.length c14, .slice A16 v9.loose.length c17] 109 (0, 0))] :: [(b5, .cells #[.slice A20 v19.Cones.length c21, .int .i64 v19.From, .int .i64 v19.To, .int .i64 v19.Least, .int .i64 v19.Ban] 51 (0, 0))] :: [(b7, .cells #[.slice A24 v23.length c25] 57 (0, 0))] :: s26 :: H) []) (n := 10) kr rfl HS ?_
 intro W32 HS33
 refine takeGQ 0 [] rfl kr kr kr kr kr kr hnp (Sg.g0 (Sx.of [] fL HS33)) (fun w_ hw_ => by obtain ⟨g_, hl_, hS_⟩ := hw_.st; exact run_load rfl Tryz.underlying66 rfl (kv (.pointer (some ⟨b1, 0, none⟩))) (hS_.cell 0)) ?_
 refine takeGL [1, 2] (n := 9) (fuel := 7) #[true, true, true, false, false, false, false, false, false, false] rfl kr kr kr hnp (Sg.g0 (Sx.of [] fL HS33)) ?_
 refine takeGQ 3 [] rfl kr kr kr kr kr kr hnp (Sg.g0 (Sx.of [] fL HS33)) (fun w_ hw_ => by obtain ⟨g_, hl_, hS_⟩ := hw_.st; exact run_load rfl Tryz.underlying45 rfl (kv (.pointer (some ⟨b3, 0, none⟩))) (hS_.u1.cell 0)) ?_
 have hq_ := guard_some h; clear h; obtain ⟨c34, h⟩ := hq_
 have c34 : 0 ≤ i29 := c34
 have hq_ := guard_some h; clear h; obtain ⟨c35, h⟩ := hq_
 have c35 : i29 < (v9.rows.length : Int) := c35
 obtain ⟨b39, of40, cs36, hA41, hr37, hc38⟩ := HR12.at (i := i29) c34 c35
 obtain ⟨A42, c42, rfl, HR42⟩ := hr37
 refine takeGL [4] (n := 6) (fuel := 5) #[true, true, true, true, true, false, false, false, false, false] rfl kr kr kr hnp (Sg.g0 (Sx.of [] fL HS33)) ?_
 refine takeGQ 5 [] rfl kr kr kr kr kr kr hnp (Sg.g0 (Sx.of [] fL HS33)) (fun w_ hw_ => by obtain ⟨g_, hl_, hS_⟩ := hw_.st; exact run_indexE hA41 (sz := 18) rfl Tryz.underlying45 kr (kv (.slice A10 v9.rows.length c11)) (kv (.int .i64 i29)) c34 c35 w_) ?_
 refine takeGQ 6 [] rfl kr kr kr kr kr kr hnp (Sg.g0 (Sx.of [] fL HS33)) (fun w_ hw_ => by obtain ⟨g_, hl_, hS_⟩ := hw_.st; exact run_loadN (n := 18) rfl Tryz.underlying99 rfl kr (kv (.pointer (some ⟨b39, of40 + (i29 : Int).toNat * 18, none⟩))) (cs := [.int .i64 ((rd v9.rows i29).ID), .int .i64 ((((rd v9.rows i29).Box).X).Lo), .int .i64 ((((rd v9.rows i29).Box).X).Hi), .bool ((((rd v9.rows i29).Box).X).Unknown), .int .i64 ((((rd v9.rows i29).Box).Y).Lo), .int .i64 ((((rd v9.rows i29).Box).Y).Hi), .bool ((((rd v9.rows i29).Box).Y).Unknown), .int .i64 ((((rd v9.rows i29).Box).Z).Lo), .int .i64 ((((rd v9.rows i29).Box).Z).Hi), .bool ((((rd v9.rows i29).Box).Z).Unknown), .int .i64 (((rd v9.rows i29).Flux).Lo), .int .i64 (((rd v9.rows i29).Flux).Hi), .bool (((rd v9.rows i29).Flux).Unknown), .int .i64 (((rd v9.rows i29).When).Lo), .int .i64 (((rd v9.rows i29).When).Hi), .bool (((rd v9.rows i29).When).Unknown), .slice A42 ((rd v9.rows i29).Frames).length c42, .int .i64 ((rd v9.rows i29).Marks)]) rfl (fun j_ hj_ => ((hc38 hl_ hS_) j_ hj_))) ?_
 refine takeGQ 7 [] rfl kr kr kr kr kr kr hnp (Sg.g0 (Sx.of [] fL HS33)) (fun w_ hw_ => by obtain ⟨g_, hl_, hS_⟩ := hw_.st; exact run_loadN (n := 5) rfl Tryz.underlying51 rfl kr (kv (.pointer (some ⟨b5, 0, none⟩))) (cs := [.slice A20 v19.Cones.length c21, .int .i64 v19.From, .int .i64 v19.To, .int .i64 v19.Least, .int .i64 v19.Ban]) rfl (hS_.u2.cells 0 5 _ rfl)) ?_
 have hq_ := bind_some h; clear h; obtain ⟨vt43, hc44, h⟩ := hq_
 refine takeGE 8 kr rfl kr (does_call (f := 44) (args := #[.agg #[.int .i64 ((rd v9.rows i29).ID), .int .i64 ((((rd v9.rows i29).Box).X).Lo), .int .i64 ((((rd v9.rows i29).Box).X).Hi), .bool ((((rd v9.rows i29).Box).X).Unknown), .int .i64 ((((rd v9.rows i29).Box).Y).Lo), .int .i64 ((((rd v9.rows i29).Box).Y).Hi), .bool ((((rd v9.rows i29).Box).Y).Unknown), .int .i64 ((((rd v9.rows i29).Box).Z).Lo), .int .i64 ((((rd v9.rows i29).Box).Z).Hi), .bool ((((rd v9.rows i29).Box).Z).Unknown), .int .i64 (((rd v9.rows i29).Flux).Lo), .int .i64 (((rd v9.rows i29).Flux).Hi), .bool (((rd v9.rows i29).Flux).Unknown), .int .i64 (((rd v9.rows i29).When).Lo), .int .i64 (((rd v9.rows i29).When).Hi), .bool (((rd v9.rows i29).When).Unknown), .slice A42 ((rd v9.rows i29).Frames).length c42, .int .i64 ((rd v9.rows i29).Marks)], .agg #[.slice A20 v19.Cones.length c21, .int .i64 v19.From, .int .i64 v19.To, .int .i64 v19.Least, .int .i64 v19.Ban]]) kr (query_grade.calls k A42 c42 A20 c21 (rd v9.rows i29) v19 HS33 HR42 HR22 vt43 hc44) ?_)
 rintro _ W47 ⟨f45, rfl, L46, HS48⟩
 refine ⟨_, rfl, ?_⟩
 refine ⟨(Sg.g0 (Sx.of [] L46 HS48)), ?_⟩
 refine takeGL [9] (n := 1) (fuel := 0) #[true, true, true, true, true, true, true, true, true, true] rfl kr kr kr hnp (Sg.g0 (Sx.of [] L46 HS48)) ?_
 refine doneG kr ?_ _
 refine hK31 _ _ ?_
 refine wp_seq_k fun K49 hK50 => rl ?_
 refine seqL2 kr ?_
 refine nl (hK50 _ _ ?_)
 have hq_ := ite_some h; clear h; rcases hq_ with ⟨c52, h⟩ | ⟨c52, h⟩
 · have c52 : vt43 ≠ 0 := c52
   refine wpRwI 16 kr (bne_iff_ne.mpr c52) ?_
   refine condT kr ?_
   have HS57 := HS48.u2.u2.u2.u4.u4
   refine heldG (S := Sg t f45 ([(b1, .cells #[.pointer (some ⟨b3, 0, none⟩)] 66 (0, 0))] :: [(b3, .cells #[.slice A10 v9.rows.length c11, .int .i64 v9.level, .slice A13 v9.roots.length c14, .slice A16 v9.loose.length c17] 109 (0, 0))] :: [(b5, .cells #[.slice A20 v19.Cones.length c21, .int .i64 v19.From, .int .i64 v19.To, .int .i64 v19.Least, .int .i64 v19.Ban] 51 (0, 0))] :: H) [(12, [(b7, .cells #[.slice A24 v23.length c25] 57 (0, 0))]), (12, s26)]) (n := 14) kr rfl HS57 ?_
   intro W58 HS59
   refine takeGQ 0 [12] rfl kr kr kr kr kr kr hnp (Sg.g2 (Sx.of [[(b7, .cells #[.slice A24 v23.length c25] 57 (0, 0))], s26] fL HS59) (fun _ => St.only [] HS59 fL) (fun _ => St.only [[(b7, .cells #[.slice A24 v23.length c25] 57 (0, 0))]] HS59 fL)) (fun w_ hw_ => by obtain ⟨g_, hl_, hS_⟩ := hw_.seg (j := 12) (s := [(b7, .cells #[.slice A24 v23.length c25] 57 (0, 0))]) (by simp) (by simp); exact run_load rfl Tryz.underlying57 rfl (kv (.pointer (some ⟨b7, 0, none⟩))) (hS_.cell 0)) ?_
   refine takeGQ 1 [] rfl kr kr kr kr kr kr hnp (Sg.g2 (Sx.of [[(b7, .cells #[.slice A24 v23.length c25] 57 (0, 0))], s26] fL HS59) (fun _ => St.only [] HS59 fL) (fun _ => St.only [[(b7, .cells #[.slice A24 v23.length c25] 57 (0, 0))]] HS59 fL)) (fun w_ hw_ => by obtain ⟨g_, hl_, hS_⟩ := hw_.st; exact run_load rfl Tryz.underlying66 rfl (kv (.pointer (some ⟨b1, 0, none⟩))) (hS_.cell 0)) ?_
   refine takeGL [2, 3] (n := 12) (fuel := 10) #[true, true, true, true, false, false, false, false, false, false, false, false, false, false] rfl kr kr kr hnp (Sg.g2 (Sx.of [[(b7, .cells #[.slice A24 v23.length c25] 57 (0, 0))], s26] fL HS59) (fun _ => St.only [] HS59 fL) (fun _ => St.only [[(b7, .cells #[.slice A24 v23.length c25] 57 (0, 0))]] HS59 fL)) ?_
   refine takeGQ 4 [] rfl kr kr kr kr kr kr hnp (Sg.g2 (Sx.of [[(b7, .cells #[.slice A24 v23.length c25] 57 (0, 0))], s26] fL HS59) (fun _ => St.only [] HS59 fL) (fun _ => St.only [[(b7, .cells #[.slice A24 v23.length c25] 57 (0, 0))]] HS59 fL)) (fun w_ hw_ => by obtain ⟨g_, hl_, hS_⟩ := hw_.st; exact run_load rfl Tryz.underlying45 rfl (kv (.pointer (some ⟨b3, 0, none⟩))) (hS_.u1.cell 0)) ?_
   refine takeGL [5] (n := 9) (fuel := 8) #[true, true, true, true, true, true, false, false, false, false, false, false, false, false] rfl kr kr kr hnp (Sg.g2 (Sx.of [[(b7, .cells #[.slice A24 v23.length c25] 57 (0, 0))], s26] fL HS59) (fun _ => St.only [] HS59 fL) (fun _ => St.only [[(b7, .cells #[.slice A24 v23.length c25] 57 (0, 0))]] HS59 fL)) ?_
   refine takeGQ 6 [] rfl kr kr kr kr kr kr hnp (Sg.g2 (Sx.of [[(b7, .cells #[.slice A24 v23.length c25] 57 (0, 0))], s26] fL HS59) (fun _ => St.only [] HS59 fL) (fun _ => St.only [[(b7, .cells #[.slice A24 v23.length c25] 57 (0, 0))]] HS59 fL)) (fun w_ hw_ => by obtain ⟨g_, hl_, hS_⟩ := hw_.st; exact run_indexE hA41 (sz := 18) rfl Tryz.underlying45 kr (kv (.slice A10 v9.rows.length c11)) (kv (.int .i64 i29)) c34 c35 w_) ?_
   refine takeGL [7] (n := 7) (fuel := 6) #[true, true, true, true, true, true, true, true, false, false, false, false, false, false] rfl kr kr kr hnp (Sg.g2 (Sx.of [[(b7, .cells #[.slice A24 v23.length c25] 57 (0, 0))], s26] fL HS59) (fun _ => St.only [] HS59 fL) (fun _ => St.only [[(b7, .cells #[.slice A24 v23.length c25] 57 (0, 0))]] HS59 fL)) ?_
   refine takeGQ 8 [] rfl kr kr kr kr kr kr hnp (Sg.g2 (Sx.of [[(b7, .cells #[.slice A24 v23.length c25] 57 (0, 0))], s26] fL HS59) (fun _ => St.only [] HS59 fL) (fun _ => St.only [[(b7, .cells #[.slice A24 v23.length c25] 57 (0, 0))]] HS59 fL)) (fun w_ hw_ => by obtain ⟨g_, hl_, hS_⟩ := hw_.st; exact run_load rfl Tryz.underlying3 rfl (kv (.pointer (some ⟨b39, of40 + (i29 : Int).toNat * 18, none⟩))) ((hc38 (L46.trans hl_) hS_) 0 (by decide))) ?_
   refine takeGL [9, 10] (n := 5) (fuel := 3) #[true, true, true, true, true, true, true, true, true, true, true, false, false, false] rfl kr kr kr hnp (Sg.g2 (Sx.of [[(b7, .cells #[.slice A24 v23.length c25] 57 (0, 0))], s26] fL HS59) (fun _ => St.only [] HS59 fL) (fun _ => St.only [[(b7, .cells #[.slice A24 v23.length c25] 57 (0, 0))]] HS59 fL)) ?_
   refine takeGE 11 kr rfl kr (does_lit (e := ty_Answer) (E := 62) (vs := #[(0, Value.agg #[.int .i64 ((rd v9.rows i29).ID), .int .i64 vt43])]) (cs := #[.int .i64 ((rd v9.rows i29).ID), .int .i64 vt43]) (xs := ([(⟨(rd v9.rows i29).ID, vt43⟩ : S_Answer)] : List S_Answer)) rfl Tryz.underlying57 kr kr ⟨[.int .i64 ((rd v9.rows i29).ID), .int .i64 vt43], _, rfl, rfl, rfl⟩ rfl HS59 ?_ (by decide))
   intro b60 W61 s62 HS63 _ HO64
   refine ⟨(Sg.g2 (Sx.of [s62, [(b7, .cells #[.slice A24 v23.length c25] 57 (0, 0))], s26] fL HS63) (fun _ => St.only [s62] HS63 fL) (fun _ => St.only [s62, [(b7, .cells #[.slice A24 v23.length c25] 57 (0, 0))]] HS63 fL)), ?_⟩
   have hq_ := guard_some h; clear h; obtain ⟨c66, h⟩ := hq_
   have c66 : (v23.length + 1) * 16 ≤ 140737488355328 := c66
   have HS68 := HS63.u2.u1
   refine takeGE 12 kr rfl kr (does_append1 (e := ty_Answer) (E := 62) (xs := v23) (ys := ([(⟨(rd v9.rows i29).ID, vt43⟩ : S_Answer)] : List S_Answer)) rfl (kv (.slice A24 v23.length c25)) (kv (.slice (some ⟨b60, 0, none⟩) ([(⟨(rd v9.rows i29).ID, vt43⟩ : S_Answer)] : List S_Answer).length 1)) Tryz.underlying57 inf62 (HO27.mono L46) HO64 HS68 c66 (lim63 c66 (by decide)) ?_)
   intro A69 c70 s71 W72 HS73 HO74
   refine ⟨(Sg.g2 (Sx.of [s71, [(b7, .cells #[.slice A24 v23.length c25] 57 (0, 0))]] fL HS73) (fun hl_ => Bool.noConfusion (show true = false from hl_)) (fun hl_ => Bool.noConfusion (show true = false from hl_))), ?_⟩
   have HS75 := HS73.u1
   refine takeGE 13 kr rfl kr (does_store (n := 1) (vs := [.slice A69 (v23 ++ ([(⟨(rd v9.rows i29).ID, vt43⟩ : S_Answer)] : List S_Answer)).length c70]) (cs' := #[.slice A69 (v23 ++ ([(⟨(rd v9.rows i29).ID, vt43⟩ : S_Answer)] : List S_Answer)).length c70]) rfl kr (kv (.pointer (some ⟨b7, 0, none⟩))) (kv (.slice A69 (v23 ++ ([(⟨(rd v9.rows i29).ID, vt43⟩ : S_Answer)] : List S_Answer)).length c70)) rfl rfl (ones rfl) HS75 (Nat.le_of_ble_eq_true rfl) kr ?_)
   intro W76 HS77
   refine ⟨(Sg.g2 (Sx.of [[(b7, .cells #[.slice A69 (v23 ++ ([(⟨(rd v9.rows i29).ID, vt43⟩ : S_Answer)] : List S_Answer)).length c70] 57 (0, 0))], s71] fL HS77) (fun hl_ => Bool.noConfusion (show true = false from hl_)) (fun hl_ => Bool.noConfusion (show true = false from hl_))), ?_⟩
   refine doneG kr ?_ _
   refine hnor _ _ ?_
   refine ends_still (v := Value.tuple #[]) kr kr ?_
   have HS81 := HS77.u4.u4.u4.u4
   injection h with h
   subst h
   exact ⟨f45, A69, c70, s71, rfl, L46, HS81, HO74⟩
 · have c52 : ¬ (vt43 ≠ 0) := c52
   refine wpRwI 16 (x := (vt43 != 0)) (v := false) kr (bne_eq_false_iff_eq.mpr (Decidable.of_not_not c52)) ?_
   refine condF kr ?_
   refine wp_skip ?_
   refine hnor _ _ ?_
   refine ends_still (v := Value.tuple #[]) kr kr ?_
   have HS86 := HS48.u3.u3.u3.u3.u4
   injection h with h
   subst h
   exact ⟨f45, A24, c25, s26, rfl, L46, HS86, (HO27.mono L46)⟩

set_option maxRecDepth 100000 in
set_option maxHeartbeats 4000000 in
theorem query_walk__query_Index_Run_2__query_Index_Run_1.calls (k : Nat) (b1 : Nat) (A10 : Option Addr) (c11 : Nat) (b3 : Nat) (b5 : Nat) (A14 : Option Addr) (c15 : Nat) (A17 : Option Addr) (c18 : Nat) (A20 : Option Addr) (c21 : Nat) (b7 : Nat) (A24 : Option Addr) (c25 : Nat) (s26 : Seg) (A30 : Option Addr) (c31 : Nat) (v9 : S_Ask) (v13 : S_Index) (v23 : List S_Answer) (l29 : List Unit) {t w : World} {f : FM} {H : List Seg} (HS : St t w f ([(b1, .cells #[.slice A10 v9.Cones.length c11, .int .i64 v9.From, .int .i64 v9.To, .int .i64 v9.Least, .int .i64 v9.Ban] 51 (0, 0))] :: [(b3, .cells #[.pointer (some ⟨b5, 0, none⟩)] 66 (0, 0))] :: [(b5, .cells #[.slice A14 v13.rows.length c15, .int .i64 v13.level, .slice A17 v13.roots.length c18, .slice A20 v13.loose.length c21] 109 (0, 0))] :: [(b7, .cells #[.slice A24 v23.length c25] 57 (0, 0))] :: s26 :: H)) (HR12 : SlR ty_Cone f A10 c11 v9.Cones) (HR16 : SlR ty_Row f A14 c15 v13.rows) (HR19 : SlR tNone f A17 c18 v13.roots) (HR22 : SlR (tInt .i64) f A20 c21 v13.loose) (HO27 : Own ty_Answer 62 f A24 c25 s26 v23) (HR32 : SlR tNone f A30 c31 l29) (rr1 : Int) (rr2 : List S_Answer) (h : query_walk__query_Index_Run_2__query_Index_Run_1 k v9 v13 v23 l29 = some (rr1, rr2)) :
    Calls Tryz.prog 52 #[.slice A30 l29.length c31, .func (.func 53) #[] #[.pointer (some ⟨b1, 0, none⟩)], .func (.func 51) #[] #[.pointer (some ⟨b3, 0, none⟩), .pointer (some ⟨b1, 0, none⟩), .pointer (some ⟨b7, 0, none⟩)]] w (fun e w' => ∃ (g : FM) (A91 : Option Addr) (c92 : Nat) (s93 : Seg), e = .returned (Value.int .i64 rr1) ∧ FM.le f g ∧ St t w' g (s93 :: [(b1, .cells #[.slice A10 v9.Cones.length c11, .int .i64 v9.From, .int .i64 v9.To, .int .i64 v9.Least, .int .i64 v9.Ban] 51 (0, 0))] :: [(b3, .cells #[.pointer (some ⟨b5, 0, none⟩)] 66 (0, 0))] :: [(b5, .cells #[.slice A14 v13.rows.length c15, .int .i64 v13.level, .slice A17 v13.roots.length c18, .slice A20 v13.loose.length c21] 109 (0, 0))] :: [(b7, .cells #[.slice A91 rr2.length c92] 57 (0, 0))] :: H) ∧ Own ty_Answer 62 g A91 c92 s93 rr2) := by
 unfold query_walk__query_Index_Run_2__query_Index_Run_1 at h
 refine enter Tryz.func52 rfl (tm := #[.slice A30 l29.length c31, .func (.func 53) #[] #[pV b1 0], .func (.func 51) #[] #[pV b3 0, pV b1 0, pV b7 0], uV, uV, uV, uV, uV, uV, uV, uV, uV, uV, uV, uV, uV, uV, uV, uV, uV, uV, uV, uV, uV, uV, uV, uV, uV, uV, uV, uV, uV, uV, uV, uV, uV, uV, uV, uV, uV, uV, uV, uV, uV, uV, uV, uV, uV, uV, uV, uV, uV, uV, uV]) kr ?_
 intro B hret hnor hnp
 refine wp_seq_k fun K33 hK34 => rl ?_
 refine seqL1 kr ?_
 refine nl (hK34 _ _ ?_)
 refine wp_seq_k fun K35 hK36 => rl ?_
 refine seqL3 kr ?_
 refine nl (hK36 _ _ ?_)
 refine wp_seq_k (fun K37 hK38 => ?_)
 refine wp_seq_k fun K39 hK40 => rl ?_
 refine seqL3 kr ?_
 refine nl (hK40 _ _ ?_)
 refine blockK (fun B41 hx42 hn43 hr44 ho45 hp46 => ?_)
 have hq_ := bind_some h; clear h; obtain ⟨o47, hv81, h⟩ := hq_
 have J82 : ∀ (f75 : FM) (cost80 : Int) (j79 : Nat → Value) (W77 : World) (a_ : Act), FM.le f f75 → some (cost80) = some o47 → St t W77 f75 ([(b1, .cells #[.slice A10 v9.Cones.length c11, .int .i64 v9.From, .int .i64 v9.To, .int .i64 v9.Least, .int .i64 v9.Ban] 51 (0, 0))] :: [(b3, .cells #[.pointer (some ⟨b5, 0, none⟩)] 66 (0, 0))] :: [(b5, .cells #[.slice A14 v13.rows.length c15, .int .i64 v13.level, .slice A17 v13.roots.length c18, .slice A20 v13.loose.length c21] 109 (0, 0))] :: [(b7, .cells #[.slice A24 v23.length c25] 57 (0, 0))] :: s26 :: H) → a_ = ⟨#[.slice A30 l29.length c31, .func (.func 53) #[] #[pV b1 0], .func (.func 51) #[] #[pV b3 0, pV b1 0, pV b7 0], uV, uV, uV, iV 0, iV cost80, uV, (j79 0), uV, (j79 1), .slice A30 l29.length c31, iV (l29.length : Int), .slice A30 l29.length c31, iV (l29.length : Int), (j79 2), (j79 3), (j79 4), (j79 5), (j79 6), (j79 7), (j79 8), (j79 9), (j79 10), (j79 11), (j79 12), (j79 13), (j79 14), (j79 15), (j79 16), (j79 17), (j79 18), (j79 19), (j79 20), (j79 21), (j79 22), (j79 23), (j79 24), (j79 25), (j79 26), (j79 27), (j79 28), (j79 29), (j79 30), (j79 31), (j79 32), (j79 33), (j79 34), (j79 35), (j79 36), (j79 37), (j79 38), uV], []⟩ → K37 a_ W77 := by
  intro f75 cost80 j79 W77 a_ L76 hj83 HS78  hfr_; subst hfr_
  injection hj83 with hj83; subst hj83; try dsimp only at h
  refine hK38 _ _ ?_
  refine wp_seq_k fun K84 hK85 => rl ?_
  refine seqL2 kr ?_
  refine nl (hK85 _ _ ?_)
  refine wp_ret ?_
  refine hret _ _ ?_
  refine ends_still (v := Value.int .i64 cost80) kr kr ?_
  have HS90 := HS78.u3.u3.u3.u3.u4
  injection h with h
  injection h with h0_ h
  subst h0_ h
  exact ⟨f75, A24, c25, s26, rfl, L76, HS90, (HO27.mono L76)⟩
 clear h; have h := hv81; clear hv81
 refine loopK (fun n_ a_ w_ => ∃ (f51 : FM) (cost56 : Int) (x57 : Int) (j55 : Nat → Value), FM.le f f51 ∧ St t w_ f51 ([(b1, .cells #[.slice A10 v9.Cones.length c11, .int .i64 v9.From, .int .i64 v9.To, .int .i64 v9.Least, .int .i64 v9.Ban] 51 (0, 0))] :: [(b3, .cells #[.pointer (some ⟨b5, 0, none⟩)] 66 (0, 0))] :: [(b5, .cells #[.slice A14 v13.rows.length c15, .int .i64 v13.level, .slice A17 v13.roots.length c18, .slice A20 v13.loose.length c21] 109 (0, 0))] :: [(b7, .cells #[.slice A24 v23.length c25] 57 (0, 0))] :: s26 :: H) ∧ query_walk__query_Index_Run_2__query_Index_Run_1.l0 k l29 n_ cost56 x57 = some o47 ∧ a_ = ⟨#[.slice A30 l29.length c31, .func (.func 53) #[] #[pV b1 0], .func (.func 51) #[] #[pV b3 0, pV b1 0, pV b7 0], uV, uV, uV, iV 0, iV cost56, uV, (j55 0), uV, (j55 1), .slice A30 l29.length c31, iV (l29.length : Int), .slice A30 l29.length c31, iV (l29.length : Int), iV x57, (j55 2), (j55 3), (j55 4), (j55 5), (j55 6), (j55 7), (j55 8), (j55 9), (j55 10), (j55 11), (j55 12), (j55 13), (j55 14), (j55 15), (j55 16), (j55 17), (j55 18), (j55 19), (j55 20), (j55 21), (j55 22), (j55 23), (j55 24), (j55 25), (j55 26), (j55 27), (j55 28), (j55 29), (j55 30), (j55 31), (j55 32), (j55 33), (j55 34), (j55 35), (j55 36), (j55 37), uV], []⟩) k ⟨f, (l29.length : Int), 0, (jL []), fL, HS, h, kr⟩ ?_
 clear h
 rintro n50 _ W53 ⟨f51, cost56, x57, j55, L52, HS54, h, rfl⟩ K48 hK49
 obtain _ | n50 := n50
 · exact nomatch h
 simp only [query_walk__query_Index_Run_2__query_Index_Run_1.l0] at h
 refine wp_seq_k fun K58 hK59 => rl ?_
 refine seqL1 kr ?_
 refine nl (hK59 _ _ ?_)
 refine wp_seq_k (fun K60 hK61 => ?_)
 have hq_ := ite_some h; clear h; rcases hq_ with ⟨c63, h⟩ | ⟨c63, h⟩
 · have c63 : x57 < (l29.length : Int) := c63
   refine wpRwI 17 kr (decide_eq_true c63) ?_
   refine condT kr ?_
   refine wp_skip ?_
   refine hK61 _ _ ?_
   refine wp_seq_k (fun K64 hK65 => ?_)
   refine blockK (fun B66 hx67 hn68 hr69 ho70 hp71 => ?_)
   refine wp_seq_k (fun K73 hK74 => ?_)
   exact nomatch h
 · have c63 : ¬ (x57 < (l29.length : Int)) := c63
   refine wpRwI 17 kr (decide_eq_false c63) ?_
   refine condF kr ?_
   refine wp_exit ?_
   refine hx42 _ _ ?_
   exact J82 f51 cost56 (jL [(j55 0), (j55 1), iV x57, fV, (j55 3), (j55 4), (j55 5), (j55 6), (j55 7), (j55 8), (j55 9), (j55 10), (j55 11), (j55 12), (j55 13), (j55 14), (j55 15), (j55 16), (j55 17), (j55 18), (j55 19), (j55 20), (j55 21), (j55 22), (j55 23), (j55 24), (j55 25), (j55 26), (j55 27), (j55 28), (j55 29), (j55 30), (j55 31), (j55 32), (j55 33), (j55 34), (j55 35), (j55 36), (j55 37)]) W53 _ L52 h HS54 kr

set_option maxRecDepth 100000 in
set_option maxHeartbeats 4000000 in
theorem bits_Len64.calls (k : Nat)  (x1 : Int) {t w : World} {f : FM} {H : List Seg} (HS : St t w f (H)) (rr1 : Int) (h : bits_Len64 k x1 = some rr1) :
    Calls Tryz.prog 111 #[.int .u64 x1] w (fun e w' => ∃ (g : FM), e = .returned (Value.int .i64 rr1) ∧ FM.le f g ∧ St t w' g (H)) := by
 unfold bits_Len64 at h
 refine enter Tryz.func111 rfl (tm := #[.int .u64 x1, uV, uV, uV, uV, uV, uV, uV, uV, uV, uV, uV, uV, uV, uV, uV, uV, uV, uV, uV, uV, uV, uV, uV, uV]) kr ?_
 intro B hret hnor hnp
 refine wp_seq_k fun K2 hK3 => rl ?_
 refine seqL1 kr ?_
 refine nl (hK3 _ _ ?_)
 refine wp_seq_k (fun K4 hK5 => ?_)
 refine wp_seq_k fun K6 hK7 => rl ?_
 refine seqL2 kr ?_
 refine nl (hK7 _ _ ?_)
 have hq_ := bind_some h; clear h; obtain ⟨v8, hv19, h⟩ := hq_
 have J20 : ∀ (f12 : FM) (x17 : Int) (n18 : Int) (j16 : Nat → Value) (W14 : World) (a_ : Act), FM.le f f12 → some ((x17, n18)) = some v8 → St t W14 f12 (H) → a_ = ⟨#[.int .u64 x17, uV, iV n18, .int .u64 x1, .bool (decide (x1 ≥ 4294967296)), (j16 0), (j16 1), uV, uV, uV, uV, uV, uV, uV, uV, uV, uV, uV, uV, uV, uV, uV, uV, uV, uV], []⟩ → K4 a_ W14 := by
  intro f12 x17 n18 j16 W14 a_ L13 hj21 HS15  hfr_; subst hfr_
  injection hj21 with hj21; subst hj21; try dsimp only at h
  refine hK5 _ _ ?_
  refine wp_seq_k (fun K22 hK23 => ?_)
  refine wp_seq_k fun K24 hK25 => rl ?_
  refine seqL2 kr ?_
  refine nl (hK25 _ _ ?_)
  have hq_ := bind_some h; clear h; obtain ⟨v26, hv37, h⟩ := hq_
  have J38 : ∀ (f30 : FM) (x35 : Int) (n36 : Int) (j34 : Nat → Value) (W32 : World) (a_ : Act), FM.le f12 f30 → some ((x35, n36)) = some v26 → St t W32 f30 (H) → a_ = ⟨#[.int .u64 x35, uV, iV n36, .int .u64 x1, .bool (decide (x1 ≥ 4294967296)), (j16 0), (j16 1), .int .u64 x17, .bool (decide (x17 ≥ 65536)), (j34 0), (j34 1), (j34 2), (j34 3), uV, uV, uV, uV, uV, uV, uV, uV, uV, uV, uV, uV], []⟩ → K22 a_ W32 := by
   intro f30 x35 n36 j34 W32 a_ L31 hj39 HS33  hfr_; subst hfr_
   injection hj39 with hj39; subst hj39; try dsimp only at h
   refine hK23 _ _ ?_
   refine wp_seq_k (fun K40 hK41 => ?_)
   refine wp_seq_k fun K42 hK43 => rl ?_
   refine seqL2 kr ?_
   refine nl (hK43 _ _ ?_)
   have hq_ := ite_some h; clear h; rcases hq_ with ⟨c45, h⟩ | ⟨c45, h⟩
   · have c45 : x35 ≥ 256 := c45
     refine wpRwI 14 kr (decide_eq_true c45) ?_
     refine condT kr ?_
     refine wp_seq_k fun K46 hK47 => rl ?_
     refine seqL3 kr ?_
     refine nl (hK47 _ _ ?_)
     refine rl ?_
     refine seqL3 kr ?_
     refine nl (hK41 _ _ ?_)
     refine wp_seq_k fun K48 hK49 => rl ?_
     have hq_ := guard_some h; clear h; obtain ⟨c50, h⟩ := hq_
     have c50 : 0 ≤ (u8 (shr x35 8)) := c50
     have hq_ := guard_some h; clear h; obtain ⟨c51, h⟩ := hq_
     have c51 : (u8 (shr x35 8)) < (str0.size : Int) := c51
     refine seqL3 kr ?_
     refine seqK rfl (does_run (run_byte rfl Tryz.underlying9 (kv (.string str0)) (kv (.int .u8 (u8 (shr x35 8)))) c50 c51 W32) ?_)
     refine seqL3 kr ?_
     refine nl (hK49 _ _ ?_)
     refine wp_ret ?_
     refine hret _ _ ?_
     refine ends_still (v := Value.int .i64 (w64 ((w64 (n36 + 8)) + (w64 ((bt str0 (u8 (shr x35 8)))))))) kr kr ?_
     injection h with h
     subst h
     exact ⟨f30, rfl, (L13.trans L31), HS33⟩
   · have c45 : ¬ (x35 ≥ 256) := c45
     refine wpRwI 14 kr (decide_eq_false c45) ?_
     refine condF kr ?_
     refine wp_skip ?_
     refine hK41 _ _ ?_
     refine wp_seq_k fun K52 hK53 => rl ?_
     have hq_ := guard_some h; clear h; obtain ⟨c54, h⟩ := hq_
     have c54 : 0 ≤ (u8 (x35)) := c54
     have hq_ := guard_some h; clear h; obtain ⟨c55, h⟩ := hq_
     have c55 : (u8 (x35)) < (str0.size : Int) := c55
     refine seqL3 kr ?_
     refine seqK rfl (does_run (run_byte rfl Tryz.underlying9 (kv (.string str0)) (kv (.int .u8 (u8 (x35)))) c54 c55 W32) ?_)
     refine seqL3 kr ?_
     refine nl (hK53 _ _ ?_)
     refine wp_ret ?_
     refine hret _ _ ?_
     refine ends_still (v := Value.int .i64 (w64 (n36 + (w64 ((bt str0 (u8 (x35)))))))) kr kr ?_
     injection h with h
     subst h
     exact ⟨f30, rfl, (L13.trans L31), HS33⟩
  clear h; have h := hv37; clear hv37
  have hq_ := ite_some h; clear h; rcases hq_ with ⟨c27, h⟩ | ⟨c27, h⟩
  · have c27 : x17 ≥ 65536 := c27
    refine wpRwI 8 kr (decide_eq_true c27) ?_
    refine condT kr ?_
    refine wp_seq_k fun K28 hK29 => rl ?_
    refine seqL3 kr ?_
    refine nl (hK29 _ _ ?_)
    refine rl ?_
    refine seqL3 kr ?_
    refine nl ?_
    refine fnRwI (F := K22) 8 (x := true) (v := (decide (x17 ≥ 65536))) kr (Eq.symm (decide_eq_true c27)) ?_
    exact J38 f12 (shr x17 16) (w64 (n18 + 16)) (jL [.int .u64 x17, .int .u64 (shr x17 16), iV n18, iV (w64 (n18 + 16))]) W14 _ fL h HS15 kr
  · have c27 : ¬ (x17 ≥ 65536) := c27
    refine wpRwI 8 kr (decide_eq_false c27) ?_
    refine condF kr ?_
    refine wp_skip ?_
    refine fnRwI (F := K22) 8 (x := false) (v := (decide (x17 ≥ 65536))) kr (Eq.symm (decide_eq_false c27)) ?_
    exact J38 f12 x17 n18 (jL []) W14 _ fL h HS15 kr
 clear h; have h := hv19; clear hv19
 have hq_ := ite_some h; clear h; rcases hq_ with ⟨c9, h⟩ | ⟨c9, h⟩
 · have c9 : x1 ≥ 4294967296 := c9
   refine wpRwI 4 kr (decide_eq_true c9) ?_
   refine condT kr ?_
   refine wp_seq_k fun K10 hK11 => rl ?_
   refine seqL3 kr ?_
   refine nl (hK11 _ _ ?_)
   refine rl ?_
   refine seqL1 kr ?_
   refine nl ?_
   refine fnRwI (F := K4) 4 (x := true) (v := (decide (x1 ≥ 4294967296))) kr (Eq.symm (decide_eq_true c9)) ?_
   exact J20 f (shr x1 32) 32 (jL [.int .u64 x1, .int .u64 (shr x1 32)]) w _ fL h HS kr
 · have c9 : ¬ (x1 ≥ 4294967296) := c9
   refine wpRwI 4 kr (decide_eq_false c9) ?_
   refine condF kr ?_
   refine wp_skip ?_
   refine fnRwI (F := K4) 4 (x := false) (v := (decide (x1 ≥ 4294967296))) kr (Eq.symm (decide_eq_false c9)) ?_
   exact J20 f x1 0 (jL []) w _ fL h HS kr

set_option maxRecDepth 100000 in
set_option maxHeartbeats 4000000 in
theorem bits_Len.calls (k : Nat)  (x1 : Int) {t w : World} {f : FM} {H : List Seg} (HS : St t w f (H)) (rr1 : Int) (h : bits_Len k x1 = some rr1) :
    Calls Tryz.prog 89 #[.int .u64 x1] w (fun e w' => ∃ (g : FM), e = .returned (Value.int .i64 rr1) ∧ FM.le f g ∧ St t w' g (H)) := by
 unfold bits_Len at h
 refine enter Tryz.func89 rfl (tm := #[.int .u64 x1, uV, uV, uV, uV, uV, uV, uV]) kr ?_
 intro B hret hnor hnp
 refine wp_seq_k fun K2 hK3 => rl ?_
 refine seqL1 kr ?_
 refine nl (hK3 _ _ ?_)
 refine wp_seq_k (fun K4 hK5 => ?_)
 refine condF kr ?_
 refine wp_skip ?_
 refine hK5 _ _ ?_
 refine wp_seq_k fun K6 hK7 => rl ?_
 have hq_ := bind_some h; clear h; obtain ⟨vt8, hc9, h⟩ := hq_
 refine seqL1 kr ?_
 refine seqK rfl (does_call (f := 111) (args := #[.int .u64 x1]) kr (bits_Len64.calls k x1 HS vt8 hc9) ?_)
 rintro _ W12 ⟨f10, rfl, L11, HS13⟩
 refine ⟨_, rfl, ?_⟩
 refine seqL1 kr ?_
 refine nl (hK7 _ _ ?_)
 refine wp_ret ?_
 refine hret _ _ ?_
 refine ends_still (v := Value.int .i64 vt8) kr kr ?_
 injection h with h
 subst h
 exact ⟨f10, rfl, L11, HS13⟩

set_option maxRecDepth 100000 in
set_option maxHeartbeats 4000000 in
theorem query_Index_Run_3.calls (k : Nat)  (a1 : S_Answer) (b2 : S_Answer) {t w : World} {f : FM} {H : List Seg} (HS : St t w f (H)) (rr1 : Int) (h : query_Index_Run_3 k a1 b2 = some rr1) :
    Calls Tryz.prog 57 #[.agg #[.int .i64 a1.ID, .int .i64 a1.Grade], .agg #[.int .i64 b2.ID, .int .i64 b2.Grade]] w (fun e w' => ∃ (g : FM), e = .returned (Value.int .i64 rr1) ∧ FM.le f g ∧ St t w' g (H)) := by
 unfold query_Index_Run_3 at h
 refine enter Tryz.func57 rfl (tm := #[.agg #[iV a1.ID, iV a1.Grade], .agg #[iV b2.ID, iV b2.Grade], uV, uV, uV, uV, uV, uV, uV, uV]) kr ?_
 intro B hret hnor hnp
 refine wp_seq_k fun K3 hK4 => rl ?_
 refine seqK rfl (does_box (cs := #[.int .i64 a1.ID, .int .i64 a1.Grade]) rfl (kv (.agg #[.int .i64 a1.ID, .int .i64 a1.Grade])) rfl HS ?_)
 intro b5 W6 HS7
 refine seqK rfl (does_box (cs := #[.int .i64 b2.ID, .int .i64 b2.Grade]) rfl (kv (.agg #[.int .i64 b2.ID, .int .i64 b2.Grade])) rfl HS7 ?_)
 intro b9 W10 HS11
 refine seqL1 kr ?_
 refine nl (hK4 _ _ ?_)
 refine wp_seq_k fun K13 hK14 => rl ?_
 refine seqL1 kr ?_
 refine seqK rfl (does_run (run_load rfl Tryz.underlying3 rfl (kv (.pointer (some ⟨b5, 0, none⟩))) (HS11.u1.cell 0)) ?_)
 refine seqL1 kr ?_
 refine seqK rfl (does_run (run_load rfl Tryz.underlying3 rfl (kv (.pointer (some ⟨b9, 0, none⟩))) (HS11.cell 0)) ?_)
 refine seqL2 kr ?_
 refine nl (hK14 _ _ ?_)
 refine wp_ret ?_
 refine hret _ _ ?_
 refine ends_still (v := Value.int .i64 (w64 (a1.ID - b2.ID))) kr kr ?_
 have HS15 := HS11.drop
 have HS16 := HS15.drop
 injection h with h
 subst h
 exact ⟨f, rfl, FM.le.refl _, HS16⟩

set_option maxRecDepth 100000 in
set_option maxHeartbeats 4000000 in
theorem slices_insertionSortCmpFunc_Answer__query_Index_Run_3.calls (k : Nat) (A1 : Option Addr) (c2 : Nat) (s3 : Seg) (data5 : List S_Answer) (a7 : Int) (b8 : Int) {t w : World} {f : FM} {H : List Seg} (HS : St t w f (s3 :: H)) (HO4 : Own ty_Answer 62 f A1 c2 s3 data5) (rr1 : List S_Answer) (h : slices_insertionSortCmpFunc_Answer__query_Index_Run_3 k data5 a7 b8 = some rr1) :
    Calls Tryz.prog 102 #[.slice A1 data5.length c2, .int .i64 a7, .int .i64 b8, .func (.func 57) #[] #[]] w (fun e w' => ∃ (g : FM) (s399 : Seg), e = .returned (Value.tuple #[]) ∧ FM.le f g ∧ St t w' g (s399 :: H) ∧ Own ty_Answer 62 g A1 c2 s399 rr1 ∧ rr1.length = data5.length) := by
 unfold slices_insertionSortCmpFunc_Answer__query_Index_Run_3 at h
 refine enter Tryz.func102 rfl (tm := #[.slice A1 data5.length c2, iV a7, iV b8, .func (.func 57) #[] #[], uV, uV, uV, uV, uV, uV, uV, uV, uV, uV, uV, uV, uV, uV, uV, uV, uV, uV, uV, uV, uV, uV, uV, uV, uV, uV, uV, uV, uV, uV, uV, uV, uV, uV, uV, uV, uV, uV, uV, uV, uV, uV, uV, uV, uV, uV, uV, uV, uV]) kr ?_
 intro B hret hnor hnp
 refine wp_seq_k fun K9 hK10 => rl ?_
 refine seqL3 kr ?_
 refine nl (hK10 _ _ ?_)
 refine blockK (fun B11 hx12 hn13 hr14 ho15 hp16 => ?_)
 have hq_ := bind_some h; clear h; obtain ⟨o200, hv396, h⟩ := hq_
 have J397 : ∀ (f387 : FM) (s393 : Seg) (data392 : List S_Answer) (j391 : Nat → Value) (W389 : World) (a_ : Act), FM.le f f387 → some (data392) = some o200 → St t W389 f387 (s393 :: H) → Own ty_Answer 62 f387 A1 c2 s393 data392 → data392.length = data5.length → a_ = ⟨#[.slice A1 data392.length c2, iV a7, iV b8, .func (.func 57) #[] #[], uV, uV, uV, uV, (j391 0), (j391 1), iV a7, iV (w64 (a7 + 1)), (j391 2), (j391 3), (j391 4), (j391 5), (j391 6), (j391 7), (j391 8), (j391 9), (j391 10), (j391 11), (j391 12), (j391 13), (j391 14), (j391 15), (j391 16), (j391 17), (j391 18), (j391 19), (j391 20), (j391 21), (j391 22), (j391 23), (j391 24), (j391 25), (j391 26), (j391 27), (j391 28), (j391 29), (j391 30), (j391 31), (j391 32), (j391 33), (j391 34), (j391 35), (j391 36), (j391 37), (j391 38), (j391 39), (j391 40), (j391 41), (j391 42)], []⟩ → B Exit.normal a_ W389 := by
  intro f387 s393 data392 j391 W389 a_ L388 hj398 HS390 HO394 HL395 hfr_; subst hfr_
  injection hj398 with hj398; subst hj398; try dsimp only at h
  refine hnor _ _ ?_
  refine ends_still (v := Value.tuple #[]) kr kr ?_
  injection h with h
  subst h
  exact ⟨f387, s393, rfl, L388, HS390, HO394, HL395⟩
 clear h; have h := hv396; clear hv396
 refine loopK (fun n_ a_ w_ => ∃ (f204 : FM) (s210 : Seg) (data209 : List S_Answer) (i213 : Int) (j208 : Nat → Value), FM.le f f204 ∧ St t w_ f204 (s210 :: H) ∧ Own ty_Answer 62 f204 A1 c2 s210 data209 ∧ data209.length = data5.length ∧ slices_insertionSortCmpFunc_Answer__query_Index_Run_3.l0 k b8 a7 n_ data209 i213 = some o200 ∧ a_ = ⟨#[.slice A1 data209.length c2, iV a7, iV b8, .func (.func 57) #[] #[], uV, uV, uV, uV, iV i213, (j208 0), iV a7, iV (w64 (a7 + 1)), (j208 1), (j208 2), (j208 3), (j208 4), (j208 5), (j208 6), (j208 7), (j208 8), (j208 9), (j208 10), (j208 11), (j208 12), (j208 13), (j208 14), (j208 15), (j208 16), (j208 17), (j208 18), (j208 19), (j208 20), (j208 21), (j208 22), (j208 23), (j208 24), (j208 25), (j208 26), (j208 27), (j208 28), (j208 29), (j208 30), (j208 31), (j208 32), (j208 33), (j208 34), (j208 35), (j208 36), (j208 37), (j208 38), (j208 39), (j208 40), (j208 41)], []⟩) k ⟨f, s3, data5, (w64 (a7 + 1)), (jL []), fL, HS, HO4, rfl, h, kr⟩ ?_
 clear h
 rintro n203 _ W206 ⟨f204, s210, data209, i213, j208, L205, HS207, HO211, HL212, h, rfl⟩ K201 hK202
 obtain _ | n203 := n203
 · exact nomatch h
 simp only [slices_insertionSortCmpFunc_Answer__query_Index_Run_3.l0] at h
 refine wp_seq_k (fun K214 hK215 => ?_)
 refine wp_seq_k fun K216 hK217 => rl ?_
 refine seqL3 kr ?_
 refine nl (hK217 _ _ ?_)
 have hq_ := ite_some h; clear h; rcases hq_ with ⟨c219, h⟩ | ⟨c219, h⟩
 · have c219 : i213 < b8 := c219
   refine wpRwI 14 kr (decide_eq_true c219) ?_
   refine condT kr ?_
   refine wp_skip ?_
   refine hK215 _ _ ?_
   refine wp_seq_k (fun K220 hK221 => ?_)
   refine blockK (fun B222 hx223 hn224 hr225 ho226 hp227 => ?_)
   refine wp_seq_k fun K229 hK230 => rl ?_
   refine seqL2 kr ?_
   refine nl (hK230 _ _ ?_)
   refine blockK (fun B231 hx232 hn233 hr234 ho235 hp236 => ?_)
   have hq_ := bind_some h; clear h; obtain ⟨o304, hv384, h⟩ := hq_
   have J385 : ∀ (f375 : FM) (s381 : Seg) (data380 : List S_Answer) (j379 : Nat → Value) (W377 : World) (a_ : Act), FM.le f204 f375 → some (data380) = some o304 → St t W377 f375 (s381 :: H) → Own ty_Answer 62 f375 A1 c2 s381 data380 → data380.length = data209.length → a_ = ⟨#[.slice A1 data380.length c2, iV a7, iV b8, .func (.func 57) #[] #[], uV, uV, uV, uV, iV i213, (j379 0), iV a7, iV (w64 (a7 + 1)), iV i213, iV b8, tV, (j208 4), (j208 5), iV i213, (j379 1), (j379 2), (j379 3), (j379 4), (j379 5), (j379 6), (j379 7), (j379 8), (j379 9), (j379 10), (j379 11), (j379 12), (j379 13), (j379 14), (j379 15), (j379 16), (j379 17), (j379 18), (j379 19), (j379 20), (j379 21), (j379 22), (j379 23), (j379 24), (j379 25), (j379 26), (j379 27), (j379 28), (j379 29), (j379 30), (j379 31), (j379 32), (j379 33), (j379 34), (j379 35)], []⟩ → B222 Exit.normal a_ W377 := by
    intro f375 s381 data380 j379 W377 a_ L376 hj386 HS378 HO382 HL383 hfr_; subst hfr_
    injection hj386 with hj386; subst hj386; try dsimp only at h
    refine hn224 _ _ ?_
    refine hK221 _ _ ?_
    refine rl ?_
    refine seqL3 kr ?_
    refine nl ?_
    refine hK202 n203 _ _ (Nat.lt_succ_self _) ?_
    exact ⟨f375, s381, data380, (w64 (i213 + 1)), (jL [(j379 0), iV i213, iV b8, tV, iV i213, iV (w64 (i213 + 1)), iV i213, (j379 1), (j379 2), (j379 3), (j379 4), (j379 5), (j379 6), (j379 7), (j379 8), (j379 9), (j379 10), (j379 11), (j379 12), (j379 13), (j379 14), (j379 15), (j379 16), (j379 17), (j379 18), (j379 19), (j379 20), (j379 21), (j379 22), (j379 23), (j379 24), (j379 25), (j379 26), (j379 27), (j379 28), (j379 29), (j379 30), (j379 31), (j379 32), (j379 33), (j379 34), (j379 35)]), (L205.trans L376), HS378, HO382, (HL383.trans HL212), h, kr⟩
   clear h; have h := hv384; clear hv384
   refine loopK (fun n_ a_ w_ => ∃ (f308 : FM) (s314 : Seg) (data313 : List S_Answer) (j317 : Int) (j312 : Nat → Value), FM.le f204 f308 ∧ St t w_ f308 (s314 :: H) ∧ Own ty_Answer 62 f308 A1 c2 s314 data313 ∧ data313.length = data209.length ∧ slices_insertionSortCmpFunc_Answer__query_Index_Run_3.l1 k a7 n_ data313 j317 = some o304 ∧ a_ = ⟨#[.slice A1 data313.length c2, iV a7, iV b8, .func (.func 57) #[] #[], uV, uV, uV, uV, iV i213, iV j317, iV a7, iV (w64 (a7 + 1)), iV i213, iV b8, tV, (j208 4), (j208 5), iV i213, (j312 0), (j312 1), (j312 2), (j312 3), (j312 4), (j312 5), (j312 6), (j312 7), (j312 8), (j312 9), (j312 10), (j312 11), (j312 12), (j312 13), (j312 14), (j312 15), (j312 16), (j312 17), (j312 18), (j312 19), (j312 20), (j312 21), (j312 22), (j312 23), (j312 24), (j312 25), (j312 26), (j312 27), (j312 28), (j312 29), (j312 30), (j312 31), (j312 32), (j312 33), (j312 34)], []⟩) k ⟨f204, s210, data209, i213, (jL [(j208 7), (j208 8), (j208 9), (j208 10), (j208 11), (j208 12), (j208 13), (j208 14), (j208 15), (j208 16), (j208 17), (j208 18), (j208 19), (j208 20), (j208 21), (j208 22), (j208 23), (j208 24), (j208 25), (j208 26), (j208 27), (j208 28), (j208 29), (j208 30), (j208 31), (j208 32), (j208 33), (j208 34), (j208 35), (j208 36), (j208 37), (j208 38), (j208 39), (j208 40), (j208 41)]), fL, HS207, HO211, rfl, h, kr⟩ ?_
   clear h
   rintro n307 _ W310 ⟨f308, s314, data313, j317, j312, L309, HS311, HO315, HL316, h, rfl⟩ K305 hK306
   obtain _ | n307 := n307
   · exact nomatch h
   simp only [slices_insertionSortCmpFunc_Answer__query_Index_Run_3.l1] at h
   refine wp_seq_k (fun K318 hK319 => ?_)
   refine wp_seq_k (fun K320 hK321 => ?_)
   refine heldG (S := Sg t f308 (s314 :: H) []) (n := 17) kr rfl HS311 ?_
   intro W322 HS323
   refine takeGL [0, 1, 2, 3] (n := 17) (fuel := 13) #[true, true, true, true, false, false, false, false, false, false, false, false, false, false, false, false, false] rfl kr kr kr (fun ch_ a_ w_ q_ => (fun ch_ a_ w_ q_ => (fun ch_ a_ w_ q_ => hnp ch_ a_ w_ (hp16 ch_ a_ w_ q_)) ch_ a_ w_ (hp227 ch_ a_ w_ q_)) ch_ a_ w_ (hp236 ch_ a_ w_ q_)) (Sg.g0 (Sx.of [] fL HS323)) ?_
   have hq_ := ite_some h; clear h; rcases hq_ with ⟨c324, h⟩ | ⟨c324, h⟩
   · have c324 : j317 > a7 := c324
     refine gateRwI 20 (x := (decide (j317 > a7))) (v := true) kr (decide_eq_true c324) ?_
     refine gateRwI 21 (x := (decide (j317 > a7))) (v := true) kr (decide_eq_true c324) ?_
     have hq_ := guard_some h; clear h; obtain ⟨c325, h⟩ := hq_
     have c325 : 0 ≤ j317 := c325
     have hq_ := guard_some h; clear h; obtain ⟨c326, h⟩ := hq_
     have c326 : j317 < (data313.length : Int) := c326
     obtain ⟨b330, of331, cs327, hA332, hr328, hc329⟩ := HO315.at (i := j317) c325 c326
     obtain rfl := hr328
     refine takeGL [4, 5, 6] (n := 13) (fuel := 10) #[true, true, true, true, true, true, true, false, false, false, false, false, false, false, false, false, false] rfl kr kr kr (fun ch_ a_ w_ q_ => (fun ch_ a_ w_ q_ => (fun ch_ a_ w_ q_ => hnp ch_ a_ w_ (hp16 ch_ a_ w_ q_)) ch_ a_ w_ (hp227 ch_ a_ w_ q_)) ch_ a_ w_ (hp236 ch_ a_ w_ q_)) (Sg.g0 (Sx.of [] fL HS323)) ?_
     refine takeGQ 7 [] rfl kr kr kr kr kr kr (fun ch_ a_ w_ q_ => (fun ch_ a_ w_ q_ => (fun ch_ a_ w_ q_ => hnp ch_ a_ w_ (hp16 ch_ a_ w_ q_)) ch_ a_ w_ (hp227 ch_ a_ w_ q_)) ch_ a_ w_ (hp236 ch_ a_ w_ q_)) (Sg.g0 (Sx.of [] fL HS323)) (fun w_ hw_ => by obtain ⟨g_, hl_, hS_⟩ := hw_.st; exact run_indexE hA332 (sz := 2) rfl Tryz.underlying57 kr (kv (.slice A1 data313.length c2)) (kv (.int .i64 j317)) c325 c326 w_) ?_
     refine takeGQ 8 [] rfl kr kr kr kr kr kr (fun ch_ a_ w_ q_ => (fun ch_ a_ w_ q_ => (fun ch_ a_ w_ q_ => hnp ch_ a_ w_ (hp16 ch_ a_ w_ q_)) ch_ a_ w_ (hp227 ch_ a_ w_ q_)) ch_ a_ w_ (hp236 ch_ a_ w_ q_)) (Sg.g0 (Sx.of [] fL HS323)) (fun w_ hw_ => by obtain ⟨g_, hl_, hS_⟩ := hw_.st; exact run_loadN (n := 2) rfl Tryz.underlying62 rfl kr (kv (.pointer (some ⟨b330, of331 + (j317 : Int).toNat * 2, none⟩))) (cs := [.int .i64 ((rd data313 j317).ID), .int .i64 ((rd data313 j317).Grade)]) rfl (fun j_ hj_ => ((hc329 hS_) j_ hj_))) ?_
     have hq_ := guard_some h; clear h; obtain ⟨c333, h⟩ := hq_
     have c333 : 0 ≤ (w64 (j317 - 1)) := c333
     have hq_ := guard_some h; clear h; obtain ⟨c334, h⟩ := hq_
     have c334 : (w64 (j317 - 1)) < (data313.length : Int) := c334
     obtain ⟨b338, of339, cs335, hA340, hr336, hc337⟩ := HO315.at (i := w64 (j317 - 1)) c333 c334
     obtain rfl := hr336
     refine takeGL [9, 10, 11] (n := 8) (fuel := 5) #[true, true, true, true, true, true, true, true, true, true, true, true, false, false, false, false, false] rfl kr kr kr (fun ch_ a_ w_ q_ => (fun ch_ a_ w_ q_ => (fun ch_ a_ w_ q_ => hnp ch_ a_ w_ (hp16 ch_ a_ w_ q_)) ch_ a_ w_ (hp227 ch_ a_ w_ q_)) ch_ a_ w_ (hp236 ch_ a_ w_ q_)) (Sg.g0 (Sx.of [] fL HS323)) ?_
     refine takeGQ 12 [] rfl kr kr kr kr kr kr (fun ch_ a_ w_ q_ => (fun ch_ a_ w_ q_ => (fun ch_ a_ w_ q_ => hnp ch_ a_ w_ (hp16 ch_ a_ w_ q_)) ch_ a_ w_ (hp227 ch_ a_ w_ q_)) ch_ a_ w_ (hp236 ch_ a_ w_ q_)) (Sg.g0 (Sx.of [] fL HS323)) (fun w_ hw_ => by obtain ⟨g_, hl_, hS_⟩ := hw_.st; exact run_indexE hA340 (sz := 2) rfl Tryz.underlying57 kr (kv (.slice A1 data313.length c2)) (kv (.int .i64 (w64 (j317 - 1)))) c333 c334 w_) ?_
     refine takeGQ 13 [] rfl kr kr kr kr kr kr (fun ch_ a_ w_ q_ => (fun ch_ a_ w_ q_ => (fun ch_ a_ w_ q_ => hnp ch_ a_ w_ (hp16 ch_ a_ w_ q_)) ch_ a_ w_ (hp227 ch_ a_ w_ q_)) ch_ a_ w_ (hp236 ch_ a_ w_ q_)) (Sg.g0 (Sx.of [] fL HS323)) (fun w_ hw_ => by obtain ⟨g_, hl_, hS_⟩ := hw_.st; exact run_loadN (n := 2) rfl Tryz.underlying62 rfl kr (kv (.pointer (some ⟨b338, of339 + (w64 (j317 - 1) : Int).toNat * 2, none⟩))) (cs := [.int .i64 ((rd data313 (w64 (j317 - 1))).ID), .int .i64 ((rd data313 (w64 (j317 - 1))).Grade)]) rfl (fun j_ hj_ => ((hc337 hS_) j_ hj_))) ?_
     have hq_ := bind_some h; clear h; obtain ⟨vt341, hc342, h⟩ := hq_
     refine takeGE 14 kr rfl kr (does_call (f := 57) (args := #[.agg #[.int .i64 ((rd data313 j317).ID), .int .i64 ((rd data313 j317).Grade)], .agg #[.int .i64 ((rd data313 (w64 (j317 - 1))).ID), .int .i64 ((rd data313 (w64 (j317 - 1))).Grade)]]) kr (query_Index_Run_3.calls k (rd data313 j317) (rd data313 (w64 (j317 - 1))) HS323 vt341 hc342) ?_)
     rintro _ W345 ⟨f343, rfl, L344, HS346⟩
     refine ⟨_, rfl, ?_⟩
     refine ⟨(Sg.g0 (Sx.of [] L344 HS346)), ?_⟩
     refine takeGL [15, 16] (n := 2) (fuel := 0) #[true, true, true, true, true, true, true, true, true, true, true, true, true, true, true, true, true] rfl kr kr kr (fun ch_ a_ w_ q_ => (fun ch_ a_ w_ q_ => (fun ch_ a_ w_ q_ => hnp ch_ a_ w_ (hp16 ch_ a_ w_ q_)) ch_ a_ w_ (hp227 ch_ a_ w_ q_)) ch_ a_ w_ (hp236 ch_ a_ w_ q_)) (Sg.g0 (Sx.of [] L344 HS346)) ?_
     refine doneG kr ?_ _
     refine hK321 _ _ ?_
     have hq_ := ite_some h; clear h; rcases hq_ with ⟨c348, h⟩ | ⟨c348, h⟩
     · have c348 : vt341 < 0 := c348
       refine wpRwI 33 kr (decide_eq_true c348) ?_
       refine wpRwI 34 kr (decide_eq_true c348) ?_
       refine condT kr ?_
       refine wp_skip ?_
       refine hK319 _ _ ?_
       refine wp_seq_k (fun K349 hK350 => ?_)
       refine blockK (fun B351 hx352 hn353 hr354 ho355 hp356 => ?_)
       refine heldG (S := Sg t f343 (H) [(15, s314)]) (n := 18) kr rfl HS346 ?_
       intro W358 HS359
       refine takeGL [0, 1, 2, 3, 4, 5, 6, 7] (n := 18) (fuel := 10) #[true, true, true, true, true, true, true, true, false, false, false, false, false, false, false, false, false, false] rfl kr kr kr (fun ch_ a_ w_ q_ => (fun ch_ a_ w_ q_ => (fun ch_ a_ w_ q_ => (fun ch_ a_ w_ q_ => hnp ch_ a_ w_ (hp16 ch_ a_ w_ q_)) ch_ a_ w_ (hp227 ch_ a_ w_ q_)) ch_ a_ w_ (hp236 ch_ a_ w_ q_)) ch_ a_ w_ (hp356 ch_ a_ w_ q_)) (Sg.g1 (Sx.of [s314] fL HS359) (fun _ => St.only [] HS359 fL)) ?_
       refine takeGQ 8 [] rfl kr kr kr kr kr kr (fun ch_ a_ w_ q_ => (fun ch_ a_ w_ q_ => (fun ch_ a_ w_ q_ => (fun ch_ a_ w_ q_ => hnp ch_ a_ w_ (hp16 ch_ a_ w_ q_)) ch_ a_ w_ (hp227 ch_ a_ w_ q_)) ch_ a_ w_ (hp236 ch_ a_ w_ q_)) ch_ a_ w_ (hp356 ch_ a_ w_ q_)) (Sg.g1 (Sx.of [s314] fL HS359) (fun _ => St.only [] HS359 fL)) (fun w_ hw_ => by obtain ⟨g_, hl_, hS_⟩ := hw_.st; exact run_indexE hA340 (sz := 2) rfl Tryz.underlying57 kr (kv (.slice A1 data313.length c2)) (kv (.int .i64 (w64 (j317 - 1)))) c333 c334 w_) ?_
       refine takeGQ 9 [15] rfl kr kr kr kr kr kr (fun ch_ a_ w_ q_ => (fun ch_ a_ w_ q_ => (fun ch_ a_ w_ q_ => (fun ch_ a_ w_ q_ => hnp ch_ a_ w_ (hp16 ch_ a_ w_ q_)) ch_ a_ w_ (hp227 ch_ a_ w_ q_)) ch_ a_ w_ (hp236 ch_ a_ w_ q_)) ch_ a_ w_ (hp356 ch_ a_ w_ q_)) (Sg.g1 (Sx.of [s314] fL HS359) (fun _ => St.only [] HS359 fL)) (fun w_ hw_ => by obtain ⟨g_, hl_, hS_⟩ := hw_.seg (j := 15) (s := s314) (by simp) (by simp); exact run_loadN (n := 2) rfl Tryz.underlying62 rfl kr (kv (.pointer (some ⟨b338, of339 + (w64 (j317 - 1) : Int).toNat * 2, none⟩))) (cs := [.int .i64 ((rd data313 (w64 (j317 - 1))).ID), .int .i64 ((rd data313 (w64 (j317 - 1))).Grade)]) rfl (fun j_ hj_ => ((hc337 hS_) j_ hj_))) ?_
       refine takeGL [10, 11] (n := 8) (fuel := 6) #[true, true, true, true, true, true, true, true, true, true, true, true, false, false, false, false, false, false] rfl kr kr kr (fun ch_ a_ w_ q_ => (fun ch_ a_ w_ q_ => (fun ch_ a_ w_ q_ => (fun ch_ a_ w_ q_ => hnp ch_ a_ w_ (hp16 ch_ a_ w_ q_)) ch_ a_ w_ (hp227 ch_ a_ w_ q_)) ch_ a_ w_ (hp236 ch_ a_ w_ q_)) ch_ a_ w_ (hp356 ch_ a_ w_ q_)) (Sg.g1 (Sx.of [s314] fL HS359) (fun _ => St.only [] HS359 fL)) ?_
       refine takeGQ 12 [] rfl kr kr kr kr kr kr (fun ch_ a_ w_ q_ => (fun ch_ a_ w_ q_ => (fun ch_ a_ w_ q_ => (fun ch_ a_ w_ q_ => hnp ch_ a_ w_ (hp16 ch_ a_ w_ q_)) ch_ a_ w_ (hp227 ch_ a_ w_ q_)) ch_ a_ w_ (hp236 ch_ a_ w_ q_)) ch_ a_ w_ (hp356 ch_ a_ w_ q_)) (Sg.g1 (Sx.of [s314] fL HS359) (fun _ => St.only [] HS359 fL)) (fun w_ hw_ => by obtain ⟨g_, hl_, hS_⟩ := hw_.st; exact run_indexE hA332 (sz := 2) rfl Tryz.underlying57 kr (kv (.slice A1 data313.length c2)) (kv (.int .i64 j317)) c325 c326 w_) ?_
       refine takeGQ 13 [15] rfl kr kr kr kr kr kr (fun ch_ a_ w_ q_ => (fun ch_ a_ w_ q_ => (fun ch_ a_ w_ q_ => (fun ch_ a_ w_ q_ => hnp ch_ a_ w_ (hp16 ch_ a_ w_ q_)) ch_ a_ w_ (hp227 ch_ a_ w_ q_)) ch_ a_ w_ (hp236 ch_ a_ w_ q_)) ch_ a_ w_ (hp356 ch_ a_ w_ q_)) (Sg.g1 (Sx.of [s314] fL HS359) (fun _ => St.only [] HS359 fL)) (fun w_ hw_ => by obtain ⟨g_, hl_, hS_⟩ := hw_.seg (j := 15) (s := s314) (by simp) (by simp); exact run_loadN (n := 2) rfl Tryz.underlying62 rfl kr (kv (.pointer (some ⟨b330, of331 + (j317 : Int).toNat * 2, none⟩))) (cs := [.int .i64 ((rd data313 j317).ID), .int .i64 ((rd data313 j317).Grade)]) rfl (fun j_ hj_ => ((hc329 hS_) j_ hj_))) ?_
       refine takeGQ 14 [] rfl kr kr kr kr kr kr (fun ch_ a_ w_ q_ => (fun ch_ a_ w_ q_ => (fun ch_ a_ w_ q_ => (fun ch_ a_ w_ q_ => hnp ch_ a_ w_ (hp16 ch_ a_ w_ q_)) ch_ a_ w_ (hp227 ch_ a_ w_ q_)) ch_ a_ w_ (hp236 ch_ a_ w_ q_)) ch_ a_ w_ (hp356 ch_ a_ w_ q_)) (Sg.g1 (Sx.of [s314] fL HS359) (fun _ => St.only [] HS359 fL)) (fun w_ hw_ => by obtain ⟨g_, hl_, hS_⟩ := hw_.st; exact run_indexE hA332 (sz := 2) rfl Tryz.underlying57 kr (kv (.slice A1 data313.length c2)) (kv (.int .i64 j317)) c325 c326 w_) ?_
       refine takeGE 15 kr rfl kr (does_put (e := ty_Answer) (E := 62) (vs := [.int .i64 ((rd data313 (w64 (j317 - 1))).ID), .int .i64 ((rd data313 (w64 (j317 - 1))).Grade)]) (u := (rd data313 (w64 (j317 - 1)))) (i := j317) rfl kr (HO315.mono L344) HS359 hA332 (kv (.pointer (some ⟨b330, of331 + (j317 : Int).toNat * 2, none⟩))) (kv (.agg #[.int .i64 ((rd data313 (w64 (j317 - 1))).ID), .int .i64 ((rd data313 (w64 (j317 - 1))).Grade)])) rfl rfl c325 c326 ?_)
       intro W360 s361 HS362 HO363
       refine ⟨(Sg.g1 (Sx.of [s361] fL HS362) (fun hl_ => Bool.noConfusion (show true = false from hl_))), ?_⟩
       refine gateRwS 0 (A := A1) (m := data313.length) (n := (data313.set (j317).toNat (rd data313 (w64 (j317 - 1)))).length) (c := c2) kr (List.length_set).symm ?_
       refine gateRwS 23 (A := A1) (m := data313.length) (n := (data313.set (j317).toNat (rd data313 (w64 (j317 - 1)))).length) (c := c2) kr (List.length_set).symm ?_
       refine gateRwS 27 (A := A1) (m := data313.length) (n := (data313.set (j317).toNat (rd data313 (w64 (j317 - 1)))).length) (c := c2) kr (List.length_set).symm ?_
       refine gateRwS 37 (A := A1) (m := data313.length) (n := (data313.set (j317).toNat (rd data313 (w64 (j317 - 1)))).length) (c := c2) kr (List.length_set).symm ?_
       refine gateRwS 39 (A := A1) (m := data313.length) (n := (data313.set (j317).toNat (rd data313 (w64 (j317 - 1)))).length) (c := c2) kr (List.length_set).symm ?_
       refine gateRwS 42 (A := A1) (m := data313.length) (n := (data313.set (j317).toNat (rd data313 (w64 (j317 - 1)))).length) (c := c2) kr (List.length_set).symm ?_
       refine gateRwS 47 (A := A1) (m := data313.length) (n := (data313.set (j317).toNat (rd data313 (w64 (j317 - 1)))).length) (c := c2) kr (List.length_set).symm ?_
       have hq_ := guard_some h; clear h; obtain ⟨c364, h⟩ := hq_
       have c364 : (w64 (j317 - 1)) < ((data313.set (j317).toNat (rd data313 (w64 (j317 - 1)))).length : Int) := c364
       obtain ⟨b368, of369, cs365, hA370, hr366, hc367⟩ := HO363.at (i := w64 (j317 - 1)) c333 c364
       obtain rfl := hr366
       refine takeGQ 16 [] rfl kr kr kr kr kr kr (fun ch_ a_ w_ q_ => (fun ch_ a_ w_ q_ => (fun ch_ a_ w_ q_ => (fun ch_ a_ w_ q_ => hnp ch_ a_ w_ (hp16 ch_ a_ w_ q_)) ch_ a_ w_ (hp227 ch_ a_ w_ q_)) ch_ a_ w_ (hp236 ch_ a_ w_ q_)) ch_ a_ w_ (hp356 ch_ a_ w_ q_)) (Sg.g1 (Sx.of [s361] fL HS362) (fun hl_ => Bool.noConfusion (show true = false from hl_))) (fun w_ hw_ => by obtain ⟨g_, hl_, hS_⟩ := hw_.st; exact run_indexE hA370 (sz := 2) rfl Tryz.underlying57 kr (kv (.slice A1 (data313.set (j317).toNat (rd data313 (w64 (j317 - 1)))).length c2)) (kv (.int .i64 (w64 (j317 - 1)))) c333 c364 w_) ?_
       refine takeGE 17 kr rfl kr (does_put (e := ty_Answer) (E := 62) (vs := [.int .i64 ((rd data313 j317).ID), .int .i64 ((rd data313 j317).Grade)]) (u := (rd data313 j317)) (i := w64 (j317 - 1)) rfl kr HO363 HS362 hA370 (kv (.pointer (some ⟨b368, of369 + (w64 (j317 - 1) : Int).toNat * 2, none⟩))) (kv (.agg #[.int .i64 ((rd data313 j317).ID), .int .i64 ((rd data313 j317).Grade)])) rfl rfl c333 c364 ?_)
       intro W371 s372 HS373 HO374
       refine ⟨(Sg.g1 (Sx.of [s372] fL HS373) (fun hl_ => Bool.noConfusion (show true = false from hl_))), ?_⟩
       refine gateRwS 0 (A := A1) (m := (data313.set (j317).toNat (rd data313 (w64 (j317 - 1)))).length) (n := ((data313.set (j317).toNat (rd data313 (w64 (j317 - 1)))).set (w64 (j317 - 1)).toNat (rd data313 j317)).length) (c := c2) kr (List.length_set).symm ?_
       refine gateRwS 23 (A := A1) (m := (data313.set (j317).toNat (rd data313 (w64 (j317 - 1)))).length) (n := ((data313.set (j317).toNat (rd data313 (w64 (j317 - 1)))).set (w64 (j317 - 1)).toNat (rd data313 j317)).length) (c := c2) kr (List.length_set).symm ?_
       refine gateRwS 27 (A := A1) (m := (data313.set (j317).toNat (rd data313 (w64 (j317 - 1)))).length) (n := ((data313.set (j317).toNat (rd data313 (w64 (j317 - 1)))).set (w64 (j317 - 1)).toNat (rd data313 j317)).length) (c := c2) kr (List.length_set).symm ?_
       refine gateRwS 37 (A := A1) (m := (data313.set (j317).toNat (rd data313 (w64 (j317 - 1)))).length) (n := ((data313.set (j317).toNat (rd data313 (w64 (j317 - 1)))).set (w64 (j317 - 1)).toNat (rd data313 j317)).length) (c := c2) kr (List.length_set).symm ?_
       refine gateRwS 39 (A := A1) (m := (data313.set (j317).toNat (rd data313 (w64 (j317 - 1)))).length) (n := ((data313.set (j317).toNat (rd data313 (w64 (j317 - 1)))).set (w64 (j317 - 1)).toNat (rd data313 j317)).length) (c := c2) kr (List.length_set).symm ?_
       refine gateRwS 42 (A := A1) (m := (data313.set (j317).toNat (rd data313 (w64 (j317 - 1)))).length) (n := ((data313.set (j317).toNat (rd data313 (w64 (j317 - 1)))).set (w64 (j317 - 1)).toNat (rd data313 j317)).length) (c := c2) kr (List.length_set).symm ?_
       refine gateRwS 47 (A := A1) (m := (data313.set (j317).toNat (rd data313 (w64 (j317 - 1)))).length) (n := ((data313.set (j317).toNat (rd data313 (w64 (j317 - 1)))).set (w64 (j317 - 1)).toNat (rd data313 j317)).length) (c := c2) kr (List.length_set).symm ?_
       refine doneG kr ?_ _
       refine hn353 _ _ ?_
       refine hK350 _ _ ?_
       refine rl ?_
       refine seqL3 kr ?_
       refine nl ?_
       refine hK306 n307 _ _ (Nat.lt_succ_self _) ?_
       exact ⟨f343, s372, ((data313.set (j317).toNat (rd data313 (w64 (j317 - 1)))).set (w64 (j317 - 1)).toNat (rd data313 j317)), (w64 (j317 - 1)), (jL [iV j317, iV a7, tV, tV, .func (.func 57) #[] #[], .slice A1 ((data313.set (j317).toNat (rd data313 (w64 (j317 - 1)))).set (w64 (j317 - 1)).toNat (rd data313 j317)).length c2, iV j317, .pointer (some ⟨b330, of331 + (j317 : Int).toNat * 2, none⟩), .agg #[.int .i64 ((rd data313 j317).ID), .int .i64 ((rd data313 j317).Grade)], .slice A1 ((data313.set (j317).toNat (rd data313 (w64 (j317 - 1)))).set (w64 (j317 - 1)).toNat (rd data313 j317)).length c2, iV j317, iV (w64 (j317 - 1)), .pointer (some ⟨b338, of339 + (w64 (j317 - 1) : Int).toNat * 2, none⟩), .agg #[.int .i64 ((rd data313 (w64 (j317 - 1))).ID), .int .i64 ((rd data313 (w64 (j317 - 1))).Grade)], iV vt341, tV, tV, iV j317, iV (w64 (j317 - 1)), .slice A1 ((data313.set (j317).toNat (rd data313 (w64 (j317 - 1)))).set (w64 (j317 - 1)).toNat (rd data313 j317)).length c2, iV j317, .slice A1 ((data313.set (j317).toNat (rd data313 (w64 (j317 - 1)))).set (w64 (j317 - 1)).toNat (rd data313 j317)).length c2, iV j317, iV (w64 (j317 - 1)), .slice A1 ((data313.set (j317).toNat (rd data313 (w64 (j317 - 1)))).set (w64 (j317 - 1)).toNat (rd data313 j317)).length c2, iV j317, iV (w64 (j317 - 1)), .pointer (some ⟨b338, of339 + (w64 (j317 - 1) : Int).toNat * 2, none⟩), .agg #[.int .i64 ((rd data313 (w64 (j317 - 1))).ID), .int .i64 ((rd data313 (w64 (j317 - 1))).Grade)], .slice A1 ((data313.set (j317).toNat (rd data313 (w64 (j317 - 1)))).set (w64 (j317 - 1)).toNat (rd data313 j317)).length c2, iV j317, .pointer (some ⟨b330, of331 + (j317 : Int).toNat * 2, none⟩), .agg #[.int .i64 ((rd data313 j317).ID), .int .i64 ((rd data313 j317).Grade)], .pointer (some ⟨b330, of331 + (j317 : Int).toNat * 2, none⟩), .pointer (some ⟨b368, of369 + (w64 (j317 - 1) : Int).toNat * 2, none⟩)]), (L309.trans L344), HS373, HO374, (List.length_set.trans (List.length_set.trans HL316)), h, kr⟩
     · have c348 : ¬ (vt341 < 0) := c348
       refine wpRwI 33 kr (decide_eq_false c348) ?_
       refine wpRwI 34 kr (decide_eq_false c348) ?_
       refine condF kr ?_
       refine wp_exit ?_
       refine hx232 _ _ ?_
       exact J385 f343 s314 data313 (jL [iV j317, iV j317, iV a7, tV, tV, .func (.func 57) #[] #[], .slice A1 data313.length c2, iV j317, .pointer (some ⟨b330, of331 + (j317 : Int).toNat * 2, none⟩), .agg #[.int .i64 ((rd data313 j317).ID), .int .i64 ((rd data313 j317).Grade)], .slice A1 data313.length c2, iV j317, iV (w64 (j317 - 1)), .pointer (some ⟨b338, of339 + (w64 (j317 - 1) : Int).toNat * 2, none⟩), .agg #[.int .i64 ((rd data313 (w64 (j317 - 1))).ID), .int .i64 ((rd data313 (w64 (j317 - 1))).Grade)], iV vt341, fV, fV, (j312 17), (j312 18), (j312 19), (j312 20), (j312 21), (j312 22), (j312 23), (j312 24), (j312 25), (j312 26), (j312 27), (j312 28), (j312 29), (j312 30), (j312 31), (j312 32), (j312 33), (j312 34)]) W345 _ (L309.trans L344) h HS346 (HO315.mono L344) HL316 kr
   · have c324 : ¬ (j317 > a7) := c324
     refine gateRwI 20 (x := (decide (j317 > a7))) (v := false) kr (decide_eq_false c324) ?_
     refine gateRwI 21 (x := (decide (j317 > a7))) (v := false) kr (decide_eq_false c324) ?_
     refine takeGL [4, 5, 6, 7, 8, 9, 10, 11, 12, 13, 14, 15, 16] (n := 13) (fuel := 0) #[true, true, true, true, true, true, true, true, true, true, true, true, true, true, true, true, true] rfl kr kr kr (fun ch_ a_ w_ q_ => (fun ch_ a_ w_ q_ => (fun ch_ a_ w_ q_ => hnp ch_ a_ w_ (hp16 ch_ a_ w_ q_)) ch_ a_ w_ (hp227 ch_ a_ w_ q_)) ch_ a_ w_ (hp236 ch_ a_ w_ q_)) (Sg.g0 (Sx.of [] fL HS323)) ?_
     refine doneG kr ?_ _
     refine hK321 _ _ ?_
     refine condF kr ?_
     refine wp_exit ?_
     refine hx232 _ _ ?_
     exact J385 f308 s314 data313 (jL [iV j317, iV j317, iV a7, fV, fV, uV, uV, uV, uV, uV, uV, uV, uV, uV, uV, uV, uV, fV, (j312 17), (j312 18), (j312 19), (j312 20), (j312 21), (j312 22), (j312 23), (j312 24), (j312 25), (j312 26), (j312 27), (j312 28), (j312 29), (j312 30), (j312 31), (j312 32), (j312 33), (j312 34)]) W322 _ L309 h HS323 HO315 HL316 kr
 · have c219 : ¬ (i213 < b8) := c219
   refine wpRwI 14 kr (decide_eq_false c219) ?_
   refine condF kr ?_
   refine wp_exit ?_
   refine hx12 _ _ ?_
   exact J397 f204 s210 data209 (jL [iV i213, (j208 0), iV i213, iV b8, fV, (j208 4), (j208 5), (j208 6), (j208 7), (j208 8), (j208 9), (j208 10), (j208 11), (j208 12), (j208 13), (j208 14), (j208 15), (j208 16), (j208 17), (j208 18), (j208 19), (j208 20), (j208 21), (j208 22), (j208 23), (j208 24), (j208 25), (j208 26), (j208 27), (j208 28), (j208 29), (j208 30), (j208 31), (j208 32), (j208 33), (j208 34), (j208 35), (j208 36), (j208 37), (j208 38), (j208 39), (j208 40), (j208 41)]) W206 _ L205 h HS207 HO211 HL212 kr

set_option maxRecDepth 100000 in
set_option maxHeartbeats 4000000 in
theorem slices_pdqsortCmpFunc_Answer__query_Index_Run_3.calls (k : Nat) (A1 : Option Addr) (c2 : Nat) (s3 : Seg) (data5 : List S_Answer) (a7 : Int) (b8 : Int) (limit9 : Int) {t w : World} {f : FM} {H : List Seg} (HS : St t w f (s3 :: H)) (HO4 : Own ty_Answer 62 f A1 c2 s3 data5) (rr1 : List S_Answer) (h : slices_pdqsortCmpFunc_Answer__query_Index_Run_3 k data5 a7 b8 limit9 = some rr1) :
    Calls Tryz.prog 88 #[.slice A1 data5.length c2, .int .i64 a7, .int .i64 b8, .int .i64 limit9, .func (.func 57) #[] #[]] w (fun e w' => ∃ (g : FM) (s66 : Seg), e = .returned (Value.tuple #[]) ∧ FM.le f g ∧ St t w' g (s66 :: H) ∧ Own ty_Answer 62 g A1 c2 s66 rr1 ∧ rr1.length = data5.length) := by
 unfold slices_pdqsortCmpFunc_Answer__query_Index_Run_3 at h
 refine enter Tryz.func88 rfl (tm := #[.slice A1 data5.length c2, iV a7, iV b8, iV limit9, .func (.func 57) #[] #[], uV, uV, uV, uV, uV, uV, uV, uV, uV, uV, uV, uV, uV, uV, uV, uV, uV, uV, uV, uV, uV, uV, uV, uV, uV, uV, uV, uV, uV, uV, uV, uV, uV, uV, uV, uV, uV, uV, uV, uV, uV, uV, uV, uV, uV, uV, uV, uV, uV, uV, uV, uV, uV, uV, uV, uV, uV, uV, uV, uV, uV, uV, uV, uV, uV, uV, uV, uV, uV, uV, uV, uV, uV, uV, uV, uV, uV, uV, uV, uV, uV, uV, uV, uV, uV, uV, uV, uV, uV, uV, uV, uV, uV, uV, uV, uV, uV, uV, uV, uV, uV, uV, uV, uV, uV, uV, uV, uV, uV, uV, uV, uV, uV, uV, uV, uV, uV, uV, uV, uV, uV, uV, uV, uV, uV, uV, uV, uV, uV, uV, uV, uV, uV, uV, uV, uV, uV, uV, uV, uV, uV, uV, uV]) kr ?_
 intro B hret hnor hnp
 refine wp_seq_k fun K10 hK11 => rl ?_
 refine seqL1 kr ?_
 refine nl (hK11 _ _ ?_)
 refine wp_seq_k fun K12 hK13 => rl ?_
 refine seqL1 kr ?_
 refine nl (hK13 _ _ ?_)
 refine blockK (fun B14 hx15 hn16 hr17 ho18 hp19 => ?_)
 have hq_ := bind_some h; clear h; obtain ⟨o20, hv64, h⟩ := hq_
 have JR65 : ∀ z_, some (Sum.inl z_) = some o20 → some z_ = some rr1 := by
  intro z_ e_; injection e_ with e_; subst e_; exact h
 clear h; have h := hv64; clear hv64
 refine loopK (fun n_ a_ w_ => ∃ (f24 : FM) (a29 : Int) (b30 : Int) (limit31 : Int) (wasBalanced32 : Bool) (wasPartitioned33 : Bool) (j28 : Nat → Value), FM.le f f24 ∧ St t w_ f24 (s3 :: H) ∧ slices_pdqsortCmpFunc_Answer__query_Index_Run_3.l0 k data5 n_ a29 b30 limit31 wasBalanced32 wasPartitioned33 = some o20 ∧ a_ = ⟨#[.slice A1 data5.length c2, iV a29, iV b30, iV limit31, .func (.func 57) #[] #[], uV, uV, uV, uV, uV, .bool wasBalanced32, .bool wasPartitioned33, (j28 0), (j28 1), (j28 2), (j28 3), (j28 4), (j28 5), (j28 6), (j28 7), (j28 8), (j28 9), (j28 10), (j28 11), (j28 12), (j28 13), (j28 14), (j28 15), (j28 16), (j28 17), (j28 18), (j28 19), (j28 20), (j28 21), (j28 22), (j28 23), (j28 24), (j28 25), (j28 26), (j28 27), (j28 28), (j28 29), (j28 30), (j28 31), (j28 32), (j28 33), (j28 34), (j28 35), (j28 36), (j28 37), (j28 38), (j28 39), (j28 40), (j28 41), (j28 42), (j28 43), (j28 44), (j28 45), (j28 46), (j28 47), (j28 48), (j28 49), (j28 50), (j28 51), (j28 52), (j28 53), (j28 54), (j28 55), (j28 56), (j28 57), (j28 58), (j28 59), (j28 60), (j28 61), (j28 62), (j28 63), (j28 64), (j28 65), (j28 66), (j28 67), (j28 68), (j28 69), (j28 70), (j28 71), (j28 72), (j28 73), (j28 74), (j28 75), (j28 76), (j28 77), (j28 78), (j28 79), (j28 80), (j28 81), (j28 82), (j28 83), (j28 84), (j28 85), (j28 86), (j28 87), (j28 88), (j28 89), (j28 90), (j28 91), (j28 92), (j28 93), (j28 94), (j28 95), (j28 96), (j28 97), (j28 98), (j28 99), (j28 100), (j28 101), (j28 102), (j28 103), (j28 104), (j28 105), (j28 106), (j28 107), (j28 108), (j28 109), (j28 110), (j28 111), (j28 112), (j28 113), (j28 114), (j28 115), (j28 116), (j28 117), (j28 118), (j28 119), (j28 120), (j28 121), (j28 122), (j28 123), (j28 124), (j28 125), (j28 126), (j28 127), (j28 128), (j28 129), (j28 130), (j28 131), (j28 132), (j28 133), (j28 134), (j28 135)], []⟩) k ⟨f, a7, b8, limit9, true, true, (jL []), fL, HS, h, kr⟩ ?_
 clear h
 rintro n23 _ W26 ⟨f24, a29, b30, limit31, wasBalanced32, wasPartitioned33, j28, L25, HS27, h, rfl⟩ K21 hK22
 obtain _ | n23 := n23
 · exact nomatch h
 simp only [slices_pdqsortCmpFunc_Answer__query_Index_Run_3.l0] at h
 refine blockK (fun B34 hx35 hn36 hr37 ho38 hp39 => ?_)
 refine wp_seq_k fun K41 hK42 => rl ?_
 refine seqL4 kr ?_
 refine nl (hK42 _ _ ?_)
 refine wp_seq_k (fun K43 hK44 => ?_)
 refine wp_seq_k fun K45 hK46 => rl ?_
 refine seqL2 kr ?_
 refine nl (hK46 _ _ ?_)
 have hq_ := ite_some h; clear h; rcases hq_ with ⟨c48, h⟩ | ⟨c48, h⟩
 · have c48 : (w64 (b30 - a29)) ≤ 12 := c48
   refine wpRwI 25 kr (decide_eq_true c48) ?_
   refine condT kr ?_
   refine wp_seq_k fun K49 hK50 => rl ?_
   have hq_ := bind_some h; clear h; obtain ⟨vt51, hc52, h⟩ := hq_
   refine seqL4 kr ?_
   refine seqK rfl (does_call (f := 102) (args := #[.slice A1 data5.length c2, .int .i64 a29, .int .i64 b30, .func (.func 57) #[] #[]]) kr (slices_insertionSortCmpFunc_Answer__query_Index_Run_3.calls k A1 c2 s3 data5 a29 b30 HS27 (HO4.mono L25) vt51 hc52) ?_)
   rintro _ W55 ⟨f53, s57, rfl, L54, HS56, HO58, HL59⟩
   refine ⟨_, rfl, ?_⟩
   refine seqRwS 0 (A := A1) (m := data5.length) (n := vt51.length) (c := c2) kr (HL59).symm ?_
   refine seqRwS 26 (A := A1) (m := data5.length) (n := vt51.length) (c := c2) kr (HL59).symm ?_
   refine nl (hK50 _ _ ?_)
   refine wp_ret ?_
   refine hr37 _ _ ?_
   refine hr17 _ _ ?_
   refine hret _ _ ?_
   refine ends_still (v := Value.tuple #[]) kr kr ?_
   replace h := JR65 _ h
   injection h with h
   subst h
   exact ⟨f53, s57, rfl, (L25.trans L54), HS56, HO58, HL59⟩
 · have c48 : ¬ ((w64 (b30 - a29)) ≤ 12) := c48
   refine wpRwI 25 kr (decide_eq_false c48) ?_
   refine condF kr ?_
   refine wp_skip ?_
   refine hK44 _ _ ?_
   refine wp_seq_k (fun K60 hK61 => ?_)
   refine wp_seq_k (fun K62 hK63 => ?_)
   exact nomatch h

set_option maxRecDepth 100000 in
set_option maxHeartbeats 4000000 in
theorem slices_SortFunc_Answer__query_Index_Run_3.calls (k : Nat) (A1 : Option Addr) (c2 : Nat) (s3 : Seg) (x5 : List S_Answer) {t w : World} {f : FM} {H : List Seg} (HS : St t w f (s3 :: H)) (HO4 : Own ty_Answer 62 f A1 c2 s3 x5) (rr1 : List S_Answer) (h : slices_SortFunc_Answer__query_Index_Run_3 k x5 = some rr1) :
    Calls Tryz.prog 56 #[.slice A1 x5.length c2, .func (.func 57) #[] #[]] w (fun e w' => ∃ (g : FM) (s24 : Seg), e = .returned (Value.tuple #[]) ∧ FM.le f g ∧ St t w' g (s24 :: H) ∧ Own ty_Answer 62 g A1 c2 s24 rr1 ∧ rr1.length = x5.length) := by
 unfold slices_SortFunc_Answer__query_Index_Run_3 at h
 refine enter Tryz.func56 rfl (tm := #[.slice A1 x5.length c2, .func (.func 57) #[] #[], uV, uV, uV, uV, uV, uV, uV, uV, uV, uV, uV, uV]) kr ?_
 intro B hret hnor hnp
 refine wp_seq_k fun K7 hK8 => rl ?_
 refine seqL3 kr ?_
 refine nl (hK8 _ _ ?_)
 refine rl ?_
 have hq_ := bind_some h; clear h; obtain ⟨vt9, hc10, h⟩ := hq_
 refine seqL4 kr ?_
 refine seqK rfl (does_call (f := 89) (args := #[.int .u64 (u64 ((x5.length : Int)))]) kr (bits_Len.calls k (u64 ((x5.length : Int))) HS vt9 hc10) ?_)
 rintro _ W13 ⟨f11, rfl, L12, HS14⟩
 refine ⟨_, rfl, ?_⟩
 have hq_ := bind_some h; clear h; obtain ⟨vt15, hc16, h⟩ := hq_
 refine seqL1 kr ?_
 refine seqK rfl (does_call (f := 88) (args := #[.slice A1 x5.length c2, .int .i64 0, .int .i64 (x5.length : Int), .int .i64 vt9, .func (.func 57) #[] #[]]) kr (slices_pdqsortCmpFunc_Answer__query_Index_Run_3.calls k A1 c2 s3 x5 0 (x5.length : Int) vt9 HS14 (HO4.mono L12) vt15 hc16) ?_)
 rintro _ W19 ⟨f17, s21, rfl, L18, HS20, HO22, HL23⟩
 refine ⟨_, rfl, ?_⟩
 refine seqRwS 0 (A := A1) (m := x5.length) (n := vt15.length) (c := c2) kr (HL23).symm ?_
 refine seqRwS 5 (A := A1) (m := x5.length) (n := vt15.length) (c := c2) kr (HL23).symm ?_
 refine seqRwS 7 (A := A1) (m := x5.length) (n := vt15.length) (c := c2) kr (HL23).symm ?_
 refine nl ?_
 refine hnor _ _ ?_
 refine ends_still (v := Value.tuple #[]) kr kr ?_
 injection h with h
 subst h
 exact ⟨f17, s21, rfl, (L12.trans L18), HS20, HO22, HL23⟩

end Go.Sp.Q5
