import Derived.Test.YtiibkbligihgoaaGreatProg
import Derived.Test.YtiibkbligihgoaaGreatSpCopy
import Derived.Test.YtiibkbligihgoaaGreatFJ7
import Derived.Test.YtiibkbligihgoaaGreatSpSort3P
import Derived.Test.YtiibkbligihgoaaGreatShelf
import Derived.Test.YtiibkbligihgoaaGreatSpMapR
import Derived.Test.YtiibkbligihgoaaGreatSpKeys
import Derived.Test.YtiibkbligihgoaaGreatSpNode
import Derived.Test.YtiibkbligihgoaaGreatSpKeyP
import Derived.Test.YtiibkbligihgoaaGreatSpArr
import Derived.Test.YtiibkbligihgoaaGreatSpRound
import Derived.Test.YtiibkbligihgoaaGreatKJ7n0
import Derived.Test.YtiibkbligihgoaaGreatKJ7n1
import Derived.Test.YtiibkbligihgoaaGreatKJ7n2
namespace Go.Sp.J7
open Go Go.Sp Go.Proofs
set_option linter.unusedVariables false
attribute [local irreducible] wpList AnyL Code.wp Calls Does Code.wpIn wpListIn CallsIn bodyPostM LeavesInM
set_option maxRecDepth 100000 in
set_option maxHeartbeats 4000000 in
theorem query_New.calls (k : Nat) (A2 : Option Addr) (c3 : Nat) (rows1 : List S_Row) (level5 : Int) {t w : World} {f : FM} {H : List Seg} (HS : St t w f (H)) (HR4 : SlR ty_Row f A2 c3 rows1) (rr1 : S_Index) (rr2 : Int) (h : query_New k rows1 level5 = some (rr1, rr2)) :
    Calls Tryz.prog 24 #[.slice A2 rows1.length c3, .int .i64 level5] w (fun e w' => ∃ (g : FM) (A1715 : Option Addr) (c1716 : Nat) (A1717 : Option Addr) (c1718 : Nat) (A1719 : Option Addr) (c1720 : Nat) (b1721 : Nat), e = .returned (Value.tuple #[.pointer (some ⟨b1721, 0, none⟩), .int .i64 rr2]) ∧ FM.le f g ∧ St t w' g ([(b1721, .cells #[.slice A1715 rr1.rows.length c1716, .int .i64 rr1.level, .slice A1717 rr1.roots.length c1718, .slice A1719 rr1.loose.length c1720] 109 (0, 0))] :: H) ∧ SlR ty_Row g A1715 c1716 rr1.rows ∧ SlR fx_node.t g A1717 c1718 rr1.roots ∧ SlR (tInt .i64) g A1719 c1720 rr1.loose) := by
 unfold query_New at h
 refine enter Tryz.func24 rfl (tm := #[.slice A2 rows1.length c3, iV level5, uV, uV, uV, uV, uV, uV, uV, uV, uV, uV, uV, uV, uV, uV, uV, uV, uV, uV, uV, uV, uV, uV, uV, uV, uV, uV, uV, uV, uV, uV, uV, uV, uV, uV, uV, uV, uV, uV, uV, uV, uV, uV, uV, uV, uV, uV, uV, uV, uV, uV, uV, uV, uV, uV, uV, uV, uV, uV, uV, uV, uV, uV, uV, uV, uV, uV, uV, uV, uV, uV, uV, uV, uV, uV, uV, uV, uV, uV, uV, uV, uV, uV, uV, uV, uV, uV, uV, uV, uV, uV, uV, uV, uV, uV, uV, uV, uV, uV, uV, uV, uV, uV, uV, uV, uV, uV, uV, uV, uV, uV, uV, uV, uV, uV, uV, uV, uV, uV, uV, uV, uV, uV, uV, uV, uV, uV, uV, uV, uV, uV, uV, uV, uV, uV, uV, uV, uV, uV, uV, uV, uV, uV, uV, uV, uV, uV, uV, uV, uV, uV, uV, uV, uV, uV, uV, uV, uV, uV, uV, uV, uV, uV, uV, uV, uV, uV, uV, uV, uV, uV, uV, uV, uV, uV, uV, uV, uV, uV, uV, uV, uV, uV, uV, uV, uV, uV, uV, uV, uV, uV]) kr ?_
 intro B hret hnor hnp
 refine wp_seq_k fun K6 hK7 => rl ?_
 refine seqL2 kr ?_
 refine nl (hK7 _ _ ?_)
 refine wp_seq_k (fun K8 hK9 => ?_)
 refine wp_seq_k fun K10 hK11 => rl ?_
 have hq_ := bind_some h; clear h; obtain ⟨vt12, hc13, h⟩ := hq_
 refine seqL1 kr ?_
 refine seqK rfl (does_call (f := 42) (args := #[.slice A2 rows1.length c3]) kr (catalog_Check.calls k A2 c3 rows1 HS HR4 vt12 hc13) ?_)
 rintro _ W16 ⟨f14, rfl, L15, HS17⟩
 refine ⟨_, rfl, ?_⟩
 refine seqL1 kr ?_
 refine nl (hK11 _ _ ?_)
 refine wp_seq_k fun K18 hK19 => rl ?_
 refine seqL2 kr ?_
 refine nl (hK19 _ _ ?_)
 have hq_ := ite_some h; clear h; rcases hq_ with ⟨c21, h⟩ | ⟨c21, h⟩
 · have c21 : vt12 ≠ 0 := c21
   refine wpRwI 26 kr (bne_iff_ne.mpr c21) ?_
   refine condT kr ?_
   refine wp_seq_k (fun K22 hK23 => ?_)
   exact nomatch h
 · have c21 : ¬ (vt12 ≠ 0) := c21
   refine wpRwI 26 (x := (vt12 != 0)) (v := false) kr (bne_eq_false_iff_eq.mpr (Decidable.of_not_not c21)) ?_
   refine condF kr ?_
   refine wp_skip ?_
   refine hK9 _ _ ?_
   refine wp_seq_k (fun K24 hK25 => ?_)
   refine wp_seq_k fun K26 hK27 => rl ?_
   refine seqL3 kr ?_
   have hq_ := ite_some h; clear h; rcases hq_ with ⟨c28, h⟩ | ⟨c28, h⟩
   · have c28 : level5 < 0 := c28
     refine seqRwI 29 kr (decide_eq_true c28) ?_
     refine seqRwI 30 kr (decide_eq_true c28) ?_
     refine seqL3 kr ?_
     refine nl (hK27 _ _ ?_)
     refine condT kr ?_
     refine wp_seq_k (fun K29 hK30 => ?_)
     exact nomatch h
   · have c28 : ¬ (level5 < 0) := c28
     refine seqRwI 29 kr (decide_eq_false c28) ?_
     refine seqRwI 30 kr (decide_eq_false c28) ?_
     refine seqL3 kr ?_
     refine nl (hK27 _ _ ?_)
     have hq_ := ite_some h; clear h; rcases hq_ with ⟨c32, h⟩ | ⟨c32, h⟩
     · have c32 : level5 > 12 := c32
       refine wpRwI 32 kr (decide_eq_true c32) ?_
       refine wpRwI 33 kr (decide_eq_true c32) ?_
       refine condT kr ?_
       refine wp_seq_k (fun K33 hK34 => ?_)
       exact nomatch h
     · have c32 : ¬ (level5 > 12) := c32
       refine wpRwI 32 kr (decide_eq_false c32) ?_
       refine wpRwI 33 kr (decide_eq_false c32) ?_
       refine condF kr ?_
       refine wp_skip ?_
       refine hK25 _ _ ?_
       refine wp_seq_k fun K35 hK36 => rl ?_
       have hq_ := bind_some h; clear h; obtain ⟨vt37, hc38, h⟩ := hq_
       refine seqL1 kr ?_
       refine seqK rfl (does_call (f := 45) (args := #[.slice A2 rows1.length c3]) kr (catalog_Copy.calls k A2 c3 rows1 HS17 (HR4.mono L15) vt37 hc38) ?_)
       rintro _ W41 ⟨f39, A43, c44, s45, rfl, L40, HS42, HO46⟩
       refine ⟨_, rfl, ?_⟩
       refine seqL2 kr ?_
       refine seqK rfl (does_box (cs := #[.slice A43 vt37.length c44, .int .i64 level5, .slice none 0 0, .slice none 0 0]) rfl (kv (.agg #[.slice A43 vt37.length c44, .int .i64 level5, .slice none 0 0, .slice none 0 0])) rfl HS42 ?_)
       intro b48 W49 HS50
       refine seqL1 kr ?_
       refine nl (hK36 _ _ ?_)
       refine wp_seq_k fun K52 hK53 => rl ?_
       refine seqK rfl (does_makeMapB rk_node 200110 rfl HS50 ?_)
       intro b54 W55 s56 HS57 HO58
       refine seqL1 kr ?_
       refine nl (hK53 _ _ ?_)
       refine wp_seq_k (fun K60 hK61 => ?_)
       refine wp_seq_k fun K62 hK63 => rl ?_
       refine seqL3 kr ?_
       refine seqK rfl (does_run (run_load rfl Tryz.underlying45 rfl (kv (.pointer (some ⟨b48, 0, none⟩))) (HS57.u1.cell 0)) ?_)
       refine seqL2 kr ?_
       refine nl (hK63 _ _ ?_)
       refine blockK (fun B64 hx65 hn66 hr67 ho68 hp69 => ?_)
       have hq_ := bind_some h; clear h; obtain ⟨o290, hv529, h⟩ := hq_
       have J530 : ∀ (f515 : FM) (s521 : Seg) (A524 : Option Addr) (c525 : Nat) (s526 : Seg) (vat520 : List (Int × S_node)) (x523 : List Int) (j519 : Nat → Value) (W517 : World) (a_ : Act), FM.le f39 f515 → some ((vat520, x523)) = some o290 → St t W517 f515 (s526 :: s521 :: [(b48, .cells #[.slice A43 vt37.length c44, .int .i64 level5, .slice none 0 0, .slice A524 x523.length c525] 109 (0, 0))] :: s45 :: H) → OwnMB rk_node 200110 f515 (some ⟨b54, 0, none⟩) 0 s521 vat520 → Own (tInt .i64) 3 f515 A524 c525 s526 x523 → a_ = ⟨#[.slice A2 rows1.length c3, iV level5, uV, uV, .pointer none, iV 0, iV vt12, pV b48 0, .map (mb (some ⟨b54, 0, none⟩)), (j519 0), (j519 1), (j519 2), (j519 3), (j519 4), (j519 5), (j519 6), uV, uV, uV, uV, uV, uV, uV, .slice A2 rows1.length c3, iV vt12, iV vt12, fV, uV, iV level5, fV, fV, iV level5, fV, fV, .slice A2 rows1.length c3, .slice A43 vt37.length c44, iV level5, .agg #[.slice A43 vt37.length c44, iV level5, .slice none 0 0, .slice none 0 0], pV b48 0, (j519 7), pV b48 0, pV b48 0, pV b48 0, .slice A43 vt37.length c44, iV (vt37.length : Int), (j519 8), (j519 9), (j519 10), (j519 11), (j519 12), (j519 13), (j519 14), (j519 15), (j519 16), (j519 17), (j519 18), (j519 19), (j519 20), (j519 21), (j519 22), (j519 23), (j519 24), (j519 25), (j519 26), (j519 27), (j519 28), (j519 29), (j519 30), (j519 31), (j519 32), (j519 33), (j519 34), (j519 35), (j519 36), (j519 37), (j519 38), (j519 39), (j519 40), (j519 41), (j519 42), (j519 43), (j519 44), (j519 45), (j519 46), (j519 47), (j519 48), (j519 49), (j519 50), (j519 51), (j519 52), (j519 53), (j519 54), (j519 55), (j519 56), (j519 57), (j519 58), (j519 59), (j519 60), (j519 61), (j519 62), (j519 63), (j519 64), (j519 65), (j519 66), (j519 67), (j519 68), (j519 69), (j519 70), (j519 71), (j519 72), (j519 73), uV, uV, uV, uV, uV, uV, uV, uV, uV, uV, uV, uV, uV, uV, uV, uV, uV, uV, uV, uV, uV, uV, uV, uV, uV, uV, uV, uV, uV, uV, uV, uV, uV, uV, uV, uV, uV, uV, uV, uV, uV, uV, uV, uV, uV, uV, uV, uV, uV, uV, uV, uV, uV, uV, uV, uV, uV, uV, uV, uV, uV, uV, uV, uV, uV, uV, uV, uV, uV, uV, uV, uV, uV, uV, uV, uV, uV, uV, uV, uV, uV], []⟩ → K60 a_ W517 := by
        intro f515 s521 A524 c525 s526 vat520 x523 j519 W517 a_ L516 hj531 HS518 HO522 HO527 hfr_; subst hfr_
        injection hj531 with hj531; subst hj531; try dsimp only at h
        refine hK61 _ _ ?_
        refine wp_seq_k (fun K566 hK567 => ?_)
        refine wp_seq_k fun K568 hK569 => rl ?_
        refine seqL2 kr ?_
        refine nl (hK569 _ _ ?_)
        refine blockK (fun B570 hx571 hn572 hr573 ho574 hp575 => ?_)
        have hq_ := bind_some h; clear h; obtain ⟨o1019, hv1474, h⟩ := hq_
        have J1475 : ∀ (f1464 : FM) (A1470 : Option Addr) (c1471 : Nat) (s1472 : Seg) (vat1469 : List (Int × S_node)) (j1468 : Nat → Value) (W1466 : World) (a_ : Act), FM.le f515 f1464 → some (vat1469) = some o1019 → St t W1466 f1464 (s526 :: s1472 :: [(b48, .cells #[.slice A43 vt37.length c44, .int .i64 level5, .slice none 0 0, .slice A524 x523.length c525] 109 (0, 0))] :: s45 :: H) → OwnMB rk_node 200110 f1464 A1470 c1471 s1472 vat1469 → a_ = ⟨#[.slice A2 rows1.length c3, iV level5, uV, uV, .pointer none, iV 0, iV vt12, pV b48 0, .map (mb A1470), (j519 0), (j519 1), (j519 2), (j519 3), (j519 4), (j519 5), (j519 6), (j1468 0), uV, (j1468 1), (j1468 2), (j1468 3), uV, uV, .slice A2 rows1.length c3, iV vt12, iV vt12, fV, uV, iV level5, fV, fV, iV level5, fV, fV, .slice A2 rows1.length c3, .slice A43 vt37.length c44, iV level5, .agg #[.slice A43 vt37.length c44, iV level5, .slice none 0 0, .slice none 0 0], pV b48 0, (j519 7), pV b48 0, pV b48 0, pV b48 0, .slice A43 vt37.length c44, iV (vt37.length : Int), (j519 8), (j519 9), (j519 10), (j519 11), (j519 12), (j519 13), (j519 14), (j519 15), (j519 16), (j519 17), (j519 18), (j519 19), (j519 20), (j519 21), (j519 22), (j519 23), (j519 24), (j519 25), (j519 26), (j519 27), (j519 28), (j519 29), (j519 30), (j519 31), (j519 32), (j519 33), (j519 34), (j519 35), (j519 36), (j519 37), (j519 38), (j519 39), (j519 40), (j519 41), (j519 42), (j519 43), (j519 44), (j519 45), (j519 46), (j519 47), (j519 48), (j519 49), (j519 50), (j519 51), (j519 52), (j519 53), (j519 54), (j519 55), (j519 56), (j519 57), (j519 58), (j519 59), (j519 60), (j519 61), (j519 62), (j519 63), (j519 64), (j519 65), (j519 66), (j519 67), (j519 68), (j519 69), (j519 70), (j519 71), (j519 72), (j519 73), iV level5, (j1468 4), (j1468 5), (j1468 6), (j1468 7), (j1468 8), (j1468 9), (j1468 10), (j1468 11), (j1468 12), (j1468 13), (j1468 14), (j1468 15), (j1468 16), (j1468 17), (j1468 18), (j1468 19), (j1468 20), (j1468 21), (j1468 22), (j1468 23), (j1468 24), (j1468 25), (j1468 26), (j1468 27), (j1468 28), (j1468 29), (j1468 30), (j1468 31), (j1468 32), (j1468 33), (j1468 34), (j1468 35), (j1468 36), (j1468 37), (j1468 38), (j1468 39), (j1468 40), (j1468 41), (j1468 42), (j1468 43), (j1468 44), (j1468 45), (j1468 46), (j1468 47), (j1468 48), (j1468 49), (j1468 50), (j1468 51), (j1468 52), (j1468 53), (j1468 54), (j1468 55), (j1468 56), (j1468 57), (j1468 58), (j1468 59), (j1468 60), (j1468 61), uV, uV, uV, uV, uV, uV, uV, uV, uV, uV, uV, uV, uV, uV, uV, uV, uV, uV, uV, uV, uV, uV], []⟩ → K566 a_ W1466 := by
         intro f1464 A1470 c1471 s1472 vat1469 j1468 W1466 a_ L1465 hj1476 HS1467 HO1473 hfr_; subst hfr_
         injection hj1476 with hj1476; subst hj1476; try dsimp only at h
         refine hK567 _ _ ?_
         refine wp_seq_k (fun K1487 hK1488 => ?_)
         refine wp_seq_k fun K1489 hK1490 => rl ?_
         have HS1491 := HS1467.u1
         obtain ⟨f1492, s1493, L1494, HS1495, HO1496⟩ := HO1473.freeze HS1491
         refine seqL1 kr ?_
         refine seqK rfl (does_call (f := 50) (args := #[Value.map (mb A1470)]) kr (keys_calls (M := 110) (g := 86) Tryz.keys50 rfl rfl rfl HS1495) ?_)
         rintro _ W1498 ⟨b1497, rfl, HS1499⟩
         refine ⟨_, rfl, ?_⟩
         have HS1502 := HS1499.u1.u1
         have hq_ := bind_some h; clear h; obtain ⟨vt1503, hc1504, h⟩ := hq_
         refine seqK rfl (does_call (f := 49) (args := #[Value.func (.func 86) #[] #[.pointer (some ⟨b1497, 0, none⟩)]]) kr (sorted_callsP Tryz.keys50 Tryz.sorted49 rfl rfl rfl rfl rfl Tryz.underlying113 Tryz.slices_Sort_int Tryz.slices_Sort_int_none (Go.Proofs.enters_of Tryz.func85 kr rfl) (Go.Proofs.enters_of Tryz.func86 kr rfl) HO1496 HS1502 vt1503 hc1504) ?_)
         rintro _ W1508 ⟨A1505, c1506, s1507, rfl, HS1509, HO1510⟩
         refine ⟨_, rfl, ?_⟩
         refine seqL2 kr ?_
         refine nl (hK1490 _ _ ?_)
         refine blockK (fun B1512 hx1513 hn1514 hr1515 ho1516 hp1517 => ?_)
         have hq_ := bind_some h; clear h; obtain ⟨o1593, hv1684, h⟩ := hq_
         have J1685 : ∀ (f1673 : FM) (A1679 : Option Addr) (c1680 : Nat) (s1681 : Seg) (x1678 : List S_node) (j1677 : Nat → Value) (W1675 : World) (a_ : Act), FM.le f1492 f1673 → some (x1678) = some o1593 → St t W1675 f1673 (s1681 :: s1507 :: [(b1497, .cells #[.map (mb A1470)] 110 (0, 0))] :: s1493 :: s526 :: [(b48, .cells #[.slice A43 vt37.length c44, .int .i64 level5, .slice A1679 x1678.length c1680, .slice A524 x523.length c525] 109 (0, 0))] :: s45 :: H) → Own fx_node.t 116 f1673 A1679 c1680 s1681 x1678 → a_ = ⟨#[.slice A2 rows1.length c3, iV level5, uV, uV, .pointer none, iV 0, iV vt12, pV b48 0, .map (mb A1470), (j519 0), (j519 1), (j519 2), (j519 3), (j519 4), (j519 5), (j519 6), (j1468 0), uV, (j1468 1), (j1468 2), (j1468 3), uV, (j1677 0), .slice A2 rows1.length c3, iV vt12, iV vt12, fV, uV, iV level5, fV, fV, iV level5, fV, fV, .slice A2 rows1.length c3, .slice A43 vt37.length c44, iV level5, .agg #[.slice A43 vt37.length c44, iV level5, .slice none 0 0, .slice none 0 0], pV b48 0, (j519 7), pV b48 0, pV b48 0, pV b48 0, .slice A43 vt37.length c44, iV (vt37.length : Int), (j519 8), (j519 9), (j519 10), (j519 11), (j519 12), (j519 13), (j519 14), (j519 15), (j519 16), (j519 17), (j519 18), (j519 19), (j519 20), (j519 21), (j519 22), (j519 23), (j519 24), (j519 25), (j519 26), (j519 27), (j519 28), (j519 29), (j519 30), (j519 31), (j519 32), (j519 33), (j519 34), (j519 35), (j519 36), (j519 37), (j519 38), (j519 39), (j519 40), (j519 41), (j519 42), (j519 43), (j519 44), (j519 45), (j519 46), (j519 47), (j519 48), (j519 49), (j519 50), (j519 51), (j519 52), (j519 53), (j519 54), (j519 55), (j519 56), (j519 57), (j519 58), (j519 59), (j519 60), (j519 61), (j519 62), (j519 63), (j519 64), (j519 65), (j519 66), (j519 67), (j519 68), (j519 69), (j519 70), (j519 71), (j519 72), (j519 73), iV level5, (j1468 4), (j1468 5), (j1468 6), (j1468 7), (j1468 8), (j1468 9), (j1468 10), (j1468 11), (j1468 12), (j1468 13), (j1468 14), (j1468 15), (j1468 16), (j1468 17), (j1468 18), (j1468 19), (j1468 20), (j1468 21), (j1468 22), (j1468 23), (j1468 24), (j1468 25), (j1468 26), (j1468 27), (j1468 28), (j1468 29), (j1468 30), (j1468 31), (j1468 32), (j1468 33), (j1468 34), (j1468 35), (j1468 36), (j1468 37), (j1468 38), (j1468 39), (j1468 40), (j1468 41), (j1468 42), (j1468 43), (j1468 44), (j1468 45), (j1468 46), (j1468 47), (j1468 48), (j1468 49), (j1468 50), (j1468 51), (j1468 52), (j1468 53), (j1468 54), (j1468 55), (j1468 56), (j1468 57), (j1468 58), (j1468 59), (j1468 60), (j1468 61), .map (mb A1470), .func (.func 86) #[] #[pV b1497 0], .slice A1505 vt1503.length c1506, iV (vt1503.length : Int), (j1677 1), (j1677 2), (j1677 3), (j1677 4), (j1677 5), (j1677 6), (j1677 7), (j1677 8), (j1677 9), (j1677 10), (j1677 11), (j1677 12), (j1677 13), (j1677 14), (j1677 15), (j1677 16), (j1677 17), uV], []⟩ → K1487 a_ W1675 := by
          intro f1673 A1679 c1680 s1681 x1678 j1677 W1675 a_ L1674 hj1686 HS1676 HO1682 hfr_; subst hfr_
          injection hj1686 with hj1686; subst hj1686; try dsimp only at h
          refine hK1488 _ _ ?_
          refine wp_seq_k fun K1696 hK1697 => rl ?_
          refine seqL3 kr ?_
          refine nl (hK1697 _ _ ?_)
          refine wp_ret ?_
          refine hret _ _ ?_
          have HS1698 := HS1676.u6
          obtain ⟨f1699, L1700, HS1701, HR1702⟩ := (HO46.mono (L516.trans (L1465.trans (L1494.trans L1674)))).freeze HS1698
          obtain ⟨f1703, L1704, HS1705, HR1706⟩ := (HO1682.mono L1700).freeze HS1701
          have HS1707 := HS1705.u3
          obtain ⟨f1708, L1709, HS1710, HR1711⟩ := (HO527.mono (L1465.trans (L1494.trans (L1674.trans (L1700.trans L1704))))).freeze HS1707
          refine ends_still (v := Value.tuple #[.pointer (some ⟨b48, 0, none⟩), .int .i64 0]) kr kr ?_
          have HS1712 := HS1710.drop
          have HS1713 := HS1712.drop
          have HS1714 := HS1713.drop
          injection h with h
          injection h with h0_ h
          subst h0_ h
          exact ⟨f1708, A43, c44, A1679, c1680, A524, c525, b48, rfl, (L15.trans (L40.trans (L516.trans (L1465.trans (L1494.trans (L1674.trans (L1700.trans (L1704.trans L1709)))))))), HS1714, (HR1702.mono (L1704.trans L1709)), (HR1706.mono L1709), HR1711⟩
         clear h; have h := hv1684; clear hv1684
         have HS1687 := HS1509.cons_nil
         refine loopK (fun n_ a_ w_ => ∃ (f1597 : FM) (A1604 : Option Addr) (c1605 : Nat) (s1606 : Seg) (x1602 : Int) (x1603 : List S_node) (j1601 : Nat → Value), FM.le f1492 f1597 ∧ St t w_ f1597 (s1606 :: s1507 :: [(b1497, .cells #[.map (mb A1470)] 110 (0, 0))] :: s1493 :: s526 :: [(b48, .cells #[.slice A43 vt37.length c44, .int .i64 level5, .slice A1604 x1603.length c1605, .slice A524 x523.length c525] 109 (0, 0))] :: s45 :: H) ∧ Own fx_node.t 116 f1597 A1604 c1605 s1606 x1603 ∧ query_New.l3 k vt1503 vat1469 n_ x1602 x1603 = some o1593 ∧ a_ = ⟨#[.slice A2 rows1.length c3, iV level5, uV, uV, .pointer none, iV 0, iV vt12, pV b48 0, .map (mb A1470), (j519 0), (j519 1), (j519 2), (j519 3), (j519 4), (j519 5), (j519 6), (j1468 0), uV, (j1468 1), (j1468 2), (j1468 3), uV, (j1601 0), .slice A2 rows1.length c3, iV vt12, iV vt12, fV, uV, iV level5, fV, fV, iV level5, fV, fV, .slice A2 rows1.length c3, .slice A43 vt37.length c44, iV level5, .agg #[.slice A43 vt37.length c44, iV level5, .slice none 0 0, .slice none 0 0], pV b48 0, (j519 7), pV b48 0, pV b48 0, pV b48 0, .slice A43 vt37.length c44, iV (vt37.length : Int), (j519 8), (j519 9), (j519 10), (j519 11), (j519 12), (j519 13), (j519 14), (j519 15), (j519 16), (j519 17), (j519 18), (j519 19), (j519 20), (j519 21), (j519 22), (j519 23), (j519 24), (j519 25), (j519 26), (j519 27), (j519 28), (j519 29), (j519 30), (j519 31), (j519 32), (j519 33), (j519 34), (j519 35), (j519 36), (j519 37), (j519 38), (j519 39), (j519 40), (j519 41), (j519 42), (j519 43), (j519 44), (j519 45), (j519 46), (j519 47), (j519 48), (j519 49), (j519 50), (j519 51), (j519 52), (j519 53), (j519 54), (j519 55), (j519 56), (j519 57), (j519 58), (j519 59), (j519 60), (j519 61), (j519 62), (j519 63), (j519 64), (j519 65), (j519 66), (j519 67), (j519 68), (j519 69), (j519 70), (j519 71), (j519 72), (j519 73), iV level5, (j1468 4), (j1468 5), (j1468 6), (j1468 7), (j1468 8), (j1468 9), (j1468 10), (j1468 11), (j1468 12), (j1468 13), (j1468 14), (j1468 15), (j1468 16), (j1468 17), (j1468 18), (j1468 19), (j1468 20), (j1468 21), (j1468 22), (j1468 23), (j1468 24), (j1468 25), (j1468 26), (j1468 27), (j1468 28), (j1468 29), (j1468 30), (j1468 31), (j1468 32), (j1468 33), (j1468 34), (j1468 35), (j1468 36), (j1468 37), (j1468 38), (j1468 39), (j1468 40), (j1468 41), (j1468 42), (j1468 43), (j1468 44), (j1468 45), (j1468 46), (j1468 47), (j1468 48), (j1468 49), (j1468 50), (j1468 51), (j1468 52), (j1468 53), (j1468 54), (j1468 55), (j1468 56), (j1468 57), (j1468 58), (j1468 59), (j1468 60), (j1468 61), .map (mb A1470), .func (.func 86) #[] #[pV b1497 0], .slice A1505 vt1503.length c1506, iV (vt1503.length : Int), iV x1602, (j1601 1), (j1601 2), (j1601 3), (j1601 4), (j1601 5), (j1601 6), (j1601 7), (j1601 8), (j1601 9), (j1601 10), (j1601 11), (j1601 12), (j1601 13), (j1601 14), (j1601 15), (j1601 16), uV], []⟩) k ⟨f1492, none, 0, [], 0, ([] : List S_node), (jL []), fL, HS1687, (Own.nil _), h, kr⟩ ?_
         clear h
         rintro n1596 _ W1599 ⟨f1597, A1604, c1605, s1606, x1602, x1603, j1601, L1598, HS1600, HO1607, h, rfl⟩ K1594 hK1595
         obtain _ | n1596 := n1596
         · exact nomatch h
         simp only [query_New.l3] at h
         refine wp_seq_k fun K1609 hK1610 => rl ?_
         refine seqL1 kr ?_
         refine nl (hK1610 _ _ ?_)
         refine wp_seq_k (fun K1611 hK1612 => ?_)
         have hq_ := ite_some h; clear h; rcases hq_ with ⟨c1614, h⟩ | ⟨c1614, h⟩
         · have c1614 : x1602 < (vt1503.length : Int) := c1614
           refine wpRwI 175 kr (decide_eq_true c1614) ?_
           refine condT kr ?_
           refine wp_skip ?_
           refine hK1612 _ _ ?_
           refine wp_seq_k (fun K1615 hK1616 => ?_)
           refine blockK (fun B1617 hx1618 hn1619 hr1620 ho1621 hp1622 => ?_)
           refine wp_seq_k fun K1624 hK1625 => rl ?_
           have hq_ := guard_some h; clear h; obtain ⟨c1626, h⟩ := hq_
           have c1626 : 0 ≤ x1602 := c1626
           obtain ⟨b1630, of1631, cs1627, hA1632, hr1628, hc1629⟩ := (HO1510.mono L1598).at (i := x1602) c1626 c1614
           obtain rfl := hr1628
           refine seqK rfl (does_run (run_indexE hA1632 (sz := 1) rfl Tryz.underlying120 kr (kv (.slice A1505 vt1503.length c1506)) (kv (.int .i64 x1602)) c1626 c1614 W1599) ?_)
           refine seqK rfl (does_run (run_load rfl Tryz.underlying113 rfl (kv (.pointer (some ⟨b1630, of1631 + (x1602 : Int).toNat * 1, none⟩))) ((hc1629 HS1600.u1) 0 (by decide))) ?_)
           refine seqL1 kr ?_
           refine nl (hK1625 _ _ ?_)
           have HS1639 := HS1600.u6.u5.u5.u5.u5.u6.u6
           refine heldG (S := Sg t f1597 (s1507 :: [(b1497, .cells #[.map (mb A1470)] 110 (0, 0))] :: s1493 :: s526 :: s45 :: H) [(9, s1606), (9, [(b48, .cells #[.slice A43 vt37.length c44, .int .i64 level5, .slice A1604 x1603.length c1605, .slice A524 x523.length c525] 109 (0, 0))])]) (n := 13) kr rfl HS1639 ?_
           intro W1640 HS1641
           refine takeGL [0, 1, 2, 3] (n := 13) (fuel := 9) #[true, true, true, true, false, false, false, false, false, false, false, false, false] rfl kr kr kr (fun ch_ a_ w_ q_ => (fun ch_ a_ w_ q_ => hnp ch_ a_ w_ (hp1517 ch_ a_ w_ q_)) ch_ a_ w_ (hp1622 ch_ a_ w_ q_)) (Sg.g2 (Sx.of [s1606, [(b48, .cells #[.slice A43 vt37.length c44, .int .i64 level5, .slice A1604 x1603.length c1605, .slice A524 x523.length c525] 109 (0, 0))]] fL HS1641) (fun _ => St.only [] HS1641 fL) (fun _ => St.only [s1606] HS1641 fL)) ?_
           refine takeGQ 4 [9] rfl kr kr kr kr kr kr (fun ch_ a_ w_ q_ => (fun ch_ a_ w_ q_ => hnp ch_ a_ w_ (hp1517 ch_ a_ w_ q_)) ch_ a_ w_ (hp1622 ch_ a_ w_ q_)) (Sg.g2 (Sx.of [s1606, [(b48, .cells #[.slice A43 vt37.length c44, .int .i64 level5, .slice A1604 x1603.length c1605, .slice A524 x523.length c525] 109 (0, 0))]] fL HS1641) (fun _ => St.only [] HS1641 fL) (fun _ => St.only [s1606] HS1641 fL)) (fun w_ hw_ => by obtain ⟨g_, hl_, hS_⟩ := hw_.seg (j := 9) (s := [(b48, .cells #[.slice A43 vt37.length c44, .int .i64 level5, .slice A1604 x1603.length c1605, .slice A524 x523.length c525] 109 (0, 0))]) (by simp) (by simp); exact run_load rfl Tryz.underlying107 rfl (kv (.pointer (some ⟨b48, 2, none⟩))) (hS_.cell 2)) ?_
           have hq_ := guard_some h; clear h; obtain ⟨c1642, h⟩ := hq_
           have c1642 : (mfind vat1469 (rd vt1503 x1602)).isSome = true := c1642
           obtain ⟨u1643, hr1644, hl1645⟩ := (HO1496.mono L1598).look (P := Tryz.prog) (z := (default : S_node)) c1642
           obtain ⟨b1646, ar1647, fr1648, hu1649, hb1650, hG1651⟩ := fx_node.opened hr1644
           obtain rfl := head_of hu1649
           obtain ⟨A1653, c1653, A1654, c1654, ha1652, HR1653, HR1654⟩ := hG1651
           obtain rfl := arr_of ha1652
           have hb1650 : f1597 b1646 = some (.cells #[.int .i64 ((((mget (default : S_node) vat1469 (rd vt1503 x1602)).box).X).Lo), .int .i64 ((((mget (default : S_node) vat1469 (rd vt1503 x1602)).box).X).Hi), .bool ((((mget (default : S_node) vat1469 (rd vt1503 x1602)).box).X).Unknown), .int .i64 ((((mget (default : S_node) vat1469 (rd vt1503 x1602)).box).Y).Lo), .int .i64 ((((mget (default : S_node) vat1469 (rd vt1503 x1602)).box).Y).Hi), .bool ((((mget (default : S_node) vat1469 (rd vt1503 x1602)).box).Y).Unknown), .int .i64 ((((mget (default : S_node) vat1469 (rd vt1503 x1602)).box).Z).Lo), .int .i64 ((((mget (default : S_node) vat1469 (rd vt1503 x1602)).box).Z).Hi), .bool ((((mget (default : S_node) vat1469 (rd vt1503 x1602)).box).Z).Unknown), .int .i64 (((mget (default : S_node) vat1469 (rd vt1503 x1602)).when).Lo), .int .i64 (((mget (default : S_node) vat1469 (rd vt1503 x1602)).when).Hi), .bool (((mget (default : S_node) vat1469 (rd vt1503 x1602)).when).Unknown), .slice A1653 ((mget (default : S_node) vat1469 (rd vt1503 x1602)).kids).length c1653, .slice A1654 ((mget (default : S_node) vat1469 (rd vt1503 x1602)).rows).length c1654] 119 fr1648) := hb1650
           refine takeGL [5, 6] (n := 8) (fuel := 6) #[true, true, true, true, true, true, true, false, false, false, false, false, false] rfl kr kr kr (fun ch_ a_ w_ q_ => (fun ch_ a_ w_ q_ => hnp ch_ a_ w_ (hp1517 ch_ a_ w_ q_)) ch_ a_ w_ (hp1622 ch_ a_ w_ q_)) (Sg.g2 (Sx.of [s1606, [(b48, .cells #[.slice A43 vt37.length c44, .int .i64 level5, .slice A1604 x1603.length c1605, .slice A524 x523.length c525] 109 (0, 0))]] fL HS1641) (fun _ => St.only [] HS1641 fL) (fun _ => St.only [s1606] HS1641 fL)) ?_
           refine takeGQ 7 [] rfl kr kr kr kr kr kr (fun ch_ a_ w_ q_ => (fun ch_ a_ w_ q_ => hnp ch_ a_ w_ (hp1517 ch_ a_ w_ q_)) ch_ a_ w_ (hp1622 ch_ a_ w_ q_)) (Sg.g2 (Sx.of [s1606, [(b48, .cells #[.slice A43 vt37.length c44, .int .i64 level5, .slice A1604 x1603.length c1605, .slice A524 x523.length c525] 109 (0, 0))]] fL HS1641) (fun _ => St.only [] HS1641 fL) (fun _ => St.only [s1606] HS1641 fL)) (fun w_ hw_ => by obtain ⟨g_, hl_, hS_⟩ := hw_.st; exact hl1645 rfl Tryz.underlying110 Tryz.underlying113 (kv (.map (mb A1470))) (kv (.int .i64 (rd vt1503 x1602))) hS_.u2) ?_
           refine takeGE 8 kr rfl kr (does_lit (e := fx_node.t) (E := 116) (vs := #[(0, Value.pointer (some ⟨b1646, 0, none⟩))]) (cs := #[.pointer (some ⟨b1646, 0, none⟩)]) (xs := ([(mget (default : S_node) vat1469 (rd vt1503 x1602))] : List S_node)) rfl Tryz.underlying107 kr kr ⟨[.pointer (some ⟨b1646, 0, none⟩)], _, rfl, hr1644, rfl⟩ rfl HS1641 ?_ (by decide))
           intro b1655 W1656 s1657 HS1658 _ HO1659
           refine ⟨(Sg.g2 (Sx.of [s1657, s1606, [(b48, .cells #[.slice A43 vt37.length c44, .int .i64 level5, .slice A1604 x1603.length c1605, .slice A524 x523.length c525] 109 (0, 0))]] fL HS1658) (fun _ => St.only [s1657] HS1658 fL) (fun _ => St.only [s1657, s1606] HS1658 fL)), ?_⟩
           have hq_ := guard_some h; clear h; obtain ⟨c1661, h⟩ := hq_
           have c1661 : (x1603.length + 1) * 8 ≤ 140737488355328 := c1661
           have HS1663 := HS1658.u1.u1
           refine takeGE 9 kr rfl kr (does_append1 (e := fx_node.t) (E := 116) (xs := x1603) (ys := ([(mget (default : S_node) vat1469 (rd vt1503 x1602))] : List S_node)) rfl (kv (.slice A1604 x1603.length c1605)) (kv (.slice (some ⟨b1655, 0, none⟩) ([(mget (default : S_node) vat1469 (rd vt1503 x1602))] : List S_node).length 1)) Tryz.underlying107 inf116 HO1607 HO1659 HS1663 c1661 (lim63 c1661 (by decide)) ?_)
           intro A1664 c1665 s1666 W1667 HS1668 HO1669
           refine ⟨(Sg.g2 (Sx.of [s1666, [(b48, .cells #[.slice A43 vt37.length c44, .int .i64 level5, .slice A1604 x1603.length c1605, .slice A524 x523.length c525] 109 (0, 0))]] fL HS1668) (fun hl_ => Bool.noConfusion (show true = false from hl_)) (fun hl_ => Bool.noConfusion (show true = false from hl_))), ?_⟩
           refine takeGL [10, 11] (n := 3) (fuel := 1) #[true, true, true, true, true, true, true, true, true, true, true, true, false] rfl kr kr kr (fun ch_ a_ w_ q_ => (fun ch_ a_ w_ q_ => hnp ch_ a_ w_ (hp1517 ch_ a_ w_ q_)) ch_ a_ w_ (hp1622 ch_ a_ w_ q_)) (Sg.g2 (Sx.of [s1666, [(b48, .cells #[.slice A43 vt37.length c44, .int .i64 level5, .slice A1604 x1603.length c1605, .slice A524 x523.length c525] 109 (0, 0))]] fL HS1668) (fun hl_ => Bool.noConfusion (show true = false from hl_)) (fun hl_ => Bool.noConfusion (show true = false from hl_))) ?_
           have HS1670 := HS1668.u1
           refine takeGE 12 kr rfl kr (does_store (n := 1) (vs := [.slice A1664 (x1603 ++ ([(mget (default : S_node) vat1469 (rd vt1503 x1602))] : List S_node)).length c1665]) (cs' := #[.slice A43 vt37.length c44, .int .i64 level5, .slice A1664 (x1603 ++ ([(mget (default : S_node) vat1469 (rd vt1503 x1602))] : List S_node)).length c1665, .slice A524 x523.length c525]) rfl kr (kv (.pointer (some ⟨b48, 2, none⟩))) (kv (.slice A1664 (x1603 ++ ([(mget (default : S_node) vat1469 (rd vt1503 x1602))] : List S_node)).length c1665)) rfl rfl (ones rfl) HS1670 (Nat.le_of_ble_eq_true rfl) kr ?_)
           intro W1671 HS1672
           refine ⟨(Sg.g2 (Sx.of [[(b48, .cells #[.slice A43 vt37.length c44, .int .i64 level5, .slice A1664 (x1603 ++ ([(mget (default : S_node) vat1469 (rd vt1503 x1602))] : List S_node)).length c1665, .slice A524 x523.length c525] 109 (0, 0))], s1666] fL HS1672) (fun hl_ => Bool.noConfusion (show true = false from hl_)) (fun hl_ => Bool.noConfusion (show true = false from hl_))), ?_⟩
           refine doneG kr ?_ _
           refine hn1619 _ _ ?_
           refine hK1616 _ _ ?_
           refine rl ?_
           refine seqL2 kr ?_
           refine nl ?_
           refine hK1595 n1596 _ _ (Nat.lt_succ_self _) ?_
           have HS1695 := HS1672.u6.u1.u6.u6.u6.u6.u6
           exact ⟨f1597, A1664, c1665, s1666, (w64 (x1602 + 1)), (x1603 ++ ([(mget (default : S_node) vat1469 (rd vt1503 x1602))] : List S_node)), (jL [iV (rd vt1503 x1602), tV, .pointer (some ⟨b1630, of1631 + (x1602 : Int).toNat * 1, none⟩), iV (rd vt1503 x1602), .pointer (some ⟨b48, 0, none⟩), .pointer (some ⟨b48, 0, none⟩), .pointer (some ⟨b48, 0, none⟩), .pointer (some ⟨b48, 2, none⟩), .slice A1604 x1603.length c1605, .map (mb A1470), iV (rd vt1503 x1602), .pointer (some ⟨b1646, 0, none⟩), .slice (some ⟨b1655, 0, none⟩) ([(mget (default : S_node) vat1469 (rd vt1503 x1602))] : List S_node).length 1, .slice A1664 (x1603 ++ ([(mget (default : S_node) vat1469 (rd vt1503 x1602))] : List S_node)).length c1665, .pointer (some ⟨b48, 0, none⟩), .pointer (some ⟨b48, 2, none⟩), iV (w64 (x1602 + 1))]), L1598, HS1695, HO1669, h, kr⟩
         · have c1614 : ¬ (x1602 < (vt1503.length : Int)) := c1614
           refine wpRwI 175 kr (decide_eq_false c1614) ?_
           refine condF kr ?_
           refine wp_exit ?_
           refine hx1513 _ _ ?_
           exact J1685 f1597 A1604 c1605 s1606 x1603 (jL [(j1601 0), iV x1602, fV, (j1601 2), (j1601 3), (j1601 4), (j1601 5), (j1601 6), (j1601 7), (j1601 8), (j1601 9), (j1601 10), (j1601 11), (j1601 12), (j1601 13), (j1601 14), (j1601 15), (j1601 16)]) W1599 _ L1598 h HS1600 HO1607 kr
        clear h; have h := hv1474; clear hv1474
        refine loopK (fun n_ a_ w_ => ∃ (f1023 : FM) (A1029 : Option Addr) (c1030 : Nat) (s1031 : Seg) (vat1028 : List (Int × S_node)) (x1033 : Int) (j1027 : Nat → Value), FM.le f515 f1023 ∧ St t w_ f1023 (s526 :: s1031 :: [(b48, .cells #[.slice A43 vt37.length c44, .int .i64 level5, .slice none 0 0, .slice A524 x523.length c525] 109 (0, 0))] :: s45 :: H) ∧ OwnMB rk_node 200110 f1023 A1029 c1030 s1031 vat1028 ∧ query_New.l1 k level5 n_ vat1028 x1033 = some o1019 ∧ a_ = ⟨#[.slice A2 rows1.length c3, iV level5, uV, uV, .pointer none, iV 0, iV vt12, pV b48 0, .map (mb A1029), (j519 0), (j519 1), (j519 2), (j519 3), (j519 4), (j519 5), (j519 6), (j1027 0), uV, (j1027 1), (j1027 2), (j1027 3), uV, uV, .slice A2 rows1.length c3, iV vt12, iV vt12, fV, uV, iV level5, fV, fV, iV level5, fV, fV, .slice A2 rows1.length c3, .slice A43 vt37.length c44, iV level5, .agg #[.slice A43 vt37.length c44, iV level5, .slice none 0 0, .slice none 0 0], pV b48 0, (j519 7), pV b48 0, pV b48 0, pV b48 0, .slice A43 vt37.length c44, iV (vt37.length : Int), (j519 8), (j519 9), (j519 10), (j519 11), (j519 12), (j519 13), (j519 14), (j519 15), (j519 16), (j519 17), (j519 18), (j519 19), (j519 20), (j519 21), (j519 22), (j519 23), (j519 24), (j519 25), (j519 26), (j519 27), (j519 28), (j519 29), (j519 30), (j519 31), (j519 32), (j519 33), (j519 34), (j519 35), (j519 36), (j519 37), (j519 38), (j519 39), (j519 40), (j519 41), (j519 42), (j519 43), (j519 44), (j519 45), (j519 46), (j519 47), (j519 48), (j519 49), (j519 50), (j519 51), (j519 52), (j519 53), (j519 54), (j519 55), (j519 56), (j519 57), (j519 58), (j519 59), (j519 60), (j519 61), (j519 62), (j519 63), (j519 64), (j519 65), (j519 66), (j519 67), (j519 68), (j519 69), (j519 70), (j519 71), (j519 72), (j519 73), iV level5, iV x1033, (j1027 4), (j1027 5), (j1027 6), (j1027 7), (j1027 8), (j1027 9), (j1027 10), (j1027 11), (j1027 12), (j1027 13), (j1027 14), (j1027 15), (j1027 16), (j1027 17), (j1027 18), (j1027 19), (j1027 20), (j1027 21), (j1027 22), (j1027 23), (j1027 24), (j1027 25), (j1027 26), (j1027 27), (j1027 28), (j1027 29), (j1027 30), (j1027 31), (j1027 32), (j1027 33), (j1027 34), (j1027 35), (j1027 36), (j1027 37), (j1027 38), (j1027 39), (j1027 40), (j1027 41), (j1027 42), (j1027 43), (j1027 44), (j1027 45), (j1027 46), (j1027 47), (j1027 48), (j1027 49), (j1027 50), (j1027 51), (j1027 52), (j1027 53), (j1027 54), (j1027 55), (j1027 56), (j1027 57), (j1027 58), (j1027 59), (j1027 60), uV, uV, uV, uV, uV, uV, uV, uV, uV, uV, uV, uV, uV, uV, uV, uV, uV, uV, uV, uV, uV, uV], []⟩) k ⟨f515, (some ⟨b54, 0, none⟩), 0, s521, vat520, 0, (jL []), fL, HS518, HO522, h, kr⟩ ?_
        clear h
        rintro n1022 _ W1025 ⟨f1023, A1029, c1030, s1031, vat1028, x1033, j1027, L1024, HS1026, HO1032, h, rfl⟩ K1020 hK1021
        obtain _ | n1022 := n1022
        · exact nomatch h
        simp only [query_New.l1] at h
        refine wp_seq_k fun K1034 hK1035 => rl ?_
        refine seqL1 kr ?_
        refine nl (hK1035 _ _ ?_)
        refine wp_seq_k (fun K1036 hK1037 => ?_)
        have hq_ := ite_some h; clear h; rcases hq_ with ⟨c1039, h⟩ | ⟨c1039, h⟩
        · have c1039 : x1033 < level5 := c1039
          refine wpRwI 113 kr (decide_eq_true c1039) ?_
          refine condT kr ?_
          refine wp_skip ?_
          refine hK1037 _ _ ?_
          refine wp_seq_k (fun K1040 hK1041 => ?_)
          refine blockK (fun B1042 hx1043 hn1044 hr1045 ho1046 hp1047 => ?_)
          refine wp_seq_k fun K1049 hK1050 => rl ?_
          refine seqK rfl (does_makeMapB rk_node 200110 rfl HS1026 ?_)
          intro b1051 W1052 s1053 HS1054 HO1055
          refine seqL1 kr ?_
          refine nl (hK1050 _ _ ?_)
          refine wp_seq_k (fun K1057 hK1058 => ?_)
          refine wp_seq_k fun K1059 hK1060 => rl ?_
          have HS1061 := HS1054.u2
          obtain ⟨f1062, s1063, L1064, HS1065, HO1066⟩ := HO1032.freeze HS1061
          refine seqL1 kr ?_
          refine seqK rfl (does_call (f := 50) (args := #[Value.map (mb A1029)]) kr (keys_calls (M := 110) (g := 86) Tryz.keys50 rfl rfl rfl HS1065) ?_)
          rintro _ W1068 ⟨b1067, rfl, HS1069⟩
          refine ⟨_, rfl, ?_⟩
          have HS1072 := HS1069.u1.u1
          have hq_ := bind_some h; clear h; obtain ⟨vt1073, hc1074, h⟩ := hq_
          refine seqK rfl (does_call (f := 49) (args := #[Value.func (.func 86) #[] #[.pointer (some ⟨b1067, 0, none⟩)]]) kr (sorted_callsP Tryz.keys50 Tryz.sorted49 rfl rfl rfl rfl rfl Tryz.underlying113 Tryz.slices_Sort_int Tryz.slices_Sort_int_none (Go.Proofs.enters_of Tryz.func85 kr rfl) (Go.Proofs.enters_of Tryz.func86 kr rfl) HO1066 HS1072 vt1073 hc1074) ?_)
          rintro _ W1078 ⟨A1075, c1076, s1077, rfl, HS1079, HO1080⟩
          refine ⟨_, rfl, ?_⟩
          refine seqL2 kr ?_
          refine nl (hK1060 _ _ ?_)
          refine blockK (fun B1082 hx1083 hn1084 hr1085 ho1086 hp1087 => ?_)
          have hq_ := bind_some h; clear h; obtain ⟨o1262, hv1447, h⟩ := hq_
          have J1448 : ∀ (f1439 : FM) (s1445 : Seg) (up1444 : List (Int × S_node)) (j1443 : Nat → Value) (W1441 : World) (a_ : Act), FM.le f1062 f1439 → some (up1444) = some o1262 → St t W1441 f1439 (s1077 :: [(b1067, .cells #[.map (mb A1029)] 110 (0, 0))] :: s1063 :: s1445 :: s526 :: [(b48, .cells #[.slice A43 vt37.length c44, .int .i64 level5, .slice none 0 0, .slice A524 x523.length c525] 109 (0, 0))] :: s45 :: H) → OwnMB rk_node 200110 f1439 (some ⟨b1051, 0, none⟩) 0 s1445 up1444 → a_ = ⟨#[.slice A2 rows1.length c3, iV level5, uV, uV, .pointer none, iV 0, iV vt12, pV b48 0, .map (mb A1029), (j519 0), (j519 1), (j519 2), (j519 3), (j519 4), (j519 5), (j519 6), .map (mb (some ⟨b1051, 0, none⟩)), uV, (j1443 0), (j1443 1), (j1443 2), uV, uV, .slice A2 rows1.length c3, iV vt12, iV vt12, fV, uV, iV level5, fV, fV, iV level5, fV, fV, .slice A2 rows1.length c3, .slice A43 vt37.length c44, iV level5, .agg #[.slice A43 vt37.length c44, iV level5, .slice none 0 0, .slice none 0 0], pV b48 0, (j519 7), pV b48 0, pV b48 0, pV b48 0, .slice A43 vt37.length c44, iV (vt37.length : Int), (j519 8), (j519 9), (j519 10), (j519 11), (j519 12), (j519 13), (j519 14), (j519 15), (j519 16), (j519 17), (j519 18), (j519 19), (j519 20), (j519 21), (j519 22), (j519 23), (j519 24), (j519 25), (j519 26), (j519 27), (j519 28), (j519 29), (j519 30), (j519 31), (j519 32), (j519 33), (j519 34), (j519 35), (j519 36), (j519 37), (j519 38), (j519 39), (j519 40), (j519 41), (j519 42), (j519 43), (j519 44), (j519 45), (j519 46), (j519 47), (j519 48), (j519 49), (j519 50), (j519 51), (j519 52), (j519 53), (j519 54), (j519 55), (j519 56), (j519 57), (j519 58), (j519 59), (j519 60), (j519 61), (j519 62), (j519 63), (j519 64), (j519 65), (j519 66), (j519 67), (j519 68), (j519 69), (j519 70), (j519 71), (j519 72), (j519 73), iV level5, iV x1033, tV, (j1443 3), .map (mb A1029), .func (.func 86) #[] #[pV b1067 0], .slice A1075 vt1073.length c1076, iV (vt1073.length : Int), (j1443 4), (j1443 5), (j1443 6), (j1443 7), (j1443 8), (j1443 9), (j1443 10), (j1443 11), (j1443 12), (j1443 13), (j1443 14), (j1443 15), (j1443 16), (j1443 17), (j1443 18), (j1443 19), (j1443 20), (j1443 21), (j1443 22), (j1443 23), (j1443 24), (j1443 25), (j1443 26), (j1443 27), (j1443 28), (j1443 29), (j1443 30), (j1443 31), (j1443 32), (j1443 33), (j1443 34), (j1443 35), (j1443 36), (j1443 37), (j1443 38), (j1443 39), (j1443 40), (j1443 41), (j1443 42), (j1443 43), (j1443 44), (j1443 45), (j1443 46), (j1443 47), (j1443 48), (j1443 49), (j1443 50), (j1443 51), (j1443 52), (j1027 59), (j1027 60), uV, uV, uV, uV, uV, uV, uV, uV, uV, uV, uV, uV, uV, uV, uV, uV, uV, uV, uV, uV, uV, uV], []⟩ → K1057 a_ W1441 := by
           intro f1439 s1445 up1444 j1443 W1441 a_ L1440 hj1449 HS1442 HO1446 hfr_; subst hfr_
           injection hj1449 with hj1449; subst hj1449; try dsimp only at h
           refine hK1058 _ _ ?_
           refine rl ?_
           refine seqL2 kr ?_
           refine nl ?_
           refine hn1044 _ _ ?_
           refine hK1041 _ _ ?_
           refine rl ?_
           refine seqL2 kr ?_
           refine nl ?_
           refine hK1021 n1022 _ _ (Nat.lt_succ_self _) ?_
           have HS1483 := HS1442.u6.u6.u5.u6.u6.u6.u6
           have HS1484 := HS1483.drop
           have HS1485 := HS1484.drop
           have HS1486 := HS1485.drop
           exact ⟨f1439, (some ⟨b1051, 0, none⟩), 0, s1445, up1444, (w64 (x1033 + 1)), (jL [.map (mb (some ⟨b1051, 0, none⟩)), (j1443 0), (j1443 1), (j1443 2), tV, (j1443 3), .map (mb A1029), .func (.func 86) #[] #[.pointer (some ⟨b1067, 0, none⟩)], .slice A1075 vt1073.length c1076, iV (vt1073.length : Int), (j1443 4), (j1443 5), (j1443 6), (j1443 7), (j1443 8), (j1443 9), (j1443 10), (j1443 11), (j1443 12), (j1443 13), (j1443 14), (j1443 15), (j1443 16), (j1443 17), (j1443 18), (j1443 19), (j1443 20), (j1443 21), (j1443 22), (j1443 23), (j1443 24), (j1443 25), (j1443 26), (j1443 27), (j1443 28), (j1443 29), (j1443 30), (j1443 31), (j1443 32), (j1443 33), (j1443 34), (j1443 35), (j1443 36), (j1443 37), (j1443 38), (j1443 39), (j1443 40), (j1443 41), (j1443 42), (j1443 43), (j1443 44), (j1443 45), (j1443 46), (j1443 47), (j1443 48), (j1443 49), (j1443 50), (j1443 51), (j1443 52), .map (mb (some ⟨b1051, 0, none⟩)), iV (w64 (x1033 + 1))]), (L1024.trans (L1064.trans L1440)), HS1486, HO1446, h, kr⟩
          clear h; have h := hv1447; clear hv1447
          refine loopK (fun n_ a_ w_ => ∃ (f1266 : FM) (s1272 : Seg) (up1271 : List (Int × S_node)) (x1274 : Int) (j1270 : Nat → Value), FM.le f1062 f1266 ∧ St t w_ f1266 (s1077 :: [(b1067, .cells #[.map (mb A1029)] 110 (0, 0))] :: s1063 :: s1272 :: s526 :: [(b48, .cells #[.slice A43 vt37.length c44, .int .i64 level5, .slice none 0 0, .slice A524 x523.length c525] 109 (0, 0))] :: s45 :: H) ∧ OwnMB rk_node 200110 f1266 (some ⟨b1051, 0, none⟩) 0 s1272 up1271 ∧ query_New.l2 k vt1073 vat1028 n_ up1271 x1274 = some o1262 ∧ a_ = ⟨#[.slice A2 rows1.length c3, iV level5, uV, uV, .pointer none, iV 0, iV vt12, pV b48 0, .map (mb A1029), (j519 0), (j519 1), (j519 2), (j519 3), (j519 4), (j519 5), (j519 6), .map (mb (some ⟨b1051, 0, none⟩)), uV, (j1270 0), (j1270 1), (j1270 2), uV, uV, .slice A2 rows1.length c3, iV vt12, iV vt12, fV, uV, iV level5, fV, fV, iV level5, fV, fV, .slice A2 rows1.length c3, .slice A43 vt37.length c44, iV level5, .agg #[.slice A43 vt37.length c44, iV level5, .slice none 0 0, .slice none 0 0], pV b48 0, (j519 7), pV b48 0, pV b48 0, pV b48 0, .slice A43 vt37.length c44, iV (vt37.length : Int), (j519 8), (j519 9), (j519 10), (j519 11), (j519 12), (j519 13), (j519 14), (j519 15), (j519 16), (j519 17), (j519 18), (j519 19), (j519 20), (j519 21), (j519 22), (j519 23), (j519 24), (j519 25), (j519 26), (j519 27), (j519 28), (j519 29), (j519 30), (j519 31), (j519 32), (j519 33), (j519 34), (j519 35), (j519 36), (j519 37), (j519 38), (j519 39), (j519 40), (j519 41), (j519 42), (j519 43), (j519 44), (j519 45), (j519 46), (j519 47), (j519 48), (j519 49), (j519 50), (j519 51), (j519 52), (j519 53), (j519 54), (j519 55), (j519 56), (j519 57), (j519 58), (j519 59), (j519 60), (j519 61), (j519 62), (j519 63), (j519 64), (j519 65), (j519 66), (j519 67), (j519 68), (j519 69), (j519 70), (j519 71), (j519 72), (j519 73), iV level5, iV x1033, tV, .map (mb (some ⟨b1051, 0, none⟩)), .map (mb A1029), .func (.func 86) #[] #[pV b1067 0], .slice A1075 vt1073.length c1076, iV (vt1073.length : Int), iV x1274, (j1270 3), (j1270 4), (j1270 5), (j1270 6), (j1270 7), (j1270 8), (j1270 9), (j1270 10), (j1270 11), (j1270 12), (j1270 13), (j1270 14), (j1270 15), (j1270 16), (j1270 17), (j1270 18), (j1270 19), (j1270 20), (j1270 21), (j1270 22), (j1270 23), (j1270 24), (j1270 25), (j1270 26), (j1270 27), (j1270 28), (j1270 29), (j1270 30), (j1270 31), (j1270 32), (j1270 33), (j1270 34), (j1270 35), (j1270 36), (j1270 37), (j1270 38), (j1270 39), (j1270 40), (j1270 41), (j1270 42), (j1270 43), (j1270 44), (j1270 45), (j1270 46), (j1270 47), (j1270 48), (j1270 49), (j1270 50), (j1027 59), (j1027 60), uV, uV, uV, uV, uV, uV, uV, uV, uV, uV, uV, uV, uV, uV, uV, uV, uV, uV, uV, uV, uV, uV], []⟩) k ⟨f1062, s1053, ([] : List (Int × S_node)), 0, (jL [(j1027 1), (j1027 2), (j1027 3), (j1027 11), (j1027 12), (j1027 13), (j1027 14), (j1027 15), (j1027 16), (j1027 17), (j1027 18), (j1027 19), (j1027 20), (j1027 21), (j1027 22), (j1027 23), (j1027 24), (j1027 25), (j1027 26), (j1027 27), (j1027 28), (j1027 29), (j1027 30), (j1027 31), (j1027 32), (j1027 33), (j1027 34), (j1027 35), (j1027 36), (j1027 37), (j1027 38), (j1027 39), (j1027 40), (j1027 41), (j1027 42), (j1027 43), (j1027 44), (j1027 45), (j1027 46), (j1027 47), (j1027 48), (j1027 49), (j1027 50), (j1027 51), (j1027 52), (j1027 53), (j1027 54), (j1027 55), (j1027 56), (j1027 57), (j1027 58)]), fL, HS1079, (HO1055.mono L1064), h, kr⟩ ?_
          clear h
          rintro n1265 _ W1268 ⟨f1266, s1272, up1271, x1274, j1270, L1267, HS1269, HO1273, h, rfl⟩ K1263 hK1264
          obtain _ | n1265 := n1265
          · exact nomatch h
          simp only [query_New.l2] at h
          refine wp_seq_k fun K1275 hK1276 => rl ?_
          refine seqL1 kr ?_
          refine nl (hK1276 _ _ ?_)
          refine wp_seq_k (fun K1277 hK1278 => ?_)
          have hq_ := ite_some h; clear h; rcases hq_ with ⟨c1280, h⟩ | ⟨c1280, h⟩
          · have c1280 : x1274 < (vt1073.length : Int) := c1280
            refine wpRwI 120 kr (decide_eq_true c1280) ?_
            refine condT kr ?_
            refine wp_skip ?_
            refine hK1278 _ _ ?_
            refine wp_seq_k (fun K1281 hK1282 => ?_)
            refine blockK (fun B1283 hx1284 hn1285 hr1286 ho1287 hp1288 => ?_)
            refine wp_seq_k fun K1290 hK1291 => rl ?_
            have hq_ := guard_some h; clear h; obtain ⟨c1292, h⟩ := hq_
            have c1292 : 0 ≤ x1274 := c1292
            obtain ⟨b1296, of1297, cs1293, hA1298, hr1294, hc1295⟩ := (HO1080.mono L1267).at (i := x1274) c1292 c1280
            obtain rfl := hr1294
            refine seqK rfl (does_run (run_indexE hA1298 (sz := 1) rfl Tryz.underlying120 kr (kv (.slice A1075 vt1073.length c1076)) (kv (.int .i64 x1274)) c1292 c1280 W1268) ?_)
            refine seqK rfl (does_run (run_load rfl Tryz.underlying113 rfl (kv (.pointer (some ⟨b1296, of1297 + (x1274 : Int).toNat * 1, none⟩))) ((hc1295 HS1269) 0 (by decide))) ?_)
            refine seqL1 kr ?_
            refine nl (hK1291 _ _ ?_)
            refine wp_seq_k fun K1299 hK1300 => rl ?_
            have hq_ := guard_some h; clear h; obtain ⟨c1301, h⟩ := hq_
            have c1301 : (mfind vat1028 (rd vt1073 x1274)).isSome = true := c1301
            obtain ⟨u1302, hr1303, hl1304⟩ := (HO1066.mono L1267).look (P := Tryz.prog) (z := (default : S_node)) c1301
            obtain ⟨b1305, ar1306, fr1307, hu1308, hb1309, hG1310⟩ := fx_node.opened hr1303
            obtain rfl := head_of hu1308
            obtain ⟨A1312, c1312, A1313, c1313, ha1311, HR1312, HR1313⟩ := hG1310
            obtain rfl := arr_of ha1311
            have hb1309 : f1266 b1305 = some (.cells #[.int .i64 ((((mget (default : S_node) vat1028 (rd vt1073 x1274)).box).X).Lo), .int .i64 ((((mget (default : S_node) vat1028 (rd vt1073 x1274)).box).X).Hi), .bool ((((mget (default : S_node) vat1028 (rd vt1073 x1274)).box).X).Unknown), .int .i64 ((((mget (default : S_node) vat1028 (rd vt1073 x1274)).box).Y).Lo), .int .i64 ((((mget (default : S_node) vat1028 (rd vt1073 x1274)).box).Y).Hi), .bool ((((mget (default : S_node) vat1028 (rd vt1073 x1274)).box).Y).Unknown), .int .i64 ((((mget (default : S_node) vat1028 (rd vt1073 x1274)).box).Z).Lo), .int .i64 ((((mget (default : S_node) vat1028 (rd vt1073 x1274)).box).Z).Hi), .bool ((((mget (default : S_node) vat1028 (rd vt1073 x1274)).box).Z).Unknown), .int .i64 (((mget (default : S_node) vat1028 (rd vt1073 x1274)).when).Lo), .int .i64 (((mget (default : S_node) vat1028 (rd vt1073 x1274)).when).Hi), .bool (((mget (default : S_node) vat1028 (rd vt1073 x1274)).when).Unknown), .slice A1312 ((mget (default : S_node) vat1028 (rd vt1073 x1274)).kids).length c1312, .slice A1313 ((mget (default : S_node) vat1028 (rd vt1073 x1274)).rows).length c1313] 119 fr1307) := hb1309
            refine seqL2 kr ?_
            refine seqK rfl (does_run (hl1304 rfl Tryz.underlying110 Tryz.underlying113 (kv (.map (mb A1029))) (kv (.int .i64 (rd vt1073 x1274))) HS1269.u2) ?_)
            refine seqL1 kr ?_
            refine nl (hK1300 _ _ ?_)
            refine wp_seq_k fun K1314 hK1315 => rl ?_
            refine seqL3 kr ?_
            have hq_ := ite_some h; clear h; rcases hq_ with ⟨c1316, h⟩ | ⟨c1316, h⟩
            · have c1316 : ((mfind up1271 (w64 (Int.tdiv (rd vt1073 x1274) 4))).isSome) = true := c1316
              have HS1317 := HS1269.u3
              obtain ⟨b1318, sb1319, s1320, HS1321, hw1322, hl1323, hc1324⟩ := HO1273.open (P := Tryz.prog) (z := (default : S_node)) c1316 HS1317
              obtain ⟨A1325, c1326, s1327, A1330, c1331, s1332, rfl, HO1328, HO1333⟩ := hw1322
              have HS1336 : St t W1268 f1266 ([(b1318, .cells #[.int .i64 ((((mget (default : S_node) up1271 (w64 (Int.tdiv (rd vt1073 x1274) 4))).box).X).Lo), .int .i64 ((((mget (default : S_node) up1271 (w64 (Int.tdiv (rd vt1073 x1274) 4))).box).X).Hi), .bool ((((mget (default : S_node) up1271 (w64 (Int.tdiv (rd vt1073 x1274) 4))).box).X).Unknown), .int .i64 ((((mget (default : S_node) up1271 (w64 (Int.tdiv (rd vt1073 x1274) 4))).box).Y).Lo), .int .i64 ((((mget (default : S_node) up1271 (w64 (Int.tdiv (rd vt1073 x1274) 4))).box).Y).Hi), .bool ((((mget (default : S_node) up1271 (w64 (Int.tdiv (rd vt1073 x1274) 4))).box).Y).Unknown), .int .i64 ((((mget (default : S_node) up1271 (w64 (Int.tdiv (rd vt1073 x1274) 4))).box).Z).Lo), .int .i64 ((((mget (default : S_node) up1271 (w64 (Int.tdiv (rd vt1073 x1274) 4))).box).Z).Hi), .bool ((((mget (default : S_node) up1271 (w64 (Int.tdiv (rd vt1073 x1274) 4))).box).Z).Unknown), .int .i64 (((mget (default : S_node) up1271 (w64 (Int.tdiv (rd vt1073 x1274) 4))).when).Lo), .int .i64 (((mget (default : S_node) up1271 (w64 (Int.tdiv (rd vt1073 x1274) 4))).when).Hi), .bool (((mget (default : S_node) up1271 (w64 (Int.tdiv (rd vt1073 x1274) 4))).when).Unknown), .slice A1325 ((mget (default : S_node) up1271 (w64 (Int.tdiv (rd vt1073 x1274) 4))).kids).length c1326, .slice A1330 ((mget (default : S_node) up1271 (w64 (Int.tdiv (rd vt1073 x1274) 4))).rows).length c1331] 119 (0, 0))] :: s1327 :: s1332 :: s1320 :: s1077 :: [(b1067, .cells #[.map (mb A1029)] 110 (0, 0))] :: s1063 :: s526 :: [(b48, .cells #[.slice A43 vt37.length c44, .int .i64 level5, .slice none 0 0, .slice A524 x523.length c525] 109 (0, 0))] :: s45 :: H) := HS1321.perm (List.Perm.of_eq (by simp [flat]))
              refine seqK rfl (does_run (hl1323 rfl Tryz.underlying110 Tryz.underlying113 (kv (.map (mb (some ⟨b1051, 0, none⟩)))) (kv (.int .i64 (w64 (Int.tdiv (rd vt1073 x1274) 4)))) HS1336.u3) ?_)
              refine seqL1 kr ?_
              refine nl (hK1315 _ _ ?_)
              refine wp_seq_k fun K1337 hK1338 => rl ?_
              refine seqL2 kr ?_
              refine nl (hK1338 _ _ ?_)
              refine condT kr ?_
              refine wp_seq_k (fun K1339 hK1340 => ?_)
              have HS1350 := HS1336.u9.u9.u9.u9.u9.u9.u9.u9.u9.u9
              refine heldG (S := Sg t f1266 (s1320 :: s1077 :: [(b1067, .cells #[.map (mb A1029)] 110 (0, 0))] :: s1063 :: s526 :: [(b48, .cells #[.slice A43 vt37.length c44, .int .i64 level5, .slice none 0 0, .slice A524 x523.length c525] 109 (0, 0))] :: s45 :: H) [(9, [(b1318, .cells #[.int .i64 ((((mget (default : S_node) up1271 (w64 (Int.tdiv (rd vt1073 x1274) 4))).box).X).Lo), .int .i64 ((((mget (default : S_node) up1271 (w64 (Int.tdiv (rd vt1073 x1274) 4))).box).X).Hi), .bool ((((mget (default : S_node) up1271 (w64 (Int.tdiv (rd vt1073 x1274) 4))).box).X).Unknown), .int .i64 ((((mget (default : S_node) up1271 (w64 (Int.tdiv (rd vt1073 x1274) 4))).box).Y).Lo), .int .i64 ((((mget (default : S_node) up1271 (w64 (Int.tdiv (rd vt1073 x1274) 4))).box).Y).Hi), .bool ((((mget (default : S_node) up1271 (w64 (Int.tdiv (rd vt1073 x1274) 4))).box).Y).Unknown), .int .i64 ((((mget (default : S_node) up1271 (w64 (Int.tdiv (rd vt1073 x1274) 4))).box).Z).Lo), .int .i64 ((((mget (default : S_node) up1271 (w64 (Int.tdiv (rd vt1073 x1274) 4))).box).Z).Hi), .bool ((((mget (default : S_node) up1271 (w64 (Int.tdiv (rd vt1073 x1274) 4))).box).Z).Unknown), .int .i64 (((mget (default : S_node) up1271 (w64 (Int.tdiv (rd vt1073 x1274) 4))).when).Lo), .int .i64 (((mget (default : S_node) up1271 (w64 (Int.tdiv (rd vt1073 x1274) 4))).when).Hi), .bool (((mget (default : S_node) up1271 (w64 (Int.tdiv (rd vt1073 x1274) 4))).when).Unknown), .slice A1325 ((mget (default : S_node) up1271 (w64 (Int.tdiv (rd vt1073 x1274) 4))).kids).length c1326, .slice A1330 ((mget (default : S_node) up1271 (w64 (Int.tdiv (rd vt1073 x1274) 4))).rows).length c1331] 119 (0, 0))]), (9, s1327), (9, s1332)]) (n := 10) kr rfl HS1350 ?_
              intro W1351 HS1352
              refine takeGL [0, 1, 2, 3] (n := 10) (fuel := 6) #[true, true, true, true, false, false, false, false, false, false] rfl kr kr kr (fun ch_ a_ w_ q_ => (fun ch_ a_ w_ q_ => (fun ch_ a_ w_ q_ => (fun ch_ a_ w_ q_ => hnp ch_ a_ w_ (hp575 ch_ a_ w_ q_)) ch_ a_ w_ (hp1047 ch_ a_ w_ q_)) ch_ a_ w_ (hp1087 ch_ a_ w_ q_)) ch_ a_ w_ (hp1288 ch_ a_ w_ q_)) (Sg.g3 (Sx.of [[(b1318, .cells #[.int .i64 ((((mget (default : S_node) up1271 (w64 (Int.tdiv (rd vt1073 x1274) 4))).box).X).Lo), .int .i64 ((((mget (default : S_node) up1271 (w64 (Int.tdiv (rd vt1073 x1274) 4))).box).X).Hi), .bool ((((mget (default : S_node) up1271 (w64 (Int.tdiv (rd vt1073 x1274) 4))).box).X).Unknown), .int .i64 ((((mget (default : S_node) up1271 (w64 (Int.tdiv (rd vt1073 x1274) 4))).box).Y).Lo), .int .i64 ((((mget (default : S_node) up1271 (w64 (Int.tdiv (rd vt1073 x1274) 4))).box).Y).Hi), .bool ((((mget (default : S_node) up1271 (w64 (Int.tdiv (rd vt1073 x1274) 4))).box).Y).Unknown), .int .i64 ((((mget (default : S_node) up1271 (w64 (Int.tdiv (rd vt1073 x1274) 4))).box).Z).Lo), .int .i64 ((((mget (default : S_node) up1271 (w64 (Int.tdiv (rd vt1073 x1274) 4))).box).Z).Hi), .bool ((((mget (default : S_node) up1271 (w64 (Int.tdiv (rd vt1073 x1274) 4))).box).Z).Unknown), .int .i64 (((mget (default : S_node) up1271 (w64 (Int.tdiv (rd vt1073 x1274) 4))).when).Lo), .int .i64 (((mget (default : S_node) up1271 (w64 (Int.tdiv (rd vt1073 x1274) 4))).when).Hi), .bool (((mget (default : S_node) up1271 (w64 (Int.tdiv (rd vt1073 x1274) 4))).when).Unknown), .slice A1325 ((mget (default : S_node) up1271 (w64 (Int.tdiv (rd vt1073 x1274) 4))).kids).length c1326, .slice A1330 ((mget (default : S_node) up1271 (w64 (Int.tdiv (rd vt1073 x1274) 4))).rows).length c1331] 119 (0, 0))], s1327, s1332] fL HS1352) (fun _ => St.only [] HS1352 fL) (fun _ => St.only [[(b1318, .cells #[.int .i64 ((((mget (default : S_node) up1271 (w64 (Int.tdiv (rd vt1073 x1274) 4))).box).X).Lo), .int .i64 ((((mget (default : S_node) up1271 (w64 (Int.tdiv (rd vt1073 x1274) 4))).box).X).Hi), .bool ((((mget (default : S_node) up1271 (w64 (Int.tdiv (rd vt1073 x1274) 4))).box).X).Unknown), .int .i64 ((((mget (default : S_node) up1271 (w64 (Int.tdiv (rd vt1073 x1274) 4))).box).Y).Lo), .int .i64 ((((mget (default : S_node) up1271 (w64 (Int.tdiv (rd vt1073 x1274) 4))).box).Y).Hi), .bool ((((mget (default : S_node) up1271 (w64 (Int.tdiv (rd vt1073 x1274) 4))).box).Y).Unknown), .int .i64 ((((mget (default : S_node) up1271 (w64 (Int.tdiv (rd vt1073 x1274) 4))).box).Z).Lo), .int .i64 ((((mget (default : S_node) up1271 (w64 (Int.tdiv (rd vt1073 x1274) 4))).box).Z).Hi), .bool ((((mget (default : S_node) up1271 (w64 (Int.tdiv (rd vt1073 x1274) 4))).box).Z).Unknown), .int .i64 (((mget (default : S_node) up1271 (w64 (Int.tdiv (rd vt1073 x1274) 4))).when).Lo), .int .i64 (((mget (default : S_node) up1271 (w64 (Int.tdiv (rd vt1073 x1274) 4))).when).Hi), .bool (((mget (default : S_node) up1271 (w64 (Int.tdiv (rd vt1073 x1274) 4))).when).Unknown), .slice A1325 ((mget (default : S_node) up1271 (w64 (Int.tdiv (rd vt1073 x1274) 4))).kids).length c1326, .slice A1330 ((mget (default : S_node) up1271 (w64 (Int.tdiv (rd vt1073 x1274) 4))).rows).length c1331] 119 (0, 0))]] HS1352 fL) (fun _ => St.only [[(b1318, .cells #[.int .i64 ((((mget (default : S_node) up1271 (w64 (Int.tdiv (rd vt1073 x1274) 4))).box).X).Lo), .int .i64 ((((mget (default : S_node) up1271 (w64 (Int.tdiv (rd vt1073 x1274) 4))).box).X).Hi), .bool ((((mget (default : S_node) up1271 (w64 (Int.tdiv (rd vt1073 x1274) 4))).box).X).Unknown), .int .i64 ((((mget (default : S_node) up1271 (w64 (Int.tdiv (rd vt1073 x1274) 4))).box).Y).Lo), .int .i64 ((((mget (default : S_node) up1271 (w64 (Int.tdiv (rd vt1073 x1274) 4))).box).Y).Hi), .bool ((((mget (default : S_node) up1271 (w64 (Int.tdiv (rd vt1073 x1274) 4))).box).Y).Unknown), .int .i64 ((((mget (default : S_node) up1271 (w64 (Int.tdiv (rd vt1073 x1274) 4))).box).Z).Lo), .int .i64 ((((mget (default : S_node) up1271 (w64 (Int.tdiv (rd vt1073 x1274) 4))).box).Z).Hi), .bool ((((mget (default : S_node) up1271 (w64 (Int.tdiv (rd vt1073 x1274) 4))).box).Z).Unknown), .int .i64 (((mget (default : S_node) up1271 (w64 (Int.tdiv (rd vt1073 x1274) 4))).when).Lo), .int .i64 (((mget (default : S_node) up1271 (w64 (Int.tdiv (rd vt1073 x1274) 4))).when).Hi), .bool (((mget (default : S_node) up1271 (w64 (Int.tdiv (rd vt1073 x1274) 4))).when).Unknown), .slice A1325 ((mget (default : S_node) up1271 (w64 (Int.tdiv (rd vt1073 x1274) 4))).kids).length c1326, .slice A1330 ((mget (default : S_node) up1271 (w64 (Int.tdiv (rd vt1073 x1274) 4))).rows).length c1331] 119 (0, 0))], s1327] HS1352 fL)) ?_
              refine takeGQ 4 [] rfl kr kr kr kr kr kr (fun ch_ a_ w_ q_ => (fun ch_ a_ w_ q_ => (fun ch_ a_ w_ q_ => (fun ch_ a_ w_ q_ => hnp ch_ a_ w_ (hp575 ch_ a_ w_ q_)) ch_ a_ w_ (hp1047 ch_ a_ w_ q_)) ch_ a_ w_ (hp1087 ch_ a_ w_ q_)) ch_ a_ w_ (hp1288 ch_ a_ w_ q_)) (Sg.g3 (Sx.of [[(b1318, .cells #[.int .i64 ((((mget (default : S_node) up1271 (w64 (Int.tdiv (rd vt1073 x1274) 4))).box).X).Lo), .int .i64 ((((mget (default : S_node) up1271 (w64 (Int.tdiv (rd vt1073 x1274) 4))).box).X).Hi), .bool ((((mget (default : S_node) up1271 (w64 (Int.tdiv (rd vt1073 x1274) 4))).box).X).Unknown), .int .i64 ((((mget (default : S_node) up1271 (w64 (Int.tdiv (rd vt1073 x1274) 4))).box).Y).Lo), .int .i64 ((((mget (default : S_node) up1271 (w64 (Int.tdiv (rd vt1073 x1274) 4))).box).Y).Hi), .bool ((((mget (default : S_node) up1271 (w64 (Int.tdiv (rd vt1073 x1274) 4))).box).Y).Unknown), .int .i64 ((((mget (default : S_node) up1271 (w64 (Int.tdiv (rd vt1073 x1274) 4))).box).Z).Lo), .int .i64 ((((mget (default : S_node) up1271 (w64 (Int.tdiv (rd vt1073 x1274) 4))).box).Z).Hi), .bool ((((mget (default : S_node) up1271 (w64 (Int.tdiv (rd vt1073 x1274) 4))).box).Z).Unknown), .int .i64 (((mget (default : S_node) up1271 (w64 (Int.tdiv (rd vt1073 x1274) 4))).when).Lo), .int .i64 (((mget (default : S_node) up1271 (w64 (Int.tdiv (rd vt1073 x1274) 4))).when).Hi), .bool (((mget (default : S_node) up1271 (w64 (Int.tdiv (rd vt1073 x1274) 4))).when).Unknown), .slice A1325 ((mget (default : S_node) up1271 (w64 (Int.tdiv (rd vt1073 x1274) 4))).kids).length c1326, .slice A1330 ((mget (default : S_node) up1271 (w64 (Int.tdiv (rd vt1073 x1274) 4))).rows).length c1331] 119 (0, 0))], s1327, s1332] fL HS1352) (fun _ => St.only [] HS1352 fL) (fun _ => St.only [[(b1318, .cells #[.int .i64 ((((mget (default : S_node) up1271 (w64 (Int.tdiv (rd vt1073 x1274) 4))).box).X).Lo), .int .i64 ((((mget (default : S_node) up1271 (w64 (Int.tdiv (rd vt1073 x1274) 4))).box).X).Hi), .bool ((((mget (default : S_node) up1271 (w64 (Int.tdiv (rd vt1073 x1274) 4))).box).X).Unknown), .int .i64 ((((mget (default : S_node) up1271 (w64 (Int.tdiv (rd vt1073 x1274) 4))).box).Y).Lo), .int .i64 ((((mget (default : S_node) up1271 (w64 (Int.tdiv (rd vt1073 x1274) 4))).box).Y).Hi), .bool ((((mget (default : S_node) up1271 (w64 (Int.tdiv (rd vt1073 x1274) 4))).box).Y).Unknown), .int .i64 ((((mget (default : S_node) up1271 (w64 (Int.tdiv (rd vt1073 x1274) 4))).box).Z).Lo), .int .i64 ((((mget (default : S_node) up1271 (w64 (Int.tdiv (rd vt1073 x1274) 4))).box).Z).Hi), .bool ((((mget (default : S_node) up1271 (w64 (Int.tdiv (rd vt1073 x1274) 4))).box).Z).Unknown), .int .i64 (((mget (default : S_node) up1271 (w64 (Int.tdiv (rd vt1073 x1274) 4))).when).Lo), .int .i64 (((mget (default : S_node) up1271 (w64 (Int.tdiv (rd vt1073 x1274) 4))).when).Hi), .bool (((mget (default : S_node) up1271 (w64 (Int.tdiv (rd vt1073 x1274) 4))).when).Unknown), .slice A1325 ((mget (default : S_node) up1271 (w64 (Int.tdiv (rd vt1073 x1274) 4))).kids).length c1326, .slice A1330 ((mget (default : S_node) up1271 (w64 (Int.tdiv (rd vt1073 x1274) 4))).rows).length c1331] 119 (0, 0))]] HS1352 fL) (fun _ => St.only [[(b1318, .cells #[.int .i64 ((((mget (default : S_node) up1271 (w64 (Int.tdiv (rd vt1073 x1274) 4))).box).X).Lo), .int .i64 ((((mget (default : S_node) up1271 (w64 (Int.tdiv (rd vt1073 x1274) 4))).box).X).Hi), .bool ((((mget (default : S_node) up1271 (w64 (Int.tdiv (rd vt1073 x1274) 4))).box).X).Unknown), .int .i64 ((((mget (default : S_node) up1271 (w64 (Int.tdiv (rd vt1073 x1274) 4))).box).Y).Lo), .int .i64 ((((mget (default : S_node) up1271 (w64 (Int.tdiv (rd vt1073 x1274) 4))).box).Y).Hi), .bool ((((mget (default : S_node) up1271 (w64 (Int.tdiv (rd vt1073 x1274) 4))).box).Y).Unknown), .int .i64 ((((mget (default : S_node) up1271 (w64 (Int.tdiv (rd vt1073 x1274) 4))).box).Z).Lo), .int .i64 ((((mget (default : S_node) up1271 (w64 (Int.tdiv (rd vt1073 x1274) 4))).box).Z).Hi), .bool ((((mget (default : S_node) up1271 (w64 (Int.tdiv (rd vt1073 x1274) 4))).box).Z).Unknown), .int .i64 (((mget (default : S_node) up1271 (w64 (Int.tdiv (rd vt1073 x1274) 4))).when).Lo), .int .i64 (((mget (default : S_node) up1271 (w64 (Int.tdiv (rd vt1073 x1274) 4))).when).Hi), .bool (((mget (default : S_node) up1271 (w64 (Int.tdiv (rd vt1073 x1274) 4))).when).Unknown), .slice A1325 ((mget (default : S_node) up1271 (w64 (Int.tdiv (rd vt1073 x1274) 4))).kids).length c1326, .slice A1330 ((mget (default : S_node) up1271 (w64 (Int.tdiv (rd vt1073 x1274) 4))).rows).length c1331] 119 (0, 0))], s1327] HS1352 fL)) (fun w_ hw_ => by obtain ⟨g_, hl_, hS_⟩ := hw_.st; exact run_loadN (n := 9) rfl Tryz.underlying31 rfl kr (kv (.pointer (some ⟨b1305, 0, none⟩))) (cs := [.int .i64 ((((mget (default : S_node) vat1028 (rd vt1073 x1274)).box).X).Lo), .int .i64 ((((mget (default : S_node) vat1028 (rd vt1073 x1274)).box).X).Hi), .bool ((((mget (default : S_node) vat1028 (rd vt1073 x1274)).box).X).Unknown), .int .i64 ((((mget (default : S_node) vat1028 (rd vt1073 x1274)).box).Y).Lo), .int .i64 ((((mget (default : S_node) vat1028 (rd vt1073 x1274)).box).Y).Hi), .bool ((((mget (default : S_node) vat1028 (rd vt1073 x1274)).box).Y).Unknown), .int .i64 ((((mget (default : S_node) vat1028 (rd vt1073 x1274)).box).Z).Lo), .int .i64 ((((mget (default : S_node) vat1028 (rd vt1073 x1274)).box).Z).Hi), .bool ((((mget (default : S_node) vat1028 (rd vt1073 x1274)).box).Z).Unknown)]) rfl (hS_.fcells hb1309 hl_ 0 9 _ rfl)) ?_
              refine takeGL [5, 6, 7] (n := 5) (fuel := 2) #[true, true, true, true, true, true, true, true, false, false] rfl kr kr kr (fun ch_ a_ w_ q_ => (fun ch_ a_ w_ q_ => (fun ch_ a_ w_ q_ => (fun ch_ a_ w_ q_ => hnp ch_ a_ w_ (hp575 ch_ a_ w_ q_)) ch_ a_ w_ (hp1047 ch_ a_ w_ q_)) ch_ a_ w_ (hp1087 ch_ a_ w_ q_)) ch_ a_ w_ (hp1288 ch_ a_ w_ q_)) (Sg.g3 (Sx.of [[(b1318, .cells #[.int .i64 ((((mget (default : S_node) up1271 (w64 (Int.tdiv (rd vt1073 x1274) 4))).box).X).Lo), .int .i64 ((((mget (default : S_node) up1271 (w64 (Int.tdiv (rd vt1073 x1274) 4))).box).X).Hi), .bool ((((mget (default : S_node) up1271 (w64 (Int.tdiv (rd vt1073 x1274) 4))).box).X).Unknown), .int .i64 ((((mget (default : S_node) up1271 (w64 (Int.tdiv (rd vt1073 x1274) 4))).box).Y).Lo), .int .i64 ((((mget (default : S_node) up1271 (w64 (Int.tdiv (rd vt1073 x1274) 4))).box).Y).Hi), .bool ((((mget (default : S_node) up1271 (w64 (Int.tdiv (rd vt1073 x1274) 4))).box).Y).Unknown), .int .i64 ((((mget (default : S_node) up1271 (w64 (Int.tdiv (rd vt1073 x1274) 4))).box).Z).Lo), .int .i64 ((((mget (default : S_node) up1271 (w64 (Int.tdiv (rd vt1073 x1274) 4))).box).Z).Hi), .bool ((((mget (default : S_node) up1271 (w64 (Int.tdiv (rd vt1073 x1274) 4))).box).Z).Unknown), .int .i64 (((mget (default : S_node) up1271 (w64 (Int.tdiv (rd vt1073 x1274) 4))).when).Lo), .int .i64 (((mget (default : S_node) up1271 (w64 (Int.tdiv (rd vt1073 x1274) 4))).when).Hi), .bool (((mget (default : S_node) up1271 (w64 (Int.tdiv (rd vt1073 x1274) 4))).when).Unknown), .slice A1325 ((mget (default : S_node) up1271 (w64 (Int.tdiv (rd vt1073 x1274) 4))).kids).length c1326, .slice A1330 ((mget (default : S_node) up1271 (w64 (Int.tdiv (rd vt1073 x1274) 4))).rows).length c1331] 119 (0, 0))], s1327, s1332] fL HS1352) (fun _ => St.only [] HS1352 fL) (fun _ => St.only [[(b1318, .cells #[.int .i64 ((((mget (default : S_node) up1271 (w64 (Int.tdiv (rd vt1073 x1274) 4))).box).X).Lo), .int .i64 ((((mget (default : S_node) up1271 (w64 (Int.tdiv (rd vt1073 x1274) 4))).box).X).Hi), .bool ((((mget (default : S_node) up1271 (w64 (Int.tdiv (rd vt1073 x1274) 4))).box).X).Unknown), .int .i64 ((((mget (default : S_node) up1271 (w64 (Int.tdiv (rd vt1073 x1274) 4))).box).Y).Lo), .int .i64 ((((mget (default : S_node) up1271 (w64 (Int.tdiv (rd vt1073 x1274) 4))).box).Y).Hi), .bool ((((mget (default : S_node) up1271 (w64 (Int.tdiv (rd vt1073 x1274) 4))).box).Y).Unknown), .int .i64 ((((mget (default : S_node) up1271 (w64 (Int.tdiv (rd vt1073 x1274) 4))).box).Z).Lo), .int .i64 ((((mget (default : S_node) up1271 (w64 (Int.tdiv (rd vt1073 x1274) 4))).box).Z).Hi), .bool ((((mget (default : S_node) up1271 (w64 (Int.tdiv (rd vt1073 x1274) 4))).box).Z).Unknown), .int .i64 (((mget (default : S_node) up1271 (w64 (Int.tdiv (rd vt1073 x1274) 4))).when).Lo), .int .i64 (((mget (default : S_node) up1271 (w64 (Int.tdiv (rd vt1073 x1274) 4))).when).Hi), .bool (((mget (default : S_node) up1271 (w64 (Int.tdiv (rd vt1073 x1274) 4))).when).Unknown), .slice A1325 ((mget (default : S_node) up1271 (w64 (Int.tdiv (rd vt1073 x1274) 4))).kids).length c1326, .slice A1330 ((mget (default : S_node) up1271 (w64 (Int.tdiv (rd vt1073 x1274) 4))).rows).length c1331] 119 (0, 0))]] HS1352 fL) (fun _ => St.only [[(b1318, .cells #[.int .i64 ((((mget (default : S_node) up1271 (w64 (Int.tdiv (rd vt1073 x1274) 4))).box).X).Lo), .int .i64 ((((mget (default : S_node) up1271 (w64 (Int.tdiv (rd vt1073 x1274) 4))).box).X).Hi), .bool ((((mget (default : S_node) up1271 (w64 (Int.tdiv (rd vt1073 x1274) 4))).box).X).Unknown), .int .i64 ((((mget (default : S_node) up1271 (w64 (Int.tdiv (rd vt1073 x1274) 4))).box).Y).Lo), .int .i64 ((((mget (default : S_node) up1271 (w64 (Int.tdiv (rd vt1073 x1274) 4))).box).Y).Hi), .bool ((((mget (default : S_node) up1271 (w64 (Int.tdiv (rd vt1073 x1274) 4))).box).Y).Unknown), .int .i64 ((((mget (default : S_node) up1271 (w64 (Int.tdiv (rd vt1073 x1274) 4))).box).Z).Lo), .int .i64 ((((mget (default : S_node) up1271 (w64 (Int.tdiv (rd vt1073 x1274) 4))).box).Z).Hi), .bool ((((mget (default : S_node) up1271 (w64 (Int.tdiv (rd vt1073 x1274) 4))).box).Z).Unknown), .int .i64 (((mget (default : S_node) up1271 (w64 (Int.tdiv (rd vt1073 x1274) 4))).when).Lo), .int .i64 (((mget (default : S_node) up1271 (w64 (Int.tdiv (rd vt1073 x1274) 4))).when).Hi), .bool (((mget (default : S_node) up1271 (w64 (Int.tdiv (rd vt1073 x1274) 4))).when).Unknown), .slice A1325 ((mget (default : S_node) up1271 (w64 (Int.tdiv (rd vt1073 x1274) 4))).kids).length c1326, .slice A1330 ((mget (default : S_node) up1271 (w64 (Int.tdiv (rd vt1073 x1274) 4))).rows).length c1331] 119 (0, 0))], s1327] HS1352 fL)) ?_
              refine takeGQ 8 [] rfl kr kr kr kr kr kr (fun ch_ a_ w_ q_ => (fun ch_ a_ w_ q_ => (fun ch_ a_ w_ q_ => (fun ch_ a_ w_ q_ => hnp ch_ a_ w_ (hp575 ch_ a_ w_ q_)) ch_ a_ w_ (hp1047 ch_ a_ w_ q_)) ch_ a_ w_ (hp1087 ch_ a_ w_ q_)) ch_ a_ w_ (hp1288 ch_ a_ w_ q_)) (Sg.g3 (Sx.of [[(b1318, .cells #[.int .i64 ((((mget (default : S_node) up1271 (w64 (Int.tdiv (rd vt1073 x1274) 4))).box).X).Lo), .int .i64 ((((mget (default : S_node) up1271 (w64 (Int.tdiv (rd vt1073 x1274) 4))).box).X).Hi), .bool ((((mget (default : S_node) up1271 (w64 (Int.tdiv (rd vt1073 x1274) 4))).box).X).Unknown), .int .i64 ((((mget (default : S_node) up1271 (w64 (Int.tdiv (rd vt1073 x1274) 4))).box).Y).Lo), .int .i64 ((((mget (default : S_node) up1271 (w64 (Int.tdiv (rd vt1073 x1274) 4))).box).Y).Hi), .bool ((((mget (default : S_node) up1271 (w64 (Int.tdiv (rd vt1073 x1274) 4))).box).Y).Unknown), .int .i64 ((((mget (default : S_node) up1271 (w64 (Int.tdiv (rd vt1073 x1274) 4))).box).Z).Lo), .int .i64 ((((mget (default : S_node) up1271 (w64 (Int.tdiv (rd vt1073 x1274) 4))).box).Z).Hi), .bool ((((mget (default : S_node) up1271 (w64 (Int.tdiv (rd vt1073 x1274) 4))).box).Z).Unknown), .int .i64 (((mget (default : S_node) up1271 (w64 (Int.tdiv (rd vt1073 x1274) 4))).when).Lo), .int .i64 (((mget (default : S_node) up1271 (w64 (Int.tdiv (rd vt1073 x1274) 4))).when).Hi), .bool (((mget (default : S_node) up1271 (w64 (Int.tdiv (rd vt1073 x1274) 4))).when).Unknown), .slice A1325 ((mget (default : S_node) up1271 (w64 (Int.tdiv (rd vt1073 x1274) 4))).kids).length c1326, .slice A1330 ((mget (default : S_node) up1271 (w64 (Int.tdiv (rd vt1073 x1274) 4))).rows).length c1331] 119 (0, 0))], s1327, s1332] fL HS1352) (fun _ => St.only [] HS1352 fL) (fun _ => St.only [[(b1318, .cells #[.int .i64 ((((mget (default : S_node) up1271 (w64 (Int.tdiv (rd vt1073 x1274) 4))).box).X).Lo), .int .i64 ((((mget (default : S_node) up1271 (w64 (Int.tdiv (rd vt1073 x1274) 4))).box).X).Hi), .bool ((((mget (default : S_node) up1271 (w64 (Int.tdiv (rd vt1073 x1274) 4))).box).X).Unknown), .int .i64 ((((mget (default : S_node) up1271 (w64 (Int.tdiv (rd vt1073 x1274) 4))).box).Y).Lo), .int .i64 ((((mget (default : S_node) up1271 (w64 (Int.tdiv (rd vt1073 x1274) 4))).box).Y).Hi), .bool ((((mget (default : S_node) up1271 (w64 (Int.tdiv (rd vt1073 x1274) 4))).box).Y).Unknown), .int .i64 ((((mget (default : S_node) up1271 (w64 (Int.tdiv (rd vt1073 x1274) 4))).box).Z).Lo), .int .i64 ((((mget (default : S_node) up1271 (w64 (Int.tdiv (rd vt1073 x1274) 4))).box).Z).Hi), .bool ((((mget (default : S_node) up1271 (w64 (Int.tdiv (rd vt1073 x1274) 4))).box).Z).Unknown), .int .i64 (((mget (default : S_node) up1271 (w64 (Int.tdiv (rd vt1073 x1274) 4))).when).Lo), .int .i64 (((mget (default : S_node) up1271 (w64 (Int.tdiv (rd vt1073 x1274) 4))).when).Hi), .bool (((mget (default : S_node) up1271 (w64 (Int.tdiv (rd vt1073 x1274) 4))).when).Unknown), .slice A1325 ((mget (default : S_node) up1271 (w64 (Int.tdiv (rd vt1073 x1274) 4))).kids).length c1326, .slice A1330 ((mget (default : S_node) up1271 (w64 (Int.tdiv (rd vt1073 x1274) 4))).rows).length c1331] 119 (0, 0))]] HS1352 fL) (fun _ => St.only [[(b1318, .cells #[.int .i64 ((((mget (default : S_node) up1271 (w64 (Int.tdiv (rd vt1073 x1274) 4))).box).X).Lo), .int .i64 ((((mget (default : S_node) up1271 (w64 (Int.tdiv (rd vt1073 x1274) 4))).box).X).Hi), .bool ((((mget (default : S_node) up1271 (w64 (Int.tdiv (rd vt1073 x1274) 4))).box).X).Unknown), .int .i64 ((((mget (default : S_node) up1271 (w64 (Int.tdiv (rd vt1073 x1274) 4))).box).Y).Lo), .int .i64 ((((mget (default : S_node) up1271 (w64 (Int.tdiv (rd vt1073 x1274) 4))).box).Y).Hi), .bool ((((mget (default : S_node) up1271 (w64 (Int.tdiv (rd vt1073 x1274) 4))).box).Y).Unknown), .int .i64 ((((mget (default : S_node) up1271 (w64 (Int.tdiv (rd vt1073 x1274) 4))).box).Z).Lo), .int .i64 ((((mget (default : S_node) up1271 (w64 (Int.tdiv (rd vt1073 x1274) 4))).box).Z).Hi), .bool ((((mget (default : S_node) up1271 (w64 (Int.tdiv (rd vt1073 x1274) 4))).box).Z).Unknown), .int .i64 (((mget (default : S_node) up1271 (w64 (Int.tdiv (rd vt1073 x1274) 4))).when).Lo), .int .i64 (((mget (default : S_node) up1271 (w64 (Int.tdiv (rd vt1073 x1274) 4))).when).Hi), .bool (((mget (default : S_node) up1271 (w64 (Int.tdiv (rd vt1073 x1274) 4))).when).Unknown), .slice A1325 ((mget (default : S_node) up1271 (w64 (Int.tdiv (rd vt1073 x1274) 4))).kids).length c1326, .slice A1330 ((mget (default : S_node) up1271 (w64 (Int.tdiv (rd vt1073 x1274) 4))).rows).length c1331] 119 (0, 0))], s1327] HS1352 fL)) (fun w_ hw_ => by obtain ⟨g_, hl_, hS_⟩ := hw_.st; exact run_loadN (n := 3) rfl Tryz.underlying97 rfl kr (kv (.pointer (some ⟨b1305, 9, none⟩))) (cs := [.int .i64 (((mget (default : S_node) vat1028 (rd vt1073 x1274)).when).Lo), .int .i64 (((mget (default : S_node) vat1028 (rd vt1073 x1274)).when).Hi), .bool (((mget (default : S_node) vat1028 (rd vt1073 x1274)).when).Unknown)]) rfl (hS_.fcells hb1309 hl_ 9 3 _ rfl)) ?_
              have HS1355 := HS1352.u2.u2.u2
              have hq_ := bind_some h; clear h; obtain ⟨⟨vt1356, vt1357, vt1358, vt1359, vt1360, vt1361, vt1362, vt1363, vt1364, vt1365, vt1366, vt1367, vt1368, vt1369⟩, hc1370, h⟩ := hq_
              refine takeGE 9 kr rfl kr (does_call (f := 48) (args := #[.pointer (some ⟨b1318, 0, none⟩), .agg #[.int .i64 ((((mget (default : S_node) vat1028 (rd vt1073 x1274)).box).X).Lo), .int .i64 ((((mget (default : S_node) vat1028 (rd vt1073 x1274)).box).X).Hi), .bool ((((mget (default : S_node) vat1028 (rd vt1073 x1274)).box).X).Unknown), .int .i64 ((((mget (default : S_node) vat1028 (rd vt1073 x1274)).box).Y).Lo), .int .i64 ((((mget (default : S_node) vat1028 (rd vt1073 x1274)).box).Y).Hi), .bool ((((mget (default : S_node) vat1028 (rd vt1073 x1274)).box).Y).Unknown), .int .i64 ((((mget (default : S_node) vat1028 (rd vt1073 x1274)).box).Z).Lo), .int .i64 ((((mget (default : S_node) vat1028 (rd vt1073 x1274)).box).Z).Hi), .bool ((((mget (default : S_node) vat1028 (rd vt1073 x1274)).box).Z).Unknown)], .agg #[.int .i64 (((mget (default : S_node) vat1028 (rd vt1073 x1274)).when).Lo), .int .i64 (((mget (default : S_node) vat1028 (rd vt1073 x1274)).when).Hi), .bool (((mget (default : S_node) vat1028 (rd vt1073 x1274)).when).Unknown)]]) kr (query_node_join.calls k b1318 A1325 c1326 s1327 A1330 c1331 s1332 (mget (default : S_node) up1271 (w64 (Int.tdiv (rd vt1073 x1274) 4))) ((mget (default : S_node) vat1028 (rd vt1073 x1274)).box) ((mget (default : S_node) vat1028 (rd vt1073 x1274)).when) HS1355 HO1328 HO1333 vt1356 vt1357 vt1358 vt1359 vt1360 vt1361 vt1362 vt1363 vt1364 vt1365 vt1366 vt1367 vt1368 vt1369 hc1370) ?_)
              rintro _ W1373 ⟨f1371, A1375, c1376, s1377, A1380, c1381, s1382, rfl, L1372, HS1374, HO1378, HO1383⟩
              refine ⟨_, rfl, ?_⟩
              refine ⟨(Sg.g3 (Sx.of [s1377, s1382, [(b1318, .cells #[.int .i64 vt1356, .int .i64 vt1357, .bool vt1358, .int .i64 vt1359, .int .i64 vt1360, .bool vt1361, .int .i64 vt1362, .int .i64 vt1363, .bool vt1364, .int .i64 vt1365, .int .i64 vt1366, .bool vt1367, .slice A1375 vt1368.length c1376, .slice A1380 vt1369.length c1381] 119 (0, 0))]] L1372 HS1374) (fun hl_ => Bool.noConfusion (show true = false from hl_)) (fun hl_ => Bool.noConfusion (show true = false from hl_)) (fun hl_ => Bool.noConfusion (show true = false from hl_))), ?_⟩
              refine doneG kr ?_ _
              refine hK1340 _ _ ?_
              refine rl ?_
              refine seqL4 kr ?_
              refine seqK rfl (does_run (run_load rfl Tryz.underlying107 rfl (kv (.pointer (some ⟨b1318, 12, none⟩))) (HS1374.u2.cell 12)) ?_)
              refine seqL1 kr ?_
              refine seqK rfl (does_lit (e := fx_node.t) (E := 116) (vs := #[(0, Value.pointer (some ⟨b1305, 0, none⟩))]) (cs := #[.pointer (some ⟨b1305, 0, none⟩)]) (xs := ([(mget (default : S_node) vat1028 (rd vt1073 x1274))] : List S_node)) rfl Tryz.underlying107 kr kr ⟨[.pointer (some ⟨b1305, 0, none⟩)], _, rfl, (fx_node.t.mono L1372 hr1303), rfl⟩ rfl HS1374 ?_ (by decide))
              intro b1385 W1386 s1387 HS1388 _ HO1389
              have hq_ := guard_some h; clear h; obtain ⟨c1391, h⟩ := hq_
              have c1391 : (vt1368.length + 1) * 8 ≤ 140737488355328 := c1391
              have HS1393 := HS1388.u1.u1
              refine seqK rfl (does_append1 (e := fx_node.t) (E := 116) (xs := vt1368) (ys := ([(mget (default : S_node) vat1028 (rd vt1073 x1274))] : List S_node)) rfl (kv (.slice A1375 vt1368.length c1376)) (kv (.slice (some ⟨b1385, 0, none⟩) ([(mget (default : S_node) vat1028 (rd vt1073 x1274))] : List S_node).length 1)) Tryz.underlying107 inf116 HO1378 HO1389 HS1393 c1391 (lim63 c1391 (by decide)) ?_)
              intro A1394 c1395 s1396 W1397 HS1398 HO1399
              have HS1400 := HS1398.u2
              refine seqL2 kr ?_
              refine seqK rfl (does_store (n := 1) (vs := [.slice A1394 (vt1368 ++ ([(mget (default : S_node) vat1028 (rd vt1073 x1274))] : List S_node)).length c1395]) (cs' := #[.int .i64 vt1356, .int .i64 vt1357, .bool vt1358, .int .i64 vt1359, .int .i64 vt1360, .bool vt1361, .int .i64 vt1362, .int .i64 vt1363, .bool vt1364, .int .i64 vt1365, .int .i64 vt1366, .bool vt1367, .slice A1394 (vt1368 ++ ([(mget (default : S_node) vat1028 (rd vt1073 x1274))] : List S_node)).length c1395, .slice A1380 vt1369.length c1381]) rfl kr (kv (.pointer (some ⟨b1318, 12, none⟩))) (kv (.slice A1394 (vt1368 ++ ([(mget (default : S_node) vat1028 (rd vt1073 x1274))] : List S_node)).length c1395)) rfl rfl (ones rfl) HS1400 (Nat.le_of_ble_eq_true rfl) kr ?_)
              intro W1401 HS1402
              refine nl ?_
              refine hn1285 _ _ ?_
              have HS1406 := HS1402.u3.u3.u3.u3
              obtain ⟨s1407, HS1408, HO1409⟩ : ∃ s9_ : Seg, St t W1401 f1371 (s9_ :: s1077 :: [(b1067, .cells #[.map (mb A1029)] 110 (0, 0))] :: s1063 :: s526 :: [(b48, .cells #[.slice A43 vt37.length c44, .int .i64 level5, .slice none 0 0, .slice A524 x523.length c525] 109 (0, 0))] :: s45 :: H) ∧ OwnMB rk_node 200110 f1371 (some ⟨b1051, 0, none⟩) 0 s9_ (mput up1271 (w64 (Int.tdiv (rd vt1073 x1274) 4)) (⟨(⟨(⟨vt1356, vt1357, vt1358⟩ : S_Bound), (⟨vt1359, vt1360, vt1361⟩ : S_Bound), (⟨vt1362, vt1363, vt1364⟩ : S_Bound)⟩ : S_Box), (⟨vt1365, vt1366, vt1367⟩ : S_Bound), (vt1368 ++ ([(mget (default : S_node) vat1028 (rd vt1073 x1274))] : List S_node)), vt1369⟩ : S_node)) := ⟨([(b1318, .cells #[.int .i64 vt1356, .int .i64 vt1357, .bool vt1358, .int .i64 vt1359, .int .i64 vt1360, .bool vt1361, .int .i64 vt1362, .int .i64 vt1363, .bool vt1364, .int .i64 vt1365, .int .i64 vt1366, .bool vt1367, .slice A1394 (vt1368 ++ ([(mget (default : S_node) vat1028 (rd vt1073 x1274))] : List S_node)).length c1395, .slice A1380 vt1369.length c1381] 119 (0, 0))] ++ s1396 ++ s1382) ++ s1320, HS1406.perm (List.Perm.of_eq (by simp [flat])), hc1324 L1372 ⟨A1394, c1395, s1396, A1380, c1381, s1382, rfl, HO1399, HO1383⟩⟩
              refine hK1282 _ _ ?_
              refine rl ?_
              refine seqL2 kr ?_
              refine nl ?_
              refine hK1264 n1265 _ _ (Nat.lt_succ_self _) ?_
              have HS1456 := HS1408.u6.u6.u6.u3.u6.u6.u6
              exact ⟨f1371, s1407, (mput up1271 (w64 (Int.tdiv (rd vt1073 x1274) 4)) (⟨(⟨(⟨vt1356, vt1357, vt1358⟩ : S_Bound), (⟨vt1359, vt1360, vt1361⟩ : S_Bound), (⟨vt1362, vt1363, vt1364⟩ : S_Bound)⟩ : S_Box), (⟨vt1365, vt1366, vt1367⟩ : S_Bound), (vt1368 ++ ([(mget (default : S_node) vat1028 (rd vt1073 x1274))] : List S_node)), vt1369⟩ : S_node)), (w64 (x1274 + 1)), (jL [iV (rd vt1073 x1274), .pointer (some ⟨b1305, 0, none⟩), .pointer (some ⟨b1318, 0, none⟩), tV, .pointer (some ⟨b1296, of1297 + (x1274 : Int).toNat * 1, none⟩), iV (rd vt1073 x1274), .map (mb A1029), iV (rd vt1073 x1274), .pointer (some ⟨b1305, 0, none⟩), .map (mb (some ⟨b1051, 0, none⟩)), iV (rd vt1073 x1274), iV (w64 (Int.tdiv (rd vt1073 x1274) 4)), .pointer (some ⟨b1318, 0, none⟩), .pointer (some ⟨b1318, 0, none⟩), tV, .pointer (some ⟨b1318, 0, none⟩), .pointer (some ⟨b1305, 0, none⟩), .pointer (some ⟨b1305, 0, none⟩), .pointer (some ⟨b1305, 0, none⟩), (ag_Box ((mget (default : S_node) vat1028 (rd vt1073 x1274)).box)), .pointer (some ⟨b1305, 0, none⟩), .pointer (some ⟨b1305, 0, none⟩), .pointer (some ⟨b1305, 9, none⟩), (ag_Bound ((mget (default : S_node) vat1028 (rd vt1073 x1274)).when)), .tuple #[], .pointer (some ⟨b1318, 0, none⟩), .pointer (some ⟨b1318, 0, none⟩), .pointer (some ⟨b1318, 0, none⟩), .pointer (some ⟨b1318, 12, none⟩), .slice A1375 vt1368.length c1376, .pointer (some ⟨b1305, 0, none⟩), .slice (some ⟨b1385, 0, none⟩) ([(mget (default : S_node) vat1028 (rd vt1073 x1274))] : List S_node).length 1, .slice A1394 (vt1368 ++ ([(mget (default : S_node) vat1028 (rd vt1073 x1274))] : List S_node)).length c1395, .pointer (some ⟨b1318, 0, none⟩), .pointer (some ⟨b1318, 12, none⟩), (j1270 35), (j1270 36), (j1270 37), (j1270 38), (j1270 39), (j1270 40), (j1270 41), (j1270 42), (j1270 43), (j1270 44), (j1270 45), (j1270 46), (j1270 47), (j1270 48), (j1270 49), iV (w64 (x1274 + 1))]), (L1267.trans L1372), HS1456, HO1409, h, kr⟩
            · have c1316 : ¬ (((mfind up1271 (w64 (Int.tdiv (rd vt1073 x1274) 4))).isSome) = true) := c1316
              refine seqK rfl (does_run (run_lookB (k := (w64 (Int.tdiv (rd vt1073 x1274) 4))) HO1273 (Bool.eq_false_iff.mpr c1316) rfl Tryz.underlying110 Tryz.underlying113 kr (kv (.map (mb (some ⟨b1051, 0, none⟩)))) (kv (.int .i64 (w64 (Int.tdiv (rd vt1073 x1274) 4)))) HS1269.u3) ?_)
              refine seqL1 kr ?_
              refine nl (hK1315 _ _ ?_)
              refine wp_seq_k fun K1410 hK1411 => rl ?_
              refine seqL2 kr ?_
              refine nl (hK1411 _ _ ?_)
              refine condF kr ?_
              have HS1418 := HS1269.u6.u6.u6.u5.u5.u5.u6
              refine heldG (S := Sg t f1266 (s1077 :: [(b1067, .cells #[.map (mb A1029)] 110 (0, 0))] :: s1063 :: s526 :: [(b48, .cells #[.slice A43 vt37.length c44, .int .i64 level5, .slice none 0 0, .slice A524 x523.length c525] 109 (0, 0))] :: s45 :: H) [(15, s1272)]) (n := 16) kr rfl HS1418 ?_
              intro W1419 HS1420
              refine takeGL [0, 1, 2, 3, 4, 5] (n := 16) (fuel := 10) #[true, true, true, true, true, true, false, false, false, false, false, false, false, false, false, false] rfl kr kr kr (fun ch_ a_ w_ q_ => (fun ch_ a_ w_ q_ => (fun ch_ a_ w_ q_ => (fun ch_ a_ w_ q_ => hnp ch_ a_ w_ (hp575 ch_ a_ w_ q_)) ch_ a_ w_ (hp1047 ch_ a_ w_ q_)) ch_ a_ w_ (hp1087 ch_ a_ w_ q_)) ch_ a_ w_ (hp1288 ch_ a_ w_ q_)) (Sg.g1 (Sx.of [s1272] fL HS1420) (fun _ => St.only [] HS1420 fL)) ?_
              refine takeGQ 6 [] rfl kr kr kr kr kr kr (fun ch_ a_ w_ q_ => (fun ch_ a_ w_ q_ => (fun ch_ a_ w_ q_ => (fun ch_ a_ w_ q_ => hnp ch_ a_ w_ (hp575 ch_ a_ w_ q_)) ch_ a_ w_ (hp1047 ch_ a_ w_ q_)) ch_ a_ w_ (hp1087 ch_ a_ w_ q_)) ch_ a_ w_ (hp1288 ch_ a_ w_ q_)) (Sg.g1 (Sx.of [s1272] fL HS1420) (fun _ => St.only [] HS1420 fL)) (fun w_ hw_ => by obtain ⟨g_, hl_, hS_⟩ := hw_.st; exact run_loadN (n := 9) rfl Tryz.underlying31 rfl kr (kv (.pointer (some ⟨b1305, 0, none⟩))) (cs := [.int .i64 ((((mget (default : S_node) vat1028 (rd vt1073 x1274)).box).X).Lo), .int .i64 ((((mget (default : S_node) vat1028 (rd vt1073 x1274)).box).X).Hi), .bool ((((mget (default : S_node) vat1028 (rd vt1073 x1274)).box).X).Unknown), .int .i64 ((((mget (default : S_node) vat1028 (rd vt1073 x1274)).box).Y).Lo), .int .i64 ((((mget (default : S_node) vat1028 (rd vt1073 x1274)).box).Y).Hi), .bool ((((mget (default : S_node) vat1028 (rd vt1073 x1274)).box).Y).Unknown), .int .i64 ((((mget (default : S_node) vat1028 (rd vt1073 x1274)).box).Z).Lo), .int .i64 ((((mget (default : S_node) vat1028 (rd vt1073 x1274)).box).Z).Hi), .bool ((((mget (default : S_node) vat1028 (rd vt1073 x1274)).box).Z).Unknown)]) rfl (hS_.fcells hb1309 hl_ 0 9 _ rfl)) ?_
              refine takeGL [7, 8, 9] (n := 9) (fuel := 6) #[true, true, true, true, true, true, true, true, true, true, false, false, false, false, false, false] rfl kr kr kr (fun ch_ a_ w_ q_ => (fun ch_ a_ w_ q_ => (fun ch_ a_ w_ q_ => (fun ch_ a_ w_ q_ => hnp ch_ a_ w_ (hp575 ch_ a_ w_ q_)) ch_ a_ w_ (hp1047 ch_ a_ w_ q_)) ch_ a_ w_ (hp1087 ch_ a_ w_ q_)) ch_ a_ w_ (hp1288 ch_ a_ w_ q_)) (Sg.g1 (Sx.of [s1272] fL HS1420) (fun _ => St.only [] HS1420 fL)) ?_
              refine takeGQ 10 [] rfl kr kr kr kr kr kr (fun ch_ a_ w_ q_ => (fun ch_ a_ w_ q_ => (fun ch_ a_ w_ q_ => (fun ch_ a_ w_ q_ => hnp ch_ a_ w_ (hp575 ch_ a_ w_ q_)) ch_ a_ w_ (hp1047 ch_ a_ w_ q_)) ch_ a_ w_ (hp1087 ch_ a_ w_ q_)) ch_ a_ w_ (hp1288 ch_ a_ w_ q_)) (Sg.g1 (Sx.of [s1272] fL HS1420) (fun _ => St.only [] HS1420 fL)) (fun w_ hw_ => by obtain ⟨g_, hl_, hS_⟩ := hw_.st; exact run_loadN (n := 3) rfl Tryz.underlying97 rfl kr (kv (.pointer (some ⟨b1305, 9, none⟩))) (cs := [.int .i64 (((mget (default : S_node) vat1028 (rd vt1073 x1274)).when).Lo), .int .i64 (((mget (default : S_node) vat1028 (rd vt1073 x1274)).when).Hi), .bool (((mget (default : S_node) vat1028 (rd vt1073 x1274)).when).Unknown)]) rfl (hS_.fcells hb1309 hl_ 9 3 _ rfl)) ?_
              refine takeGL [11] (n := 5) (fuel := 4) #[true, true, true, true, true, true, true, true, true, true, true, true, false, false, false, false] rfl kr kr kr (fun ch_ a_ w_ q_ => (fun ch_ a_ w_ q_ => (fun ch_ a_ w_ q_ => (fun ch_ a_ w_ q_ => hnp ch_ a_ w_ (hp575 ch_ a_ w_ q_)) ch_ a_ w_ (hp1047 ch_ a_ w_ q_)) ch_ a_ w_ (hp1087 ch_ a_ w_ q_)) ch_ a_ w_ (hp1288 ch_ a_ w_ q_)) (Sg.g1 (Sx.of [s1272] fL HS1420) (fun _ => St.only [] HS1420 fL)) ?_
              refine takeGE 12 kr rfl kr (does_lit (e := fx_node.t) (E := 116) (vs := #[(0, Value.pointer (some ⟨b1305, 0, none⟩))]) (cs := #[.pointer (some ⟨b1305, 0, none⟩)]) (xs := ([(mget (default : S_node) vat1028 (rd vt1073 x1274))] : List S_node)) rfl Tryz.underlying107 kr kr ⟨[.pointer (some ⟨b1305, 0, none⟩)], _, rfl, hr1303, rfl⟩ rfl HS1420 ?_ (by decide))
              intro b1421 W1422 s1423 HS1424 _ HO1425
              refine ⟨(Sg.g1 (Sx.of [s1423, s1272] fL HS1424) (fun _ => St.only [s1423] HS1424 fL)), ?_⟩
              refine takeGL [13] (n := 3) (fuel := 2) #[true, true, true, true, true, true, true, true, true, true, true, true, true, true, false, false] rfl kr kr kr (fun ch_ a_ w_ q_ => (fun ch_ a_ w_ q_ => (fun ch_ a_ w_ q_ => (fun ch_ a_ w_ q_ => hnp ch_ a_ w_ (hp575 ch_ a_ w_ q_)) ch_ a_ w_ (hp1047 ch_ a_ w_ q_)) ch_ a_ w_ (hp1087 ch_ a_ w_ q_)) ch_ a_ w_ (hp1288 ch_ a_ w_ q_)) (Sg.g1 (Sx.of [s1423, s1272] fL HS1424) (fun _ => St.only [s1423] HS1424 fL)) ?_
              refine takeGE 14 kr rfl kr (does_box (cs := #[.int .i64 ((((mget (default : S_node) vat1028 (rd vt1073 x1274)).box).X).Lo), .int .i64 ((((mget (default : S_node) vat1028 (rd vt1073 x1274)).box).X).Hi), .bool ((((mget (default : S_node) vat1028 (rd vt1073 x1274)).box).X).Unknown), .int .i64 ((((mget (default : S_node) vat1028 (rd vt1073 x1274)).box).Y).Lo), .int .i64 ((((mget (default : S_node) vat1028 (rd vt1073 x1274)).box).Y).Hi), .bool ((((mget (default : S_node) vat1028 (rd vt1073 x1274)).box).Y).Unknown), .int .i64 ((((mget (default : S_node) vat1028 (rd vt1073 x1274)).box).Z).Lo), .int .i64 ((((mget (default : S_node) vat1028 (rd vt1073 x1274)).box).Z).Hi), .bool ((((mget (default : S_node) vat1028 (rd vt1073 x1274)).box).Z).Unknown), .int .i64 (((mget (default : S_node) vat1028 (rd vt1073 x1274)).when).Lo), .int .i64 (((mget (default : S_node) vat1028 (rd vt1073 x1274)).when).Hi), .bool (((mget (default : S_node) vat1028 (rd vt1073 x1274)).when).Unknown), .slice (some ⟨b1421, 0, none⟩) ([(mget (default : S_node) vat1028 (rd vt1073 x1274))] : List S_node).length 1, .slice none 0 0]) rfl (kv (.agg #[.int .i64 ((((mget (default : S_node) vat1028 (rd vt1073 x1274)).box).X).Lo), .int .i64 ((((mget (default : S_node) vat1028 (rd vt1073 x1274)).box).X).Hi), .bool ((((mget (default : S_node) vat1028 (rd vt1073 x1274)).box).X).Unknown), .int .i64 ((((mget (default : S_node) vat1028 (rd vt1073 x1274)).box).Y).Lo), .int .i64 ((((mget (default : S_node) vat1028 (rd vt1073 x1274)).box).Y).Hi), .bool ((((mget (default : S_node) vat1028 (rd vt1073 x1274)).box).Y).Unknown), .int .i64 ((((mget (default : S_node) vat1028 (rd vt1073 x1274)).box).Z).Lo), .int .i64 ((((mget (default : S_node) vat1028 (rd vt1073 x1274)).box).Z).Hi), .bool ((((mget (default : S_node) vat1028 (rd vt1073 x1274)).box).Z).Unknown), .int .i64 (((mget (default : S_node) vat1028 (rd vt1073 x1274)).when).Lo), .int .i64 (((mget (default : S_node) vat1028 (rd vt1073 x1274)).when).Hi), .bool (((mget (default : S_node) vat1028 (rd vt1073 x1274)).when).Unknown), .slice (some ⟨b1421, 0, none⟩) ([(mget (default : S_node) vat1028 (rd vt1073 x1274))] : List S_node).length 1, .slice none 0 0])) rfl HS1424 ?_)
              intro b1427 W1428 HS1429
              refine ⟨(Sg.g1 (Sx.of [[(b1427, .cells #[.int .i64 ((((mget (default : S_node) vat1028 (rd vt1073 x1274)).box).X).Lo), .int .i64 ((((mget (default : S_node) vat1028 (rd vt1073 x1274)).box).X).Hi), .bool ((((mget (default : S_node) vat1028 (rd vt1073 x1274)).box).X).Unknown), .int .i64 ((((mget (default : S_node) vat1028 (rd vt1073 x1274)).box).Y).Lo), .int .i64 ((((mget (default : S_node) vat1028 (rd vt1073 x1274)).box).Y).Hi), .bool ((((mget (default : S_node) vat1028 (rd vt1073 x1274)).box).Y).Unknown), .int .i64 ((((mget (default : S_node) vat1028 (rd vt1073 x1274)).box).Z).Lo), .int .i64 ((((mget (default : S_node) vat1028 (rd vt1073 x1274)).box).Z).Hi), .bool ((((mget (default : S_node) vat1028 (rd vt1073 x1274)).box).Z).Unknown), .int .i64 (((mget (default : S_node) vat1028 (rd vt1073 x1274)).when).Lo), .int .i64 (((mget (default : S_node) vat1028 (rd vt1073 x1274)).when).Hi), .bool (((mget (default : S_node) vat1028 (rd vt1073 x1274)).when).Unknown), .slice (some ⟨b1421, 0, none⟩) ([(mget (default : S_node) vat1028 (rd vt1073 x1274))] : List S_node).length 1, .slice none 0 0] 119 (0, 0))], s1423, s1272] fL HS1429) (fun _ => St.only [[(b1427, .cells #[.int .i64 ((((mget (default : S_node) vat1028 (rd vt1073 x1274)).box).X).Lo), .int .i64 ((((mget (default : S_node) vat1028 (rd vt1073 x1274)).box).X).Hi), .bool ((((mget (default : S_node) vat1028 (rd vt1073 x1274)).box).X).Unknown), .int .i64 ((((mget (default : S_node) vat1028 (rd vt1073 x1274)).box).Y).Lo), .int .i64 ((((mget (default : S_node) vat1028 (rd vt1073 x1274)).box).Y).Hi), .bool ((((mget (default : S_node) vat1028 (rd vt1073 x1274)).box).Y).Unknown), .int .i64 ((((mget (default : S_node) vat1028 (rd vt1073 x1274)).box).Z).Lo), .int .i64 ((((mget (default : S_node) vat1028 (rd vt1073 x1274)).box).Z).Hi), .bool ((((mget (default : S_node) vat1028 (rd vt1073 x1274)).box).Z).Unknown), .int .i64 (((mget (default : S_node) vat1028 (rd vt1073 x1274)).when).Lo), .int .i64 (((mget (default : S_node) vat1028 (rd vt1073 x1274)).when).Hi), .bool (((mget (default : S_node) vat1028 (rd vt1073 x1274)).when).Unknown), .slice (some ⟨b1421, 0, none⟩) ([(mget (default : S_node) vat1028 (rd vt1073 x1274))] : List S_node).length 1, .slice none 0 0] 119 (0, 0))], s1423] HS1429 fL)), ?_⟩
              have HS1433 := HS1429.u1.u1.u2
              have HS1434 : St t W1428 f1266 (s1272 :: ([(b1427, .cells #[.int .i64 ((((mget (default : S_node) vat1028 (rd vt1073 x1274)).box).X).Lo), .int .i64 ((((mget (default : S_node) vat1028 (rd vt1073 x1274)).box).X).Hi), .bool ((((mget (default : S_node) vat1028 (rd vt1073 x1274)).box).X).Unknown), .int .i64 ((((mget (default : S_node) vat1028 (rd vt1073 x1274)).box).Y).Lo), .int .i64 ((((mget (default : S_node) vat1028 (rd vt1073 x1274)).box).Y).Hi), .bool ((((mget (default : S_node) vat1028 (rd vt1073 x1274)).box).Y).Unknown), .int .i64 ((((mget (default : S_node) vat1028 (rd vt1073 x1274)).box).Z).Lo), .int .i64 ((((mget (default : S_node) vat1028 (rd vt1073 x1274)).box).Z).Hi), .bool ((((mget (default : S_node) vat1028 (rd vt1073 x1274)).box).Z).Unknown), .int .i64 (((mget (default : S_node) vat1028 (rd vt1073 x1274)).when).Lo), .int .i64 (((mget (default : S_node) vat1028 (rd vt1073 x1274)).when).Hi), .bool (((mget (default : S_node) vat1028 (rd vt1073 x1274)).when).Unknown), .slice (some ⟨b1421, 0, none⟩) ([(mget (default : S_node) vat1028 (rd vt1073 x1274))] : List S_node).length 1, .slice none 0 0] 119 (0, 0))] ++ s1423 ++ ([] : Seg)) :: s1077 :: [(b1067, .cells #[.map (mb A1029)] 110 (0, 0))] :: s1063 :: s526 :: [(b48, .cells #[.slice A43 vt37.length c44, .int .i64 level5, .slice none 0 0, .slice A524 x523.length c525] 109 (0, 0))] :: s45 :: H) := HS1433.perm (List.Perm.of_eq (by simp [flat]))
              refine takeGE 15 kr rfl kr (does_mapPutB (R := rk_node) (k := (w64 (Int.tdiv (rd vt1073 x1274) 4))) (v := (⟨((mget (default : S_node) vat1028 (rd vt1073 x1274)).box), ((mget (default : S_node) vat1028 (rd vt1073 x1274)).when), ([(mget (default : S_node) vat1028 (rd vt1073 x1274))] : List S_node), ([] : List Int)⟩ : S_node)) rfl Tryz.underlying110 Tryz.underlying113 (kv (.map (mb (some ⟨b1051, 0, none⟩)))) (kv (.int .i64 (w64 (Int.tdiv (rd vt1073 x1274) 4)))) (kv (.pointer (some ⟨b1427, 0, none⟩))) ⟨(some ⟨b1421, 0, none⟩), 1, s1423, none, 0, [], rfl, HO1425, (Own.nil _)⟩ (Bool.eq_false_iff.mpr c1316) HO1273 HS1434 ?_)
              intro W1435 s1436 HS1437 HO1438
              refine ⟨(Sg.g1 (Sx.of [s1436] fL HS1437) (fun hl_ => Bool.noConfusion (show true = false from hl_))), ?_⟩
              refine doneG kr ?_ _
              refine hn1285 _ _ ?_
              refine hK1282 _ _ ?_
              refine rl ?_
              refine seqL2 kr ?_
              refine nl ?_
              refine hK1264 n1265 _ _ (Nat.lt_succ_self _) ?_
              have HS1463 := HS1437.u6.u6.u6.u3.u6.u6.u6
              exact ⟨f1266, s1436, (mput up1271 (w64 (Int.tdiv (rd vt1073 x1274) 4)) (⟨((mget (default : S_node) vat1028 (rd vt1073 x1274)).box), ((mget (default : S_node) vat1028 (rd vt1073 x1274)).when), ([(mget (default : S_node) vat1028 (rd vt1073 x1274))] : List S_node), ([] : List Int)⟩ : S_node)), (w64 (x1274 + 1)), (jL [iV (rd vt1073 x1274), .pointer (some ⟨b1305, 0, none⟩), .pointer none, tV, .pointer (some ⟨b1296, of1297 + (x1274 : Int).toNat * 1, none⟩), iV (rd vt1073 x1274), .map (mb A1029), iV (rd vt1073 x1274), .pointer (some ⟨b1305, 0, none⟩), .map (mb (some ⟨b1051, 0, none⟩)), iV (rd vt1073 x1274), iV (w64 (Int.tdiv (rd vt1073 x1274) 4)), .pointer none, .pointer none, fV, (j1270 15), (j1270 16), (j1270 17), (j1270 18), (j1270 19), (j1270 20), (j1270 21), (j1270 22), (j1270 23), (j1270 24), (j1270 25), (j1270 26), (j1270 27), (j1270 28), (j1270 29), (j1270 30), (j1270 31), (j1270 32), (j1270 33), (j1270 34), .map (mb (some ⟨b1051, 0, none⟩)), iV (rd vt1073 x1274), iV (w64 (Int.tdiv (rd vt1073 x1274) 4)), .pointer (some ⟨b1305, 0, none⟩), .pointer (some ⟨b1305, 0, none⟩), .pointer (some ⟨b1305, 0, none⟩), (ag_Box ((mget (default : S_node) vat1028 (rd vt1073 x1274)).box)), .pointer (some ⟨b1305, 0, none⟩), .pointer (some ⟨b1305, 0, none⟩), .pointer (some ⟨b1305, 9, none⟩), (ag_Bound ((mget (default : S_node) vat1028 (rd vt1073 x1274)).when)), .pointer (some ⟨b1305, 0, none⟩), .slice (some ⟨b1421, 0, none⟩) ([(mget (default : S_node) vat1028 (rd vt1073 x1274))] : List S_node).length 1, .agg #[.int .i64 ((((mget (default : S_node) vat1028 (rd vt1073 x1274)).box).X).Lo), .int .i64 ((((mget (default : S_node) vat1028 (rd vt1073 x1274)).box).X).Hi), .bool ((((mget (default : S_node) vat1028 (rd vt1073 x1274)).box).X).Unknown), .int .i64 ((((mget (default : S_node) vat1028 (rd vt1073 x1274)).box).Y).Lo), .int .i64 ((((mget (default : S_node) vat1028 (rd vt1073 x1274)).box).Y).Hi), .bool ((((mget (default : S_node) vat1028 (rd vt1073 x1274)).box).Y).Unknown), .int .i64 ((((mget (default : S_node) vat1028 (rd vt1073 x1274)).box).Z).Lo), .int .i64 ((((mget (default : S_node) vat1028 (rd vt1073 x1274)).box).Z).Hi), .bool ((((mget (default : S_node) vat1028 (rd vt1073 x1274)).box).Z).Unknown), .int .i64 (((mget (default : S_node) vat1028 (rd vt1073 x1274)).when).Lo), .int .i64 (((mget (default : S_node) vat1028 (rd vt1073 x1274)).when).Hi), .bool (((mget (default : S_node) vat1028 (rd vt1073 x1274)).when).Unknown), .slice (some ⟨b1421, 0, none⟩) ([(mget (default : S_node) vat1028 (rd vt1073 x1274))] : List S_node).length 1, .slice none 0 0], .pointer (some ⟨b1427, 0, none⟩), iV (w64 (x1274 + 1))]), L1267, HS1463, HO1438, h, kr⟩
          · have c1280 : ¬ (x1274 < (vt1073.length : Int)) := c1280
            refine wpRwI 120 kr (decide_eq_false c1280) ?_
            refine condF kr ?_
            refine wp_exit ?_
            refine hx1083 _ _ ?_
            exact J1448 f1266 s1272 up1271 (jL [(j1270 0), (j1270 1), (j1270 2), .map (mb (some ⟨b1051, 0, none⟩)), iV x1274, fV, (j1270 4), (j1270 5), (j1270 6), (j1270 7), (j1270 8), (j1270 9), (j1270 10), (j1270 11), (j1270 12), (j1270 13), (j1270 14), (j1270 15), (j1270 16), (j1270 17), (j1270 18), (j1270 19), (j1270 20), (j1270 21), (j1270 22), (j1270 23), (j1270 24), (j1270 25), (j1270 26), (j1270 27), (j1270 28), (j1270 29), (j1270 30), (j1270 31), (j1270 32), (j1270 33), (j1270 34), (j1270 35), (j1270 36), (j1270 37), (j1270 38), (j1270 39), (j1270 40), (j1270 41), (j1270 42), (j1270 43), (j1270 44), (j1270 45), (j1270 46), (j1270 47), (j1270 48), (j1270 49), (j1270 50)]) W1268 _ L1267 h HS1269 HO1273 kr
        · have c1039 : ¬ (x1033 < level5) := c1039
          refine wpRwI 113 kr (decide_eq_false c1039) ?_
          refine condF kr ?_
          refine wp_exit ?_
          refine hx571 _ _ ?_
          exact J1475 f1023 A1029 c1030 s1031 vat1028 (jL [(j1027 0), (j1027 1), (j1027 2), (j1027 3), iV x1033, fV, (j1027 5), (j1027 6), (j1027 7), (j1027 8), (j1027 9), (j1027 10), (j1027 11), (j1027 12), (j1027 13), (j1027 14), (j1027 15), (j1027 16), (j1027 17), (j1027 18), (j1027 19), (j1027 20), (j1027 21), (j1027 22), (j1027 23), (j1027 24), (j1027 25), (j1027 26), (j1027 27), (j1027 28), (j1027 29), (j1027 30), (j1027 31), (j1027 32), (j1027 33), (j1027 34), (j1027 35), (j1027 36), (j1027 37), (j1027 38), (j1027 39), (j1027 40), (j1027 41), (j1027 42), (j1027 43), (j1027 44), (j1027 45), (j1027 46), (j1027 47), (j1027 48), (j1027 49), (j1027 50), (j1027 51), (j1027 52), (j1027 53), (j1027 54), (j1027 55), (j1027 56), (j1027 57), (j1027 58), (j1027 59), (j1027 60)]) W1025 _ L1024 h HS1026 HO1032 kr
       clear h; have h := hv529; clear hv529
       have HS532 := HS57.cons_nil
       refine loopK (fun n_ a_ w_ => ∃ (f294 : FM) (s300 : Seg) (A304 : Option Addr) (c305 : Nat) (s306 : Seg) (vat299 : List (Int × S_node)) (x302 : Int) (x303 : List Int) (j298 : Nat → Value), FM.le f39 f294 ∧ St t w_ f294 (s306 :: s300 :: [(b48, .cells #[.slice A43 vt37.length c44, .int .i64 level5, .slice none 0 0, .slice A304 x303.length c305] 109 (0, 0))] :: s45 :: H) ∧ OwnMB rk_node 200110 f294 (some ⟨b54, 0, none⟩) 0 s300 vat299 ∧ Own (tInt .i64) 3 f294 A304 c305 s306 x303 ∧ query_New.l0 k vt37 level5 n_ vat299 x302 x303 = some o290 ∧ a_ = ⟨#[.slice A2 rows1.length c3, iV level5, uV, uV, .pointer none, iV 0, iV vt12, pV b48 0, .map (mb (some ⟨b54, 0, none⟩)), (j298 0), (j298 1), (j298 2), (j298 3), (j298 4), (j298 5), (j298 6), uV, uV, uV, uV, uV, uV, uV, .slice A2 rows1.length c3, iV vt12, iV vt12, fV, uV, iV level5, fV, fV, iV level5, fV, fV, .slice A2 rows1.length c3, .slice A43 vt37.length c44, iV level5, .agg #[.slice A43 vt37.length c44, iV level5, .slice none 0 0, .slice none 0 0], pV b48 0, .map (mb (some ⟨b54, 0, none⟩)), pV b48 0, pV b48 0, pV b48 0, .slice A43 vt37.length c44, iV (vt37.length : Int), iV x302, (j298 7), (j298 8), (j298 9), (j298 10), (j298 11), (j298 12), (j298 13), (j298 14), (j298 15), (j298 16), (j298 17), (j298 18), (j298 19), (j298 20), (j298 21), (j298 22), (j298 23), (j298 24), (j298 25), (j298 26), (j298 27), (j298 28), (j298 29), (j298 30), (j298 31), (j298 32), (j298 33), (j298 34), (j298 35), (j298 36), (j298 37), (j298 38), (j298 39), (j298 40), (j298 41), (j298 42), (j298 43), (j298 44), (j298 45), (j298 46), (j298 47), (j298 48), (j298 49), (j298 50), (j298 51), (j298 52), (j298 53), (j298 54), (j298 55), (j298 56), (j298 57), (j298 58), (j298 59), (j298 60), (j298 61), (j298 62), (j298 63), (j298 64), (j298 65), (j298 66), (j298 67), (j298 68), (j298 69), (j298 70), (j298 71), uV, uV, uV, uV, uV, uV, uV, uV, uV, uV, uV, uV, uV, uV, uV, uV, uV, uV, uV, uV, uV, uV, uV, uV, uV, uV, uV, uV, uV, uV, uV, uV, uV, uV, uV, uV, uV, uV, uV, uV, uV, uV, uV, uV, uV, uV, uV, uV, uV, uV, uV, uV, uV, uV, uV, uV, uV, uV, uV, uV, uV, uV, uV, uV, uV, uV, uV, uV, uV, uV, uV, uV, uV, uV, uV, uV, uV, uV, uV, uV, uV], []⟩) k ⟨f39, s56, none, 0, [], ([] : List (Int × S_node)), 0, ([] : List Int), (jL []), fL, HS532, HO58, (Own.nil _), h, kr⟩ ?_
       clear h
       rintro n293 _ W296 ⟨f294, s300, A304, c305, s306, vat299, x302, x303, j298, L295, HS297, HO301, HO307, h, rfl⟩ K291 hK292
       obtain _ | n293 := n293
       · exact nomatch h
       simp only [query_New.l0] at h
       refine wp_seq_k fun K309 hK310 => rl ?_
       refine seqL1 kr ?_
       refine nl (hK310 _ _ ?_)
       refine wp_seq_k (fun K311 hK312 => ?_)
       have hq_ := ite_some h; clear h; rcases hq_ with ⟨c314, h⟩ | ⟨c314, h⟩
       · have c314 : x302 < (vt37.length : Int) := c314
         refine wpRwI 46 kr (decide_eq_true c314) ?_
         refine condT kr ?_
         refine wp_skip ?_
         refine hK312 _ _ ?_
         refine wp_seq_k (fun K315 hK316 => ?_)
         refine blockK (fun B317 hx318 hn319 hr320 ho321 hp322 => ?_)
         refine wp_seq_k fun K324 hK325 => rl ?_
         have hq_ := guard_some h; clear h; obtain ⟨c326, h⟩ := hq_
         have c326 : 0 ≤ x302 := c326
         obtain ⟨b330, of331, cs327, hA332, hr328, hc329⟩ := (HO46.mono L295).at (i := x302) c326 c314
         obtain ⟨A333, c333, rfl, HR333⟩ := hr328
         refine seqL1 kr ?_
         refine seqK rfl (does_run (run_indexE hA332 (sz := 18) rfl Tryz.underlying45 kr (kv (.slice A43 vt37.length c44)) (kv (.int .i64 x302)) c326 c314 W296) ?_)
         refine seqK rfl (does_run (run_loadN (n := 18) rfl Tryz.underlying99 rfl kr (kv (.pointer (some ⟨b330, of331 + (x302 : Int).toNat * 18, none⟩))) (cs := [.int .i64 ((rd vt37 x302).ID), .int .i64 ((((rd vt37 x302).Box).X).Lo), .int .i64 ((((rd vt37 x302).Box).X).Hi), .bool ((((rd vt37 x302).Box).X).Unknown), .int .i64 ((((rd vt37 x302).Box).Y).Lo), .int .i64 ((((rd vt37 x302).Box).Y).Hi), .bool ((((rd vt37 x302).Box).Y).Unknown), .int .i64 ((((rd vt37 x302).Box).Z).Lo), .int .i64 ((((rd vt37 x302).Box).Z).Hi), .bool ((((rd vt37 x302).Box).Z).Unknown), .int .i64 (((rd vt37 x302).Flux).Lo), .int .i64 (((rd vt37 x302).Flux).Hi), .bool (((rd vt37 x302).Flux).Unknown), .int .i64 (((rd vt37 x302).When).Lo), .int .i64 (((rd vt37 x302).When).Hi), .bool (((rd vt37 x302).When).Unknown), .slice A333 ((rd vt37 x302).Frames).length c333, .int .i64 ((rd vt37 x302).Marks)]) rfl (fun j_ hj_ => ((hc329 HS297.u3) j_ hj_))) ?_)
         refine seqK rfl (does_alloc (z := Value.agg #[.int .i64 0, .int .i64 0, .int .i64 0, .bool false, .int .i64 0, .int .i64 0, .bool false, .int .i64 0, .int .i64 0, .bool false, .int .i64 0, .int .i64 0, .bool false, .int .i64 0, .int .i64 0, .bool false, .slice none 0 0, .int .i64 0]) (cs := #[.int .i64 0, .int .i64 0, .int .i64 0, .bool false, .int .i64 0, .int .i64 0, .bool false, .int .i64 0, .int .i64 0, .bool false, .int .i64 0, .int .i64 0, .bool false, .int .i64 0, .int .i64 0, .bool false, .slice none 0 0, .int .i64 0]) rfl kr rfl HS297 ?_)
         intro b334 W335 HS336
         refine seqL1 kr ?_
         refine seqK rfl (does_storeA (vs := [.int .i64 ((rd vt37 x302).ID), .int .i64 ((((rd vt37 x302).Box).X).Lo), .int .i64 ((((rd vt37 x302).Box).X).Hi), .bool ((((rd vt37 x302).Box).X).Unknown), .int .i64 ((((rd vt37 x302).Box).Y).Lo), .int .i64 ((((rd vt37 x302).Box).Y).Hi), .bool ((((rd vt37 x302).Box).Y).Unknown), .int .i64 ((((rd vt37 x302).Box).Z).Lo), .int .i64 ((((rd vt37 x302).Box).Z).Hi), .bool ((((rd vt37 x302).Box).Z).Unknown), .int .i64 (((rd vt37 x302).Flux).Lo), .int .i64 (((rd vt37 x302).Flux).Hi), .bool (((rd vt37 x302).Flux).Unknown), .int .i64 (((rd vt37 x302).When).Lo), .int .i64 (((rd vt37 x302).When).Hi), .bool (((rd vt37 x302).When).Unknown), .slice A333 ((rd vt37 x302).Frames).length c333, .int .i64 ((rd vt37 x302).Marks)]) rfl kr kr kr rfl (ones rfl) HS336 kr ?_)
         intro W338 HS339
         refine nl (hK325 _ _ ?_)
         refine wp_seq_k fun K340 hK341 => rl ?_
         refine seqL1 kr ?_
         refine seqK rfl (does_run (run_loadN (n := 9) rfl Tryz.underlying31 rfl kr (kv (.pointer (some ⟨b334, 1, none⟩))) (cs := [.int .i64 ((((rd vt37 x302).Box).X).Lo), .int .i64 ((((rd vt37 x302).Box).X).Hi), .bool ((((rd vt37 x302).Box).X).Unknown), .int .i64 ((((rd vt37 x302).Box).Y).Lo), .int .i64 ((((rd vt37 x302).Box).Y).Hi), .bool ((((rd vt37 x302).Box).Y).Unknown), .int .i64 ((((rd vt37 x302).Box).Z).Lo), .int .i64 ((((rd vt37 x302).Box).Z).Hi), .bool ((((rd vt37 x302).Box).Z).Unknown)]) rfl (HS339.cells 1 9 _ rfl)) ?_)
         have hq_ := bind_some h; clear h; obtain ⟨⟨vt342, vt343⟩, hc344, h⟩ := hq_
         refine seqK rfl (does_call (f := 46) (args := #[.agg #[.int .i64 ((((rd vt37 x302).Box).X).Lo), .int .i64 ((((rd vt37 x302).Box).X).Hi), .bool ((((rd vt37 x302).Box).X).Unknown), .int .i64 ((((rd vt37 x302).Box).Y).Lo), .int .i64 ((((rd vt37 x302).Box).Y).Hi), .bool ((((rd vt37 x302).Box).Y).Unknown), .int .i64 ((((rd vt37 x302).Box).Z).Lo), .int .i64 ((((rd vt37 x302).Box).Z).Hi), .bool ((((rd vt37 x302).Box).Z).Unknown)]]) kr (query_middle.calls k ((rd vt37 x302).Box) HS339 vt342 vt343 hc344) ?_)
         rintro _ W347 ⟨f345, rfl, L346, HS348⟩
         refine ⟨_, rfl, ?_⟩
         refine seqL3 kr ?_
         refine seqK rfl (does_alloc (z := Value.agg #[.int .i64 0, .int .i64 0, .int .i64 0]) (cs := #[.int .i64 0, .int .i64 0, .int .i64 0]) rfl kr rfl HS348 ?_)
         intro b349 W350 HS351
         refine seqK rfl (does_storeA (vs := [.int .i64 vt342.X, .int .i64 vt342.Y, .int .i64 vt342.Z]) rfl kr kr kr rfl (ones rfl) HS351 kr ?_)
         intro W353 HS354
         refine seqL1 kr ?_
         refine nl (hK341 _ _ ?_)
         refine wp_seq_k (fun K355 hK356 => ?_)
         refine wp_seq_k fun K357 hK358 => rl ?_
         refine seqL3 kr ?_
         have hq_ := ite_some h; clear h; rcases hq_ with ⟨c359, h⟩ | ⟨c359, h⟩
         · have c359 : ¬ (vt343 = true) := c359
           refine seqRwI 57 kr (congrArg (fun b_ => !b_) (show vt343 = false from (Bool.eq_false_iff.mpr c359)) : (!vt343) = true) ?_
           refine seqRwI 58 kr (congrArg (fun b_ => !b_) (show vt343 = false from (Bool.eq_false_iff.mpr c359)) : (!vt343) = true) ?_
           refine seqL4 kr ?_
           refine nl (hK358 _ _ ?_)
           refine condT kr ?_
           refine wp_seq_k fun K360 hK361 => rl ?_
           refine seqL4 kr ?_
           refine seqK rfl (does_run (run_load rfl Tryz.underlying22 rfl (kv (.pointer (some ⟨b48, 3, none⟩))) (HS354.u4.cell 3)) ?_)
           refine seqL1 kr ?_
           refine seqK rfl (does_lit (e := (tInt .i64)) (E := 3) (vs := #[(0, Value.int .i64 x302)]) (cs := #[.int .i64 x302]) (xs := ([x302] : List Int)) rfl Tryz.underlying22 kr kr ⟨[.int .i64 x302], _, rfl, rfl, rfl⟩ rfl HS354 ?_ (by decide))
           intro b362 W363 s364 HS365 _ HO366
           have hq_ := guard_some h; clear h; obtain ⟨c368, h⟩ := hq_
           have c368 : (x303.length + 1) * 8 ≤ 140737488355328 := c368
           have HS370 := HS365.u3.u1
           refine seqK rfl (does_append1 (e := (tInt .i64)) (E := 3) (xs := x303) (ys := ([x302] : List Int)) rfl (kv (.slice A304 x303.length c305)) (kv (.slice (some ⟨b362, 0, none⟩) ([x302] : List Int).length 1)) Tryz.underlying22 inf3 (HO307.mono L346) HO366 HS370 c368 (lim63 c368 (by decide)) ?_)
           intro A371 c372 s373 W374 HS375 HO376
           have HS377 := HS375.u4
           refine seqL2 kr ?_
           refine seqK rfl (does_store (n := 1) (vs := [.slice A371 (x303 ++ ([x302] : List Int)).length c372]) (cs' := #[.slice A43 vt37.length c44, .int .i64 level5, .slice none 0 0, .slice A371 (x303 ++ ([x302] : List Int)).length c372]) rfl kr (kv (.pointer (some ⟨b48, 3, none⟩))) (kv (.slice A371 (x303 ++ ([x302] : List Int)).length c372)) rfl rfl (ones rfl) HS377 (Nat.le_of_ble_eq_true rfl) kr ?_)
           intro W378 HS379
           refine nl (hK361 _ _ ?_)
           refine wp_exit ?_
           refine hx318 _ _ ?_
           refine hK316 _ _ ?_
           refine rl ?_
           refine seqL2 kr ?_
           refine nl ?_
           refine hK292 n293 _ _ (Nat.lt_succ_self _) ?_
           have HS539 := HS379.u5.u1.u5.u3.u5.u5
           have HS540 := HS539.drop
           have HS541 := HS540.drop
           exact ⟨f345, s300, A371, c372, s373, vat299, (w64 (x302 + 1)), (x303 ++ ([x302] : List Int)), (jL [iV x302, .pointer (some ⟨b334, 0, none⟩), .pointer (some ⟨b349, 0, none⟩), .bool vt343, (j298 4), (j298 5), (j298 6), tV, iV x302, .pointer (some ⟨b330, of331 + (x302 : Int).toNat * 18, none⟩), (ag_Row (rd vt37 x302) A333 c333), .tuple #[(ag_Vec vt342), .bool vt343], .pointer (some ⟨b334, 1, none⟩), (ag_Box ((rd vt37 x302).Box)), .tuple #[(ag_Vec vt342), .bool vt343], (ag_Vec vt342), .bool vt343, .bool vt343, tV, tV, uV, uV, uV, tV, .pointer (some ⟨b48, 0, none⟩), .pointer (some ⟨b48, 0, none⟩), .pointer (some ⟨b48, 0, none⟩), .pointer (some ⟨b48, 3, none⟩), .slice A304 x303.length c305, iV x302, .slice (some ⟨b362, 0, none⟩) ([x302] : List Int).length 1, .slice A371 (x303 ++ ([x302] : List Int)).length c372, .pointer (some ⟨b48, 0, none⟩), .pointer (some ⟨b48, 3, none⟩), (j298 34), (j298 35), (j298 36), (j298 37), (j298 38), (j298 39), (j298 40), (j298 41), (j298 42), (j298 43), (j298 44), (j298 45), (j298 46), (j298 47), (j298 48), (j298 49), (j298 50), (j298 51), (j298 52), (j298 53), (j298 54), (j298 55), (j298 56), (j298 57), (j298 58), (j298 59), (j298 60), (j298 61), (j298 62), (j298 63), (j298 64), (j298 65), (j298 66), (j298 67), (j298 68), (j298 69), (j298 70), iV (w64 (x302 + 1))]), (L295.trans L346), HS541, (HO301.mono L346), HO376, h, kr⟩
         · have c359 : ¬ (¬ (vt343 = true)) := c359
           refine seqRwI 57 (x := (!vt343)) (v := false) kr (congrArg (fun b_ => !b_) (show vt343 = true from (Decidable.of_not_not c359)) : (!vt343) = false) ?_
           refine seqRwI 58 (x := (!vt343)) (v := false) kr (congrArg (fun b_ => !b_) (show vt343 = true from (Decidable.of_not_not c359)) : (!vt343) = false) ?_
           refine seqL2 kr ?_
           refine seqG kr (does_run (run_load rfl Tryz.underlying4 rfl (kv (.pointer (some ⟨b334, 15, none⟩))) (HS354.u1.cell 15)) ?_)
           refine seqL1 kr ?_
           refine nl (hK358 _ _ ?_)
           have hq_ := ite_some h; clear h; rcases hq_ with ⟨c381, h⟩ | ⟨c381, h⟩
           · have c381 : (((rd vt37 x302).When).Unknown) = true := c381
             refine wpRwI 61 kr c381 ?_
             refine wpRwI 62 kr c381 ?_
             refine condT kr ?_
             refine wp_seq_k fun K382 hK383 => rl ?_
             refine seqL4 kr ?_
             refine seqK rfl (does_run (run_load rfl Tryz.underlying22 rfl (kv (.pointer (some ⟨b48, 3, none⟩))) (HS354.u4.cell 3)) ?_)
             refine seqL1 kr ?_
             refine seqK rfl (does_lit (e := (tInt .i64)) (E := 3) (vs := #[(0, Value.int .i64 x302)]) (cs := #[.int .i64 x302]) (xs := ([x302] : List Int)) rfl Tryz.underlying22 kr kr ⟨[.int .i64 x302], _, rfl, rfl, rfl⟩ rfl HS354 ?_ (by decide))
             intro b384 W385 s386 HS387 _ HO388
             have hq_ := guard_some h; clear h; obtain ⟨c390, h⟩ := hq_
             have c390 : (x303.length + 1) * 8 ≤ 140737488355328 := c390
             have HS392 := HS387.u3.u1
             refine seqK rfl (does_append1 (e := (tInt .i64)) (E := 3) (xs := x303) (ys := ([x302] : List Int)) rfl (kv (.slice A304 x303.length c305)) (kv (.slice (some ⟨b384, 0, none⟩) ([x302] : List Int).length 1)) Tryz.underlying22 inf3 (HO307.mono L346) HO388 HS392 c390 (lim63 c390 (by decide)) ?_)
             intro A393 c394 s395 W396 HS397 HO398
             have HS399 := HS397.u4
             refine seqL2 kr ?_
             refine seqK rfl (does_store (n := 1) (vs := [.slice A393 (x303 ++ ([x302] : List Int)).length c394]) (cs' := #[.slice A43 vt37.length c44, .int .i64 level5, .slice none 0 0, .slice A393 (x303 ++ ([x302] : List Int)).length c394]) rfl kr (kv (.pointer (some ⟨b48, 3, none⟩))) (kv (.slice A393 (x303 ++ ([x302] : List Int)).length c394)) rfl rfl (ones rfl) HS399 (Nat.le_of_ble_eq_true rfl) kr ?_)
             intro W400 HS401
             refine nl (hK383 _ _ ?_)
             refine wp_exit ?_
             refine hx318 _ _ ?_
             refine hK316 _ _ ?_
             refine rl ?_
             refine seqL2 kr ?_
             refine nl ?_
             refine hK292 n293 _ _ (Nat.lt_succ_self _) ?_
             have HS547 := HS401.u5.u1.u5.u3.u5.u5
             have HS548 := HS547.drop
             have HS549 := HS548.drop
             exact ⟨f345, s300, A393, c394, s395, vat299, (w64 (x302 + 1)), (x303 ++ ([x302] : List Int)), (jL [iV x302, .pointer (some ⟨b334, 0, none⟩), .pointer (some ⟨b349, 0, none⟩), .bool vt343, (j298 4), (j298 5), (j298 6), tV, iV x302, .pointer (some ⟨b330, of331 + (x302 : Int).toNat * 18, none⟩), (ag_Row (rd vt37 x302) A333 c333), .tuple #[(ag_Vec vt342), .bool vt343], .pointer (some ⟨b334, 1, none⟩), (ag_Box ((rd vt37 x302).Box)), .tuple #[(ag_Vec vt342), .bool vt343], (ag_Vec vt342), .bool vt343, .bool vt343, fV, fV, .pointer (some ⟨b334, 13, none⟩), .pointer (some ⟨b334, 15, none⟩), tV, tV, .pointer (some ⟨b48, 0, none⟩), .pointer (some ⟨b48, 0, none⟩), .pointer (some ⟨b48, 0, none⟩), .pointer (some ⟨b48, 3, none⟩), .slice A304 x303.length c305, iV x302, .slice (some ⟨b384, 0, none⟩) ([x302] : List Int).length 1, .slice A393 (x303 ++ ([x302] : List Int)).length c394, .pointer (some ⟨b48, 0, none⟩), .pointer (some ⟨b48, 3, none⟩), (j298 34), (j298 35), (j298 36), (j298 37), (j298 38), (j298 39), (j298 40), (j298 41), (j298 42), (j298 43), (j298 44), (j298 45), (j298 46), (j298 47), (j298 48), (j298 49), (j298 50), (j298 51), (j298 52), (j298 53), (j298 54), (j298 55), (j298 56), (j298 57), (j298 58), (j298 59), (j298 60), (j298 61), (j298 62), (j298 63), (j298 64), (j298 65), (j298 66), (j298 67), (j298 68), (j298 69), (j298 70), iV (w64 (x302 + 1))]), (L295.trans L346), HS549, (HO301.mono L346), HO398, h, kr⟩
           · have c381 : ¬ ((((rd vt37 x302).When).Unknown) = true) := c381
             refine wpRwI 61 kr (Bool.eq_false_iff.mpr c381) ?_
             refine wpRwI 62 kr (Bool.eq_false_iff.mpr c381) ?_
             refine condF kr ?_
             refine wp_skip ?_
             refine hK356 _ _ ?_
             refine wp_seq_k fun K402 hK403 => rl ?_
             refine seqK rfl (does_run (run_loadN (n := 3) rfl Tryz.underlying39 rfl kr (kv (.pointer (some ⟨b349, 0, none⟩))) (cs := [.int .i64 vt342.X, .int .i64 vt342.Y, .int .i64 vt342.Z]) rfl (HS354.cells 0 3 _ rfl)) ?_)
             have hq_ := bind_some h; clear h; obtain ⟨⟨vt404, vt405⟩, hc406, h⟩ := hq_
             refine seqL1 kr ?_
             refine seqK rfl (does_call (f := 47) (args := #[.agg #[.int .i64 vt342.X, .int .i64 vt342.Y, .int .i64 vt342.Z], .int .i64 level5]) kr (tile_Of.calls k vt342 level5 HS354 vt404 vt405 hc406) ?_)
             rintro _ W409 ⟨f407, rfl, L408, HS410⟩
             refine ⟨_, rfl, ?_⟩
             refine seqL5 kr ?_
             refine nl (hK403 _ _ ?_)
             refine wp_seq_k fun K411 hK412 => rl ?_
             refine seqL2 kr ?_
             have hq_ := ite_some h; clear h; rcases hq_ with ⟨c413, h⟩ | ⟨c413, h⟩
             · have c413 : ((mfind vat299 vt404).isSome) = true := c413
               have HS414 := HS410.u3
               obtain ⟨b415, sb416, s417, HS418, hw419, hl420, hc421⟩ := (HO301.mono (L346.trans L408)).open (P := Tryz.prog) (z := (default : S_node)) c413 HS414
               obtain ⟨A422, c423, s424, A427, c428, s429, rfl, HO425, HO430⟩ := hw419
               have HS433 : St t W409 f407 ([(b415, .cells #[.int .i64 ((((mget (default : S_node) vat299 vt404).box).X).Lo), .int .i64 ((((mget (default : S_node) vat299 vt404).box).X).Hi), .bool ((((mget (default : S_node) vat299 vt404).box).X).Unknown), .int .i64 ((((mget (default : S_node) vat299 vt404).box).Y).Lo), .int .i64 ((((mget (default : S_node) vat299 vt404).box).Y).Hi), .bool ((((mget (default : S_node) vat299 vt404).box).Y).Unknown), .int .i64 ((((mget (default : S_node) vat299 vt404).box).Z).Lo), .int .i64 ((((mget (default : S_node) vat299 vt404).box).Z).Hi), .bool ((((mget (default : S_node) vat299 vt404).box).Z).Unknown), .int .i64 (((mget (default : S_node) vat299 vt404).when).Lo), .int .i64 (((mget (default : S_node) vat299 vt404).when).Hi), .bool (((mget (default : S_node) vat299 vt404).when).Unknown), .slice A422 ((mget (default : S_node) vat299 vt404).kids).length c423, .slice A427 ((mget (default : S_node) vat299 vt404).rows).length c428] 119 (0, 0))] :: s424 :: s429 :: s417 :: [(b349, .cells #[.int .i64 vt342.X, .int .i64 vt342.Y, .int .i64 vt342.Z] 39 (0, 0))] :: [(b334, .cells #[.int .i64 ((rd vt37 x302).ID), .int .i64 ((((rd vt37 x302).Box).X).Lo), .int .i64 ((((rd vt37 x302).Box).X).Hi), .bool ((((rd vt37 x302).Box).X).Unknown), .int .i64 ((((rd vt37 x302).Box).Y).Lo), .int .i64 ((((rd vt37 x302).Box).Y).Hi), .bool ((((rd vt37 x302).Box).Y).Unknown), .int .i64 ((((rd vt37 x302).Box).Z).Lo), .int .i64 ((((rd vt37 x302).Box).Z).Hi), .bool ((((rd vt37 x302).Box).Z).Unknown), .int .i64 (((rd vt37 x302).Flux).Lo), .int .i64 (((rd vt37 x302).Flux).Hi), .bool (((rd vt37 x302).Flux).Unknown), .int .i64 (((rd vt37 x302).When).Lo), .int .i64 (((rd vt37 x302).When).Hi), .bool (((rd vt37 x302).When).Unknown), .slice A333 ((rd vt37 x302).Frames).length c333, .int .i64 ((rd vt37 x302).Marks)] 99 (0, 0))] :: s306 :: [(b48, .cells #[.slice A43 vt37.length c44, .int .i64 level5, .slice none 0 0, .slice A304 x303.length c305] 109 (0, 0))] :: s45 :: H) := HS418.perm (List.Perm.of_eq (by simp [flat]))
               refine seqK rfl (does_run (hl420 rfl Tryz.underlying110 Tryz.underlying113 (kv (.map (mb (some ⟨b54, 0, none⟩)))) (kv (.int .i64 vt404)) HS433.u3) ?_)
               refine seqL1 kr ?_
               refine nl (hK412 _ _ ?_)
               refine wp_seq_k fun K434 hK435 => rl ?_
               refine seqL2 kr ?_
               refine nl (hK435 _ _ ?_)
               refine condT kr ?_
               refine wp_seq_k fun K436 hK437 => rl ?_
               refine seqL2 kr ?_
               refine seqK rfl (does_run (run_loadN (n := 9) rfl Tryz.underlying31 rfl kr (kv (.pointer (some ⟨b334, 1, none⟩))) (cs := [.int .i64 ((((rd vt37 x302).Box).X).Lo), .int .i64 ((((rd vt37 x302).Box).X).Hi), .bool ((((rd vt37 x302).Box).X).Unknown), .int .i64 ((((rd vt37 x302).Box).Y).Lo), .int .i64 ((((rd vt37 x302).Box).Y).Hi), .bool ((((rd vt37 x302).Box).Y).Unknown), .int .i64 ((((rd vt37 x302).Box).Z).Lo), .int .i64 ((((rd vt37 x302).Box).Z).Hi), .bool ((((rd vt37 x302).Box).Z).Unknown)]) rfl (HS433.u5.cells 1 9 _ rfl)) ?_)
               refine seqL1 kr ?_
               refine seqK rfl (does_run (run_loadN (n := 3) rfl Tryz.underlying97 rfl kr (kv (.pointer (some ⟨b334, 13, none⟩))) (cs := [.int .i64 (((rd vt37 x302).When).Lo), .int .i64 (((rd vt37 x302).When).Hi), .bool (((rd vt37 x302).When).Unknown)]) rfl (HS433.u5.cells 13 3 _ rfl)) ?_)
               have HS440 := HS433.u2.u2.u2
               have hq_ := bind_some h; clear h; obtain ⟨⟨vt441, vt442, vt443, vt444, vt445, vt446, vt447, vt448, vt449, vt450, vt451, vt452, vt453, vt454⟩, hc455, h⟩ := hq_
               refine seqK rfl (does_call (f := 48) (args := #[.pointer (some ⟨b415, 0, none⟩), .agg #[.int .i64 ((((rd vt37 x302).Box).X).Lo), .int .i64 ((((rd vt37 x302).Box).X).Hi), .bool ((((rd vt37 x302).Box).X).Unknown), .int .i64 ((((rd vt37 x302).Box).Y).Lo), .int .i64 ((((rd vt37 x302).Box).Y).Hi), .bool ((((rd vt37 x302).Box).Y).Unknown), .int .i64 ((((rd vt37 x302).Box).Z).Lo), .int .i64 ((((rd vt37 x302).Box).Z).Hi), .bool ((((rd vt37 x302).Box).Z).Unknown)], .agg #[.int .i64 (((rd vt37 x302).When).Lo), .int .i64 (((rd vt37 x302).When).Hi), .bool (((rd vt37 x302).When).Unknown)]]) kr (query_node_join.calls k b415 A422 c423 s424 A427 c428 s429 (mget (default : S_node) vat299 vt404) ((rd vt37 x302).Box) ((rd vt37 x302).When) HS440 HO425 HO430 vt441 vt442 vt443 vt444 vt445 vt446 vt447 vt448 vt449 vt450 vt451 vt452 vt453 vt454 hc455) ?_)
               rintro _ W458 ⟨f456, A460, c461, s462, A465, c466, s467, rfl, L457, HS459, HO463, HO468⟩
               refine ⟨_, rfl, ?_⟩
               refine nl (hK437 _ _ ?_)
               refine rl ?_
               refine seqL4 kr ?_
               refine seqK rfl (does_run (run_load rfl Tryz.underlying22 rfl (kv (.pointer (some ⟨b415, 13, none⟩))) (HS459.u2.cell 13)) ?_)
               refine seqL1 kr ?_
               refine seqK rfl (does_lit (e := (tInt .i64)) (E := 3) (vs := #[(0, Value.int .i64 x302)]) (cs := #[.int .i64 x302]) (xs := ([x302] : List Int)) rfl Tryz.underlying22 kr kr ⟨[.int .i64 x302], _, rfl, rfl, rfl⟩ rfl HS459 ?_ (by decide))
               intro b470 W471 s472 HS473 _ HO474
               have hq_ := guard_some h; clear h; obtain ⟨c476, h⟩ := hq_
               have c476 : (vt454.length + 1) * 8 ≤ 140737488355328 := c476
               have HS478 := HS473.u2.u1
               refine seqK rfl (does_append1 (e := (tInt .i64)) (E := 3) (xs := vt454) (ys := ([x302] : List Int)) rfl (kv (.slice A465 vt454.length c466)) (kv (.slice (some ⟨b470, 0, none⟩) ([x302] : List Int).length 1)) Tryz.underlying22 inf3 HO468 HO474 HS478 c476 (lim63 c476 (by decide)) ?_)
               intro A479 c480 s481 W482 HS483 HO484
               have HS485 := HS483.u2
               refine seqL2 kr ?_
               refine seqK rfl (does_store (n := 1) (vs := [.slice A479 (vt454 ++ ([x302] : List Int)).length c480]) (cs' := #[.int .i64 vt441, .int .i64 vt442, .bool vt443, .int .i64 vt444, .int .i64 vt445, .bool vt446, .int .i64 vt447, .int .i64 vt448, .bool vt449, .int .i64 vt450, .int .i64 vt451, .bool vt452, .slice A460 vt453.length c461, .slice A479 (vt454 ++ ([x302] : List Int)).length c480]) rfl kr (kv (.pointer (some ⟨b415, 13, none⟩))) (kv (.slice A479 (vt454 ++ ([x302] : List Int)).length c480)) rfl rfl (ones rfl) HS485 (Nat.le_of_ble_eq_true rfl) kr ?_)
               intro W486 HS487
               refine nl ?_
               refine hn319 _ _ ?_
               have HS491 := HS487.u3.u2.u3.u3
               obtain ⟨s492, HS493, HO494⟩ : ∃ s9_ : Seg, St t W486 f456 (s9_ :: [(b349, .cells #[.int .i64 vt342.X, .int .i64 vt342.Y, .int .i64 vt342.Z] 39 (0, 0))] :: [(b334, .cells #[.int .i64 ((rd vt37 x302).ID), .int .i64 ((((rd vt37 x302).Box).X).Lo), .int .i64 ((((rd vt37 x302).Box).X).Hi), .bool ((((rd vt37 x302).Box).X).Unknown), .int .i64 ((((rd vt37 x302).Box).Y).Lo), .int .i64 ((((rd vt37 x302).Box).Y).Hi), .bool ((((rd vt37 x302).Box).Y).Unknown), .int .i64 ((((rd vt37 x302).Box).Z).Lo), .int .i64 ((((rd vt37 x302).Box).Z).Hi), .bool ((((rd vt37 x302).Box).Z).Unknown), .int .i64 (((rd vt37 x302).Flux).Lo), .int .i64 (((rd vt37 x302).Flux).Hi), .bool (((rd vt37 x302).Flux).Unknown), .int .i64 (((rd vt37 x302).When).Lo), .int .i64 (((rd vt37 x302).When).Hi), .bool (((rd vt37 x302).When).Unknown), .slice A333 ((rd vt37 x302).Frames).length c333, .int .i64 ((rd vt37 x302).Marks)] 99 (0, 0))] :: s306 :: [(b48, .cells #[.slice A43 vt37.length c44, .int .i64 level5, .slice none 0 0, .slice A304 x303.length c305] 109 (0, 0))] :: s45 :: H) ∧ OwnMB rk_node 200110 f456 (some ⟨b54, 0, none⟩) 0 s9_ (mput vat299 vt404 (⟨(⟨(⟨vt441, vt442, vt443⟩ : S_Bound), (⟨vt444, vt445, vt446⟩ : S_Bound), (⟨vt447, vt448, vt449⟩ : S_Bound)⟩ : S_Box), (⟨vt450, vt451, vt452⟩ : S_Bound), vt453, (vt454 ++ ([x302] : List Int))⟩ : S_node)) := ⟨([(b415, .cells #[.int .i64 vt441, .int .i64 vt442, .bool vt443, .int .i64 vt444, .int .i64 vt445, .bool vt446, .int .i64 vt447, .int .i64 vt448, .bool vt449, .int .i64 vt450, .int .i64 vt451, .bool vt452, .slice A460 vt453.length c461, .slice A479 (vt454 ++ ([x302] : List Int)).length c480] 119 (0, 0))] ++ s462 ++ s481) ++ s417, HS491.perm (List.Perm.of_eq (by simp [flat])), hc421 L457 ⟨A460, c461, s462, A479, c480, s481, rfl, HO463, HO484⟩⟩
               refine hK316 _ _ ?_
               refine rl ?_
               refine seqL2 kr ?_
               refine nl ?_
               refine hK292 n293 _ _ (Nat.lt_succ_self _) ?_
               have HS555 := HS493.u5.u5.u2.u5.u5.u5
               have HS556 := HS555.drop
               have HS557 := HS556.drop
               exact ⟨f456, s492, A304, c305, s306, (mput vat299 vt404 (⟨(⟨(⟨vt441, vt442, vt443⟩ : S_Bound), (⟨vt444, vt445, vt446⟩ : S_Bound), (⟨vt447, vt448, vt449⟩ : S_Bound)⟩ : S_Box), (⟨vt450, vt451, vt452⟩ : S_Bound), vt453, (vt454 ++ ([x302] : List Int))⟩ : S_node)), (w64 (x302 + 1)), x303, (jL [iV x302, .pointer (some ⟨b334, 0, none⟩), .pointer (some ⟨b349, 0, none⟩), .bool vt343, iV vt404, iV vt405, .pointer (some ⟨b415, 0, none⟩), tV, iV x302, .pointer (some ⟨b330, of331 + (x302 : Int).toNat * 18, none⟩), (ag_Row (rd vt37 x302) A333 c333), .tuple #[(ag_Vec vt342), .bool vt343], .pointer (some ⟨b334, 1, none⟩), (ag_Box ((rd vt37 x302).Box)), .tuple #[(ag_Vec vt342), .bool vt343], (ag_Vec vt342), .bool vt343, .bool vt343, fV, fV, .pointer (some ⟨b334, 13, none⟩), .pointer (some ⟨b334, 15, none⟩), fV, fV, (j298 24), (j298 25), (j298 26), (j298 27), (j298 28), (j298 29), (j298 30), (j298 31), (j298 32), (j298 33), .tuple #[.int .i64 vt404, .int .i64 vt405], (ag_Vec vt342), iV level5, .tuple #[.int .i64 vt404, .int .i64 vt405], iV vt404, iV vt405, .map (mb (some ⟨b54, 0, none⟩)), iV vt404, .pointer (some ⟨b415, 0, none⟩), .pointer (some ⟨b415, 0, none⟩), tV, .pointer (some ⟨b415, 0, none⟩), .pointer (some ⟨b334, 1, none⟩), (ag_Box ((rd vt37 x302).Box)), .pointer (some ⟨b334, 13, none⟩), (ag_Bound ((rd vt37 x302).When)), .tuple #[], .pointer (some ⟨b415, 0, none⟩), .pointer (some ⟨b415, 0, none⟩), .pointer (some ⟨b415, 0, none⟩), .pointer (some ⟨b415, 13, none⟩), .slice A465 vt454.length c466, iV x302, .slice (some ⟨b470, 0, none⟩) ([x302] : List Int).length 1, .slice A479 (vt454 ++ ([x302] : List Int)).length c480, .pointer (some ⟨b415, 0, none⟩), .pointer (some ⟨b415, 13, none⟩), (j298 61), (j298 62), (j298 63), (j298 64), (j298 65), (j298 66), (j298 67), (j298 68), (j298 69), (j298 70), iV (w64 (x302 + 1))]), (L295.trans (L346.trans (L408.trans L457))), HS557, HO494, (HO307.mono (L346.trans (L408.trans L457))), h, kr⟩
             · have c413 : ¬ (((mfind vat299 vt404).isSome) = true) := c413
               refine seqK rfl (does_run (run_lookB (k := vt404) (HO301.mono (L346.trans L408)) (Bool.eq_false_iff.mpr c413) rfl Tryz.underlying110 Tryz.underlying113 kr (kv (.map (mb (some ⟨b54, 0, none⟩)))) (kv (.int .i64 vt404)) HS410.u3) ?_)
               refine seqL1 kr ?_
               refine nl (hK412 _ _ ?_)
               refine wp_seq_k fun K495 hK496 => rl ?_
               refine seqL2 kr ?_
               refine nl (hK496 _ _ ?_)
               refine condF kr ?_
               refine rl ?_
               refine seqL3 kr ?_
               refine seqK rfl (does_run (run_loadN (n := 9) rfl Tryz.underlying31 rfl kr (kv (.pointer (some ⟨b334, 1, none⟩))) (cs := [.int .i64 ((((rd vt37 x302).Box).X).Lo), .int .i64 ((((rd vt37 x302).Box).X).Hi), .bool ((((rd vt37 x302).Box).X).Unknown), .int .i64 ((((rd vt37 x302).Box).Y).Lo), .int .i64 ((((rd vt37 x302).Box).Y).Hi), .bool ((((rd vt37 x302).Box).Y).Unknown), .int .i64 ((((rd vt37 x302).Box).Z).Lo), .int .i64 ((((rd vt37 x302).Box).Z).Hi), .bool ((((rd vt37 x302).Box).Z).Unknown)]) rfl (HS410.u1.cells 1 9 _ rfl)) ?_)
               refine seqL1 kr ?_
               refine seqK rfl (does_run (run_loadN (n := 3) rfl Tryz.underlying97 rfl kr (kv (.pointer (some ⟨b334, 13, none⟩))) (cs := [.int .i64 (((rd vt37 x302).When).Lo), .int .i64 (((rd vt37 x302).When).Hi), .bool (((rd vt37 x302).When).Unknown)]) rfl (HS410.u1.cells 13 3 _ rfl)) ?_)
               refine seqL1 kr ?_
               refine seqK rfl (does_lit (e := (tInt .i64)) (E := 3) (vs := #[(0, Value.int .i64 x302)]) (cs := #[.int .i64 x302]) (xs := ([x302] : List Int)) rfl Tryz.underlying22 kr kr ⟨[.int .i64 x302], _, rfl, rfl, rfl⟩ rfl HS410 ?_ (by decide))
               intro b497 W498 s499 HS500 _ HO501
               refine seqL1 kr ?_
               refine seqK rfl (does_box (cs := #[.int .i64 ((((rd vt37 x302).Box).X).Lo), .int .i64 ((((rd vt37 x302).Box).X).Hi), .bool ((((rd vt37 x302).Box).X).Unknown), .int .i64 ((((rd vt37 x302).Box).Y).Lo), .int .i64 ((((rd vt37 x302).Box).Y).Hi), .bool ((((rd vt37 x302).Box).Y).Unknown), .int .i64 ((((rd vt37 x302).Box).Z).Lo), .int .i64 ((((rd vt37 x302).Box).Z).Hi), .bool ((((rd vt37 x302).Box).Z).Unknown), .int .i64 (((rd vt37 x302).When).Lo), .int .i64 (((rd vt37 x302).When).Hi), .bool (((rd vt37 x302).When).Unknown), .slice none 0 0, .slice (some ⟨b497, 0, none⟩) ([x302] : List Int).length 1]) rfl (kv (.agg #[.int .i64 ((((rd vt37 x302).Box).X).Lo), .int .i64 ((((rd vt37 x302).Box).X).Hi), .bool ((((rd vt37 x302).Box).X).Unknown), .int .i64 ((((rd vt37 x302).Box).Y).Lo), .int .i64 ((((rd vt37 x302).Box).Y).Hi), .bool ((((rd vt37 x302).Box).Y).Unknown), .int .i64 ((((rd vt37 x302).Box).Z).Lo), .int .i64 ((((rd vt37 x302).Box).Z).Hi), .bool ((((rd vt37 x302).Box).Z).Unknown), .int .i64 (((rd vt37 x302).When).Lo), .int .i64 (((rd vt37 x302).When).Hi), .bool (((rd vt37 x302).When).Unknown), .slice none 0 0, .slice (some ⟨b497, 0, none⟩) ([x302] : List Int).length 1])) rfl HS500 ?_)
               intro b503 W504 HS505
               have HS509 := HS505.u1.u1.u5
               have HS510 : St t W504 f407 (s300 :: ([(b503, .cells #[.int .i64 ((((rd vt37 x302).Box).X).Lo), .int .i64 ((((rd vt37 x302).Box).X).Hi), .bool ((((rd vt37 x302).Box).X).Unknown), .int .i64 ((((rd vt37 x302).Box).Y).Lo), .int .i64 ((((rd vt37 x302).Box).Y).Hi), .bool ((((rd vt37 x302).Box).Y).Unknown), .int .i64 ((((rd vt37 x302).Box).Z).Lo), .int .i64 ((((rd vt37 x302).Box).Z).Hi), .bool ((((rd vt37 x302).Box).Z).Unknown), .int .i64 (((rd vt37 x302).When).Lo), .int .i64 (((rd vt37 x302).When).Hi), .bool (((rd vt37 x302).When).Unknown), .slice none 0 0, .slice (some ⟨b497, 0, none⟩) ([x302] : List Int).length 1] 119 (0, 0))] ++ ([] : Seg) ++ s499) :: [(b349, .cells #[.int .i64 vt342.X, .int .i64 vt342.Y, .int .i64 vt342.Z] 39 (0, 0))] :: [(b334, .cells #[.int .i64 ((rd vt37 x302).ID), .int .i64 ((((rd vt37 x302).Box).X).Lo), .int .i64 ((((rd vt37 x302).Box).X).Hi), .bool ((((rd vt37 x302).Box).X).Unknown), .int .i64 ((((rd vt37 x302).Box).Y).Lo), .int .i64 ((((rd vt37 x302).Box).Y).Hi), .bool ((((rd vt37 x302).Box).Y).Unknown), .int .i64 ((((rd vt37 x302).Box).Z).Lo), .int .i64 ((((rd vt37 x302).Box).Z).Hi), .bool ((((rd vt37 x302).Box).Z).Unknown), .int .i64 (((rd vt37 x302).Flux).Lo), .int .i64 (((rd vt37 x302).Flux).Hi), .bool (((rd vt37 x302).Flux).Unknown), .int .i64 (((rd vt37 x302).When).Lo), .int .i64 (((rd vt37 x302).When).Hi), .bool (((rd vt37 x302).When).Unknown), .slice A333 ((rd vt37 x302).Frames).length c333, .int .i64 ((rd vt37 x302).Marks)] 99 (0, 0))] :: s306 :: [(b48, .cells #[.slice A43 vt37.length c44, .int .i64 level5, .slice none 0 0, .slice A304 x303.length c305] 109 (0, 0))] :: s45 :: H) := HS509.perm (List.Perm.of_eq (by simp [flat]))
               refine seqK rfl (does_mapPutB (R := rk_node) (k := vt404) (v := (⟨((rd vt37 x302).Box), ((rd vt37 x302).When), ([] : List S_node), ([x302] : List Int)⟩ : S_node)) rfl Tryz.underlying110 Tryz.underlying113 (kv (.map (mb (some ⟨b54, 0, none⟩)))) (kv (.int .i64 vt404)) (kv (.pointer (some ⟨b503, 0, none⟩))) ⟨none, 0, [], (some ⟨b497, 0, none⟩), 1, s499, rfl, (Own.nil _), HO501⟩ (Bool.eq_false_iff.mpr c413) (HO301.mono (L346.trans L408)) HS510 ?_)
               intro W511 s512 HS513 HO514
               refine nl ?_
               refine hn319 _ _ ?_
               refine hK316 _ _ ?_
               refine rl ?_
               refine seqL2 kr ?_
               refine nl ?_
               refine hK292 n293 _ _ (Nat.lt_succ_self _) ?_
               have HS563 := HS513.u5.u5.u2.u5.u5.u5
               have HS564 := HS563.drop
               have HS565 := HS564.drop
               exact ⟨f407, s512, A304, c305, s306, (mput vat299 vt404 (⟨((rd vt37 x302).Box), ((rd vt37 x302).When), ([] : List S_node), ([x302] : List Int)⟩ : S_node)), (w64 (x302 + 1)), x303, (jL [iV x302, .pointer (some ⟨b334, 0, none⟩), .pointer (some ⟨b349, 0, none⟩), .bool vt343, iV vt404, iV vt405, .pointer none, tV, iV x302, .pointer (some ⟨b330, of331 + (x302 : Int).toNat * 18, none⟩), (ag_Row (rd vt37 x302) A333 c333), .tuple #[(ag_Vec vt342), .bool vt343], .pointer (some ⟨b334, 1, none⟩), (ag_Box ((rd vt37 x302).Box)), .tuple #[(ag_Vec vt342), .bool vt343], (ag_Vec vt342), .bool vt343, .bool vt343, fV, fV, .pointer (some ⟨b334, 13, none⟩), .pointer (some ⟨b334, 15, none⟩), fV, fV, (j298 24), (j298 25), (j298 26), (j298 27), (j298 28), (j298 29), (j298 30), (j298 31), (j298 32), (j298 33), .tuple #[.int .i64 vt404, .int .i64 vt405], (ag_Vec vt342), iV level5, .tuple #[.int .i64 vt404, .int .i64 vt405], iV vt404, iV vt405, .map (mb (some ⟨b54, 0, none⟩)), iV vt404, .pointer none, .pointer none, fV, (j298 45), (j298 46), (j298 47), (j298 48), (j298 49), (j298 50), (j298 51), (j298 52), (j298 53), (j298 54), (j298 55), (j298 56), (j298 57), (j298 58), (j298 59), (j298 60), .map (mb (some ⟨b54, 0, none⟩)), iV vt404, .pointer (some ⟨b334, 1, none⟩), (ag_Box ((rd vt37 x302).Box)), .pointer (some ⟨b334, 13, none⟩), (ag_Bound ((rd vt37 x302).When)), iV x302, .slice (some ⟨b497, 0, none⟩) ([x302] : List Int).length 1, .agg #[.int .i64 ((((rd vt37 x302).Box).X).Lo), .int .i64 ((((rd vt37 x302).Box).X).Hi), .bool ((((rd vt37 x302).Box).X).Unknown), .int .i64 ((((rd vt37 x302).Box).Y).Lo), .int .i64 ((((rd vt37 x302).Box).Y).Hi), .bool ((((rd vt37 x302).Box).Y).Unknown), .int .i64 ((((rd vt37 x302).Box).Z).Lo), .int .i64 ((((rd vt37 x302).Box).Z).Hi), .bool ((((rd vt37 x302).Box).Z).Unknown), .int .i64 (((rd vt37 x302).When).Lo), .int .i64 (((rd vt37 x302).When).Hi), .bool (((rd vt37 x302).When).Unknown), .slice none 0 0, .slice (some ⟨b497, 0, none⟩) ([x302] : List Int).length 1], .pointer (some ⟨b503, 0, none⟩), iV (w64 (x302 + 1))]), (L295.trans (L346.trans L408)), HS565, HO514, (HO307.mono (L346.trans L408)), h, kr⟩
       · have c314 : ¬ (x302 < (vt37.length : Int)) := c314
         refine wpRwI 46 kr (decide_eq_false c314) ?_
         refine condF kr ?_
         refine wp_exit ?_
         refine hx65 _ _ ?_
         exact J530 f294 s300 A304 c305 s306 vat299 x303 (jL [(j298 0), (j298 1), (j298 2), (j298 3), (j298 4), (j298 5), (j298 6), .map (mb (some ⟨b54, 0, none⟩)), iV x302, fV, (j298 8), (j298 9), (j298 10), (j298 11), (j298 12), (j298 13), (j298 14), (j298 15), (j298 16), (j298 17), (j298 18), (j298 19), (j298 20), (j298 21), (j298 22), (j298 23), (j298 24), (j298 25), (j298 26), (j298 27), (j298 28), (j298 29), (j298 30), (j298 31), (j298 32), (j298 33), (j298 34), (j298 35), (j298 36), (j298 37), (j298 38), (j298 39), (j298 40), (j298 41), (j298 42), (j298 43), (j298 44), (j298 45), (j298 46), (j298 47), (j298 48), (j298 49), (j298 50), (j298 51), (j298 52), (j298 53), (j298 54), (j298 55), (j298 56), (j298 57), (j298 58), (j298 59), (j298 60), (j298 61), (j298 62), (j298 63), (j298 64), (j298 65), (j298 66), (j298 67), (j298 68), (j298 69), (j298 70), (j298 71)]) W296 _ L295 h HS297 HO301 HO307 kr

set_option maxRecDepth 100000 in
set_option maxHeartbeats 4000000 in
theorem spykeep3_single.calls (k : Nat)  (vid1 : Int) {t w : World} {f : FM} {H : List Seg} (HS : St t w f (H)) (rr1 : S_Row) (h : spykeep3_single k vid1 = some rr1) :
    Calls Tryz.prog 38 #[.int .i64 vid1] w (fun e w' => ∃ (g : FM) (A20 : Option Addr) (c21 : Nat) (s22 : Seg), e = .returned (Value.agg #[.int .i64 rr1.ID, .int .i64 rr1.Box.X.Lo, .int .i64 rr1.Box.X.Hi, .bool rr1.Box.X.Unknown, .int .i64 rr1.Box.Y.Lo, .int .i64 rr1.Box.Y.Hi, .bool rr1.Box.Y.Unknown, .int .i64 rr1.Box.Z.Lo, .int .i64 rr1.Box.Z.Hi, .bool rr1.Box.Z.Unknown, .int .i64 rr1.Flux.Lo, .int .i64 rr1.Flux.Hi, .bool rr1.Flux.Unknown, .int .i64 rr1.When.Lo, .int .i64 rr1.When.Hi, .bool rr1.When.Unknown, .slice A20 rr1.Frames.length c21, .int .i64 rr1.Marks]) ∧ FM.le f g ∧ St t w' g (s22 :: H) ∧ Own (tInt .i64) 3 g A20 c21 s22 rr1.Frames) := by
 unfold spykeep3_single at h
 refine enter Tryz.func38 rfl (tm := #[iV vid1, uV, uV, uV, uV, uV]) kr ?_
 intro B hret hnor hnp
 refine wp_seq_k fun K2 hK3 => rl ?_
 refine seqK rfl (does_alloc (z := Value.agg #[.int .i64 0, .int .i64 0, .int .i64 0, .bool false, .int .i64 0, .int .i64 0, .bool false, .int .i64 0, .int .i64 0, .bool false, .int .i64 0, .int .i64 0, .bool false, .int .i64 0, .int .i64 0, .bool false, .slice none 0 0, .int .i64 0]) (cs := #[.int .i64 0, .int .i64 0, .int .i64 0, .bool false, .int .i64 0, .int .i64 0, .bool false, .int .i64 0, .int .i64 0, .bool false, .int .i64 0, .int .i64 0, .bool false, .int .i64 0, .int .i64 0, .bool false, .slice none 0 0, .int .i64 0]) rfl kr rfl HS ?_)
 intro b4 W5 HS6
 refine nl (hK3 _ _ ?_)
 refine wp_seq_k fun K8 hK9 => rl ?_
 refine seqL1 kr ?_
 refine seqK rfl (does_lit (e := (tInt .i64)) (E := 3) (vs := #[(0, Value.int .i64 1)]) (cs := #[.int .i64 1]) (xs := ([1] : List Int)) rfl Tryz.underlying22 kr kr ⟨[.int .i64 1], _, rfl, rfl, rfl⟩ rfl HS6 ?_ (by decide))
 intro b10 W11 s12 HS13 _ HO14
 have HS16 := HS13.u1
 refine seqL1 kr ?_
 refine seqK rfl (does_storeA (vs := [.int .i64 vid1, .int .i64 0, .int .i64 0, .bool false, .int .i64 0, .int .i64 0, .bool false, .int .i64 0, .int .i64 0, .bool false, .int .i64 0, .int .i64 0, .bool false, .int .i64 0, .int .i64 0, .bool false, .slice (some ⟨b10, 0, none⟩) ([1] : List Int).length 1, .int .i64 0]) rfl kr kr kr rfl (ones rfl) HS16 kr ?_)
 intro W17 HS18
 refine nl (hK9 _ _ ?_)
 refine wp_ret ?_
 refine hret _ _ ?_
 refine ends (v := Value.agg #[.int .i64 vid1, .int .i64 0, .int .i64 0, .bool false, .int .i64 0, .int .i64 0, .bool false, .int .i64 0, .int .i64 0, .bool false, .int .i64 0, .int .i64 0, .bool false, .int .i64 0, .int .i64 0, .bool false, .slice (some ⟨b10, 0, none⟩) ([1] : List Int).length 1, .int .i64 0]) (results1 (q1 := .cell 2 99) kr (resN (n := 18) (cs := [.int .i64 vid1, .int .i64 0, .int .i64 0, .bool false, .int .i64 0, .int .i64 0, .bool false, .int .i64 0, .int .i64 0, .bool false, .int .i64 0, .int .i64 0, .bool false, .int .i64 0, .int .i64 0, .bool false, .slice (some ⟨b10, 0, none⟩) ([1] : List Int).length 1, .int .i64 0]) (kv (.pointer (some ⟨b4, 0, none⟩))) Tryz.underlying99 rfl kr rfl (HS18.cells 0 18 _ rfl))) kr ?_
 have HS19 := HS18.drop
 injection h with h
 subst h
 exact ⟨f, (some ⟨b10, 0, none⟩), 1, s12, rfl, FM.le.refl _, HS19, HO14⟩

end Go.Sp.J7
