import Derived.Test.YtjnehahcpeiheaaGreatDoorProg
import Derived.Test.YtjnehahcpeiheaaGreatDoorSpCopy
import Derived.Test.YtjnehahcpeiheaaGreatDoorFT6
import Derived.Test.YtjnehahcpeiheaaGreatDoorSpStr
import Derived.Test.YtjnehahcpeiheaaGreatDoorSpLib
import Derived.Test.YtjnehahcpeiheaaGreatDoorSpBld
import Derived.Test.YtjnehahcpeiheaaGreatDoorConv
import Derived.Test.YtjnehahcpeiheaaGreatDoorLibs
import Derived.Test.YtjnehahcpeiheaaGreatDoorSpWays
import Derived.Test.YtjnehahcpeiheaaGreatDoorSpRound
import Derived.Test.YtjnehahcpeiheaaGreatDoorKT6n0
import Derived.Test.YtjnehahcpeiheaaGreatDoorKT6n1
import Derived.Test.YtjnehahcpeiheaaGreatDoorKT6n2
import Derived.Test.YtjnehahcpeiheaaGreatDoorKT6n3
import Derived.Test.YtjnehahcpeiheaaGreatDoorKT6n4
import Derived.Test.YtjnehahcpeiheaaGreatDoorKT6n5
namespace Go.Sp.T6
open Go Go.Sp Go.Proofs
set_option linter.unusedVariables false
attribute [local irreducible] wpList AnyL Code.wp Calls Does Code.wpIn wpListIn CallsIn bodyPostM LeavesInM
set_option maxRecDepth 100000 in
set_option maxHeartbeats 4000000 in
theorem spykeep3_FrameSets.calls (k : Nat) (A2 : Option Addr) (c3 : Nat) (l1 : List Int) (vk5 : Int) (value6 : Int) {t w : World} {f : FM} {H : List Seg} (HS : St t w f (H)) (HR4 : SlR (tInt .i64) f A2 c3 l1) (HA : TabF Tryz.prog "strings.asciiSpace" .u8 Go.Lib.asciiSpaceTab f) (HM : VarI 5 f) (HT : TabF Tryz.prog "internal/strconv.uint64pow10" .u64 Go.Lib.pow10Tab f) (rr1 : Bool) (h : spykeep3_FrameSets k l1 vk5 value6 = some rr1) :
    Calls Tryz.prog 6 #[.slice A2 l1.length c3, .int .i64 vk5, .int .i64 value6] w (fun e w' => ∃ (g : FM), e = .returned (Value.bool rr1) ∧ FM.le f g ∧ St t w' g (H)) := by
 unfold spykeep3_FrameSets at h
 refine enter Tryz.func6 rfl (tm := #[.slice A2 l1.length c3, iV vk5, iV value6, uV, uV, uV, uV, uV, uV, uV, uV, uV, uV, uV, uV, uV, uV, uV, uV, uV, uV, uV, uV, uV, uV, uV, uV, uV, uV, uV, uV, uV, uV, uV, uV, uV, uV, uV, uV, uV, uV, uV, uV, uV, uV, uV, uV, uV, uV, uV, uV, uV, uV, uV, uV, uV, uV, uV, uV, uV, uV, uV, uV, uV, uV, uV, uV, uV, uV, uV, uV, uV, uV, uV, uV, uV, uV, uV, uV, uV, uV, uV, uV, uV, uV, uV, uV, uV, uV, uV, uV, uV, uV, uV, uV, uV, uV, uV, uV, uV, uV, uV, uV, uV, uV, uV, uV, uV, uV, uV, uV, uV, uV, uV, uV, uV, uV, uV, uV, uV, uV, uV, uV, uV, uV, uV, uV, uV, uV, uV]) kr ?_
 intro B hret hnor hnp
 refine wp_seq_k fun K7 hK8 => rl ?_
 refine seqL1 kr ?_
 refine nl (hK8 _ _ ?_)
 refine wp_seq_k fun K9 hK10 => rl ?_
 refine seqL2 kr ?_
 refine seqK rfl (does_box (cs := #[.slice A2 l1.length c3, .int .i64 0]) rfl (kv (.agg #[.slice A2 l1.length c3, .int .i64 0])) rfl HS ?_)
 intro b11 W12 HS13
 have hq_ := bind_some h; clear h; obtain ⟨⟨vt15, vt16⟩, hc17, h⟩ := hq_
 refine seqK rfl (does_call (f := 8) (args := #[.pointer (some ⟨b11, 0, none⟩)]) kr (spykeep3_noted.calls k b11 A2 c3 (⟨l1, 0⟩ : S_Stream) HS13 HR4 HT vt15 vt16 hc17) ?_)
 rintro _ W20 ⟨f18, A22, c23, s24, A27, c28, rfl, L19, HS21, HO25, HR29⟩
 refine ⟨_, rfl, ?_⟩
 refine seqK rfl (does_alloc (z := Value.agg #[.int .i64 0, .int .i64 0, .slice none 0 0, .slice none 0 0]) (cs := #[.int .i64 0, .int .i64 0, .slice none 0 0, .slice none 0 0]) rfl kr rfl HS21 ?_)
 intro b30 W31 HS32
 refine seqK rfl (does_storeA (vs := [.int .i64 vt15.W, .int .i64 vt15.H, .slice A22 vt15.Cards.length c23, .slice A27 vt15.Counts.length c28]) rfl kr kr kr rfl (ones rfl) HS32 kr ?_)
 intro W34 HS35
 refine nl (hK10 _ _ ?_)
 refine wp_seq_k (fun K36 hK37 => ?_)
 refine heldG (S := Sg t f18 ([(b30, .cells #[.int .i64 vt15.W, .int .i64 vt15.H, .slice A22 vt15.Cards.length c23, .slice A27 vt15.Counts.length c28] 29 (0, 0))] :: s24 :: [(b11, .cells #[.slice A2 l1.length c3, .int .i64 vt16] 33 (0, 0))] :: H) []) (n := 13) kr rfl HS35 ?_
 intro W38 HS39
 have hq_ := bind_some h; clear h; obtain ⟨vt46, hc47, h⟩ := hq_
 have hq_ := guard_some h; clear h; obtain ⟨c52, h⟩ := hq_
 have c52 : 0 ≤ vt46 := c52
 have hq_ := guard_some h; clear h; obtain ⟨c63, h⟩ := hq_
 have c63 : vt46 < (([Z27, Z29, Z28, Z32] : List ByteArray).length : Int) := c63
 have hq_ := bind_some h; clear h; obtain ⟨vt83, hc84, h⟩ := hq_
 have hq_ := guard_some h; clear h; obtain ⟨c89, h⟩ := hq_
 have c89 : 0 ≤ vt83 := c89
 have hq_ := guard_some h; clear h; obtain ⟨c113, h⟩ := hq_
 have c113 : vt83 < (([Z40, Z20, Z34] : List ByteArray).length : Int) := c113
 refine takeGL [1, 6] (n := 13) (fuel := 11) #[false, true, false, false, false, false, true, false, false, false, false, false, false] rfl kr kr kr hnp (Sg.g0 (Sx.of [] fL HS39)) ?_
 refine withRn (m := 0) #[true, true, true, true, true, true, true, true, true, true, true, true, true] ?_
 intro R257 hR258 hR259
 refine withRn (m := 1) #[true, true, true, true, true, true, true, true, true, true, true, true, false] ?_
 intro R245 hR246 hR247
 refine withRn (m := 2) #[true, true, true, true, true, true, true, true, true, true, true, false, false] ?_
 intro R231 hR232 hR233
 refine withRn (m := 3) #[true, true, true, true, true, true, true, true, true, false, false, true, false] ?_
 intro R274 hR275 hR276
 refine withRn (m := 3) #[true, true, true, true, false, true, true, true, true, true, false, true, false] ?_
 intro R452 hR453 hR454
 refine withRn (m := 4) #[true, true, true, true, true, true, true, true, true, false, false, false, false] ?_
 intro R218 hR219 hR220
 refine withRn (m := 4) #[true, true, true, true, false, true, true, true, true, true, false, false, false] ?_
 intro R432 hR433 hR434
 refine withRn (m := 4) #[true, true, true, true, false, true, true, true, true, false, false, true, false] ?_
 intro R475 hR476 hR477
 refine withRn (m := 5) #[true, true, true, true, true, true, true, false, false, false, false, true, false] ?_
 intro R291 hR292 hR293
 refine withRn (m := 5) #[true, true, true, true, true, false, true, true, false, false, false, true, false] ?_
 intro R333 hR334 hR335
 refine withRn (m := 5) #[true, true, true, true, false, true, true, true, true, false, false, false, false] ?_
 intro R410 hR411 hR412
 refine withRn (m := 5) #[false, true, true, false, false, true, true, true, true, true, false, true, false] ?_
 intro R800 hR801 hR802
 refine withRn (m := 6) #[true, true, true, true, true, true, true, false, false, false, false, false, false] ?_
 intro R201 hR202 hR203
 refine withRn (m := 6) #[true, true, true, true, true, false, true, true, false, false, false, false, false] ?_
 intro R311 hR312 hR313
 refine withRn (m := 6) #[true, true, true, true, true, false, true, false, false, false, false, true, false] ?_
 intro R355 hR356 hR357
 refine withRn (m := 6) #[true, true, true, true, false, true, true, false, false, false, false, true, false] ?_
 intro R504 hR505 hR506
 refine withRn (m := 6) #[true, true, true, true, false, false, true, true, false, false, false, true, false] ?_
 intro R570 hR571 hR572
 refine withRn (m := 6) #[false, true, true, false, false, true, true, true, true, true, false, false, false] ?_
 intro R778 hR779 hR780
 refine withRn (m := 6) #[false, true, true, false, false, true, true, true, true, false, false, true, false] ?_
 intro R825 hR826 hR827
 refine withRn (m := 7) #[true, true, true, true, true, false, true, false, false, false, false, false, false] ?_
 intro R185 hR186 hR187
 refine withRn (m := 7) #[true, true, true, true, false, true, true, false, false, false, false, false, false] ?_
 intro R384 hR385 hR386
 refine withRn (m := 7) #[true, true, true, true, false, false, true, true, false, false, false, false, false] ?_
 intro R536 hR537 hR538
 refine withRn (m := 7) #[true, true, true, true, false, false, true, false, false, false, false, true, false] ?_
 intro R604 hR605 hR606
 refine withRn (m := 7) #[false, true, true, false, false, true, true, true, true, false, false, false, false] ?_
 intro R754 hR755 hR756
 refine withRn (m := 8) #[true, true, true, true, false, false, true, false, false, false, false, false, false] ?_
 intro R173 hR174 hR175
 refine withRn (m := 8) #[true, true, false, false, false, true, true, false, false, false, false, true, false] ?_
 intro R660 hR661 hR662
 refine withRn (m := 8) #[false, true, true, false, false, true, true, false, false, false, false, true, false] ?_
 intro R853 hR854 hR855
 refine withRn (m := 8) #[false, true, true, false, false, false, true, true, false, false, false, true, false] ?_
 intro R911 hR912 hR913
 refine withRn (m := 9) #[true, true, false, false, false, true, true, false, false, false, false, false, false] ?_
 intro R639 hR640 hR641
 refine withRn (m := 9) #[true, true, false, false, false, false, true, false, false, false, false, true, false] ?_
 intro R680 hR681 hR682
 refine withRn (m := 9) #[false, true, true, false, false, true, true, false, false, false, false, false, false] ?_
 intro R729 hR730 hR731
 refine withRn (m := 9) #[false, true, true, false, false, false, true, true, false, false, false, false, false] ?_
 intro R881 hR882 hR883
 refine withRn (m := 9) #[false, true, true, false, false, false, true, false, false, false, false, true, false] ?_
 intro R941 hR942 hR943
 refine withRn (m := 9) #[false, true, false, false, false, true, true, false, false, false, false, true, false] ?_
 intro R998 hR999 hR1000
 refine withRn (m := 10) #[true, true, false, false, false, false, true, false, false, false, false, false, false] ?_
 intro R157 hR158 hR159
 refine withRn (m := 10) #[false, true, true, false, false, false, true, false, false, false, false, false, false] ?_
 intro R705 hR706 hR707
 refine withRn (m := 10) #[false, true, false, false, false, true, true, false, false, false, false, false, false] ?_
 intro R975 hR976 hR977
 refine withRn (m := 10) #[false, true, false, false, false, false, true, false, false, false, false, true, false] ?_
 intro R1020 hR1021 hR1022
 have J260 : ∀ (b146 : Nat) (s148 : Seg) (b189 : Nat) (s191 : Seg) (b235 : Nat) (f251 : FM) (W253 : World) (a_ : Act), FM.le f18 f251 → Own tStr 9 f251 (some ⟨b146, 0, none⟩) 4 s148 ([Z27, Z29, Z28, Z32] : List ByteArray) → Own tStr 9 f251 (some ⟨b189, 0, none⟩) 3 s191 ([Z40, Z20, Z34] : List ByteArray) → St t W253 f251 ([(b235, .cells #[.string (rd ([Z27, Z29, Z28, Z32] : List ByteArray) vt46), .string (rd ([Z40, Z20, Z34] : List ByteArray) vt83), .string ⟨#[]⟩, .string ⟨#[]⟩] 51 (0, 0))] :: s191 :: s148 :: [(b30, .cells #[.int .i64 vt15.W, .int .i64 vt15.H, .slice A22 vt15.Cards.length c23, .slice A27 vt15.Counts.length c28] 29 (0, 0))] :: s24 :: [(b11, .cells #[.slice A2 l1.length c3, .int .i64 vt16] 33 (0, 0))] :: H) → a_ = ⟨#[.slice A2 l1.length c3, iV vk5, iV value6, uV, uV, uV, fV, pV b30 0, pV b235 0, uV, uV, uV, uV, uV, uV, uV, uV, uV, uV, .slice A2 l1.length c3, .agg #[.slice A2 l1.length c3, iV 0], pV b11 0, (ag_Frame vt15 A22 c23 A27 c28), .slice (some ⟨b146, 0, none⟩) ([Z27, Z29, Z28, Z32] : List ByteArray).length 4, iV vk5, iV vt46, pV b146 (0 + (vt46 : Int).toNat * 1), .string (rd ([Z27, Z29, Z28, Z32] : List ByteArray) vt46), .slice (some ⟨b189, 0, none⟩) ([Z40, Z20, Z34] : List ByteArray).length 3, iV value6, iV vt83, pV b189 (0 + (vt83 : Int).toNat * 1), .string (rd ([Z40, Z20, Z34] : List ByteArray) vt83), .agg #[.string (rd ([Z27, Z29, Z28, Z32] : List ByteArray) vt46), .string (rd ([Z40, Z20, Z34] : List ByteArray) vt83), .string ⟨#[]⟩, .string ⟨#[]⟩], uV, uV, uV, uV, uV, uV, uV, uV, uV, uV, uV, uV, uV, uV, uV, uV, uV, uV, uV, uV, uV, uV, uV, uV, uV, uV, uV, uV, uV, uV, uV, uV, uV, uV, uV, uV, uV, uV, uV, uV, uV, uV, uV, uV, uV, uV, uV, uV, uV, uV, uV, uV, uV, uV, uV, uV, uV, uV, uV, uV, uV, uV, uV, uV, uV, uV, uV, uV, uV, uV, uV, uV, uV, uV, uV, uV, uV, uV, uV, uV, uV, uV, uV, uV, uV, uV, uV, uV, uV, uV, uV, uV, uV, uV, uV, uV], []⟩ → R257 a_ W253 := by
  intro b146 s148 b189 s191 b235 f251 W253 a_ L252 HO255 HO256 HS254 hfr_; subst hfr_
  refine hR258 _ _ ?_
  refine doneG kr ?_ _
  refine hK37 _ _ ?_
  refine wp_seq_k fun K1686 hK1687 => rl ?_
  refine seqK rfl (does_run (run_loadN (n := 4) rfl Tryz.underlying29 rfl kr (kv (.pointer (some ⟨b30, 0, none⟩))) (cs := [.int .i64 vt15.W, .int .i64 vt15.H, .slice A22 vt15.Cards.length c23, .slice A27 vt15.Counts.length c28]) rfl (HS254.u3.cells 0 4 _ rfl)) ?_)
  refine seqK rfl (does_run (run_loadN (n := 4) rfl Tryz.underlying51 rfl kr (kv (.pointer (some ⟨b235, 0, none⟩))) (cs := [.string (rd ([Z27, Z29, Z28, Z32] : List ByteArray) vt46), .string (rd ([Z40, Z20, Z34] : List ByteArray) vt83), .string ⟨#[]⟩, .string ⟨#[]⟩]) rfl (HS254.cells 0 4 _ rfl)) ?_)
  have HS1688 := HS254.u4
  obtain ⟨f1689, L1690, HS1691, HR1692, th1693⟩ := (HO25.mono L252).lend HS1688
  have hq_ := bind_some h; clear h; obtain ⟨⟨vt1694, vt1695⟩, hc1696, h⟩ := hq_
  refine seqK rfl (does_call (f := 17) (args := #[.agg #[.int .i64 vt15.W, .int .i64 vt15.H, .slice A22 vt15.Cards.length c23, .slice A27 vt15.Counts.length c28], .agg #[.string (rd ([Z27, Z29, Z28, Z32] : List ByteArray) vt46), .string (rd ([Z40, Z20, Z34] : List ByteArray) vt83), .string ⟨#[]⟩, .string ⟨#[]⟩]]) kr (frame_Set.calls k A22 c23 A27 c28 vt15 (⟨(rd ([Z27, Z29, Z28, Z32] : List ByteArray) vt46), (rd ([Z40, Z20, Z34] : List ByteArray) vt83), Z44, Z44⟩ : S_Card) HS1691 HR1692 (HR29.mono (L252.trans L1690)) (HA.mono (L19.trans (L252.trans L1690))) vt1694 vt1695 hc1696) ?_)
  rintro _ W1699 ⟨f1697, A1701, c1702, s1703, A1706, c1707, s1708, rfl, L1698, HS1700, HO1704, HO1709⟩
  refine ⟨_, rfl, ?_⟩
  obtain ⟨f1711, L1712, HS1713⟩ := th1693 L1698 HS1700
  replace HO1704 := HO1704.flat (g := f1711) (fun _ _ _ _ h_ => h_)
  replace HO1709 := HO1709.flat (g := f1711) (fun _ _ _ _ h_ => h_)
  refine seqL3 kr ?_
  refine seqK rfl (does_alloc (z := Value.agg #[.int .i64 0, .int .i64 0, .slice none 0 0, .slice none 0 0]) (cs := #[.int .i64 0, .int .i64 0, .slice none 0 0, .slice none 0 0]) rfl kr rfl HS1713 ?_)
  intro b1714 W1715 HS1716
  refine seqK rfl (does_storeA (vs := [.int .i64 vt1694.W, .int .i64 vt1694.H, .slice A1701 vt1694.Cards.length c1702, .slice A1706 vt1694.Counts.length c1707]) rfl kr kr kr rfl (ones rfl) HS1716 kr ?_)
  intro W1718 HS1719
  refine seqL1 kr ?_
  refine nl (hK1687 _ _ ?_)
  refine wp_seq_k fun K1720 hK1721 => rl ?_
  refine seqK rfl (does_run (run_loadN (n := 4) rfl Tryz.underlying29 rfl kr (kv (.pointer (some ⟨b1714, 0, none⟩))) (cs := [.int .i64 vt1694.W, .int .i64 vt1694.H, .slice A1701 vt1694.Cards.length c1702, .slice A1706 vt1694.Counts.length c1707]) rfl (HS1719.cells 0 4 _ rfl)) ?_)
  refine seqL1 kr ?_
  refine seqK rfl (does_run (run_load rfl Tryz.underlying9 rfl (kv (.pointer (some ⟨b235, 0, none⟩))) (HS1719.u4.cell 0)) ?_)
  have HS1722 := HS1719.u2
  obtain ⟨f1723, L1724, HS1725, HR1726, th1727⟩ := HO1704.lend HS1722
  have HS1728 := HS1725.u2
  obtain ⟨f1729, L1730, HS1731, HR1732, th1733⟩ := (HO1709.mono L1724).lend HS1728
  have hq_ := bind_some h; clear h; obtain ⟨⟨vt1734, vt1735⟩, hc1736, h⟩ := hq_
  refine seqK rfl (does_call (f := 20) (args := #[.agg #[.int .i64 vt1694.W, .int .i64 vt1694.H, .slice A1701 vt1694.Cards.length c1702, .slice A1706 vt1694.Counts.length c1707], .string (rd ([Z27, Z29, Z28, Z32] : List ByteArray) vt46)]) kr (frame_Get.calls k A1701 c1702 A1706 c1707 vt1694 (rd ([Z27, Z29, Z28, Z32] : List ByteArray) vt46) HS1731 (HR1726.mono L1730) HR1732 vt1734 vt1735 hc1736) ?_)
  rintro _ W1739 ⟨f1737, rfl, L1738, HS1740⟩
  refine ⟨_, rfl, ?_⟩
  obtain ⟨f1741, L1742, HS1743⟩ := th1733 L1738 HS1740
  obtain ⟨f1744, L1745, HS1746⟩ := th1727 L1742 HS1743
  refine seqL3 kr ?_
  refine seqK rfl (does_alloc (z := Value.agg #[.string ⟨#[]⟩, .string ⟨#[]⟩, .string ⟨#[]⟩, .string ⟨#[]⟩]) (cs := #[.string ⟨#[]⟩, .string ⟨#[]⟩, .string ⟨#[]⟩, .string ⟨#[]⟩]) rfl kr rfl HS1746 ?_)
  intro b1747 W1748 HS1749
  refine seqK rfl (does_storeA (vs := [.string vt1734.Key, .string vt1734.Value, .string vt1734.Unit, .string vt1734.Note]) rfl kr kr kr rfl (ones rfl) HS1749 kr ?_)
  intro W1751 HS1752
  refine seqL1 kr ?_
  refine nl (hK1721 _ _ ?_)
  refine wp_seq_k (fun K1753 hK1754 => ?_)
  refine wp_seq_k fun K1755 hK1756 => rl ?_
  have hq_ := bind_some h; clear h; obtain ⟨vt1757, hc1758, h⟩ := hq_
  refine seqK rfl (does_call (f := 9) (args := #[]) kr (spykeep3_filed.calls k  HS1752 (HA.mono (L19.trans (L252.trans (L1712.trans L1745)))) (HM.mono (L19.trans (L252.trans (L1712.trans L1745)))) (HT.mono (L19.trans (L252.trans (L1712.trans L1745)))) vt1757 hc1758) ?_)
  rintro _ W1761 ⟨f1759, rfl, L1760, HS1762⟩
  refine ⟨_, rfl, ?_⟩
  refine seqL2 kr ?_
  have hq_ := ite_some h; clear h; rcases hq_ with ⟨c1763, h⟩ | ⟨c1763, h⟩
  · have c1763 : ¬ (vt1757 = true) := c1763
    refine seqRwI 48 kr (congrArg (fun b_ => !b_) (show vt1757 = false from (Bool.eq_false_iff.mpr c1763)) : (!vt1757) = true) ?_
    refine seqRwI 49 kr (congrArg (fun b_ => !b_) (show vt1757 = false from (Bool.eq_false_iff.mpr c1763)) : (!vt1757) = true) ?_
    refine seqL20 kr ?_
    refine nl (hK1756 _ _ ?_)
    refine condT kr ?_
    refine wp_seq_k fun K1764 hK1765 => rl ?_
    refine seqL1 kr ?_
    refine nl (hK1765 _ _ ?_)
    refine wp_ret ?_
    refine hret _ _ ?_
    refine ends_still (v := Value.bool false) kr kr ?_
    have HS1952 := HS1762.drop
    have HS1953 := HS1952.drop
    have HS1954 := HS1953.drop
    have HS1955 := HS1954.drop
    have HS1956 := HS1955.drop
    have HS1957 := HS1956.drop
    have HS1958 := HS1957.drop
    have HS1959 := HS1958.drop
    have HS1960 := HS1959.drop
    have HS1961 := HS1960.drop
    injection h with h
    subst h
    exact ⟨f1759, rfl, (L19.trans (L252.trans (L1712.trans (L1745.trans L1760)))), HS1961⟩
  · have c1763 : ¬ (¬ (vt1757 = true)) := c1763
    refine seqRwI 48 (x := (!vt1757)) (v := false) kr (congrArg (fun b_ => !b_) (show vt1757 = true from (Decidable.of_not_not c1763)) : (!vt1757) = false) ?_
    refine seqRwI 49 (x := (!vt1757)) (v := false) kr (congrArg (fun b_ => !b_) (show vt1757 = true from (Decidable.of_not_not c1763)) : (!vt1757) = false) ?_
    refine seqL4 kr ?_
    have hq_ := ite_some h; clear h; rcases hq_ with ⟨c1766, h⟩ | ⟨c1766, h⟩
    · have c1766 : vt1695 ≠ 0 := c1766
      refine seqRwI 51 kr (bne_iff_ne.mpr c1766) ?_
      refine seqRwI 52 kr (bne_iff_ne.mpr c1766) ?_
      refine seqRwI 53 kr (bne_iff_ne.mpr c1766) ?_
      refine seqL16 kr ?_
      refine nl (hK1756 _ _ ?_)
      refine condT kr ?_
      refine wp_seq_k fun K1767 hK1768 => rl ?_
      refine seqL1 kr ?_
      refine nl (hK1768 _ _ ?_)
      refine wp_ret ?_
      refine hret _ _ ?_
      refine ends_still (v := Value.bool false) kr kr ?_
      have HS1962 := HS1762.drop
      have HS1963 := HS1962.drop
      have HS1964 := HS1963.drop
      have HS1965 := HS1964.drop
      have HS1966 := HS1965.drop
      have HS1967 := HS1966.drop
      have HS1968 := HS1967.drop
      have HS1969 := HS1968.drop
      have HS1970 := HS1969.drop
      have HS1971 := HS1970.drop
      injection h with h
      subst h
      exact ⟨f1759, rfl, (L19.trans (L252.trans (L1712.trans (L1745.trans L1760)))), HS1971⟩
    · have c1766 : ¬ (vt1695 ≠ 0) := c1766
      refine seqRwI 51 (x := (vt1695 != 0)) (v := false) kr (bne_eq_false_iff_eq.mpr (Decidable.of_not_not c1766)) ?_
      refine seqRwI 52 (x := (vt1695 != 0)) (v := false) kr (bne_eq_false_iff_eq.mpr (Decidable.of_not_not c1766)) ?_
      refine seqRwI 53 (x := (vt1695 != 0)) (v := false) kr (bne_eq_false_iff_eq.mpr (Decidable.of_not_not c1766)) ?_
      refine seqL4 kr ?_
      have hq_ := ite_some h; clear h; rcases hq_ with ⟨c1769, h⟩ | ⟨c1769, h⟩
      · have c1769 : ¬ (vt1735 = true) := c1769
        refine seqRwI 55 kr (congrArg (fun b_ => !b_) (show vt1735 = false from (Bool.eq_false_iff.mpr c1769)) : (!vt1735) = true) ?_
        refine seqRwI 56 kr (congrArg (fun b_ => !b_) (show vt1735 = false from (Bool.eq_false_iff.mpr c1769)) : (!vt1735) = true) ?_
        refine seqRwI 57 kr (congrArg (fun b_ => !b_) (show vt1735 = false from (Bool.eq_false_iff.mpr c1769)) : (!vt1735) = true) ?_
        refine seqL12 kr ?_
        refine nl (hK1756 _ _ ?_)
        refine condT kr ?_
        refine wp_seq_k fun K1770 hK1771 => rl ?_
        refine seqL1 kr ?_
        refine nl (hK1771 _ _ ?_)
        refine wp_ret ?_
        refine hret _ _ ?_
        refine ends_still (v := Value.bool false) kr kr ?_
        have HS1972 := HS1762.drop
        have HS1973 := HS1972.drop
        have HS1974 := HS1973.drop
        have HS1975 := HS1974.drop
        have HS1976 := HS1975.drop
        have HS1977 := HS1976.drop
        have HS1978 := HS1977.drop
        have HS1979 := HS1978.drop
        have HS1980 := HS1979.drop
        have HS1981 := HS1980.drop
        injection h with h
        subst h
        exact ⟨f1759, rfl, (L19.trans (L252.trans (L1712.trans (L1745.trans L1760)))), HS1981⟩
      · have c1769 : ¬ (¬ (vt1735 = true)) := c1769
        refine seqRwI 55 (x := (!vt1735)) (v := false) kr (congrArg (fun b_ => !b_) (show vt1735 = true from (Decidable.of_not_not c1769)) : (!vt1735) = false) ?_
        refine seqRwI 56 (x := (!vt1735)) (v := false) kr (congrArg (fun b_ => !b_) (show vt1735 = true from (Decidable.of_not_not c1769)) : (!vt1735) = false) ?_
        refine seqRwI 57 (x := (!vt1735)) (v := false) kr (congrArg (fun b_ => !b_) (show vt1735 = true from (Decidable.of_not_not c1769)) : (!vt1735) = false) ?_
        refine seqG kr (does_run (run_loadN (n := 4) rfl Tryz.underlying51 rfl kr (kv (.pointer (some ⟨b1747, 0, none⟩))) (cs := [.string vt1734.Key, .string vt1734.Value, .string vt1734.Unit, .string vt1734.Note]) rfl (HS1762.cells 0 4 _ rfl)) ?_)
        refine seqG kr (does_run (run_loadN (n := 4) rfl Tryz.underlying51 rfl kr (kv (.pointer (some ⟨b235, 0, none⟩))) (cs := [.string (rd ([Z27, Z29, Z28, Z32] : List ByteArray) vt46), .string (rd ([Z40, Z20, Z34] : List ByteArray) vt83), .string ⟨#[]⟩, .string ⟨#[]⟩]) rfl (HS1762.u5.cells 0 4 _ rfl)) ?_)
        refine seqG kr (does_run (run_neS (b := ((vt1734.Key.toList == (rd ([Z27, Z29, Z28, Z32] : List ByteArray) vt46).toList) && ((vt1734.Value.toList == (rd ([Z40, Z20, Z34] : List ByteArray) vt83).toList) && ((vt1734.Unit.toList == Z44.toList) && ((vt1734.Note.toList == Z44.toList) && true))))) rfl (kv (.agg #[.string vt1734.Key, .string vt1734.Value, .string vt1734.Unit, .string vt1734.Note])) (kv (.agg #[.string (rd ([Z27, Z29, Z28, Z32] : List ByteArray) vt46), .string (rd ([Z40, Z20, Z34] : List ByteArray) vt83), .string ⟨#[]⟩, .string ⟨#[]⟩])) kr kr W1761) ?_)
        refine seqL2 kr ?_
        have hq_ := ite_some h; clear h; rcases hq_ with ⟨c1772, h⟩ | ⟨c1772, h⟩
        · have c1772 : (!((vt1734.Key.toList == (rd ([Z27, Z29, Z28, Z32] : List ByteArray) vt46).toList) && ((vt1734.Value.toList == (rd ([Z40, Z20, Z34] : List ByteArray) vt83).toList) && ((vt1734.Unit.toList == Z44.toList) && ((vt1734.Note.toList == Z44.toList) && true))))) = true := c1772
          refine seqRwI 60 kr c1772 ?_
          refine seqRwI 61 kr c1772 ?_
          refine seqRwI 62 kr c1772 ?_
          refine seqL7 kr ?_
          refine nl (hK1756 _ _ ?_)
          refine condT kr ?_
          refine wp_seq_k fun K1773 hK1774 => rl ?_
          refine seqL1 kr ?_
          refine nl (hK1774 _ _ ?_)
          refine wp_ret ?_
          refine hret _ _ ?_
          refine ends_still (v := Value.bool false) kr kr ?_
          have HS1982 := HS1762.drop
          have HS1983 := HS1982.drop
          have HS1984 := HS1983.drop
          have HS1985 := HS1984.drop
          have HS1986 := HS1985.drop
          have HS1987 := HS1986.drop
          have HS1988 := HS1987.drop
          have HS1989 := HS1988.drop
          have HS1990 := HS1989.drop
          have HS1991 := HS1990.drop
          injection h with h
          subst h
          exact ⟨f1759, rfl, (L19.trans (L252.trans (L1712.trans (L1745.trans L1760)))), HS1991⟩
        · have c1772 : ¬ ((!((vt1734.Key.toList == (rd ([Z27, Z29, Z28, Z32] : List ByteArray) vt46).toList) && ((vt1734.Value.toList == (rd ([Z40, Z20, Z34] : List ByteArray) vt83).toList) && ((vt1734.Unit.toList == Z44.toList) && ((vt1734.Note.toList == Z44.toList) && true))))) = true) := c1772
          refine seqRwI 60 kr (Bool.eq_false_iff.mpr c1772) ?_
          refine seqRwI 61 kr (Bool.eq_false_iff.mpr c1772) ?_
          refine seqRwI 62 kr (Bool.eq_false_iff.mpr c1772) ?_
          refine seqL1 kr ?_
          refine seqG kr (does_run (run_load rfl Tryz.underlying22 rfl (kv (.pointer (some ⟨b30, 3, none⟩))) (HS1762.u8.cell 3)) ?_)
          refine seqL1 kr ?_
          refine seqG kr (does_run (run_load rfl Tryz.underlying22 rfl (kv (.pointer (some ⟨b1714, 3, none⟩))) (HS1762.u3.cell 3)) ?_)
          have HS1775 := HS1762.u2
          obtain ⟨f1776, L1777, HS1778, HR1779, th1780⟩ := (HO1709.mono (L1745.trans L1760)).lend HS1775
          have hq_ := bind_some h; clear h; obtain ⟨vt1781, hc1782, h⟩ := hq_
          refine seqG kr (does_call (f := 13) (args := #[.slice A27 vt15.Counts.length c28, .slice A1706 vt1694.Counts.length c1707]) kr (slices_Equal_int.calls k A27 c28 A1706 c1707 vt15.Counts vt1694.Counts HS1778 (HR29.mono (L252.trans (L1712.trans (L1745.trans (L1760.trans L1777))))) HR1779 vt1781 hc1782) ?_)
          rintro _ W1785 ⟨f1783, rfl, L1784, HS1786⟩
          refine ⟨_, rfl, ?_⟩
          obtain ⟨f1787, L1788, HS1789⟩ := th1780 L1784 HS1786
          refine seqL2 kr ?_
          refine nl (hK1756 _ _ ?_)
          have hq_ := ite_some h; clear h; rcases hq_ with ⟨c1791, h⟩ | ⟨c1791, h⟩
          · have c1791 : ¬ (vt1781 = true) := c1791
            refine wpRwI 68 kr (congrArg (fun b_ => !b_) (show vt1781 = false from (Bool.eq_false_iff.mpr c1791)) : (!vt1781) = true) ?_
            refine wpRwI 69 kr (congrArg (fun b_ => !b_) (show vt1781 = false from (Bool.eq_false_iff.mpr c1791)) : (!vt1781) = true) ?_
            refine condT kr ?_
            refine wp_seq_k fun K1792 hK1793 => rl ?_
            refine seqL1 kr ?_
            refine nl (hK1793 _ _ ?_)
            refine wp_ret ?_
            refine hret _ _ ?_
            refine ends_still (v := Value.bool false) kr kr ?_
            have HS1992 := HS1789.drop
            have HS1993 := HS1992.drop
            have HS1994 := HS1993.drop
            have HS1995 := HS1994.drop
            have HS1996 := HS1995.drop
            have HS1997 := HS1996.drop
            have HS1998 := HS1997.drop
            have HS1999 := HS1998.drop
            have HS2000 := HS1999.drop
            have HS2001 := HS2000.drop
            injection h with h
            subst h
            exact ⟨f1787, rfl, (L19.trans (L252.trans (L1712.trans (L1745.trans (L1760.trans L1788))))), HS2001⟩
          · have c1791 : ¬ (¬ (vt1781 = true)) := c1791
            refine wpRwI 68 (x := (!vt1781)) (v := false) kr (congrArg (fun b_ => !b_) (show vt1781 = true from (Decidable.of_not_not c1791)) : (!vt1781) = false) ?_
            refine wpRwI 69 (x := (!vt1781)) (v := false) kr (congrArg (fun b_ => !b_) (show vt1781 = true from (Decidable.of_not_not c1791)) : (!vt1781) = false) ?_
            refine condF kr ?_
            refine wp_skip ?_
            refine hK1754 _ _ ?_
            refine wp_seq_k (fun K1794 hK1795 => ?_)
            refine wp_seq_k fun K1796 hK1797 => rl ?_
            refine seqL1 kr ?_
            refine seqK rfl (does_run (run_load rfl Tryz.underlying27 rfl (kv (.pointer (some ⟨b30, 2, none⟩))) (HS1789.u8.cell 2)) ?_)
            refine seqL2 kr ?_
            refine nl (hK1797 _ _ ?_)
            refine blockK (fun B1798 hx1799 hn1800 hr1801 ho1802 hp1803 => ?_)
            have hq_ := bind_some h; clear h; obtain ⟨o1804, hv1892, h⟩ := hq_
            have JR1894 : ∀ z_, some (Sum.inl z_) = some o1804 → some z_ = some rr1 := by
             intro z_ e_; injection e_ with e_; subst e_; exact h
            have J1893 : ∀ (f1887 : FM) (j1891 : Nat → Value) (W1889 : World) (a_ : Act), FM.le f1787 f1887 → some (Sum.inr ()) = some o1804 → St t W1889 f1887 (s1708 :: [(b1747, .cells #[.string vt1734.Key, .string vt1734.Value, .string vt1734.Unit, .string vt1734.Note] 51 (0, 0))] :: s1703 :: [(b1714, .cells #[.int .i64 vt1694.W, .int .i64 vt1694.H, .slice A1701 vt1694.Cards.length c1702, .slice A1706 vt1694.Counts.length c1707] 29 (0, 0))] :: s24 :: [(b235, .cells #[.string (rd ([Z27, Z29, Z28, Z32] : List ByteArray) vt46), .string (rd ([Z40, Z20, Z34] : List ByteArray) vt83), .string ⟨#[]⟩, .string ⟨#[]⟩] 51 (0, 0))] :: s191 :: s148 :: [(b30, .cells #[.int .i64 vt15.W, .int .i64 vt15.H, .slice A22 vt15.Cards.length c23, .slice A27 vt15.Counts.length c28] 29 (0, 0))] :: [(b11, .cells #[.slice A2 l1.length c3, .int .i64 vt16] 33 (0, 0))] :: H) → a_ = ⟨#[.slice A2 l1.length c3, iV vk5, iV value6, uV, uV, uV, (j1891 0), pV b30 0, pV b235 0, pV b1714 0, iV vt1695, pV b1747 0, .bool vt1735, uV, (j1891 1), (j1891 2), (j1891 3), uV, uV, .slice A2 l1.length c3, .agg #[.slice A2 l1.length c3, iV 0], pV b11 0, (ag_Frame vt15 A22 c23 A27 c28), .slice (some ⟨b146, 0, none⟩) ([Z27, Z29, Z28, Z32] : List ByteArray).length 4, iV vk5, iV vt46, pV b146 (0 + (vt46 : Int).toNat * 1), .string (rd ([Z27, Z29, Z28, Z32] : List ByteArray) vt46), .slice (some ⟨b189, 0, none⟩) ([Z40, Z20, Z34] : List ByteArray).length 3, iV value6, iV vt83, pV b189 (0 + (vt83 : Int).toNat * 1), .string (rd ([Z40, Z20, Z34] : List ByteArray) vt83), .agg #[.string (rd ([Z27, Z29, Z28, Z32] : List ByteArray) vt46), .string (rd ([Z40, Z20, Z34] : List ByteArray) vt83), .string ⟨#[]⟩, .string ⟨#[]⟩], .tuple #[(ag_Frame vt1694 A1701 c1702 A1706 c1707), iV vt1695], (ag_Frame vt15 A22 c23 A27 c28), .agg #[.string (rd ([Z27, Z29, Z28, Z32] : List ByteArray) vt46), .string (rd ([Z40, Z20, Z34] : List ByteArray) vt83), .string ⟨#[]⟩, .string ⟨#[]⟩], .tuple #[(ag_Frame vt1694 A1701 c1702 A1706 c1707), iV vt1695], (ag_Frame vt1694 A1701 c1702 A1706 c1707), iV vt1695, .tuple #[(ag_Card vt1734), .bool vt1735], (ag_Frame vt1694 A1701 c1702 A1706 c1707), pV b235 0, .string (rd ([Z27, Z29, Z28, Z32] : List ByteArray) vt46), .tuple #[(ag_Card vt1734), .bool vt1735], (ag_Card vt1734), .bool vt1735, .bool vt1757, fV, fV, iV vt1695, fV, fV, fV, .bool vt1735, fV, fV, fV, (ag_Card vt1734), .agg #[.string (rd ([Z27, Z29, Z28, Z32] : List ByteArray) vt46), .string (rd ([Z40, Z20, Z34] : List ByteArray) vt83), .string ⟨#[]⟩, .string ⟨#[]⟩], fV, fV, fV, pV b30 3, .slice A27 vt15.Counts.length c28, pV b1714 3, .slice A1706 vt1694.Counts.length c1707, .bool vt1781, fV, fV, pV b30 2, .slice A22 vt15.Cards.length c23, iV (vt15.Cards.length : Int), (j1891 4), (j1891 5), (j1891 6), (j1891 7), (j1891 8), (j1891 9), (j1891 10), (j1891 11), (j1891 12), (j1891 13), (j1891 14), (j1891 15), (j1891 16), (j1891 17), (j1891 18), (j1891 19), (j1891 20), (j1891 21), (j1891 22), (j1891 23), (j1891 24), (j1891 25), (j1891 26), (j1891 27), (j1891 28), (j1891 29), uV, uV, uV, uV, uV, uV, uV, uV, uV, uV, uV, uV, uV, uV, uV, uV, uV, uV, uV, uV, uV, uV, uV, uV, uV, uV, uV, uV, uV, uV, uV], []⟩ → K1794 a_ W1889 := by
             intro f1887 j1891 W1889 a_ L1888 hj1895 HS1890  hfr_; subst hfr_
             injection hj1895 with hj1895; subst hj1895; try dsimp only at h
             simp only [Sum.elim_inr] at h
             refine hK1795 _ _ ?_
             refine wp_seq_k fun K1924 hK1925 => rl ?_
             refine seqK rfl (does_run (run_loadN (n := 4) rfl Tryz.underlying29 rfl kr (kv (.pointer (some ⟨b30, 0, none⟩))) (cs := [.int .i64 vt15.W, .int .i64 vt15.H, .slice A22 vt15.Cards.length c23, .slice A27 vt15.Counts.length c28]) rfl (HS1890.u8.cells 0 4 _ rfl)) ?_)
             refine seqL1 kr ?_
             refine seqK rfl (does_run (run_load rfl Tryz.underlying9 rfl (kv (.pointer (some ⟨b235, 0, none⟩))) (HS1890.u5.cell 0)) ?_)
             have HS1926 := HS1890.u4
             obtain ⟨f1927, L1928, HS1929, HR1930, th1931⟩ := (HO25.mono (L252.trans (L1712.trans (L1745.trans (L1760.trans (L1788.trans L1888)))))).lend HS1926
             have hq_ := bind_some h; clear h; obtain ⟨⟨vt1932, vt1933⟩, hc1934, h⟩ := hq_
             refine seqK rfl (does_call (f := 20) (args := #[.agg #[.int .i64 vt15.W, .int .i64 vt15.H, .slice A22 vt15.Cards.length c23, .slice A27 vt15.Counts.length c28], .string (rd ([Z27, Z29, Z28, Z32] : List ByteArray) vt46)]) kr (frame_Get.calls k A22 c23 A27 c28 vt15 (rd ([Z27, Z29, Z28, Z32] : List ByteArray) vt46) HS1929 HR1930 (HR29.mono (L252.trans (L1712.trans (L1745.trans (L1760.trans (L1788.trans (L1888.trans L1928))))))) vt1932 vt1933 hc1934) ?_)
             rintro _ W1937 ⟨f1935, rfl, L1936, HS1938⟩
             refine ⟨_, rfl, ?_⟩
             obtain ⟨f1939, L1940, HS1941⟩ := th1931 L1936 HS1938
             refine seqL3 kr ?_
             refine seqK rfl (does_alloc (z := Value.agg #[.string ⟨#[]⟩, .string ⟨#[]⟩, .string ⟨#[]⟩, .string ⟨#[]⟩]) (cs := #[.string ⟨#[]⟩, .string ⟨#[]⟩, .string ⟨#[]⟩, .string ⟨#[]⟩]) rfl kr rfl HS1941 ?_)
             intro b1942 W1943 HS1944
             refine seqK rfl (does_storeA (vs := [.string vt1932.Key, .string vt1932.Value, .string vt1932.Unit, .string vt1932.Note]) rfl kr kr kr rfl (ones rfl) HS1944 kr ?_)
             intro W1946 HS1947
             refine seqL1 kr ?_
             refine nl (hK1925 _ _ ?_)
             refine wp_seq_k fun K1948 hK1949 => rl ?_
             refine seqL2 kr ?_
             have hq_ := ite_some h; clear h; rcases hq_ with ⟨c1950, h⟩ | ⟨c1950, h⟩
             · have c1950 : vt1933 = true := c1950
               refine seqRwI 18 kr c1950 ?_
               refine seqRwI 105 kr c1950 ?_
               refine seqRwI 106 kr c1950 ?_
               refine seqRwI 107 kr c1950 ?_
               refine seqL1 kr ?_
               refine seqG kr (does_run (run_load rfl Tryz.underlying27 rfl (kv (.pointer (some ⟨b1714, 2, none⟩))) (HS1947.u5.cell 2)) ?_)
               refine seqL2 kr ?_
               refine seqG kr (does_run (run_load rfl Tryz.underlying27 rfl (kv (.pointer (some ⟨b30, 2, none⟩))) (HS1947.u9.cell 2)) ?_)
               refine seqL4 kr ?_
               have hq_ := ite_some h; clear h; rcases hq_ with ⟨c1951, h⟩ | ⟨c1951, h⟩
               · have c1951 : (vt1694.Cards.length : Int) = (vt15.Cards.length : Int) := c1951
                 refine seqRwI 114 kr (beq_iff_eq.mpr c1951) ?_
                 refine seqRwI 115 kr (beq_iff_eq.mpr c1951) ?_
                 refine seqRwI 116 kr (beq_iff_eq.mpr c1951) ?_
                 refine seqL14 kr ?_
                 refine nl (hK1949 _ _ ?_)
                 refine wp_ret ?_
                 refine hret _ _ ?_
                 refine ends_still (v := Value.bool true) kr kr ?_
                 have HS2026 := HS1947.drop
                 have HS2027 := HS2026.drop
                 have HS2028 := HS2027.drop
                 have HS2029 := HS2028.drop
                 have HS2030 := HS2029.drop
                 have HS2031 := HS2030.drop
                 have HS2032 := HS2031.drop
                 have HS2033 := HS2032.drop
                 have HS2034 := HS2033.drop
                 have HS2035 := HS2034.drop
                 have HS2036 := HS2035.drop
                 injection h with h
                 subst h
                 exact ⟨f1939, rfl, (L19.trans (L252.trans (L1712.trans (L1745.trans (L1760.trans (L1788.trans (L1888.trans L1940))))))), HS2036⟩
               · have c1951 : ¬ ((vt1694.Cards.length : Int) = (vt15.Cards.length : Int)) := c1951
                 refine seqRwI 114 kr (beq_eq_false_iff_ne.mpr c1951) ?_
                 refine seqRwI 115 kr (beq_eq_false_iff_ne.mpr c1951) ?_
                 refine seqRwI 116 kr (beq_eq_false_iff_ne.mpr c1951) ?_
                 refine seqL14 kr ?_
                 refine nl (hK1949 _ _ ?_)
                 refine wp_ret ?_
                 refine hret _ _ ?_
                 refine ends_still (v := Value.bool false) kr kr ?_
                 have HS2037 := HS1947.drop
                 have HS2038 := HS2037.drop
                 have HS2039 := HS2038.drop
                 have HS2040 := HS2039.drop
                 have HS2041 := HS2040.drop
                 have HS2042 := HS2041.drop
                 have HS2043 := HS2042.drop
                 have HS2044 := HS2043.drop
                 have HS2045 := HS2044.drop
                 have HS2046 := HS2045.drop
                 have HS2047 := HS2046.drop
                 injection h with h
                 subst h
                 exact ⟨f1939, rfl, (L19.trans (L252.trans (L1712.trans (L1745.trans (L1760.trans (L1788.trans (L1888.trans L1940))))))), HS2047⟩
             · have c1950 : ¬ (vt1933 = true) := c1950
               refine seqRwI 18 kr (Bool.eq_false_iff.mpr c1950) ?_
               refine seqRwI 105 kr (Bool.eq_false_iff.mpr c1950) ?_
               refine seqRwI 106 kr (Bool.eq_false_iff.mpr c1950) ?_
               refine seqRwI 107 kr (Bool.eq_false_iff.mpr c1950) ?_
               refine seqL13 kr ?_
               refine seqG kr (does_run (run_load rfl Tryz.underlying27 rfl (kv (.pointer (some ⟨b1714, 2, none⟩))) (HS1947.u5.cell 2)) ?_)
               refine seqL2 kr ?_
               refine seqG kr (does_run (run_load rfl Tryz.underlying27 rfl (kv (.pointer (some ⟨b30, 2, none⟩))) (HS1947.u9.cell 2)) ?_)
               refine seqL6 kr ?_
               refine nl (hK1949 _ _ ?_)
               refine wp_ret ?_
               refine hret _ _ ?_
               refine ends_still (v := Value.bool ((vt1694.Cards.length : Int) == (w64 ((vt15.Cards.length : Int) + 1)))) kr kr ?_
               have HS2048 := HS1947.drop
               have HS2049 := HS2048.drop
               have HS2050 := HS2049.drop
               have HS2051 := HS2050.drop
               have HS2052 := HS2051.drop
               have HS2053 := HS2052.drop
               have HS2054 := HS2053.drop
               have HS2055 := HS2054.drop
               have HS2056 := HS2055.drop
               have HS2057 := HS2056.drop
               have HS2058 := HS2057.drop
               injection h with h
               subst h
               exact ⟨f1939, rfl, (L19.trans (L252.trans (L1712.trans (L1745.trans (L1760.trans (L1788.trans (L1888.trans L1940))))))), HS2058⟩
            clear h; have h := hv1892; clear hv1892
            refine loopK (fun n_ a_ w_ => ∃ (f1808 : FM) (x1813 : Int) (j1812 : Nat → Value), FM.le f1787 f1808 ∧ St t w_ f1808 (s1708 :: [(b1747, .cells #[.string vt1734.Key, .string vt1734.Value, .string vt1734.Unit, .string vt1734.Note] 51 (0, 0))] :: s1703 :: [(b1714, .cells #[.int .i64 vt1694.W, .int .i64 vt1694.H, .slice A1701 vt1694.Cards.length c1702, .slice A1706 vt1694.Counts.length c1707] 29 (0, 0))] :: s24 :: [(b235, .cells #[.string (rd ([Z27, Z29, Z28, Z32] : List ByteArray) vt46), .string (rd ([Z40, Z20, Z34] : List ByteArray) vt83), .string ⟨#[]⟩, .string ⟨#[]⟩] 51 (0, 0))] :: s191 :: s148 :: [(b30, .cells #[.int .i64 vt15.W, .int .i64 vt15.H, .slice A22 vt15.Cards.length c23, .slice A27 vt15.Counts.length c28] 29 (0, 0))] :: [(b11, .cells #[.slice A2 l1.length c3, .int .i64 vt16] 33 (0, 0))] :: H) ∧ spykeep3_FrameSets.l0 k vt15 vt1694 vt46 n_ x1813 = some o1804 ∧ a_ = ⟨#[.slice A2 l1.length c3, iV vk5, iV value6, uV, uV, uV, (j1812 0), pV b30 0, pV b235 0, pV b1714 0, iV vt1695, pV b1747 0, .bool vt1735, uV, (j1812 1), (j1812 2), (j1812 3), uV, uV, .slice A2 l1.length c3, .agg #[.slice A2 l1.length c3, iV 0], pV b11 0, (ag_Frame vt15 A22 c23 A27 c28), .slice (some ⟨b146, 0, none⟩) ([Z27, Z29, Z28, Z32] : List ByteArray).length 4, iV vk5, iV vt46, pV b146 (0 + (vt46 : Int).toNat * 1), .string (rd ([Z27, Z29, Z28, Z32] : List ByteArray) vt46), .slice (some ⟨b189, 0, none⟩) ([Z40, Z20, Z34] : List ByteArray).length 3, iV value6, iV vt83, pV b189 (0 + (vt83 : Int).toNat * 1), .string (rd ([Z40, Z20, Z34] : List ByteArray) vt83), .agg #[.string (rd ([Z27, Z29, Z28, Z32] : List ByteArray) vt46), .string (rd ([Z40, Z20, Z34] : List ByteArray) vt83), .string ⟨#[]⟩, .string ⟨#[]⟩], .tuple #[(ag_Frame vt1694 A1701 c1702 A1706 c1707), iV vt1695], (ag_Frame vt15 A22 c23 A27 c28), .agg #[.string (rd ([Z27, Z29, Z28, Z32] : List ByteArray) vt46), .string (rd ([Z40, Z20, Z34] : List ByteArray) vt83), .string ⟨#[]⟩, .string ⟨#[]⟩], .tuple #[(ag_Frame vt1694 A1701 c1702 A1706 c1707), iV vt1695], (ag_Frame vt1694 A1701 c1702 A1706 c1707), iV vt1695, .tuple #[(ag_Card vt1734), .bool vt1735], (ag_Frame vt1694 A1701 c1702 A1706 c1707), pV b235 0, .string (rd ([Z27, Z29, Z28, Z32] : List ByteArray) vt46), .tuple #[(ag_Card vt1734), .bool vt1735], (ag_Card vt1734), .bool vt1735, .bool vt1757, fV, fV, iV vt1695, fV, fV, fV, .bool vt1735, fV, fV, fV, (ag_Card vt1734), .agg #[.string (rd ([Z27, Z29, Z28, Z32] : List ByteArray) vt46), .string (rd ([Z40, Z20, Z34] : List ByteArray) vt83), .string ⟨#[]⟩, .string ⟨#[]⟩], fV, fV, fV, pV b30 3, .slice A27 vt15.Counts.length c28, pV b1714 3, .slice A1706 vt1694.Counts.length c1707, .bool vt1781, fV, fV, pV b30 2, .slice A22 vt15.Cards.length c23, iV (vt15.Cards.length : Int), iV x1813, (j1812 4), (j1812 5), (j1812 6), (j1812 7), (j1812 8), (j1812 9), (j1812 10), (j1812 11), (j1812 12), (j1812 13), (j1812 14), (j1812 15), (j1812 16), (j1812 17), (j1812 18), (j1812 19), (j1812 20), (j1812 21), (j1812 22), (j1812 23), (j1812 24), (j1812 25), (j1812 26), (j1812 27), (j1812 28), uV, uV, uV, uV, uV, uV, uV, uV, uV, uV, uV, uV, uV, uV, uV, uV, uV, uV, uV, uV, uV, uV, uV, uV, uV, uV, uV, uV, uV, uV, uV], []⟩) k ⟨f1787, 0, (jL [fV]), fL, HS1789, h, kr⟩ ?_
            clear h
            rintro n1807 _ W1810 ⟨f1808, x1813, j1812, L1809, HS1811, h, rfl⟩ K1805 hK1806
            obtain _ | n1807 := n1807
            · exact nomatch h
            simp only [spykeep3_FrameSets.l0] at h
            refine wp_seq_k fun K1814 hK1815 => rl ?_
            refine seqL1 kr ?_
            refine nl (hK1815 _ _ ?_)
            refine wp_seq_k (fun K1816 hK1817 => ?_)
            have hq_ := ite_some h; clear h; rcases hq_ with ⟨c1819, h⟩ | ⟨c1819, h⟩
            · have c1819 : x1813 < (vt15.Cards.length : Int) := c1819
              refine wpRwI 74 kr (decide_eq_true c1819) ?_
              refine condT kr ?_
              refine wp_skip ?_
              refine hK1817 _ _ ?_
              refine wp_seq_k (fun K1820 hK1821 => ?_)
              refine blockK (fun B1822 hx1823 hn1824 hr1825 ho1826 hp1827 => ?_)
              refine wp_seq_k fun K1829 hK1830 => rl ?_
              have hq_ := guard_some h; clear h; obtain ⟨c1831, h⟩ := hq_
              have c1831 : 0 ≤ x1813 := c1831
              obtain ⟨b1835, of1836, cs1832, hA1837, hr1833, hc1834⟩ := (HO25.mono (L252.trans (L1712.trans (L1745.trans (L1760.trans (L1788.trans L1809)))))).at (i := x1813) c1831 c1819
              obtain rfl := hr1833
              refine seqK rfl (does_run (run_indexE hA1837 (sz := 4) rfl Tryz.underlying27 kr (kv (.slice A22 vt15.Cards.length c23)) (kv (.int .i64 x1813)) c1831 c1819 W1810) ?_)
              refine seqK rfl (does_run (run_loadN (n := 4) rfl Tryz.underlying51 rfl kr (kv (.pointer (some ⟨b1835, of1836 + (x1813 : Int).toNat * 4, none⟩))) (cs := [.string ((rd vt15.Cards x1813).Key), .string ((rd vt15.Cards x1813).Value), .string ((rd vt15.Cards x1813).Unit), .string ((rd vt15.Cards x1813).Note)]) rfl (fun j_ hj_ => ((hc1834 HS1811.u4) j_ hj_))) ?_)
              refine seqK rfl (does_alloc (z := Value.agg #[.string ⟨#[]⟩, .string ⟨#[]⟩, .string ⟨#[]⟩, .string ⟨#[]⟩]) (cs := #[.string ⟨#[]⟩, .string ⟨#[]⟩, .string ⟨#[]⟩, .string ⟨#[]⟩]) rfl kr rfl HS1811 ?_)
              intro b1838 W1839 HS1840
              refine seqK rfl (does_storeA (vs := [.string ((rd vt15.Cards x1813).Key), .string ((rd vt15.Cards x1813).Value), .string ((rd vt15.Cards x1813).Unit), .string ((rd vt15.Cards x1813).Note)]) rfl kr kr kr rfl (ones rfl) HS1840 kr ?_)
              intro W1842 HS1843
              refine nl (hK1830 _ _ ?_)
              refine wp_seq_k fun K1844 hK1845 => rl ?_
              refine seqK rfl (does_run (run_loadN (n := 4) rfl Tryz.underlying29 rfl kr (kv (.pointer (some ⟨b1714, 0, none⟩))) (cs := [.int .i64 vt1694.W, .int .i64 vt1694.H, .slice A1701 vt1694.Cards.length c1702, .slice A1706 vt1694.Counts.length c1707]) rfl (HS1843.u4.cells 0 4 _ rfl)) ?_)
              refine seqL1 kr ?_
              refine seqK rfl (does_run (run_load rfl Tryz.underlying9 rfl (kv (.pointer (some ⟨b1838, 0, none⟩))) (HS1843.cell 0)) ?_)
              have HS1846 := HS1843.u3
              obtain ⟨f1847, L1848, HS1849, HR1850, th1851⟩ := (HO1704.mono (L1745.trans (L1760.trans (L1788.trans L1809)))).lend HS1846
              have HS1852 := HS1849.u1
              obtain ⟨f1853, L1854, HS1855, HR1856, th1857⟩ := (HO1709.mono (L1745.trans (L1760.trans (L1788.trans (L1809.trans L1848))))).lend HS1852
              have hq_ := bind_some h; clear h; obtain ⟨⟨vt1858, vt1859⟩, hc1860, h⟩ := hq_
              refine seqK rfl (does_call (f := 20) (args := #[.agg #[.int .i64 vt1694.W, .int .i64 vt1694.H, .slice A1701 vt1694.Cards.length c1702, .slice A1706 vt1694.Counts.length c1707], .string ((rd vt15.Cards x1813).Key)]) kr (frame_Get.calls k A1701 c1702 A1706 c1707 vt1694 ((rd vt15.Cards x1813).Key) HS1855 (HR1850.mono L1854) HR1856 vt1858 vt1859 hc1860) ?_)
              rintro _ W1863 ⟨f1861, rfl, L1862, HS1864⟩
              refine ⟨_, rfl, ?_⟩
              obtain ⟨f1865, L1866, HS1867⟩ := th1857 L1862 HS1864
              obtain ⟨f1868, L1869, HS1870⟩ := th1851 L1866 HS1867
              refine seqL3 kr ?_
              refine seqK rfl (does_alloc (z := Value.agg #[.string ⟨#[]⟩, .string ⟨#[]⟩, .string ⟨#[]⟩, .string ⟨#[]⟩]) (cs := #[.string ⟨#[]⟩, .string ⟨#[]⟩, .string ⟨#[]⟩, .string ⟨#[]⟩]) rfl kr rfl HS1870 ?_)
              intro b1871 W1872 HS1873
              refine seqK rfl (does_storeA (vs := [.string vt1858.Key, .string vt1858.Value, .string vt1858.Unit, .string vt1858.Note]) rfl kr kr kr rfl (ones rfl) HS1873 kr ?_)
              intro W1875 HS1876
              refine seqL1 kr ?_
              refine nl (hK1845 _ _ ?_)
              refine wp_seq_k fun K1877 hK1878 => rl ?_
              refine seqL1 kr ?_
              refine seqK rfl (does_run (run_load rfl Tryz.underlying9 rfl (kv (.pointer (some ⟨b1838, 0, none⟩))) (HS1876.u3.cell 0)) ?_)
              refine seqL1 kr ?_
              refine seqK rfl (does_run (run_load rfl Tryz.underlying9 rfl (kv (.pointer (some ⟨b235, 0, none⟩))) (HS1876.u7.cell 0)) ?_)
              refine seqL2 kr ?_
              have hq_ := ite_some h; clear h; rcases hq_ with ⟨c1879, h⟩ | ⟨c1879, h⟩
              · have c1879 : (!(((rd vt15.Cards x1813).Key).toList == (rd ([Z27, Z29, Z28, Z32] : List ByteArray) vt46).toList)) = true := c1879
                refine seqRwI 88 kr c1879 ?_
                refine seqRwI 89 kr c1879 ?_
                refine seqL3 kr ?_
                have hq_ := ite_some h; clear h; rcases hq_ with ⟨c1880, h⟩ | ⟨c1880, h⟩
                · have c1880 : ¬ (vt1859 = true) := c1880
                  refine seqRwI 91 kr (congrArg (fun b_ => !b_) (show vt1859 = false from (Bool.eq_false_iff.mpr c1880)) : (!vt1859) = true) ?_
                  refine seqRwI 92 kr (congrArg (fun b_ => !b_) (show vt1859 = false from (Bool.eq_false_iff.mpr c1880)) : (!vt1859) = true) ?_
                  refine seqL5 kr ?_
                  refine nl (hK1878 _ _ ?_)
                  refine condT kr ?_
                  refine wp_seq_k fun K1881 hK1882 => rl ?_
                  refine seqL1 kr ?_
                  refine nl (hK1882 _ _ ?_)
                  refine wp_ret ?_
                  refine hr1825 _ _ ?_
                  refine hr1801 _ _ ?_
                  refine hret _ _ ?_
                  refine ends_still (v := Value.bool false) kr kr ?_
                  have HS2002 := HS1876.drop
                  have HS2003 := HS2002.drop
                  have HS2004 := HS2003.drop
                  have HS2005 := HS2004.drop
                  have HS2006 := HS2005.drop
                  have HS2007 := HS2006.drop
                  have HS2008 := HS2007.drop
                  have HS2009 := HS2008.drop
                  have HS2010 := HS2009.drop
                  have HS2011 := HS2010.drop
                  have HS2012 := HS2011.drop
                  have HS2013 := HS2012.drop
                  replace h := JR1894 _ h
                  injection h with h
                  subst h
                  exact ⟨f1868, rfl, (L19.trans (L252.trans (L1712.trans (L1745.trans (L1760.trans (L1788.trans (L1809.trans L1869))))))), HS2013⟩
                · have c1880 : ¬ (¬ (vt1859 = true)) := c1880
                  refine seqRwI 91 (x := (!vt1859)) (v := false) kr (congrArg (fun b_ => !b_) (show vt1859 = true from (Decidable.of_not_not c1880)) : (!vt1859) = false) ?_
                  refine seqRwI 92 (x := (!vt1859)) (v := false) kr (congrArg (fun b_ => !b_) (show vt1859 = true from (Decidable.of_not_not c1880)) : (!vt1859) = false) ?_
                  refine seqG kr (does_run (run_loadN (n := 4) rfl Tryz.underlying51 rfl kr (kv (.pointer (some ⟨b1871, 0, none⟩))) (cs := [.string vt1858.Key, .string vt1858.Value, .string vt1858.Unit, .string vt1858.Note]) rfl (HS1876.cells 0 4 _ rfl)) ?_)
                  refine seqG kr (does_run (run_loadN (n := 4) rfl Tryz.underlying51 rfl kr (kv (.pointer (some ⟨b1838, 0, none⟩))) (cs := [.string ((rd vt15.Cards x1813).Key), .string ((rd vt15.Cards x1813).Value), .string ((rd vt15.Cards x1813).Unit), .string ((rd vt15.Cards x1813).Note)]) rfl (HS1876.u3.cells 0 4 _ rfl)) ?_)
                  refine seqG kr (does_run (run_neS (b := ((vt1858.Key.toList == ((rd vt15.Cards x1813).Key).toList) && ((vt1858.Value.toList == ((rd vt15.Cards x1813).Value).toList) && ((vt1858.Unit.toList == ((rd vt15.Cards x1813).Unit).toList) && ((vt1858.Note.toList == ((rd vt15.Cards x1813).Note).toList) && true))))) rfl (kv (.agg #[.string vt1858.Key, .string vt1858.Value, .string vt1858.Unit, .string vt1858.Note])) (kv (.agg #[.string ((rd vt15.Cards x1813).Key), .string ((rd vt15.Cards x1813).Value), .string ((rd vt15.Cards x1813).Unit), .string ((rd vt15.Cards x1813).Note)])) kr kr W1875) ?_)
                  refine seqL2 kr ?_
                  refine nl (hK1878 _ _ ?_)
                  have hq_ := ite_some h; clear h; rcases hq_ with ⟨c1884, h⟩ | ⟨c1884, h⟩
                  · have c1884 : (!((vt1858.Key.toList == ((rd vt15.Cards x1813).Key).toList) && ((vt1858.Value.toList == ((rd vt15.Cards x1813).Value).toList) && ((vt1858.Unit.toList == ((rd vt15.Cards x1813).Unit).toList) && ((vt1858.Note.toList == ((rd vt15.Cards x1813).Note).toList) && true))))) = true := c1884
                    refine wpRwI 95 kr c1884 ?_
                    refine wpRwI 96 kr c1884 ?_
                    refine wpRwI 97 kr c1884 ?_
                    refine condT kr ?_
                    refine wp_seq_k fun K1885 hK1886 => rl ?_
                    refine seqL1 kr ?_
                    refine nl (hK1886 _ _ ?_)
                    refine wp_ret ?_
                    refine hr1825 _ _ ?_
                    refine hr1801 _ _ ?_
                    refine hret _ _ ?_
                    refine ends_still (v := Value.bool false) kr kr ?_
                    have HS2014 := HS1876.drop
                    have HS2015 := HS2014.drop
                    have HS2016 := HS2015.drop
                    have HS2017 := HS2016.drop
                    have HS2018 := HS2017.drop
                    have HS2019 := HS2018.drop
                    have HS2020 := HS2019.drop
                    have HS2021 := HS2020.drop
                    have HS2022 := HS2021.drop
                    have HS2023 := HS2022.drop
                    have HS2024 := HS2023.drop
                    have HS2025 := HS2024.drop
                    replace h := JR1894 _ h
                    injection h with h
                    subst h
                    exact ⟨f1868, rfl, (L19.trans (L252.trans (L1712.trans (L1745.trans (L1760.trans (L1788.trans (L1809.trans L1869))))))), HS2025⟩
                  · have c1884 : ¬ ((!((vt1858.Key.toList == ((rd vt15.Cards x1813).Key).toList) && ((vt1858.Value.toList == ((rd vt15.Cards x1813).Value).toList) && ((vt1858.Unit.toList == ((rd vt15.Cards x1813).Unit).toList) && ((vt1858.Note.toList == ((rd vt15.Cards x1813).Note).toList) && true))))) = true) := c1884
                    refine wpRwI 95 kr (Bool.eq_false_iff.mpr c1884) ?_
                    refine wpRwI 96 kr (Bool.eq_false_iff.mpr c1884) ?_
                    refine wpRwI 97 kr (Bool.eq_false_iff.mpr c1884) ?_
                    refine condF kr ?_
                    refine wp_skip ?_
                    refine hn1824 _ _ ?_
                    refine hK1821 _ _ ?_
                    refine rl ?_
                    refine seqL2 kr ?_
                    refine nl ?_
                    refine hK1806 n1807 _ _ (Nat.lt_succ_self _) ?_
                    have HS1907 := HS1876.u11.u11.u11.u11.u11.u11.u11.u8.u11.u10.u11.u11
                    have HS1908 := HS1907.drop
                    have HS1909 := HS1908.drop
                    exact ⟨f1868, (w64 (x1813 + 1)), (jL [(j1812 0), .pointer (some ⟨b1838, 0, none⟩), .pointer (some ⟨b1871, 0, none⟩), .bool vt1859, tV, .pointer (some ⟨b1835, of1836 + (x1813 : Int).toNat * 4, none⟩), (ag_Card (rd vt15.Cards x1813)), .tuple #[(ag_Card vt1858), .bool vt1859], (ag_Frame vt1694 A1701 c1702 A1706 c1707), .pointer (some ⟨b1838, 0, none⟩), .string ((rd vt15.Cards x1813).Key), .tuple #[(ag_Card vt1858), .bool vt1859], (ag_Card vt1858), .bool vt1859, .pointer (some ⟨b1838, 0, none⟩), .string ((rd vt15.Cards x1813).Key), .pointer (some ⟨b235, 0, none⟩), .string (rd ([Z27, Z29, Z28, Z32] : List ByteArray) vt46), tV, tV, .bool vt1859, fV, fV, (ag_Card vt1858), (ag_Card (rd vt15.Cards x1813)), fV, fV, fV, iV (w64 (x1813 + 1))]), (L1809.trans L1869), HS1909, h, kr⟩
              · have c1879 : ¬ ((!(((rd vt15.Cards x1813).Key).toList == (rd ([Z27, Z29, Z28, Z32] : List ByteArray) vt46).toList)) = true) := c1879
                refine seqRwI 88 kr (Bool.eq_false_iff.mpr c1879) ?_
                refine seqRwI 89 kr (Bool.eq_false_iff.mpr c1879) ?_
                refine seqL8 kr ?_
                refine nl (hK1878 _ _ ?_)
                refine condF kr ?_
                refine wp_skip ?_
                refine hn1824 _ _ ?_
                refine hK1821 _ _ ?_
                refine rl ?_
                refine seqL2 kr ?_
                refine nl ?_
                refine hK1806 n1807 _ _ (Nat.lt_succ_self _) ?_
                have HS1921 := HS1876.u11.u11.u11.u11.u11.u11.u11.u8.u11.u10.u11.u11
                have HS1922 := HS1921.drop
                have HS1923 := HS1922.drop
                exact ⟨f1868, (w64 (x1813 + 1)), (jL [(j1812 0), .pointer (some ⟨b1838, 0, none⟩), .pointer (some ⟨b1871, 0, none⟩), .bool vt1859, tV, .pointer (some ⟨b1835, of1836 + (x1813 : Int).toNat * 4, none⟩), (ag_Card (rd vt15.Cards x1813)), .tuple #[(ag_Card vt1858), .bool vt1859], (ag_Frame vt1694 A1701 c1702 A1706 c1707), .pointer (some ⟨b1838, 0, none⟩), .string ((rd vt15.Cards x1813).Key), .tuple #[(ag_Card vt1858), .bool vt1859], (ag_Card vt1858), .bool vt1859, .pointer (some ⟨b1838, 0, none⟩), .string ((rd vt15.Cards x1813).Key), .pointer (some ⟨b235, 0, none⟩), .string (rd ([Z27, Z29, Z28, Z32] : List ByteArray) vt46), fV, fV, uV, uV, uV, uV, uV, uV, uV, fV, iV (w64 (x1813 + 1))]), (L1809.trans L1869), HS1923, h, kr⟩
            · have c1819 : ¬ (x1813 < (vt15.Cards.length : Int)) := c1819
              refine wpRwI 74 kr (decide_eq_false c1819) ?_
              refine condF kr ?_
              refine wp_exit ?_
              refine hx1799 _ _ ?_
              exact J1893 f1808 (jL [(j1812 0), (j1812 1), (j1812 2), (j1812 3), iV x1813, fV, (j1812 5), (j1812 6), (j1812 7), (j1812 8), (j1812 9), (j1812 10), (j1812 11), (j1812 12), (j1812 13), (j1812 14), (j1812 15), (j1812 16), (j1812 17), (j1812 18), (j1812 19), (j1812 20), (j1812 21), (j1812 22), (j1812 23), (j1812 24), (j1812 25), (j1812 26), (j1812 27), (j1812 28)]) W1810 _ L1809 h HS1811 kr
 have J248 : ∀ (b146 : Nat) (s148 : Seg) (b189 : Nat) (s191 : Seg) (b235 : Nat) (f239 : FM) (W241 : World) (a_ : Act), FM.le f18 f239 → Own tStr 9 f239 (some ⟨b146, 0, none⟩) 4 s148 ([Z27, Z29, Z28, Z32] : List ByteArray) → Own tStr 9 f239 (some ⟨b189, 0, none⟩) 3 s191 ([Z40, Z20, Z34] : List ByteArray) → St t W241 f239 ([(b235, .cells #[.string ⟨#[]⟩, .string ⟨#[]⟩, .string ⟨#[]⟩, .string ⟨#[]⟩] 51 (0, 0))] :: s191 :: s148 :: [(b30, .cells #[.int .i64 vt15.W, .int .i64 vt15.H, .slice A22 vt15.Cards.length c23, .slice A27 vt15.Counts.length c28] 29 (0, 0))] :: s24 :: [(b11, .cells #[.slice A2 l1.length c3, .int .i64 vt16] 33 (0, 0))] :: H) → a_ = ⟨#[.slice A2 l1.length c3, iV vk5, iV value6, uV, uV, uV, fV, pV b30 0, pV b235 0, uV, uV, uV, uV, uV, uV, uV, uV, uV, uV, .slice A2 l1.length c3, .agg #[.slice A2 l1.length c3, iV 0], pV b11 0, (ag_Frame vt15 A22 c23 A27 c28), .slice (some ⟨b146, 0, none⟩) ([Z27, Z29, Z28, Z32] : List ByteArray).length 4, iV vk5, iV vt46, pV b146 (0 + (vt46 : Int).toNat * 1), .string (rd ([Z27, Z29, Z28, Z32] : List ByteArray) vt46), .slice (some ⟨b189, 0, none⟩) ([Z40, Z20, Z34] : List ByteArray).length 3, iV value6, iV vt83, pV b189 (0 + (vt83 : Int).toNat * 1), .string (rd ([Z40, Z20, Z34] : List ByteArray) vt83), .agg #[.string (rd ([Z27, Z29, Z28, Z32] : List ByteArray) vt46), .string (rd ([Z40, Z20, Z34] : List ByteArray) vt83), .string ⟨#[]⟩, .string ⟨#[]⟩], uV, uV, uV, uV, uV, uV, uV, uV, uV, uV, uV, uV, uV, uV, uV, uV, uV, uV, uV, uV, uV, uV, uV, uV, uV, uV, uV, uV, uV, uV, uV, uV, uV, uV, uV, uV, uV, uV, uV, uV, uV, uV, uV, uV, uV, uV, uV, uV, uV, uV, uV, uV, uV, uV, uV, uV, uV, uV, uV, uV, uV, uV, uV, uV, uV, uV, uV, uV, uV, uV, uV, uV, uV, uV, uV, uV, uV, uV, uV, uV, uV, uV, uV, uV, uV, uV, uV, uV, uV, uV, uV, uV, uV, uV, uV, uV], []⟩ → R245 a_ W241 := by
  intro b146 s148 b189 s191 b235 f239 W241 a_ L240 HO243 HO244 HS242 hfr_; subst hfr_
  refine hR246 _ _ ?_
  refine takeGE 12 kr rfl (wanted_none rfl _) ?_
  refine does_storeA (vs := [.string (rd ([Z27, Z29, Z28, Z32] : List ByteArray) vt46), .string (rd ([Z40, Z20, Z34] : List ByteArray) vt83), .string ⟨#[]⟩, .string ⟨#[]⟩]) rfl kr kr kr rfl (ones rfl) HS242 kr ?_
  intro W1040 HS1041
  refine ⟨(Sg.g0 (Sx.of [[(b235, .cells #[.string (rd ([Z27, Z29, Z28, Z32] : List ByteArray) vt46), .string (rd ([Z40, Z20, Z34] : List ByteArray) vt83), .string ⟨#[]⟩, .string ⟨#[]⟩] 51 (0, 0))], s191, s148] L240 HS1041)), ?_⟩
  refine hR259 _ _ ?_
  exact J260 b146 s148 b189 s191 b235 f239 W1040 _ L240 HO243 HO244 HS1041 kr
 have J234 : ∀ (b146 : Nat) (s148 : Seg) (b189 : Nat) (s191 : Seg) (f225 : FM) (W227 : World) (a_ : Act), FM.le f18 f225 → Own tStr 9 f225 (some ⟨b146, 0, none⟩) 4 s148 ([Z27, Z29, Z28, Z32] : List ByteArray) → Own tStr 9 f225 (some ⟨b189, 0, none⟩) 3 s191 ([Z40, Z20, Z34] : List ByteArray) → St t W227 f225 (s191 :: s148 :: [(b30, .cells #[.int .i64 vt15.W, .int .i64 vt15.H, .slice A22 vt15.Cards.length c23, .slice A27 vt15.Counts.length c28] 29 (0, 0))] :: s24 :: [(b11, .cells #[.slice A2 l1.length c3, .int .i64 vt16] 33 (0, 0))] :: H) → a_ = ⟨#[.slice A2 l1.length c3, iV vk5, iV value6, uV, uV, uV, fV, pV b30 0, uV, uV, uV, uV, uV, uV, uV, uV, uV, uV, uV, .slice A2 l1.length c3, .agg #[.slice A2 l1.length c3, iV 0], pV b11 0, (ag_Frame vt15 A22 c23 A27 c28), .slice (some ⟨b146, 0, none⟩) ([Z27, Z29, Z28, Z32] : List ByteArray).length 4, iV vk5, iV vt46, pV b146 (0 + (vt46 : Int).toNat * 1), .string (rd ([Z27, Z29, Z28, Z32] : List ByteArray) vt46), .slice (some ⟨b189, 0, none⟩) ([Z40, Z20, Z34] : List ByteArray).length 3, iV value6, iV vt83, pV b189 (0 + (vt83 : Int).toNat * 1), .string (rd ([Z40, Z20, Z34] : List ByteArray) vt83), .agg #[.string (rd ([Z27, Z29, Z28, Z32] : List ByteArray) vt46), .string (rd ([Z40, Z20, Z34] : List ByteArray) vt83), .string ⟨#[]⟩, .string ⟨#[]⟩], uV, uV, uV, uV, uV, uV, uV, uV, uV, uV, uV, uV, uV, uV, uV, uV, uV, uV, uV, uV, uV, uV, uV, uV, uV, uV, uV, uV, uV, uV, uV, uV, uV, uV, uV, uV, uV, uV, uV, uV, uV, uV, uV, uV, uV, uV, uV, uV, uV, uV, uV, uV, uV, uV, uV, uV, uV, uV, uV, uV, uV, uV, uV, uV, uV, uV, uV, uV, uV, uV, uV, uV, uV, uV, uV, uV, uV, uV, uV, uV, uV, uV, uV, uV, uV, uV, uV, uV, uV, uV, uV, uV, uV, uV, uV, uV], []⟩ → R231 a_ W227 := by
  intro b146 s148 b189 s191 f225 W227 a_ L226 HO229 HO230 HS228 hfr_; subst hfr_
  refine hR232 _ _ ?_
  refine takeGE 11 kr rfl (wanted_none rfl _) ?_
  refine does_alloc (z := Value.agg #[.string ⟨#[]⟩, .string ⟨#[]⟩, .string ⟨#[]⟩, .string ⟨#[]⟩]) (cs := #[.string ⟨#[]⟩, .string ⟨#[]⟩, .string ⟨#[]⟩, .string ⟨#[]⟩]) rfl kr rfl HS228 ?_
  intro b1042 W1043 HS1044
  refine ⟨(Sg.g0 (Sx.of [[(b1042, .cells #[.string ⟨#[]⟩, .string ⟨#[]⟩, .string ⟨#[]⟩, .string ⟨#[]⟩] 51 (0, 0))], s191, s148] L226 HS1044)), ?_⟩
  refine hR247 _ _ ?_
  exact J248 b146 s148 b189 s191 b1042 f225 W1043 _ L226 HO229 HO230 HS1044 kr
 have J277 : ∀ (b146 : Nat) (s148 : Seg) (b189 : Nat) (s191 : Seg) (b261 : Nat) (f268 : FM) (W270 : World) (a_ : Act), FM.le f18 f268 → Own tStr 9 f268 (some ⟨b146, 0, none⟩) 4 s148 ([Z27, Z29, Z28, Z32] : List ByteArray) → Own tStr 9 f268 (some ⟨b189, 0, none⟩) 3 s191 ([Z40, Z20, Z34] : List ByteArray) → St t W270 f268 ([(b261, .cells #[.string ⟨#[]⟩, .string ⟨#[]⟩, .string ⟨#[]⟩, .string ⟨#[]⟩] 51 (0, 0))] :: s191 :: s148 :: [(b30, .cells #[.int .i64 vt15.W, .int .i64 vt15.H, .slice A22 vt15.Cards.length c23, .slice A27 vt15.Counts.length c28] 29 (0, 0))] :: s24 :: [(b11, .cells #[.slice A2 l1.length c3, .int .i64 vt16] 33 (0, 0))] :: H) → a_ = ⟨#[.slice A2 l1.length c3, iV vk5, iV value6, uV, uV, uV, fV, pV b30 0, pV b261 0, uV, uV, uV, uV, uV, uV, uV, uV, uV, uV, .slice A2 l1.length c3, .agg #[.slice A2 l1.length c3, iV 0], pV b11 0, (ag_Frame vt15 A22 c23 A27 c28), .slice (some ⟨b146, 0, none⟩) ([Z27, Z29, Z28, Z32] : List ByteArray).length 4, iV vk5, iV vt46, pV b146 (0 + (vt46 : Int).toNat * 1), .string (rd ([Z27, Z29, Z28, Z32] : List ByteArray) vt46), .slice (some ⟨b189, 0, none⟩) ([Z40, Z20, Z34] : List ByteArray).length 3, iV value6, iV vt83, pV b189 (0 + (vt83 : Int).toNat * 1), uV, uV, uV, uV, uV, uV, uV, uV, uV, uV, uV, uV, uV, uV, uV, uV, uV, uV, uV, uV, uV, uV, uV, uV, uV, uV, uV, uV, uV, uV, uV, uV, uV, uV, uV, uV, uV, uV, uV, uV, uV, uV, uV, uV, uV, uV, uV, uV, uV, uV, uV, uV, uV, uV, uV, uV, uV, uV, uV, uV, uV, uV, uV, uV, uV, uV, uV, uV, uV, uV, uV, uV, uV, uV, uV, uV, uV, uV, uV, uV, uV, uV, uV, uV, uV, uV, uV, uV, uV, uV, uV, uV, uV, uV, uV, uV, uV, uV], []⟩ → R274 a_ W270 := by
  intro b146 s148 b189 s191 b261 f268 W270 a_ L269 HO272 HO273 HS271 hfr_; subst hfr_
  refine hR275 _ _ ?_
  refine takeGE 9 kr rfl (wanted_none rfl _) ?_
  obtain ⟨cs1046, hr1047, hc1048⟩ := HO273.at' (i := vt83) c89 c113
  obtain rfl := hr1047
  refine does_run (run_load rfl Tryz.underlying9 rfl (kv (.pointer (some ⟨b189, 0 + (vt83 : Int).toNat * 1, none⟩))) ((hc1048 HS271.u1) 0 (by decide))) ?_
  refine ⟨(Sg.g0 (Sx.of [[(b261, .cells #[.string ⟨#[]⟩, .string ⟨#[]⟩, .string ⟨#[]⟩, .string ⟨#[]⟩] 51 (0, 0))], s191, s148] L269 HS271)), ?_⟩
  refine takeGL [10] (n := 2) (fuel := 1) #[true, true, true, true, true, true, true, true, true, true, true, true, false] rfl kr kr kr hnp (Sg.g0 (Sx.of [[(b261, .cells #[.string ⟨#[]⟩, .string ⟨#[]⟩, .string ⟨#[]⟩, .string ⟨#[]⟩] 51 (0, 0))], s191, s148] L269 HS271)) ?_
  refine hR247 _ _ ?_
  exact J248 b146 s148 b189 s191 b261 f268 W270 _ L269 HO272 HO273 HS271 kr
 have J455 : ∀ (b146 : Nat) (s148 : Seg) (b369 : Nat) (s371 : Seg) (b439 : Nat) (f446 : FM) (W448 : World) (a_ : Act), FM.le f18 f446 → Own tStr 9 f446 (some ⟨b146, 0, none⟩) 4 s148 ([Z27, Z29, Z28, Z32] : List ByteArray) → Own tStr 9 f446 (some ⟨b369, 0, none⟩) 3 s371 ([Z40, Z20, Z34] : List ByteArray) → St t W448 f446 ([(b439, .cells #[.string ⟨#[]⟩, .string ⟨#[]⟩, .string ⟨#[]⟩, .string ⟨#[]⟩] 51 (0, 0))] :: s371 :: s148 :: [(b30, .cells #[.int .i64 vt15.W, .int .i64 vt15.H, .slice A22 vt15.Cards.length c23, .slice A27 vt15.Counts.length c28] 29 (0, 0))] :: s24 :: [(b11, .cells #[.slice A2 l1.length c3, .int .i64 vt16] 33 (0, 0))] :: H) → a_ = ⟨#[.slice A2 l1.length c3, iV vk5, iV value6, uV, uV, uV, fV, pV b30 0, pV b439 0, uV, uV, uV, uV, uV, uV, uV, uV, uV, uV, .slice A2 l1.length c3, .agg #[.slice A2 l1.length c3, iV 0], pV b11 0, (ag_Frame vt15 A22 c23 A27 c28), .slice (some ⟨b146, 0, none⟩) ([Z27, Z29, Z28, Z32] : List ByteArray).length 4, iV vk5, iV vt46, pV b146 (0 + (vt46 : Int).toNat * 1), uV, .slice (some ⟨b369, 0, none⟩) ([Z40, Z20, Z34] : List ByteArray).length 3, iV value6, iV vt83, pV b369 (0 + (vt83 : Int).toNat * 1), .string (rd ([Z40, Z20, Z34] : List ByteArray) vt83), uV, uV, uV, uV, uV, uV, uV, uV, uV, uV, uV, uV, uV, uV, uV, uV, uV, uV, uV, uV, uV, uV, uV, uV, uV, uV, uV, uV, uV, uV, uV, uV, uV, uV, uV, uV, uV, uV, uV, uV, uV, uV, uV, uV, uV, uV, uV, uV, uV, uV, uV, uV, uV, uV, uV, uV, uV, uV, uV, uV, uV, uV, uV, uV, uV, uV, uV, uV, uV, uV, uV, uV, uV, uV, uV, uV, uV, uV, uV, uV, uV, uV, uV, uV, uV, uV, uV, uV, uV, uV, uV, uV, uV, uV, uV, uV, uV], []⟩ → R452 a_ W448 := by
  intro b146 s148 b369 s371 b439 f446 W448 a_ L447 HO450 HO451 HS449 hfr_; subst hfr_
  refine hR453 _ _ ?_
  refine takeGE 4 kr rfl (wanted_none rfl _) ?_
  obtain ⟨cs1049, hr1050, hc1051⟩ := HO450.at' (i := vt46) c52 c63
  obtain rfl := hr1050
  refine does_run (run_load rfl Tryz.underlying9 rfl (kv (.pointer (some ⟨b146, 0 + (vt46 : Int).toNat * 1, none⟩))) ((hc1051 HS449.u2) 0 (by decide))) ?_
  refine ⟨(Sg.g0 (Sx.of [[(b439, .cells #[.string ⟨#[]⟩, .string ⟨#[]⟩, .string ⟨#[]⟩, .string ⟨#[]⟩] 51 (0, 0))], s371, s148] L447 HS449)), ?_⟩
  refine takeGL [10] (n := 2) (fuel := 1) #[true, true, true, true, true, true, true, true, true, true, true, true, false] rfl kr kr kr hnp (Sg.g0 (Sx.of [[(b439, .cells #[.string ⟨#[]⟩, .string ⟨#[]⟩, .string ⟨#[]⟩, .string ⟨#[]⟩] 51 (0, 0))], s371, s148] L447 HS449)) ?_
  refine hR247 _ _ ?_
  exact J248 b146 s148 b369 s371 b439 f446 W448 _ L447 HO450 HO451 HS449 kr
 have J221 : ∀ (b146 : Nat) (s148 : Seg) (b189 : Nat) (s191 : Seg) (f212 : FM) (W214 : World) (a_ : Act), FM.le f18 f212 → Own tStr 9 f212 (some ⟨b146, 0, none⟩) 4 s148 ([Z27, Z29, Z28, Z32] : List ByteArray) → Own tStr 9 f212 (some ⟨b189, 0, none⟩) 3 s191 ([Z40, Z20, Z34] : List ByteArray) → St t W214 f212 (s191 :: s148 :: [(b30, .cells #[.int .i64 vt15.W, .int .i64 vt15.H, .slice A22 vt15.Cards.length c23, .slice A27 vt15.Counts.length c28] 29 (0, 0))] :: s24 :: [(b11, .cells #[.slice A2 l1.length c3, .int .i64 vt16] 33 (0, 0))] :: H) → a_ = ⟨#[.slice A2 l1.length c3, iV vk5, iV value6, uV, uV, uV, fV, pV b30 0, uV, uV, uV, uV, uV, uV, uV, uV, uV, uV, uV, .slice A2 l1.length c3, .agg #[.slice A2 l1.length c3, iV 0], pV b11 0, (ag_Frame vt15 A22 c23 A27 c28), .slice (some ⟨b146, 0, none⟩) ([Z27, Z29, Z28, Z32] : List ByteArray).length 4, iV vk5, iV vt46, pV b146 (0 + (vt46 : Int).toNat * 1), .string (rd ([Z27, Z29, Z28, Z32] : List ByteArray) vt46), .slice (some ⟨b189, 0, none⟩) ([Z40, Z20, Z34] : List ByteArray).length 3, iV value6, iV vt83, pV b189 (0 + (vt83 : Int).toNat * 1), uV, uV, uV, uV, uV, uV, uV, uV, uV, uV, uV, uV, uV, uV, uV, uV, uV, uV, uV, uV, uV, uV, uV, uV, uV, uV, uV, uV, uV, uV, uV, uV, uV, uV, uV, uV, uV, uV, uV, uV, uV, uV, uV, uV, uV, uV, uV, uV, uV, uV, uV, uV, uV, uV, uV, uV, uV, uV, uV, uV, uV, uV, uV, uV, uV, uV, uV, uV, uV, uV, uV, uV, uV, uV, uV, uV, uV, uV, uV, uV, uV, uV, uV, uV, uV, uV, uV, uV, uV, uV, uV, uV, uV, uV, uV, uV, uV, uV], []⟩ → R218 a_ W214 := by
  intro b146 s148 b189 s191 f212 W214 a_ L213 HO216 HO217 HS215 hfr_; subst hfr_
  refine hR219 _ _ ?_
  refine takeEither 9 11 kr rfl rfl rfl rfl ?_ ?_
  · obtain ⟨cs1052, hr1053, hc1054⟩ := HO217.at' (i := vt83) c89 c113
    obtain rfl := hr1053
    refine does_run (run_load rfl Tryz.underlying9 rfl (kv (.pointer (some ⟨b189, 0 + (vt83 : Int).toNat * 1, none⟩))) ((hc1054 HS215) 0 (by decide))) ?_
    refine ⟨(Sg.g0 (Sx.of [s191, s148] L213 HS215)), ?_⟩
    refine takeGL [10] (n := 3) (fuel := 2) #[true, true, true, true, true, true, true, true, true, true, true, false, false] rfl kr kr kr hnp (Sg.g0 (Sx.of [s191, s148] L213 HS215)) ?_
    refine hR233 _ _ ?_
    exact J234 b146 s148 b189 s191 f212 W214 _ L213 HO216 HO217 HS215 kr
  · refine does_alloc (z := Value.agg #[.string ⟨#[]⟩, .string ⟨#[]⟩, .string ⟨#[]⟩, .string ⟨#[]⟩]) (cs := #[.string ⟨#[]⟩, .string ⟨#[]⟩, .string ⟨#[]⟩, .string ⟨#[]⟩]) rfl kr rfl HS215 ?_
    intro b1055 W1056 HS1057
    refine ⟨(Sg.g0 (Sx.of [[(b1055, .cells #[.string ⟨#[]⟩, .string ⟨#[]⟩, .string ⟨#[]⟩, .string ⟨#[]⟩] 51 (0, 0))], s191, s148] L213 HS1057)), ?_⟩
    obtain ⟨cs1059, hr1060, hc1061⟩ := HO217.at' (i := vt83) c89 c113
    obtain rfl := hr1060
    refine hR276 _ _ ?_
    exact J277 b146 s148 b189 s191 b1055 f212 W1056 _ L213 HO216 HO217 HS1057 kr
 have J435 : ∀ (b146 : Nat) (s148 : Seg) (b369 : Nat) (s371 : Seg) (f426 : FM) (W428 : World) (a_ : Act), FM.le f18 f426 → Own tStr 9 f426 (some ⟨b146, 0, none⟩) 4 s148 ([Z27, Z29, Z28, Z32] : List ByteArray) → Own tStr 9 f426 (some ⟨b369, 0, none⟩) 3 s371 ([Z40, Z20, Z34] : List ByteArray) → St t W428 f426 (s371 :: s148 :: [(b30, .cells #[.int .i64 vt15.W, .int .i64 vt15.H, .slice A22 vt15.Cards.length c23, .slice A27 vt15.Counts.length c28] 29 (0, 0))] :: s24 :: [(b11, .cells #[.slice A2 l1.length c3, .int .i64 vt16] 33 (0, 0))] :: H) → a_ = ⟨#[.slice A2 l1.length c3, iV vk5, iV value6, uV, uV, uV, fV, pV b30 0, uV, uV, uV, uV, uV, uV, uV, uV, uV, uV, uV, .slice A2 l1.length c3, .agg #[.slice A2 l1.length c3, iV 0], pV b11 0, (ag_Frame vt15 A22 c23 A27 c28), .slice (some ⟨b146, 0, none⟩) ([Z27, Z29, Z28, Z32] : List ByteArray).length 4, iV vk5, iV vt46, pV b146 (0 + (vt46 : Int).toNat * 1), uV, .slice (some ⟨b369, 0, none⟩) ([Z40, Z20, Z34] : List ByteArray).length 3, iV value6, iV vt83, pV b369 (0 + (vt83 : Int).toNat * 1), .string (rd ([Z40, Z20, Z34] : List ByteArray) vt83), uV, uV, uV, uV, uV, uV, uV, uV, uV, uV, uV, uV, uV, uV, uV, uV, uV, uV, uV, uV, uV, uV, uV, uV, uV, uV, uV, uV, uV, uV, uV, uV, uV, uV, uV, uV, uV, uV, uV, uV, uV, uV, uV, uV, uV, uV, uV, uV, uV, uV, uV, uV, uV, uV, uV, uV, uV, uV, uV, uV, uV, uV, uV, uV, uV, uV, uV, uV, uV, uV, uV, uV, uV, uV, uV, uV, uV, uV, uV, uV, uV, uV, uV, uV, uV, uV, uV, uV, uV, uV, uV, uV, uV, uV, uV, uV, uV], []⟩ → R432 a_ W428 := by
  intro b146 s148 b369 s371 f426 W428 a_ L427 HO430 HO431 HS429 hfr_; subst hfr_
  refine hR433 _ _ ?_
  refine takeEither 4 11 kr rfl rfl rfl rfl ?_ ?_
  · obtain ⟨cs1062, hr1063, hc1064⟩ := HO430.at' (i := vt46) c52 c63
    obtain rfl := hr1063
    refine does_run (run_load rfl Tryz.underlying9 rfl (kv (.pointer (some ⟨b146, 0 + (vt46 : Int).toNat * 1, none⟩))) ((hc1064 HS429.u1) 0 (by decide))) ?_
    refine ⟨(Sg.g0 (Sx.of [s371, s148] L427 HS429)), ?_⟩
    refine takeGL [10] (n := 3) (fuel := 2) #[true, true, true, true, true, true, true, true, true, true, true, false, false] rfl kr kr kr hnp (Sg.g0 (Sx.of [s371, s148] L427 HS429)) ?_
    refine hR233 _ _ ?_
    exact J234 b146 s148 b369 s371 f426 W428 _ L427 HO430 HO431 HS429 kr
  · refine does_alloc (z := Value.agg #[.string ⟨#[]⟩, .string ⟨#[]⟩, .string ⟨#[]⟩, .string ⟨#[]⟩]) (cs := #[.string ⟨#[]⟩, .string ⟨#[]⟩, .string ⟨#[]⟩, .string ⟨#[]⟩]) rfl kr rfl HS429 ?_
    intro b1065 W1066 HS1067
    refine ⟨(Sg.g0 (Sx.of [[(b1065, .cells #[.string ⟨#[]⟩, .string ⟨#[]⟩, .string ⟨#[]⟩, .string ⟨#[]⟩] 51 (0, 0))], s371, s148] L427 HS1067)), ?_⟩
    obtain ⟨cs1069, hr1070, hc1071⟩ := HO430.at' (i := vt46) c52 c63
    obtain rfl := hr1070
    refine hR454 _ _ ?_
    exact J455 b146 s148 b369 s371 b1065 f426 W1066 _ L427 HO430 HO431 HS1067 kr
 have J478 : ∀ (b146 : Nat) (s148 : Seg) (b369 : Nat) (s371 : Seg) (b459 : Nat) (f469 : FM) (W471 : World) (a_ : Act), FM.le f18 f469 → Own tStr 9 f469 (some ⟨b146, 0, none⟩) 4 s148 ([Z27, Z29, Z28, Z32] : List ByteArray) → Own tStr 9 f469 (some ⟨b369, 0, none⟩) 3 s371 ([Z40, Z20, Z34] : List ByteArray) → St t W471 f469 ([(b459, .cells #[.string ⟨#[]⟩, .string ⟨#[]⟩, .string ⟨#[]⟩, .string ⟨#[]⟩] 51 (0, 0))] :: s371 :: s148 :: [(b30, .cells #[.int .i64 vt15.W, .int .i64 vt15.H, .slice A22 vt15.Cards.length c23, .slice A27 vt15.Counts.length c28] 29 (0, 0))] :: s24 :: [(b11, .cells #[.slice A2 l1.length c3, .int .i64 vt16] 33 (0, 0))] :: H) → a_ = ⟨#[.slice A2 l1.length c3, iV vk5, iV value6, uV, uV, uV, fV, pV b30 0, pV b459 0, uV, uV, uV, uV, uV, uV, uV, uV, uV, uV, .slice A2 l1.length c3, .agg #[.slice A2 l1.length c3, iV 0], pV b11 0, (ag_Frame vt15 A22 c23 A27 c28), .slice (some ⟨b146, 0, none⟩) ([Z27, Z29, Z28, Z32] : List ByteArray).length 4, iV vk5, iV vt46, pV b146 (0 + (vt46 : Int).toNat * 1), uV, .slice (some ⟨b369, 0, none⟩) ([Z40, Z20, Z34] : List ByteArray).length 3, iV value6, iV vt83, pV b369 (0 + (vt83 : Int).toNat * 1), uV, uV, uV, uV, uV, uV, uV, uV, uV, uV, uV, uV, uV, uV, uV, uV, uV, uV, uV, uV, uV, uV, uV, uV, uV, uV, uV, uV, uV, uV, uV, uV, uV, uV, uV, uV, uV, uV, uV, uV, uV, uV, uV, uV, uV, uV, uV, uV, uV, uV, uV, uV, uV, uV, uV, uV, uV, uV, uV, uV, uV, uV, uV, uV, uV, uV, uV, uV, uV, uV, uV, uV, uV, uV, uV, uV, uV, uV, uV, uV, uV, uV, uV, uV, uV, uV, uV, uV, uV, uV, uV, uV, uV, uV, uV, uV, uV, uV], []⟩ → R475 a_ W471 := by
  intro b146 s148 b369 s371 b459 f469 W471 a_ L470 HO473 HO474 HS472 hfr_; subst hfr_
  refine hR476 _ _ ?_
  refine takeEither 4 9 kr rfl rfl rfl rfl ?_ ?_
  · obtain ⟨cs1072, hr1073, hc1074⟩ := HO473.at' (i := vt46) c52 c63
    obtain rfl := hr1073
    refine does_run (run_load rfl Tryz.underlying9 rfl (kv (.pointer (some ⟨b146, 0 + (vt46 : Int).toNat * 1, none⟩))) ((hc1074 HS472.u2) 0 (by decide))) ?_
    refine ⟨(Sg.g0 (Sx.of [[(b459, .cells #[.string ⟨#[]⟩, .string ⟨#[]⟩, .string ⟨#[]⟩, .string ⟨#[]⟩] 51 (0, 0))], s371, s148] L470 HS472)), ?_⟩
    obtain ⟨cs1075, hr1076, hc1077⟩ := HO474.at' (i := vt83) c89 c113
    obtain rfl := hr1076
    refine hR276 _ _ ?_
    exact J277 b146 s148 b369 s371 b459 f469 W471 _ L470 HO473 HO474 HS472 kr
  · obtain ⟨cs1078, hr1079, hc1080⟩ := HO474.at' (i := vt83) c89 c113
    obtain rfl := hr1079
    refine does_run (run_load rfl Tryz.underlying9 rfl (kv (.pointer (some ⟨b369, 0 + (vt83 : Int).toNat * 1, none⟩))) ((hc1080 HS472.u1) 0 (by decide))) ?_
    refine ⟨(Sg.g0 (Sx.of [[(b459, .cells #[.string ⟨#[]⟩, .string ⟨#[]⟩, .string ⟨#[]⟩, .string ⟨#[]⟩] 51 (0, 0))], s371, s148] L470 HS472)), ?_⟩
    obtain ⟨cs1081, hr1082, hc1083⟩ := HO473.at' (i := vt46) c52 c63
    obtain rfl := hr1082
    refine hR454 _ _ ?_
    exact J455 b146 s148 b369 s371 b459 f469 W471 _ L470 HO473 HO474 HS472 kr
 have J294 : ∀ (b146 : Nat) (s148 : Seg) (b189 : Nat) (s191 : Seg) (b281 : Nat) (f285 : FM) (W287 : World) (a_ : Act), FM.le f18 f285 → Own tStr 9 f285 (some ⟨b146, 0, none⟩) 4 s148 ([Z27, Z29, Z28, Z32] : List ByteArray) → Own tStr 9 f285 (some ⟨b189, 0, none⟩) 3 s191 ([Z40, Z20, Z34] : List ByteArray) → St t W287 f285 ([(b281, .cells #[.string ⟨#[]⟩, .string ⟨#[]⟩, .string ⟨#[]⟩, .string ⟨#[]⟩] 51 (0, 0))] :: s191 :: s148 :: [(b30, .cells #[.int .i64 vt15.W, .int .i64 vt15.H, .slice A22 vt15.Cards.length c23, .slice A27 vt15.Counts.length c28] 29 (0, 0))] :: s24 :: [(b11, .cells #[.slice A2 l1.length c3, .int .i64 vt16] 33 (0, 0))] :: H) → a_ = ⟨#[.slice A2 l1.length c3, iV vk5, iV value6, uV, uV, uV, fV, pV b30 0, pV b281 0, uV, uV, uV, uV, uV, uV, uV, uV, uV, uV, .slice A2 l1.length c3, .agg #[.slice A2 l1.length c3, iV 0], pV b11 0, (ag_Frame vt15 A22 c23 A27 c28), .slice (some ⟨b146, 0, none⟩) ([Z27, Z29, Z28, Z32] : List ByteArray).length 4, iV vk5, iV vt46, pV b146 (0 + (vt46 : Int).toNat * 1), .string (rd ([Z27, Z29, Z28, Z32] : List ByteArray) vt46), .slice (some ⟨b189, 0, none⟩) ([Z40, Z20, Z34] : List ByteArray).length 3, iV value6, uV, uV, uV, uV, uV, uV, uV, uV, uV, uV, uV, uV, uV, uV, uV, uV, uV, uV, uV, uV, uV, uV, uV, uV, uV, uV, uV, uV, uV, uV, uV, uV, uV, uV, uV, uV, uV, uV, uV, uV, uV, uV, uV, uV, uV, uV, uV, uV, uV, uV, uV, uV, uV, uV, uV, uV, uV, uV, uV, uV, uV, uV, uV, uV, uV, uV, uV, uV, uV, uV, uV, uV, uV, uV, uV, uV, uV, uV, uV, uV, uV, uV, uV, uV, uV, uV, uV, uV, uV, uV, uV, uV, uV, uV, uV, uV, uV, uV, uV, uV], []⟩ → R291 a_ W287 := by
  intro b146 s148 b189 s191 b281 f285 W287 a_ L286 HO289 HO290 HS288 hfr_; subst hfr_
  refine hR292 _ _ ?_
  refine takeGE 7 kr rfl (wanted_none rfl _) ?_
  refine does_call (f := 10) (args := #[.int .i64 value6, .int .i64 3]) kr (spymake_Below.calls k value6 3 HS288 vt83 hc84) ?_
  rintro _ W1086 ⟨f1084, rfl, L1085, HS1087⟩
  refine ⟨_, rfl, ?_⟩
  refine ⟨(Sg.g0 (Sx.of [[(b281, .cells #[.string ⟨#[]⟩, .string ⟨#[]⟩, .string ⟨#[]⟩, .string ⟨#[]⟩] 51 (0, 0))], s191, s148] (L286.trans L1085) HS1087)), ?_⟩
  obtain ⟨cs1088, hr1089, hc1090⟩ := (HO290.mono L1085).at' (i := vt83) c89 c113
  obtain rfl := hr1089
  refine takeGQ 8 [] rfl kr kr kr kr kr kr hnp (Sg.g0 (Sx.of [[(b281, .cells #[.string ⟨#[]⟩, .string ⟨#[]⟩, .string ⟨#[]⟩, .string ⟨#[]⟩] 51 (0, 0))], s191, s148] (L286.trans L1085) HS1087)) (fun w_ hw_ => by obtain ⟨g_, hl_, hS_⟩ := hw_.st; exact run_index (sz := 1) rfl Tryz.underlying46 kr (kv (.slice (some ⟨b189, 0, none⟩) ([Z40, Z20, Z34] : List ByteArray).length 3)) (kv (.int .i64 vt83)) c89 c113 w_) ?_
  refine hR276 _ _ ?_
  exact J277 b146 s148 b189 s191 b281 f1084 W1086 _ (L286.trans L1085) (HO289.mono L1085) (HO290.mono L1085) HS1087 kr
 have J336 : ∀ (b146 : Nat) (s148 : Seg) (b324 : Nat) (f328 : FM) (W330 : World) (a_ : Act), FM.le f18 f328 → Own tStr 9 f328 (some ⟨b146, 0, none⟩) 4 s148 ([Z27, Z29, Z28, Z32] : List ByteArray) → St t W330 f328 ([(b324, .cells #[.string ⟨#[]⟩, .string ⟨#[]⟩, .string ⟨#[]⟩, .string ⟨#[]⟩] 51 (0, 0))] :: s148 :: [(b30, .cells #[.int .i64 vt15.W, .int .i64 vt15.H, .slice A22 vt15.Cards.length c23, .slice A27 vt15.Counts.length c28] 29 (0, 0))] :: s24 :: [(b11, .cells #[.slice A2 l1.length c3, .int .i64 vt16] 33 (0, 0))] :: H) → a_ = ⟨#[.slice A2 l1.length c3, iV vk5, iV value6, uV, uV, uV, fV, pV b30 0, pV b324 0, uV, uV, uV, uV, uV, uV, uV, uV, uV, uV, .slice A2 l1.length c3, .agg #[.slice A2 l1.length c3, iV 0], pV b11 0, (ag_Frame vt15 A22 c23 A27 c28), .slice (some ⟨b146, 0, none⟩) ([Z27, Z29, Z28, Z32] : List ByteArray).length 4, iV vk5, iV vt46, pV b146 (0 + (vt46 : Int).toNat * 1), .string (rd ([Z27, Z29, Z28, Z32] : List ByteArray) vt46), uV, iV value6, iV vt83, uV, uV, uV, uV, uV, uV, uV, uV, uV, uV, uV, uV, uV, uV, uV, uV, uV, uV, uV, uV, uV, uV, uV, uV, uV, uV, uV, uV, uV, uV, uV, uV, uV, uV, uV, uV, uV, uV, uV, uV, uV, uV, uV, uV, uV, uV, uV, uV, uV, uV, uV, uV, uV, uV, uV, uV, uV, uV, uV, uV, uV, uV, uV, uV, uV, uV, uV, uV, uV, uV, uV, uV, uV, uV, uV, uV, uV, uV, uV, uV, uV, uV, uV, uV, uV, uV, uV, uV, uV, uV, uV, uV, uV, uV, uV, uV, uV, uV, uV], []⟩ → R333 a_ W330 := by
  intro b146 s148 b324 f328 W330 a_ L329 HO332 HS331 hfr_; subst hfr_
  refine hR334 _ _ ?_
  refine takeGE 5 kr rfl (wanted_none rfl _) ?_
  refine does_lit (e := tStr) (E := 9) (vs := #[(0, Value.string ⟨#[97]⟩), (1, Value.string ⟨#[55]⟩), (2, Value.string ⟨#[91, 120, 93]⟩)]) (cs := #[.string ⟨#[97]⟩, .string ⟨#[55]⟩, .string ⟨#[91, 120, 93]⟩]) (xs := ([Z40, Z20, Z34] : List ByteArray)) rfl Tryz.underlying46 kr kr ⟨[.string ⟨#[97]⟩], _, rfl, rfl, ⟨[.string ⟨#[55]⟩], _, rfl, rfl, ⟨[.string ⟨#[91, 120, 93]⟩], _, rfl, rfl, rfl⟩⟩⟩ rfl HS331 ?_ (by decide)
  intro b1091 W1092 s1093 HS1094 _ HO1095
  refine ⟨(Sg.g0 (Sx.of [s1093, [(b324, .cells #[.string ⟨#[]⟩, .string ⟨#[]⟩, .string ⟨#[]⟩, .string ⟨#[]⟩] 51 (0, 0))], s148] L329 HS1094)), ?_⟩
  obtain ⟨cs1097, hr1098, hc1099⟩ := HO1095.at' (i := vt83) c89 c113
  obtain rfl := hr1098
  refine takeGQ 8 [] rfl kr kr kr kr kr kr hnp (Sg.g0 (Sx.of [s1093, [(b324, .cells #[.string ⟨#[]⟩, .string ⟨#[]⟩, .string ⟨#[]⟩, .string ⟨#[]⟩] 51 (0, 0))], s148] L329 HS1094)) (fun w_ hw_ => by obtain ⟨g_, hl_, hS_⟩ := hw_.st; exact run_index (sz := 1) rfl Tryz.underlying46 kr (kv (.slice (some ⟨b1091, 0, none⟩) ([Z40, Z20, Z34] : List ByteArray).length 3)) (kv (.int .i64 vt83)) c89 c113 w_) ?_
  have HS1105 := HS1094.u5.u5.u5.u5.u4.u5
  refine hR276 _ _ ?_
  exact J277 b146 s148 b1091 s1093 b324 f328 W1092 _ L329 HO332 HO1095 HS1105 kr
 have J413 : ∀ (b146 : Nat) (s148 : Seg) (b369 : Nat) (s371 : Seg) (f404 : FM) (W406 : World) (a_ : Act), FM.le f18 f404 → Own tStr 9 f404 (some ⟨b146, 0, none⟩) 4 s148 ([Z27, Z29, Z28, Z32] : List ByteArray) → Own tStr 9 f404 (some ⟨b369, 0, none⟩) 3 s371 ([Z40, Z20, Z34] : List ByteArray) → St t W406 f404 (s371 :: s148 :: [(b30, .cells #[.int .i64 vt15.W, .int .i64 vt15.H, .slice A22 vt15.Cards.length c23, .slice A27 vt15.Counts.length c28] 29 (0, 0))] :: s24 :: [(b11, .cells #[.slice A2 l1.length c3, .int .i64 vt16] 33 (0, 0))] :: H) → a_ = ⟨#[.slice A2 l1.length c3, iV vk5, iV value6, uV, uV, uV, fV, pV b30 0, uV, uV, uV, uV, uV, uV, uV, uV, uV, uV, uV, .slice A2 l1.length c3, .agg #[.slice A2 l1.length c3, iV 0], pV b11 0, (ag_Frame vt15 A22 c23 A27 c28), .slice (some ⟨b146, 0, none⟩) ([Z27, Z29, Z28, Z32] : List ByteArray).length 4, iV vk5, iV vt46, pV b146 (0 + (vt46 : Int).toNat * 1), uV, .slice (some ⟨b369, 0, none⟩) ([Z40, Z20, Z34] : List ByteArray).length 3, iV value6, iV vt83, pV b369 (0 + (vt83 : Int).toNat * 1), uV, uV, uV, uV, uV, uV, uV, uV, uV, uV, uV, uV, uV, uV, uV, uV, uV, uV, uV, uV, uV, uV, uV, uV, uV, uV, uV, uV, uV, uV, uV, uV, uV, uV, uV, uV, uV, uV, uV, uV, uV, uV, uV, uV, uV, uV, uV, uV, uV, uV, uV, uV, uV, uV, uV, uV, uV, uV, uV, uV, uV, uV, uV, uV, uV, uV, uV, uV, uV, uV, uV, uV, uV, uV, uV, uV, uV, uV, uV, uV, uV, uV, uV, uV, uV, uV, uV, uV, uV, uV, uV, uV, uV, uV, uV, uV, uV, uV], []⟩ → R410 a_ W406 := by
  intro b146 s148 b369 s371 f404 W406 a_ L405 HO408 HO409 HS407 hfr_; subst hfr_
  refine hR411 _ _ ?_
  refine takeAny3 4 9 11 kr (Way.mk' rfl rfl ?_) (Way.mk' rfl rfl ?_) (Way.mk' rfl rfl ?_)
  · obtain ⟨cs1106, hr1107, hc1108⟩ := HO408.at' (i := vt46) c52 c63
    obtain rfl := hr1107
    refine does_run (run_load rfl Tryz.underlying9 rfl (kv (.pointer (some ⟨b146, 0 + (vt46 : Int).toNat * 1, none⟩))) ((hc1108 HS407.u1) 0 (by decide))) ?_
    refine ⟨(Sg.g0 (Sx.of [s371, s148] L405 HS407)), ?_⟩
    obtain ⟨cs1109, hr1110, hc1111⟩ := HO409.at' (i := vt83) c89 c113
    obtain rfl := hr1110
    refine hR220 _ _ ?_
    exact J221 b146 s148 b369 s371 f404 W406 _ L405 HO408 HO409 HS407 kr
  · obtain ⟨cs1112, hr1113, hc1114⟩ := HO409.at' (i := vt83) c89 c113
    obtain rfl := hr1113
    refine does_run (run_load rfl Tryz.underlying9 rfl (kv (.pointer (some ⟨b369, 0 + (vt83 : Int).toNat * 1, none⟩))) ((hc1114 HS407) 0 (by decide))) ?_
    refine ⟨(Sg.g0 (Sx.of [s371, s148] L405 HS407)), ?_⟩
    obtain ⟨cs1115, hr1116, hc1117⟩ := HO408.at' (i := vt46) c52 c63
    obtain rfl := hr1116
    refine hR434 _ _ ?_
    exact J435 b146 s148 b369 s371 f404 W406 _ L405 HO408 HO409 HS407 kr
  · refine does_alloc (z := Value.agg #[.string ⟨#[]⟩, .string ⟨#[]⟩, .string ⟨#[]⟩, .string ⟨#[]⟩]) (cs := #[.string ⟨#[]⟩, .string ⟨#[]⟩, .string ⟨#[]⟩, .string ⟨#[]⟩]) rfl kr rfl HS407 ?_
    intro b1118 W1119 HS1120
    refine ⟨(Sg.g0 (Sx.of [[(b1118, .cells #[.string ⟨#[]⟩, .string ⟨#[]⟩, .string ⟨#[]⟩, .string ⟨#[]⟩] 51 (0, 0))], s371, s148] L405 HS1120)), ?_⟩
    obtain ⟨cs1122, hr1123, hc1124⟩ := HO408.at' (i := vt46) c52 c63
    obtain rfl := hr1123
    obtain ⟨cs1125, hr1126, hc1127⟩ := HO409.at' (i := vt83) c89 c113
    obtain rfl := hr1126
    refine hR477 _ _ ?_
    exact J478 b146 s148 b369 s371 b1118 f404 W1119 _ L405 HO408 HO409 HS1120 kr
 have J803 : ∀ (b718 : Nat) (s720 : Seg) (b791 : Nat) (f795 : FM) (W797 : World) (a_ : Act), FM.le f18 f795 → Own tStr 9 f795 (some ⟨b718, 0, none⟩) 3 s720 ([Z40, Z20, Z34] : List ByteArray) → St t W797 f795 ([(b791, .cells #[.string ⟨#[]⟩, .string ⟨#[]⟩, .string ⟨#[]⟩, .string ⟨#[]⟩] 51 (0, 0))] :: s720 :: [(b30, .cells #[.int .i64 vt15.W, .int .i64 vt15.H, .slice A22 vt15.Cards.length c23, .slice A27 vt15.Counts.length c28] 29 (0, 0))] :: s24 :: [(b11, .cells #[.slice A2 l1.length c3, .int .i64 vt16] 33 (0, 0))] :: H) → a_ = ⟨#[.slice A2 l1.length c3, iV vk5, iV value6, uV, uV, uV, fV, pV b30 0, pV b791 0, uV, uV, uV, uV, uV, uV, uV, uV, uV, uV, .slice A2 l1.length c3, .agg #[.slice A2 l1.length c3, iV 0], pV b11 0, (ag_Frame vt15 A22 c23 A27 c28), uV, iV vk5, iV vt46, uV, uV, .slice (some ⟨b718, 0, none⟩) ([Z40, Z20, Z34] : List ByteArray).length 3, iV value6, iV vt83, pV b718 (0 + (vt83 : Int).toNat * 1), .string (rd ([Z40, Z20, Z34] : List ByteArray) vt83), uV, uV, uV, uV, uV, uV, uV, uV, uV, uV, uV, uV, uV, uV, uV, uV, uV, uV, uV, uV, uV, uV, uV, uV, uV, uV, uV, uV, uV, uV, uV, uV, uV, uV, uV, uV, uV, uV, uV, uV, uV, uV, uV, uV, uV, uV, uV, uV, uV, uV, uV, uV, uV, uV, uV, uV, uV, uV, uV, uV, uV, uV, uV, uV, uV, uV, uV, uV, uV, uV, uV, uV, uV, uV, uV, uV, uV, uV, uV, uV, uV, uV, uV, uV, uV, uV, uV, uV, uV, uV, uV, uV, uV, uV, uV, uV, uV], []⟩ → R800 a_ W797 := by
  intro b718 s720 b791 f795 W797 a_ L796 HO799 HS798 hfr_; subst hfr_
  refine hR801 _ _ ?_
  refine takeGE 0 kr rfl (wanted_none rfl _) ?_
  refine does_lit (e := tStr) (E := 9) (vs := #[(0, Value.string ⟨#[75, 73, 78, 68]⟩), (1, Value.string ⟨#[78, 85, 77, 66, 69, 82]⟩), (2, Value.string ⟨#[78, 69, 87]⟩), (3, Value.string ⟨#[88, 48]⟩)]) (cs := #[.string ⟨#[75, 73, 78, 68]⟩, .string ⟨#[78, 85, 77, 66, 69, 82]⟩, .string ⟨#[78, 69, 87]⟩, .string ⟨#[88, 48]⟩]) (xs := ([Z27, Z29, Z28, Z32] : List ByteArray)) rfl Tryz.underlying46 kr kr ⟨[.string ⟨#[75, 73, 78, 68]⟩], _, rfl, rfl, ⟨[.string ⟨#[78, 85, 77, 66, 69, 82]⟩], _, rfl, rfl, ⟨[.string ⟨#[78, 69, 87]⟩], _, rfl, rfl, ⟨[.string ⟨#[88, 48]⟩], _, rfl, rfl, rfl⟩⟩⟩⟩ rfl HS798 ?_ (by decide)
  intro b1128 W1129 s1130 HS1131 _ HO1132
  refine ⟨(Sg.g0 (Sx.of [s1130, [(b791, .cells #[.string ⟨#[]⟩, .string ⟨#[]⟩, .string ⟨#[]⟩, .string ⟨#[]⟩] 51 (0, 0))], s720] L796 HS1131)), ?_⟩
  obtain ⟨cs1134, hr1135, hc1136⟩ := HO1132.at' (i := vt46) c52 c63
  obtain rfl := hr1135
  refine takeGQ 3 [] rfl kr kr kr kr kr kr hnp (Sg.g0 (Sx.of [s1130, [(b791, .cells #[.string ⟨#[]⟩, .string ⟨#[]⟩, .string ⟨#[]⟩, .string ⟨#[]⟩] 51 (0, 0))], s720] L796 HS1131)) (fun w_ hw_ => by obtain ⟨g_, hl_, hS_⟩ := hw_.st; exact run_index (sz := 1) rfl Tryz.underlying46 kr (kv (.slice (some ⟨b1128, 0, none⟩) ([Z27, Z29, Z28, Z32] : List ByteArray).length 4)) (kv (.int .i64 vt46)) c52 c63 w_) ?_
  have HS1142 := HS1131.u5.u5.u5.u3.u5.u5
  refine hR454 _ _ ?_
  exact J455 b1128 s1130 b718 s720 b791 f795 W1129 _ L796 HO1132 HO799 HS1142 kr
 have J204 : ∀ (b146 : Nat) (s148 : Seg) (b189 : Nat) (s191 : Seg) (f195 : FM) (W197 : World) (a_ : Act), FM.le f18 f195 → Own tStr 9 f195 (some ⟨b146, 0, none⟩) 4 s148 ([Z27, Z29, Z28, Z32] : List ByteArray) → Own tStr 9 f195 (some ⟨b189, 0, none⟩) 3 s191 ([Z40, Z20, Z34] : List ByteArray) → St t W197 f195 (s191 :: s148 :: [(b30, .cells #[.int .i64 vt15.W, .int .i64 vt15.H, .slice A22 vt15.Cards.length c23, .slice A27 vt15.Counts.length c28] 29 (0, 0))] :: s24 :: [(b11, .cells #[.slice A2 l1.length c3, .int .i64 vt16] 33 (0, 0))] :: H) → a_ = ⟨#[.slice A2 l1.length c3, iV vk5, iV value6, uV, uV, uV, fV, pV b30 0, uV, uV, uV, uV, uV, uV, uV, uV, uV, uV, uV, .slice A2 l1.length c3, .agg #[.slice A2 l1.length c3, iV 0], pV b11 0, (ag_Frame vt15 A22 c23 A27 c28), .slice (some ⟨b146, 0, none⟩) ([Z27, Z29, Z28, Z32] : List ByteArray).length 4, iV vk5, iV vt46, pV b146 (0 + (vt46 : Int).toNat * 1), .string (rd ([Z27, Z29, Z28, Z32] : List ByteArray) vt46), .slice (some ⟨b189, 0, none⟩) ([Z40, Z20, Z34] : List ByteArray).length 3, iV value6, uV, uV, uV, uV, uV, uV, uV, uV, uV, uV, uV, uV, uV, uV, uV, uV, uV, uV, uV, uV, uV, uV, uV, uV, uV, uV, uV, uV, uV, uV, uV, uV, uV, uV, uV, uV, uV, uV, uV, uV, uV, uV, uV, uV, uV, uV, uV, uV, uV, uV, uV, uV, uV, uV, uV, uV, uV, uV, uV, uV, uV, uV, uV, uV, uV, uV, uV, uV, uV, uV, uV, uV, uV, uV, uV, uV, uV, uV, uV, uV, uV, uV, uV, uV, uV, uV, uV, uV, uV, uV, uV, uV, uV, uV, uV, uV, uV, uV, uV, uV], []⟩ → R201 a_ W197 := by
  intro b146 s148 b189 s191 f195 W197 a_ L196 HO199 HO200 HS198 hfr_; subst hfr_
  refine hR202 _ _ ?_
  refine takeEither 7 11 kr rfl rfl rfl rfl ?_ ?_
  · refine does_call (f := 10) (args := #[.int .i64 value6, .int .i64 3]) kr (spymake_Below.calls k value6 3 HS198 vt83 hc84) ?_
    rintro _ W1145 ⟨f1143, rfl, L1144, HS1146⟩
    refine ⟨_, rfl, ?_⟩
    refine ⟨(Sg.g0 (Sx.of [s191, s148] (L196.trans L1144) HS1146)), ?_⟩
    obtain ⟨cs1147, hr1148, hc1149⟩ := (HO200.mono L1144).at' (i := vt83) c89 c113
    obtain rfl := hr1148
    refine takeGQ 8 [] rfl kr kr kr kr kr kr hnp (Sg.g0 (Sx.of [s191, s148] (L196.trans L1144) HS1146)) (fun w_ hw_ => by obtain ⟨g_, hl_, hS_⟩ := hw_.st; exact run_index (sz := 1) rfl Tryz.underlying46 kr (kv (.slice (some ⟨b189, 0, none⟩) ([Z40, Z20, Z34] : List ByteArray).length 3)) (kv (.int .i64 vt83)) c89 c113 w_) ?_
    refine hR220 _ _ ?_
    exact J221 b146 s148 b189 s191 f1143 W1145 _ (L196.trans L1144) (HO199.mono L1144) (HO200.mono L1144) HS1146 kr
  · refine does_alloc (z := Value.agg #[.string ⟨#[]⟩, .string ⟨#[]⟩, .string ⟨#[]⟩, .string ⟨#[]⟩]) (cs := #[.string ⟨#[]⟩, .string ⟨#[]⟩, .string ⟨#[]⟩, .string ⟨#[]⟩]) rfl kr rfl HS198 ?_
    intro b1150 W1151 HS1152
    refine ⟨(Sg.g0 (Sx.of [[(b1150, .cells #[.string ⟨#[]⟩, .string ⟨#[]⟩, .string ⟨#[]⟩, .string ⟨#[]⟩] 51 (0, 0))], s191, s148] L196 HS1152)), ?_⟩
    refine hR293 _ _ ?_
    exact J294 b146 s148 b189 s191 b1150 f195 W1151 _ L196 HO199 HO200 HS1152 kr
 have J314 : ∀ (b146 : Nat) (s148 : Seg) (f306 : FM) (W308 : World) (a_ : Act), FM.le f18 f306 → Own tStr 9 f306 (some ⟨b146, 0, none⟩) 4 s148 ([Z27, Z29, Z28, Z32] : List ByteArray) → St t W308 f306 (s148 :: [(b30, .cells #[.int .i64 vt15.W, .int .i64 vt15.H, .slice A22 vt15.Cards.length c23, .slice A27 vt15.Counts.length c28] 29 (0, 0))] :: s24 :: [(b11, .cells #[.slice A2 l1.length c3, .int .i64 vt16] 33 (0, 0))] :: H) → a_ = ⟨#[.slice A2 l1.length c3, iV vk5, iV value6, uV, uV, uV, fV, pV b30 0, uV, uV, uV, uV, uV, uV, uV, uV, uV, uV, uV, .slice A2 l1.length c3, .agg #[.slice A2 l1.length c3, iV 0], pV b11 0, (ag_Frame vt15 A22 c23 A27 c28), .slice (some ⟨b146, 0, none⟩) ([Z27, Z29, Z28, Z32] : List ByteArray).length 4, iV vk5, iV vt46, pV b146 (0 + (vt46 : Int).toNat * 1), .string (rd ([Z27, Z29, Z28, Z32] : List ByteArray) vt46), uV, iV value6, iV vt83, uV, uV, uV, uV, uV, uV, uV, uV, uV, uV, uV, uV, uV, uV, uV, uV, uV, uV, uV, uV, uV, uV, uV, uV, uV, uV, uV, uV, uV, uV, uV, uV, uV, uV, uV, uV, uV, uV, uV, uV, uV, uV, uV, uV, uV, uV, uV, uV, uV, uV, uV, uV, uV, uV, uV, uV, uV, uV, uV, uV, uV, uV, uV, uV, uV, uV, uV, uV, uV, uV, uV, uV, uV, uV, uV, uV, uV, uV, uV, uV, uV, uV, uV, uV, uV, uV, uV, uV, uV, uV, uV, uV, uV, uV, uV, uV, uV, uV, uV], []⟩ → R311 a_ W308 := by
  intro b146 s148 f306 W308 a_ L307 HO310 HS309 hfr_; subst hfr_
  refine hR312 _ _ ?_
  refine takeEither 5 11 kr rfl rfl rfl rfl ?_ ?_
  · refine does_lit (e := tStr) (E := 9) (vs := #[(0, Value.string ⟨#[97]⟩), (1, Value.string ⟨#[55]⟩), (2, Value.string ⟨#[91, 120, 93]⟩)]) (cs := #[.string ⟨#[97]⟩, .string ⟨#[55]⟩, .string ⟨#[91, 120, 93]⟩]) (xs := ([Z40, Z20, Z34] : List ByteArray)) rfl Tryz.underlying46 kr kr ⟨[.string ⟨#[97]⟩], _, rfl, rfl, ⟨[.string ⟨#[55]⟩], _, rfl, rfl, ⟨[.string ⟨#[91, 120, 93]⟩], _, rfl, rfl, rfl⟩⟩⟩ rfl HS309 ?_ (by decide)
    intro b1154 W1155 s1156 HS1157 _ HO1158
    refine ⟨(Sg.g0 (Sx.of [s1156, s148] L307 HS1157)), ?_⟩
    obtain ⟨cs1160, hr1161, hc1162⟩ := HO1158.at' (i := vt83) c89 c113
    obtain rfl := hr1161
    refine takeGQ 8 [] rfl kr kr kr kr kr kr hnp (Sg.g0 (Sx.of [s1156, s148] L307 HS1157)) (fun w_ hw_ => by obtain ⟨g_, hl_, hS_⟩ := hw_.st; exact run_index (sz := 1) rfl Tryz.underlying46 kr (kv (.slice (some ⟨b1154, 0, none⟩) ([Z40, Z20, Z34] : List ByteArray).length 3)) (kv (.int .i64 vt83)) c89 c113 w_) ?_
    refine hR220 _ _ ?_
    exact J221 b146 s148 b1154 s1156 f306 W1155 _ L307 HO310 HO1158 HS1157 kr
  · refine does_alloc (z := Value.agg #[.string ⟨#[]⟩, .string ⟨#[]⟩, .string ⟨#[]⟩, .string ⟨#[]⟩]) (cs := #[.string ⟨#[]⟩, .string ⟨#[]⟩, .string ⟨#[]⟩, .string ⟨#[]⟩]) rfl kr rfl HS309 ?_
    intro b1163 W1164 HS1165
    refine ⟨(Sg.g0 (Sx.of [[(b1163, .cells #[.string ⟨#[]⟩, .string ⟨#[]⟩, .string ⟨#[]⟩, .string ⟨#[]⟩] 51 (0, 0))], s148] L307 HS1165)), ?_⟩
    refine hR335 _ _ ?_
    exact J336 b146 s148 b1163 f306 W1164 _ L307 HO310 HS1165 kr
 have J358 : ∀ (b146 : Nat) (s148 : Seg) (b346 : Nat) (f350 : FM) (W352 : World) (a_ : Act), FM.le f18 f350 → Own tStr 9 f350 (some ⟨b146, 0, none⟩) 4 s148 ([Z27, Z29, Z28, Z32] : List ByteArray) → St t W352 f350 ([(b346, .cells #[.string ⟨#[]⟩, .string ⟨#[]⟩, .string ⟨#[]⟩, .string ⟨#[]⟩] 51 (0, 0))] :: s148 :: [(b30, .cells #[.int .i64 vt15.W, .int .i64 vt15.H, .slice A22 vt15.Cards.length c23, .slice A27 vt15.Counts.length c28] 29 (0, 0))] :: s24 :: [(b11, .cells #[.slice A2 l1.length c3, .int .i64 vt16] 33 (0, 0))] :: H) → a_ = ⟨#[.slice A2 l1.length c3, iV vk5, iV value6, uV, uV, uV, fV, pV b30 0, pV b346 0, uV, uV, uV, uV, uV, uV, uV, uV, uV, uV, .slice A2 l1.length c3, .agg #[.slice A2 l1.length c3, iV 0], pV b11 0, (ag_Frame vt15 A22 c23 A27 c28), .slice (some ⟨b146, 0, none⟩) ([Z27, Z29, Z28, Z32] : List ByteArray).length 4, iV vk5, iV vt46, pV b146 (0 + (vt46 : Int).toNat * 1), .string (rd ([Z27, Z29, Z28, Z32] : List ByteArray) vt46), uV, iV value6, uV, uV, uV, uV, uV, uV, uV, uV, uV, uV, uV, uV, uV, uV, uV, uV, uV, uV, uV, uV, uV, uV, uV, uV, uV, uV, uV, uV, uV, uV, uV, uV, uV, uV, uV, uV, uV, uV, uV, uV, uV, uV, uV, uV, uV, uV, uV, uV, uV, uV, uV, uV, uV, uV, uV, uV, uV, uV, uV, uV, uV, uV, uV, uV, uV, uV, uV, uV, uV, uV, uV, uV, uV, uV, uV, uV, uV, uV, uV, uV, uV, uV, uV, uV, uV, uV, uV, uV, uV, uV, uV, uV, uV, uV, uV, uV, uV, uV, uV, uV], []⟩ → R355 a_ W352 := by
  intro b146 s148 b346 f350 W352 a_ L351 HO354 HS353 hfr_; subst hfr_
  refine hR356 _ _ ?_
  refine takeEither 5 7 kr rfl rfl rfl rfl ?_ ?_
  · refine does_lit (e := tStr) (E := 9) (vs := #[(0, Value.string ⟨#[97]⟩), (1, Value.string ⟨#[55]⟩), (2, Value.string ⟨#[91, 120, 93]⟩)]) (cs := #[.string ⟨#[97]⟩, .string ⟨#[55]⟩, .string ⟨#[91, 120, 93]⟩]) (xs := ([Z40, Z20, Z34] : List ByteArray)) rfl Tryz.underlying46 kr kr ⟨[.string ⟨#[97]⟩], _, rfl, rfl, ⟨[.string ⟨#[55]⟩], _, rfl, rfl, ⟨[.string ⟨#[91, 120, 93]⟩], _, rfl, rfl, rfl⟩⟩⟩ rfl HS353 ?_ (by decide)
    intro b1167 W1168 s1169 HS1170 _ HO1171
    refine ⟨(Sg.g0 (Sx.of [s1169, [(b346, .cells #[.string ⟨#[]⟩, .string ⟨#[]⟩, .string ⟨#[]⟩, .string ⟨#[]⟩] 51 (0, 0))], s148] L351 HS1170)), ?_⟩
    have HS1178 := HS1170.u5.u5.u5.u5.u4.u5
    refine hR293 _ _ ?_
    exact J294 b146 s148 b1167 s1169 b346 f350 W1168 _ L351 HO354 HO1171 HS1178 kr
  · refine does_call (f := 10) (args := #[.int .i64 value6, .int .i64 3]) kr (spymake_Below.calls k value6 3 HS353 vt83 hc84) ?_
    rintro _ W1181 ⟨f1179, rfl, L1180, HS1182⟩
    refine ⟨_, rfl, ?_⟩
    refine ⟨(Sg.g0 (Sx.of [[(b346, .cells #[.string ⟨#[]⟩, .string ⟨#[]⟩, .string ⟨#[]⟩, .string ⟨#[]⟩] 51 (0, 0))], s148] (L351.trans L1180) HS1182)), ?_⟩
    refine hR335 _ _ ?_
    exact J336 b146 s148 b346 f1179 W1181 _ (L351.trans L1180) (HO354.mono L1180) HS1182 kr
 have J507 : ∀ (b146 : Nat) (s148 : Seg) (b369 : Nat) (s371 : Seg) (b491 : Nat) (f498 : FM) (W500 : World) (a_ : Act), FM.le f18 f498 → Own tStr 9 f498 (some ⟨b146, 0, none⟩) 4 s148 ([Z27, Z29, Z28, Z32] : List ByteArray) → Own tStr 9 f498 (some ⟨b369, 0, none⟩) 3 s371 ([Z40, Z20, Z34] : List ByteArray) → St t W500 f498 ([(b491, .cells #[.string ⟨#[]⟩, .string ⟨#[]⟩, .string ⟨#[]⟩, .string ⟨#[]⟩] 51 (0, 0))] :: s371 :: s148 :: [(b30, .cells #[.int .i64 vt15.W, .int .i64 vt15.H, .slice A22 vt15.Cards.length c23, .slice A27 vt15.Counts.length c28] 29 (0, 0))] :: s24 :: [(b11, .cells #[.slice A2 l1.length c3, .int .i64 vt16] 33 (0, 0))] :: H) → a_ = ⟨#[.slice A2 l1.length c3, iV vk5, iV value6, uV, uV, uV, fV, pV b30 0, pV b491 0, uV, uV, uV, uV, uV, uV, uV, uV, uV, uV, .slice A2 l1.length c3, .agg #[.slice A2 l1.length c3, iV 0], pV b11 0, (ag_Frame vt15 A22 c23 A27 c28), .slice (some ⟨b146, 0, none⟩) ([Z27, Z29, Z28, Z32] : List ByteArray).length 4, iV vk5, iV vt46, pV b146 (0 + (vt46 : Int).toNat * 1), uV, .slice (some ⟨b369, 0, none⟩) ([Z40, Z20, Z34] : List ByteArray).length 3, iV value6, uV, uV, uV, uV, uV, uV, uV, uV, uV, uV, uV, uV, uV, uV, uV, uV, uV, uV, uV, uV, uV, uV, uV, uV, uV, uV, uV, uV, uV, uV, uV, uV, uV, uV, uV, uV, uV, uV, uV, uV, uV, uV, uV, uV, uV, uV, uV, uV, uV, uV, uV, uV, uV, uV, uV, uV, uV, uV, uV, uV, uV, uV, uV, uV, uV, uV, uV, uV, uV, uV, uV, uV, uV, uV, uV, uV, uV, uV, uV, uV, uV, uV, uV, uV, uV, uV, uV, uV, uV, uV, uV, uV, uV, uV, uV, uV, uV, uV, uV, uV], []⟩ → R504 a_ W500 := by
  intro b146 s148 b369 s371 b491 f498 W500 a_ L499 HO502 HO503 HS501 hfr_; subst hfr_
  refine hR505 _ _ ?_
  refine takeEither 4 7 kr rfl rfl rfl rfl ?_ ?_
  · obtain ⟨cs1183, hr1184, hc1185⟩ := HO502.at' (i := vt46) c52 c63
    obtain rfl := hr1184
    refine does_run (run_load rfl Tryz.underlying9 rfl (kv (.pointer (some ⟨b146, 0 + (vt46 : Int).toNat * 1, none⟩))) ((hc1185 HS501.u2) 0 (by decide))) ?_
    refine ⟨(Sg.g0 (Sx.of [[(b491, .cells #[.string ⟨#[]⟩, .string ⟨#[]⟩, .string ⟨#[]⟩, .string ⟨#[]⟩] 51 (0, 0))], s371, s148] L499 HS501)), ?_⟩
    refine hR293 _ _ ?_
    exact J294 b146 s148 b369 s371 b491 f498 W500 _ L499 HO502 HO503 HS501 kr
  · refine does_call (f := 10) (args := #[.int .i64 value6, .int .i64 3]) kr (spymake_Below.calls k value6 3 HS501 vt83 hc84) ?_
    rintro _ W1188 ⟨f1186, rfl, L1187, HS1189⟩
    refine ⟨_, rfl, ?_⟩
    refine ⟨(Sg.g0 (Sx.of [[(b491, .cells #[.string ⟨#[]⟩, .string ⟨#[]⟩, .string ⟨#[]⟩, .string ⟨#[]⟩] 51 (0, 0))], s371, s148] (L499.trans L1187) HS1189)), ?_⟩
    obtain ⟨cs1190, hr1191, hc1192⟩ := (HO502.mono L1187).at' (i := vt46) c52 c63
    obtain rfl := hr1191
    obtain ⟨cs1193, hr1194, hc1195⟩ := (HO503.mono L1187).at' (i := vt83) c89 c113
    obtain rfl := hr1194
    refine takeGQ 8 [] rfl kr kr kr kr kr kr hnp (Sg.g0 (Sx.of [[(b491, .cells #[.string ⟨#[]⟩, .string ⟨#[]⟩, .string ⟨#[]⟩, .string ⟨#[]⟩] 51 (0, 0))], s371, s148] (L499.trans L1187) HS1189)) (fun w_ hw_ => by obtain ⟨g_, hl_, hS_⟩ := hw_.st; exact run_index (sz := 1) rfl Tryz.underlying46 kr (kv (.slice (some ⟨b369, 0, none⟩) ([Z40, Z20, Z34] : List ByteArray).length 3)) (kv (.int .i64 vt83)) c89 c113 w_) ?_
    obtain ⟨cs1196, hr1197, hc1198⟩ := (HO502.mono L1187).at' (i := vt46) c52 c63
    obtain rfl := hr1197
    refine hR477 _ _ ?_
    exact J478 b146 s148 b369 s371 b491 f1186 W1188 _ (L499.trans L1187) (HO502.mono L1187) (HO503.mono L1187) HS1189 kr
 have J573 : ∀ (b146 : Nat) (s148 : Seg) (b558 : Nat) (f565 : FM) (W567 : World) (a_ : Act), FM.le f18 f565 → Own tStr 9 f565 (some ⟨b146, 0, none⟩) 4 s148 ([Z27, Z29, Z28, Z32] : List ByteArray) → St t W567 f565 ([(b558, .cells #[.string ⟨#[]⟩, .string ⟨#[]⟩, .string ⟨#[]⟩, .string ⟨#[]⟩] 51 (0, 0))] :: s148 :: [(b30, .cells #[.int .i64 vt15.W, .int .i64 vt15.H, .slice A22 vt15.Cards.length c23, .slice A27 vt15.Counts.length c28] 29 (0, 0))] :: s24 :: [(b11, .cells #[.slice A2 l1.length c3, .int .i64 vt16] 33 (0, 0))] :: H) → a_ = ⟨#[.slice A2 l1.length c3, iV vk5, iV value6, uV, uV, uV, fV, pV b30 0, pV b558 0, uV, uV, uV, uV, uV, uV, uV, uV, uV, uV, .slice A2 l1.length c3, .agg #[.slice A2 l1.length c3, iV 0], pV b11 0, (ag_Frame vt15 A22 c23 A27 c28), .slice (some ⟨b146, 0, none⟩) ([Z27, Z29, Z28, Z32] : List ByteArray).length 4, iV vk5, iV vt46, pV b146 (0 + (vt46 : Int).toNat * 1), uV, uV, iV value6, iV vt83, uV, uV, uV, uV, uV, uV, uV, uV, uV, uV, uV, uV, uV, uV, uV, uV, uV, uV, uV, uV, uV, uV, uV, uV, uV, uV, uV, uV, uV, uV, uV, uV, uV, uV, uV, uV, uV, uV, uV, uV, uV, uV, uV, uV, uV, uV, uV, uV, uV, uV, uV, uV, uV, uV, uV, uV, uV, uV, uV, uV, uV, uV, uV, uV, uV, uV, uV, uV, uV, uV, uV, uV, uV, uV, uV, uV, uV, uV, uV, uV, uV, uV, uV, uV, uV, uV, uV, uV, uV, uV, uV, uV, uV, uV, uV, uV, uV, uV, uV], []⟩ → R570 a_ W567 := by
  intro b146 s148 b558 f565 W567 a_ L566 HO569 HS568 hfr_; subst hfr_
  refine hR571 _ _ ?_
  refine takeEither 4 5 kr rfl rfl rfl rfl ?_ ?_
  · obtain ⟨cs1199, hr1200, hc1201⟩ := HO569.at' (i := vt46) c52 c63
    obtain rfl := hr1200
    refine does_run (run_load rfl Tryz.underlying9 rfl (kv (.pointer (some ⟨b146, 0 + (vt46 : Int).toNat * 1, none⟩))) ((hc1201 HS568.u1) 0 (by decide))) ?_
    refine ⟨(Sg.g0 (Sx.of [[(b558, .cells #[.string ⟨#[]⟩, .string ⟨#[]⟩, .string ⟨#[]⟩, .string ⟨#[]⟩] 51 (0, 0))], s148] L566 HS568)), ?_⟩
    refine hR335 _ _ ?_
    exact J336 b146 s148 b558 f565 W567 _ L566 HO569 HS568 kr
  · refine does_lit (e := tStr) (E := 9) (vs := #[(0, Value.string ⟨#[97]⟩), (1, Value.string ⟨#[55]⟩), (2, Value.string ⟨#[91, 120, 93]⟩)]) (cs := #[.string ⟨#[97]⟩, .string ⟨#[55]⟩, .string ⟨#[91, 120, 93]⟩]) (xs := ([Z40, Z20, Z34] : List ByteArray)) rfl Tryz.underlying46 kr kr ⟨[.string ⟨#[97]⟩], _, rfl, rfl, ⟨[.string ⟨#[55]⟩], _, rfl, rfl, ⟨[.string ⟨#[91, 120, 93]⟩], _, rfl, rfl, rfl⟩⟩⟩ rfl HS568 ?_ (by decide)
    intro b1202 W1203 s1204 HS1205 _ HO1206
    refine ⟨(Sg.g0 (Sx.of [s1204, [(b558, .cells #[.string ⟨#[]⟩, .string ⟨#[]⟩, .string ⟨#[]⟩, .string ⟨#[]⟩] 51 (0, 0))], s148] L566 HS1205)), ?_⟩
    obtain ⟨cs1208, hr1209, hc1210⟩ := HO569.at' (i := vt46) c52 c63
    obtain rfl := hr1209
    obtain ⟨cs1211, hr1212, hc1213⟩ := HO1206.at' (i := vt83) c89 c113
    obtain rfl := hr1212
    refine takeGQ 8 [] rfl kr kr kr kr kr kr hnp (Sg.g0 (Sx.of [s1204, [(b558, .cells #[.string ⟨#[]⟩, .string ⟨#[]⟩, .string ⟨#[]⟩, .string ⟨#[]⟩] 51 (0, 0))], s148] L566 HS1205)) (fun w_ hw_ => by obtain ⟨g_, hl_, hS_⟩ := hw_.st; exact run_index (sz := 1) rfl Tryz.underlying46 kr (kv (.slice (some ⟨b1202, 0, none⟩) ([Z40, Z20, Z34] : List ByteArray).length 3)) (kv (.int .i64 vt83)) c89 c113 w_) ?_
    obtain ⟨cs1214, hr1215, hc1216⟩ := HO569.at' (i := vt46) c52 c63
    obtain rfl := hr1215
    have HS1222 := HS1205.u5.u5.u5.u5.u4.u5
    refine hR477 _ _ ?_
    exact J478 b146 s148 b1202 s1204 b558 f565 W1203 _ L566 HO569 HO1206 HS1222 kr
 have J781 : ∀ (b718 : Nat) (s720 : Seg) (f773 : FM) (W775 : World) (a_ : Act), FM.le f18 f773 → Own tStr 9 f773 (some ⟨b718, 0, none⟩) 3 s720 ([Z40, Z20, Z34] : List ByteArray) → St t W775 f773 (s720 :: [(b30, .cells #[.int .i64 vt15.W, .int .i64 vt15.H, .slice A22 vt15.Cards.length c23, .slice A27 vt15.Counts.length c28] 29 (0, 0))] :: s24 :: [(b11, .cells #[.slice A2 l1.length c3, .int .i64 vt16] 33 (0, 0))] :: H) → a_ = ⟨#[.slice A2 l1.length c3, iV vk5, iV value6, uV, uV, uV, fV, pV b30 0, uV, uV, uV, uV, uV, uV, uV, uV, uV, uV, uV, .slice A2 l1.length c3, .agg #[.slice A2 l1.length c3, iV 0], pV b11 0, (ag_Frame vt15 A22 c23 A27 c28), uV, iV vk5, iV vt46, uV, uV, .slice (some ⟨b718, 0, none⟩) ([Z40, Z20, Z34] : List ByteArray).length 3, iV value6, iV vt83, pV b718 (0 + (vt83 : Int).toNat * 1), .string (rd ([Z40, Z20, Z34] : List ByteArray) vt83), uV, uV, uV, uV, uV, uV, uV, uV, uV, uV, uV, uV, uV, uV, uV, uV, uV, uV, uV, uV, uV, uV, uV, uV, uV, uV, uV, uV, uV, uV, uV, uV, uV, uV, uV, uV, uV, uV, uV, uV, uV, uV, uV, uV, uV, uV, uV, uV, uV, uV, uV, uV, uV, uV, uV, uV, uV, uV, uV, uV, uV, uV, uV, uV, uV, uV, uV, uV, uV, uV, uV, uV, uV, uV, uV, uV, uV, uV, uV, uV, uV, uV, uV, uV, uV, uV, uV, uV, uV, uV, uV, uV, uV, uV, uV, uV, uV], []⟩ → R778 a_ W775 := by
  intro b718 s720 f773 W775 a_ L774 HO777 HS776 hfr_; subst hfr_
  refine hR779 _ _ ?_
  refine takeEither 0 11 kr rfl rfl rfl rfl ?_ ?_
  · refine does_lit (e := tStr) (E := 9) (vs := #[(0, Value.string ⟨#[75, 73, 78, 68]⟩), (1, Value.string ⟨#[78, 85, 77, 66, 69, 82]⟩), (2, Value.string ⟨#[78, 69, 87]⟩), (3, Value.string ⟨#[88, 48]⟩)]) (cs := #[.string ⟨#[75, 73, 78, 68]⟩, .string ⟨#[78, 85, 77, 66, 69, 82]⟩, .string ⟨#[78, 69, 87]⟩, .string ⟨#[88, 48]⟩]) (xs := ([Z27, Z29, Z28, Z32] : List ByteArray)) rfl Tryz.underlying46 kr kr ⟨[.string ⟨#[75, 73, 78, 68]⟩], _, rfl, rfl, ⟨[.string ⟨#[78, 85, 77, 66, 69, 82]⟩], _, rfl, rfl, ⟨[.string ⟨#[78, 69, 87]⟩], _, rfl, rfl, ⟨[.string ⟨#[88, 48]⟩], _, rfl, rfl, rfl⟩⟩⟩⟩ rfl HS776 ?_ (by decide)
    intro b1223 W1224 s1225 HS1226 _ HO1227
    refine ⟨(Sg.g0 (Sx.of [s1225, s720] L774 HS1226)), ?_⟩
    obtain ⟨cs1229, hr1230, hc1231⟩ := HO1227.at' (i := vt46) c52 c63
    obtain rfl := hr1230
    refine takeGQ 3 [] rfl kr kr kr kr kr kr hnp (Sg.g0 (Sx.of [s1225, s720] L774 HS1226)) (fun w_ hw_ => by obtain ⟨g_, hl_, hS_⟩ := hw_.st; exact run_index (sz := 1) rfl Tryz.underlying46 kr (kv (.slice (some ⟨b1223, 0, none⟩) ([Z27, Z29, Z28, Z32] : List ByteArray).length 4)) (kv (.int .i64 vt46)) c52 c63 w_) ?_
    have HS1236 := HS1226.u4.u4.u4.u3.u4
    refine hR434 _ _ ?_
    exact J435 b1223 s1225 b718 s720 f773 W1224 _ L774 HO1227 HO777 HS1236 kr
  · refine does_alloc (z := Value.agg #[.string ⟨#[]⟩, .string ⟨#[]⟩, .string ⟨#[]⟩, .string ⟨#[]⟩]) (cs := #[.string ⟨#[]⟩, .string ⟨#[]⟩, .string ⟨#[]⟩, .string ⟨#[]⟩]) rfl kr rfl HS776 ?_
    intro b1237 W1238 HS1239
    refine ⟨(Sg.g0 (Sx.of [[(b1237, .cells #[.string ⟨#[]⟩, .string ⟨#[]⟩, .string ⟨#[]⟩, .string ⟨#[]⟩] 51 (0, 0))], s720] L774 HS1239)), ?_⟩
    refine hR802 _ _ ?_
    exact J803 b718 s720 b1237 f773 W1238 _ L774 HO777 HS1239 kr
 have J828 : ∀ (b718 : Nat) (s720 : Seg) (b813 : Nat) (f820 : FM) (W822 : World) (a_ : Act), FM.le f18 f820 → Own tStr 9 f820 (some ⟨b718, 0, none⟩) 3 s720 ([Z40, Z20, Z34] : List ByteArray) → St t W822 f820 ([(b813, .cells #[.string ⟨#[]⟩, .string ⟨#[]⟩, .string ⟨#[]⟩, .string ⟨#[]⟩] 51 (0, 0))] :: s720 :: [(b30, .cells #[.int .i64 vt15.W, .int .i64 vt15.H, .slice A22 vt15.Cards.length c23, .slice A27 vt15.Counts.length c28] 29 (0, 0))] :: s24 :: [(b11, .cells #[.slice A2 l1.length c3, .int .i64 vt16] 33 (0, 0))] :: H) → a_ = ⟨#[.slice A2 l1.length c3, iV vk5, iV value6, uV, uV, uV, fV, pV b30 0, pV b813 0, uV, uV, uV, uV, uV, uV, uV, uV, uV, uV, .slice A2 l1.length c3, .agg #[.slice A2 l1.length c3, iV 0], pV b11 0, (ag_Frame vt15 A22 c23 A27 c28), uV, iV vk5, iV vt46, uV, uV, .slice (some ⟨b718, 0, none⟩) ([Z40, Z20, Z34] : List ByteArray).length 3, iV value6, iV vt83, pV b718 (0 + (vt83 : Int).toNat * 1), uV, uV, uV, uV, uV, uV, uV, uV, uV, uV, uV, uV, uV, uV, uV, uV, uV, uV, uV, uV, uV, uV, uV, uV, uV, uV, uV, uV, uV, uV, uV, uV, uV, uV, uV, uV, uV, uV, uV, uV, uV, uV, uV, uV, uV, uV, uV, uV, uV, uV, uV, uV, uV, uV, uV, uV, uV, uV, uV, uV, uV, uV, uV, uV, uV, uV, uV, uV, uV, uV, uV, uV, uV, uV, uV, uV, uV, uV, uV, uV, uV, uV, uV, uV, uV, uV, uV, uV, uV, uV, uV, uV, uV, uV, uV, uV, uV, uV], []⟩ → R825 a_ W822 := by
  intro b718 s720 b813 f820 W822 a_ L821 HO824 HS823 hfr_; subst hfr_
  refine hR826 _ _ ?_
  refine takeEither 0 9 kr rfl rfl rfl rfl ?_ ?_
  · refine does_lit (e := tStr) (E := 9) (vs := #[(0, Value.string ⟨#[75, 73, 78, 68]⟩), (1, Value.string ⟨#[78, 85, 77, 66, 69, 82]⟩), (2, Value.string ⟨#[78, 69, 87]⟩), (3, Value.string ⟨#[88, 48]⟩)]) (cs := #[.string ⟨#[75, 73, 78, 68]⟩, .string ⟨#[78, 85, 77, 66, 69, 82]⟩, .string ⟨#[78, 69, 87]⟩, .string ⟨#[88, 48]⟩]) (xs := ([Z27, Z29, Z28, Z32] : List ByteArray)) rfl Tryz.underlying46 kr kr ⟨[.string ⟨#[75, 73, 78, 68]⟩], _, rfl, rfl, ⟨[.string ⟨#[78, 85, 77, 66, 69, 82]⟩], _, rfl, rfl, ⟨[.string ⟨#[78, 69, 87]⟩], _, rfl, rfl, ⟨[.string ⟨#[88, 48]⟩], _, rfl, rfl, rfl⟩⟩⟩⟩ rfl HS823 ?_ (by decide)
    intro b1241 W1242 s1243 HS1244 _ HO1245
    refine ⟨(Sg.g0 (Sx.of [s1243, [(b813, .cells #[.string ⟨#[]⟩, .string ⟨#[]⟩, .string ⟨#[]⟩, .string ⟨#[]⟩] 51 (0, 0))], s720] L821 HS1244)), ?_⟩
    obtain ⟨cs1247, hr1248, hc1249⟩ := HO1245.at' (i := vt46) c52 c63
    obtain rfl := hr1248
    refine takeGQ 3 [] rfl kr kr kr kr kr kr hnp (Sg.g0 (Sx.of [s1243, [(b813, .cells #[.string ⟨#[]⟩, .string ⟨#[]⟩, .string ⟨#[]⟩, .string ⟨#[]⟩] 51 (0, 0))], s720] L821 HS1244)) (fun w_ hw_ => by obtain ⟨g_, hl_, hS_⟩ := hw_.st; exact run_index (sz := 1) rfl Tryz.underlying46 kr (kv (.slice (some ⟨b1241, 0, none⟩) ([Z27, Z29, Z28, Z32] : List ByteArray).length 4)) (kv (.int .i64 vt46)) c52 c63 w_) ?_
    obtain ⟨cs1250, hr1251, hc1252⟩ := HO824.at' (i := vt83) c89 c113
    obtain rfl := hr1251
    have HS1258 := HS1244.u5.u5.u5.u3.u5.u5
    refine hR477 _ _ ?_
    exact J478 b1241 s1243 b718 s720 b813 f820 W1242 _ L821 HO1245 HO824 HS1258 kr
  · obtain ⟨cs1259, hr1260, hc1261⟩ := HO824.at' (i := vt83) c89 c113
    obtain rfl := hr1260
    refine does_run (run_load rfl Tryz.underlying9 rfl (kv (.pointer (some ⟨b718, 0 + (vt83 : Int).toNat * 1, none⟩))) ((hc1261 HS823.u1) 0 (by decide))) ?_
    refine ⟨(Sg.g0 (Sx.of [[(b813, .cells #[.string ⟨#[]⟩, .string ⟨#[]⟩, .string ⟨#[]⟩, .string ⟨#[]⟩] 51 (0, 0))], s720] L821 HS823)), ?_⟩
    refine hR802 _ _ ?_
    exact J803 b718 s720 b813 f820 W822 _ L821 HO824 HS823 kr
 have J188 : ∀ (b146 : Nat) (s148 : Seg) (f180 : FM) (W182 : World) (a_ : Act), FM.le f18 f180 → Own tStr 9 f180 (some ⟨b146, 0, none⟩) 4 s148 ([Z27, Z29, Z28, Z32] : List ByteArray) → St t W182 f180 (s148 :: [(b30, .cells #[.int .i64 vt15.W, .int .i64 vt15.H, .slice A22 vt15.Cards.length c23, .slice A27 vt15.Counts.length c28] 29 (0, 0))] :: s24 :: [(b11, .cells #[.slice A2 l1.length c3, .int .i64 vt16] 33 (0, 0))] :: H) → a_ = ⟨#[.slice A2 l1.length c3, iV vk5, iV value6, uV, uV, uV, fV, pV b30 0, uV, uV, uV, uV, uV, uV, uV, uV, uV, uV, uV, .slice A2 l1.length c3, .agg #[.slice A2 l1.length c3, iV 0], pV b11 0, (ag_Frame vt15 A22 c23 A27 c28), .slice (some ⟨b146, 0, none⟩) ([Z27, Z29, Z28, Z32] : List ByteArray).length 4, iV vk5, iV vt46, pV b146 (0 + (vt46 : Int).toNat * 1), .string (rd ([Z27, Z29, Z28, Z32] : List ByteArray) vt46), uV, iV value6, uV, uV, uV, uV, uV, uV, uV, uV, uV, uV, uV, uV, uV, uV, uV, uV, uV, uV, uV, uV, uV, uV, uV, uV, uV, uV, uV, uV, uV, uV, uV, uV, uV, uV, uV, uV, uV, uV, uV, uV, uV, uV, uV, uV, uV, uV, uV, uV, uV, uV, uV, uV, uV, uV, uV, uV, uV, uV, uV, uV, uV, uV, uV, uV, uV, uV, uV, uV, uV, uV, uV, uV, uV, uV, uV, uV, uV, uV, uV, uV, uV, uV, uV, uV, uV, uV, uV, uV, uV, uV, uV, uV, uV, uV, uV, uV, uV, uV, uV, uV], []⟩ → R185 a_ W182 := by
  intro b146 s148 f180 W182 a_ L181 HO184 HS183 hfr_; subst hfr_
  refine hR186 _ _ ?_
  refine takeAny3 5 7 11 kr (Way.mk' rfl rfl ?_) (Way.mk' rfl rfl ?_) (Way.mk' rfl rfl ?_)
  · refine does_lit (e := tStr) (E := 9) (vs := #[(0, Value.string ⟨#[97]⟩), (1, Value.string ⟨#[55]⟩), (2, Value.string ⟨#[91, 120, 93]⟩)]) (cs := #[.string ⟨#[97]⟩, .string ⟨#[55]⟩, .string ⟨#[91, 120, 93]⟩]) (xs := ([Z40, Z20, Z34] : List ByteArray)) rfl Tryz.underlying46 kr kr ⟨[.string ⟨#[97]⟩], _, rfl, rfl, ⟨[.string ⟨#[55]⟩], _, rfl, rfl, ⟨[.string ⟨#[91, 120, 93]⟩], _, rfl, rfl, rfl⟩⟩⟩ rfl HS183 ?_ (by decide)
    intro b1262 W1263 s1264 HS1265 _ HO1266
    refine ⟨(Sg.g0 (Sx.of [s1264, s148] L181 HS1265)), ?_⟩
    refine hR203 _ _ ?_
    exact J204 b146 s148 b1262 s1264 f180 W1263 _ L181 HO184 HO1266 HS1265 kr
  · refine does_call (f := 10) (args := #[.int .i64 value6, .int .i64 3]) kr (spymake_Below.calls k value6 3 HS183 vt83 hc84) ?_
    rintro _ W1270 ⟨f1268, rfl, L1269, HS1271⟩
    refine ⟨_, rfl, ?_⟩
    refine ⟨(Sg.g0 (Sx.of [s148] (L181.trans L1269) HS1271)), ?_⟩
    refine hR313 _ _ ?_
    exact J314 b146 s148 f1268 W1270 _ (L181.trans L1269) (HO184.mono L1269) HS1271 kr
  · refine does_alloc (z := Value.agg #[.string ⟨#[]⟩, .string ⟨#[]⟩, .string ⟨#[]⟩, .string ⟨#[]⟩]) (cs := #[.string ⟨#[]⟩, .string ⟨#[]⟩, .string ⟨#[]⟩, .string ⟨#[]⟩]) rfl kr rfl HS183 ?_
    intro b1272 W1273 HS1274
    refine ⟨(Sg.g0 (Sx.of [[(b1272, .cells #[.string ⟨#[]⟩, .string ⟨#[]⟩, .string ⟨#[]⟩, .string ⟨#[]⟩] 51 (0, 0))], s148] L181 HS1274)), ?_⟩
    refine hR357 _ _ ?_
    exact J358 b146 s148 b1272 f180 W1273 _ L181 HO184 HS1274 kr
 have J387 : ∀ (b146 : Nat) (s148 : Seg) (b369 : Nat) (s371 : Seg) (f378 : FM) (W380 : World) (a_ : Act), FM.le f18 f378 → Own tStr 9 f378 (some ⟨b146, 0, none⟩) 4 s148 ([Z27, Z29, Z28, Z32] : List ByteArray) → Own tStr 9 f378 (some ⟨b369, 0, none⟩) 3 s371 ([Z40, Z20, Z34] : List ByteArray) → St t W380 f378 (s371 :: s148 :: [(b30, .cells #[.int .i64 vt15.W, .int .i64 vt15.H, .slice A22 vt15.Cards.length c23, .slice A27 vt15.Counts.length c28] 29 (0, 0))] :: s24 :: [(b11, .cells #[.slice A2 l1.length c3, .int .i64 vt16] 33 (0, 0))] :: H) → a_ = ⟨#[.slice A2 l1.length c3, iV vk5, iV value6, uV, uV, uV, fV, pV b30 0, uV, uV, uV, uV, uV, uV, uV, uV, uV, uV, uV, .slice A2 l1.length c3, .agg #[.slice A2 l1.length c3, iV 0], pV b11 0, (ag_Frame vt15 A22 c23 A27 c28), .slice (some ⟨b146, 0, none⟩) ([Z27, Z29, Z28, Z32] : List ByteArray).length 4, iV vk5, iV vt46, pV b146 (0 + (vt46 : Int).toNat * 1), uV, .slice (some ⟨b369, 0, none⟩) ([Z40, Z20, Z34] : List ByteArray).length 3, iV value6, uV, uV, uV, uV, uV, uV, uV, uV, uV, uV, uV, uV, uV, uV, uV, uV, uV, uV, uV, uV, uV, uV, uV, uV, uV, uV, uV, uV, uV, uV, uV, uV, uV, uV, uV, uV, uV, uV, uV, uV, uV, uV, uV, uV, uV, uV, uV, uV, uV, uV, uV, uV, uV, uV, uV, uV, uV, uV, uV, uV, uV, uV, uV, uV, uV, uV, uV, uV, uV, uV, uV, uV, uV, uV, uV, uV, uV, uV, uV, uV, uV, uV, uV, uV, uV, uV, uV, uV, uV, uV, uV, uV, uV, uV, uV, uV, uV, uV, uV, uV], []⟩ → R384 a_ W380 := by
  intro b146 s148 b369 s371 f378 W380 a_ L379 HO382 HO383 HS381 hfr_; subst hfr_
  refine hR385 _ _ ?_
  refine takeAny3 4 7 11 kr (Way.mk' rfl rfl ?_) (Way.mk' rfl rfl ?_) (Way.mk' rfl rfl ?_)
  · obtain ⟨cs1276, hr1277, hc1278⟩ := HO382.at' (i := vt46) c52 c63
    obtain rfl := hr1277
    refine does_run (run_load rfl Tryz.underlying9 rfl (kv (.pointer (some ⟨b146, 0 + (vt46 : Int).toNat * 1, none⟩))) ((hc1278 HS381.u1) 0 (by decide))) ?_
    refine ⟨(Sg.g0 (Sx.of [s371, s148] L379 HS381)), ?_⟩
    refine hR203 _ _ ?_
    exact J204 b146 s148 b369 s371 f378 W380 _ L379 HO382 HO383 HS381 kr
  · refine does_call (f := 10) (args := #[.int .i64 value6, .int .i64 3]) kr (spymake_Below.calls k value6 3 HS381 vt83 hc84) ?_
    rintro _ W1281 ⟨f1279, rfl, L1280, HS1282⟩
    refine ⟨_, rfl, ?_⟩
    refine ⟨(Sg.g0 (Sx.of [s371, s148] (L379.trans L1280) HS1282)), ?_⟩
    obtain ⟨cs1283, hr1284, hc1285⟩ := (HO382.mono L1280).at' (i := vt46) c52 c63
    obtain rfl := hr1284
    obtain ⟨cs1286, hr1287, hc1288⟩ := (HO383.mono L1280).at' (i := vt83) c89 c113
    obtain rfl := hr1287
    refine takeGQ 8 [] rfl kr kr kr kr kr kr hnp (Sg.g0 (Sx.of [s371, s148] (L379.trans L1280) HS1282)) (fun w_ hw_ => by obtain ⟨g_, hl_, hS_⟩ := hw_.st; exact run_index (sz := 1) rfl Tryz.underlying46 kr (kv (.slice (some ⟨b369, 0, none⟩) ([Z40, Z20, Z34] : List ByteArray).length 3)) (kv (.int .i64 vt83)) c89 c113 w_) ?_
    obtain ⟨cs1289, hr1290, hc1291⟩ := (HO382.mono L1280).at' (i := vt46) c52 c63
    obtain rfl := hr1290
    refine hR412 _ _ ?_
    exact J413 b146 s148 b369 s371 f1279 W1281 _ (L379.trans L1280) (HO382.mono L1280) (HO383.mono L1280) HS1282 kr
  · refine does_alloc (z := Value.agg #[.string ⟨#[]⟩, .string ⟨#[]⟩, .string ⟨#[]⟩, .string ⟨#[]⟩]) (cs := #[.string ⟨#[]⟩, .string ⟨#[]⟩, .string ⟨#[]⟩, .string ⟨#[]⟩]) rfl kr rfl HS381 ?_
    intro b1292 W1293 HS1294
    refine ⟨(Sg.g0 (Sx.of [[(b1292, .cells #[.string ⟨#[]⟩, .string ⟨#[]⟩, .string ⟨#[]⟩, .string ⟨#[]⟩] 51 (0, 0))], s371, s148] L379 HS1294)), ?_⟩
    obtain ⟨cs1296, hr1297, hc1298⟩ := HO382.at' (i := vt46) c52 c63
    obtain rfl := hr1297
    refine hR506 _ _ ?_
    exact J507 b146 s148 b369 s371 b1292 f378 W1293 _ L379 HO382 HO383 HS1294 kr
 have J539 : ∀ (b146 : Nat) (s148 : Seg) (f531 : FM) (W533 : World) (a_ : Act), FM.le f18 f531 → Own tStr 9 f531 (some ⟨b146, 0, none⟩) 4 s148 ([Z27, Z29, Z28, Z32] : List ByteArray) → St t W533 f531 (s148 :: [(b30, .cells #[.int .i64 vt15.W, .int .i64 vt15.H, .slice A22 vt15.Cards.length c23, .slice A27 vt15.Counts.length c28] 29 (0, 0))] :: s24 :: [(b11, .cells #[.slice A2 l1.length c3, .int .i64 vt16] 33 (0, 0))] :: H) → a_ = ⟨#[.slice A2 l1.length c3, iV vk5, iV value6, uV, uV, uV, fV, pV b30 0, uV, uV, uV, uV, uV, uV, uV, uV, uV, uV, uV, .slice A2 l1.length c3, .agg #[.slice A2 l1.length c3, iV 0], pV b11 0, (ag_Frame vt15 A22 c23 A27 c28), .slice (some ⟨b146, 0, none⟩) ([Z27, Z29, Z28, Z32] : List ByteArray).length 4, iV vk5, iV vt46, pV b146 (0 + (vt46 : Int).toNat * 1), uV, uV, iV value6, iV vt83, uV, uV, uV, uV, uV, uV, uV, uV, uV, uV, uV, uV, uV, uV, uV, uV, uV, uV, uV, uV, uV, uV, uV, uV, uV, uV, uV, uV, uV, uV, uV, uV, uV, uV, uV, uV, uV, uV, uV, uV, uV, uV, uV, uV, uV, uV, uV, uV, uV, uV, uV, uV, uV, uV, uV, uV, uV, uV, uV, uV, uV, uV, uV, uV, uV, uV, uV, uV, uV, uV, uV, uV, uV, uV, uV, uV, uV, uV, uV, uV, uV, uV, uV, uV, uV, uV, uV, uV, uV, uV, uV, uV, uV, uV, uV, uV, uV, uV, uV], []⟩ → R536 a_ W533 := by
  intro b146 s148 f531 W533 a_ L532 HO535 HS534 hfr_; subst hfr_
  refine hR537 _ _ ?_
  refine takeAny3 4 5 11 kr (Way.mk' rfl rfl ?_) (Way.mk' rfl rfl ?_) (Way.mk' rfl rfl ?_)
  · obtain ⟨cs1299, hr1300, hc1301⟩ := HO535.at' (i := vt46) c52 c63
    obtain rfl := hr1300
    refine does_run (run_load rfl Tryz.underlying9 rfl (kv (.pointer (some ⟨b146, 0 + (vt46 : Int).toNat * 1, none⟩))) ((hc1301 HS534) 0 (by decide))) ?_
    refine ⟨(Sg.g0 (Sx.of [s148] L532 HS534)), ?_⟩
    refine hR313 _ _ ?_
    exact J314 b146 s148 f531 W533 _ L532 HO535 HS534 kr
  · refine does_lit (e := tStr) (E := 9) (vs := #[(0, Value.string ⟨#[97]⟩), (1, Value.string ⟨#[55]⟩), (2, Value.string ⟨#[91, 120, 93]⟩)]) (cs := #[.string ⟨#[97]⟩, .string ⟨#[55]⟩, .string ⟨#[91, 120, 93]⟩]) (xs := ([Z40, Z20, Z34] : List ByteArray)) rfl Tryz.underlying46 kr kr ⟨[.string ⟨#[97]⟩], _, rfl, rfl, ⟨[.string ⟨#[55]⟩], _, rfl, rfl, ⟨[.string ⟨#[91, 120, 93]⟩], _, rfl, rfl, rfl⟩⟩⟩ rfl HS534 ?_ (by decide)
    intro b1302 W1303 s1304 HS1305 _ HO1306
    refine ⟨(Sg.g0 (Sx.of [s1304, s148] L532 HS1305)), ?_⟩
    obtain ⟨cs1308, hr1309, hc1310⟩ := HO535.at' (i := vt46) c52 c63
    obtain rfl := hr1309
    obtain ⟨cs1311, hr1312, hc1313⟩ := HO1306.at' (i := vt83) c89 c113
    obtain rfl := hr1312
    refine takeGQ 8 [] rfl kr kr kr kr kr kr hnp (Sg.g0 (Sx.of [s1304, s148] L532 HS1305)) (fun w_ hw_ => by obtain ⟨g_, hl_, hS_⟩ := hw_.st; exact run_index (sz := 1) rfl Tryz.underlying46 kr (kv (.slice (some ⟨b1302, 0, none⟩) ([Z40, Z20, Z34] : List ByteArray).length 3)) (kv (.int .i64 vt83)) c89 c113 w_) ?_
    obtain ⟨cs1314, hr1315, hc1316⟩ := HO535.at' (i := vt46) c52 c63
    obtain rfl := hr1315
    refine hR412 _ _ ?_
    exact J413 b146 s148 b1302 s1304 f531 W1303 _ L532 HO535 HO1306 HS1305 kr
  · refine does_alloc (z := Value.agg #[.string ⟨#[]⟩, .string ⟨#[]⟩, .string ⟨#[]⟩, .string ⟨#[]⟩]) (cs := #[.string ⟨#[]⟩, .string ⟨#[]⟩, .string ⟨#[]⟩, .string ⟨#[]⟩]) rfl kr rfl HS534 ?_
    intro b1317 W1318 HS1319
    refine ⟨(Sg.g0 (Sx.of [[(b1317, .cells #[.string ⟨#[]⟩, .string ⟨#[]⟩, .string ⟨#[]⟩, .string ⟨#[]⟩] 51 (0, 0))], s148] L532 HS1319)), ?_⟩
    obtain ⟨cs1321, hr1322, hc1323⟩ := HO535.at' (i := vt46) c52 c63
    obtain rfl := hr1322
    refine hR572 _ _ ?_
    exact J573 b146 s148 b1317 f531 W1318 _ L532 HO535 HS1319 kr
 have J607 : ∀ (b146 : Nat) (s148 : Seg) (b592 : Nat) (f599 : FM) (W601 : World) (a_ : Act), FM.le f18 f599 → Own tStr 9 f599 (some ⟨b146, 0, none⟩) 4 s148 ([Z27, Z29, Z28, Z32] : List ByteArray) → St t W601 f599 ([(b592, .cells #[.string ⟨#[]⟩, .string ⟨#[]⟩, .string ⟨#[]⟩, .string ⟨#[]⟩] 51 (0, 0))] :: s148 :: [(b30, .cells #[.int .i64 vt15.W, .int .i64 vt15.H, .slice A22 vt15.Cards.length c23, .slice A27 vt15.Counts.length c28] 29 (0, 0))] :: s24 :: [(b11, .cells #[.slice A2 l1.length c3, .int .i64 vt16] 33 (0, 0))] :: H) → a_ = ⟨#[.slice A2 l1.length c3, iV vk5, iV value6, uV, uV, uV, fV, pV b30 0, pV b592 0, uV, uV, uV, uV, uV, uV, uV, uV, uV, uV, .slice A2 l1.length c3, .agg #[.slice A2 l1.length c3, iV 0], pV b11 0, (ag_Frame vt15 A22 c23 A27 c28), .slice (some ⟨b146, 0, none⟩) ([Z27, Z29, Z28, Z32] : List ByteArray).length 4, iV vk5, iV vt46, pV b146 (0 + (vt46 : Int).toNat * 1), uV, uV, iV value6, uV, uV, uV, uV, uV, uV, uV, uV, uV, uV, uV, uV, uV, uV, uV, uV, uV, uV, uV, uV, uV, uV, uV, uV, uV, uV, uV, uV, uV, uV, uV, uV, uV, uV, uV, uV, uV, uV, uV, uV, uV, uV, uV, uV, uV, uV, uV, uV, uV, uV, uV, uV, uV, uV, uV, uV, uV, uV, uV, uV, uV, uV, uV, uV, uV, uV, uV, uV, uV, uV, uV, uV, uV, uV, uV, uV, uV, uV, uV, uV, uV, uV, uV, uV, uV, uV, uV, uV, uV, uV, uV, uV, uV, uV, uV, uV, uV, uV, uV, uV], []⟩ → R604 a_ W601 := by
  intro b146 s148 b592 f599 W601 a_ L600 HO603 HS602 hfr_; subst hfr_
  refine hR605 _ _ ?_
  refine takeAny3 4 5 7 kr (Way.mk' rfl rfl ?_) (Way.mk' rfl rfl ?_) (Way.mk' rfl rfl ?_)
  · obtain ⟨cs1324, hr1325, hc1326⟩ := HO603.at' (i := vt46) c52 c63
    obtain rfl := hr1325
    refine does_run (run_load rfl Tryz.underlying9 rfl (kv (.pointer (some ⟨b146, 0 + (vt46 : Int).toNat * 1, none⟩))) ((hc1326 HS602.u1) 0 (by decide))) ?_
    refine ⟨(Sg.g0 (Sx.of [[(b592, .cells #[.string ⟨#[]⟩, .string ⟨#[]⟩, .string ⟨#[]⟩, .string ⟨#[]⟩] 51 (0, 0))], s148] L600 HS602)), ?_⟩
    refine hR357 _ _ ?_
    exact J358 b146 s148 b592 f599 W601 _ L600 HO603 HS602 kr
  · refine does_lit (e := tStr) (E := 9) (vs := #[(0, Value.string ⟨#[97]⟩), (1, Value.string ⟨#[55]⟩), (2, Value.string ⟨#[91, 120, 93]⟩)]) (cs := #[.string ⟨#[97]⟩, .string ⟨#[55]⟩, .string ⟨#[91, 120, 93]⟩]) (xs := ([Z40, Z20, Z34] : List ByteArray)) rfl Tryz.underlying46 kr kr ⟨[.string ⟨#[97]⟩], _, rfl, rfl, ⟨[.string ⟨#[55]⟩], _, rfl, rfl, ⟨[.string ⟨#[91, 120, 93]⟩], _, rfl, rfl, rfl⟩⟩⟩ rfl HS602 ?_ (by decide)
    intro b1327 W1328 s1329 HS1330 _ HO1331
    refine ⟨(Sg.g0 (Sx.of [s1329, [(b592, .cells #[.string ⟨#[]⟩, .string ⟨#[]⟩, .string ⟨#[]⟩, .string ⟨#[]⟩] 51 (0, 0))], s148] L600 HS1330)), ?_⟩
    obtain ⟨cs1333, hr1334, hc1335⟩ := HO603.at' (i := vt46) c52 c63
    obtain rfl := hr1334
    have HS1341 := HS1330.u5.u5.u5.u5.u4.u5
    refine hR506 _ _ ?_
    exact J507 b146 s148 b1327 s1329 b592 f599 W1328 _ L600 HO603 HO1331 HS1341 kr
  · refine does_call (f := 10) (args := #[.int .i64 value6, .int .i64 3]) kr (spymake_Below.calls k value6 3 HS602 vt83 hc84) ?_
    rintro _ W1344 ⟨f1342, rfl, L1343, HS1345⟩
    refine ⟨_, rfl, ?_⟩
    refine ⟨(Sg.g0 (Sx.of [[(b592, .cells #[.string ⟨#[]⟩, .string ⟨#[]⟩, .string ⟨#[]⟩, .string ⟨#[]⟩] 51 (0, 0))], s148] (L600.trans L1343) HS1345)), ?_⟩
    obtain ⟨cs1346, hr1347, hc1348⟩ := (HO603.mono L1343).at' (i := vt46) c52 c63
    obtain rfl := hr1347
    refine hR572 _ _ ?_
    exact J573 b146 s148 b592 f1342 W1344 _ (L600.trans L1343) (HO603.mono L1343) HS1345 kr
 have J757 : ∀ (b718 : Nat) (s720 : Seg) (f749 : FM) (W751 : World) (a_ : Act), FM.le f18 f749 → Own tStr 9 f749 (some ⟨b718, 0, none⟩) 3 s720 ([Z40, Z20, Z34] : List ByteArray) → St t W751 f749 (s720 :: [(b30, .cells #[.int .i64 vt15.W, .int .i64 vt15.H, .slice A22 vt15.Cards.length c23, .slice A27 vt15.Counts.length c28] 29 (0, 0))] :: s24 :: [(b11, .cells #[.slice A2 l1.length c3, .int .i64 vt16] 33 (0, 0))] :: H) → a_ = ⟨#[.slice A2 l1.length c3, iV vk5, iV value6, uV, uV, uV, fV, pV b30 0, uV, uV, uV, uV, uV, uV, uV, uV, uV, uV, uV, .slice A2 l1.length c3, .agg #[.slice A2 l1.length c3, iV 0], pV b11 0, (ag_Frame vt15 A22 c23 A27 c28), uV, iV vk5, iV vt46, uV, uV, .slice (some ⟨b718, 0, none⟩) ([Z40, Z20, Z34] : List ByteArray).length 3, iV value6, iV vt83, pV b718 (0 + (vt83 : Int).toNat * 1), uV, uV, uV, uV, uV, uV, uV, uV, uV, uV, uV, uV, uV, uV, uV, uV, uV, uV, uV, uV, uV, uV, uV, uV, uV, uV, uV, uV, uV, uV, uV, uV, uV, uV, uV, uV, uV, uV, uV, uV, uV, uV, uV, uV, uV, uV, uV, uV, uV, uV, uV, uV, uV, uV, uV, uV, uV, uV, uV, uV, uV, uV, uV, uV, uV, uV, uV, uV, uV, uV, uV, uV, uV, uV, uV, uV, uV, uV, uV, uV, uV, uV, uV, uV, uV, uV, uV, uV, uV, uV, uV, uV, uV, uV, uV, uV, uV, uV], []⟩ → R754 a_ W751 := by
  intro b718 s720 f749 W751 a_ L750 HO753 HS752 hfr_; subst hfr_
  refine hR755 _ _ ?_
  refine takeAny3 0 9 11 kr (Way.mk' rfl rfl ?_) (Way.mk' rfl rfl ?_) (Way.mk' rfl rfl ?_)
  · refine does_lit (e := tStr) (E := 9) (vs := #[(0, Value.string ⟨#[75, 73, 78, 68]⟩), (1, Value.string ⟨#[78, 85, 77, 66, 69, 82]⟩), (2, Value.string ⟨#[78, 69, 87]⟩), (3, Value.string ⟨#[88, 48]⟩)]) (cs := #[.string ⟨#[75, 73, 78, 68]⟩, .string ⟨#[78, 85, 77, 66, 69, 82]⟩, .string ⟨#[78, 69, 87]⟩, .string ⟨#[88, 48]⟩]) (xs := ([Z27, Z29, Z28, Z32] : List ByteArray)) rfl Tryz.underlying46 kr kr ⟨[.string ⟨#[75, 73, 78, 68]⟩], _, rfl, rfl, ⟨[.string ⟨#[78, 85, 77, 66, 69, 82]⟩], _, rfl, rfl, ⟨[.string ⟨#[78, 69, 87]⟩], _, rfl, rfl, ⟨[.string ⟨#[88, 48]⟩], _, rfl, rfl, rfl⟩⟩⟩⟩ rfl HS752 ?_ (by decide)
    intro b1349 W1350 s1351 HS1352 _ HO1353
    refine ⟨(Sg.g0 (Sx.of [s1351, s720] L750 HS1352)), ?_⟩
    obtain ⟨cs1355, hr1356, hc1357⟩ := HO1353.at' (i := vt46) c52 c63
    obtain rfl := hr1356
    refine takeGQ 3 [] rfl kr kr kr kr kr kr hnp (Sg.g0 (Sx.of [s1351, s720] L750 HS1352)) (fun w_ hw_ => by obtain ⟨g_, hl_, hS_⟩ := hw_.st; exact run_index (sz := 1) rfl Tryz.underlying46 kr (kv (.slice (some ⟨b1349, 0, none⟩) ([Z27, Z29, Z28, Z32] : List ByteArray).length 4)) (kv (.int .i64 vt46)) c52 c63 w_) ?_
    obtain ⟨cs1358, hr1359, hc1360⟩ := HO753.at' (i := vt83) c89 c113
    obtain rfl := hr1359
    have HS1365 := HS1352.u4.u4.u4.u3.u4
    refine hR412 _ _ ?_
    exact J413 b1349 s1351 b718 s720 f749 W1350 _ L750 HO1353 HO753 HS1365 kr
  · obtain ⟨cs1366, hr1367, hc1368⟩ := HO753.at' (i := vt83) c89 c113
    obtain rfl := hr1367
    refine does_run (run_load rfl Tryz.underlying9 rfl (kv (.pointer (some ⟨b718, 0 + (vt83 : Int).toNat * 1, none⟩))) ((hc1368 HS752) 0 (by decide))) ?_
    refine ⟨(Sg.g0 (Sx.of [s720] L750 HS752)), ?_⟩
    refine hR780 _ _ ?_
    exact J781 b718 s720 f749 W751 _ L750 HO753 HS752 kr
  · refine does_alloc (z := Value.agg #[.string ⟨#[]⟩, .string ⟨#[]⟩, .string ⟨#[]⟩, .string ⟨#[]⟩]) (cs := #[.string ⟨#[]⟩, .string ⟨#[]⟩, .string ⟨#[]⟩, .string ⟨#[]⟩]) rfl kr rfl HS752 ?_
    intro b1369 W1370 HS1371
    refine ⟨(Sg.g0 (Sx.of [[(b1369, .cells #[.string ⟨#[]⟩, .string ⟨#[]⟩, .string ⟨#[]⟩, .string ⟨#[]⟩] 51 (0, 0))], s720] L750 HS1371)), ?_⟩
    obtain ⟨cs1373, hr1374, hc1375⟩ := HO753.at' (i := vt83) c89 c113
    obtain rfl := hr1374
    refine hR827 _ _ ?_
    exact J828 b718 s720 b1369 f749 W1370 _ L750 HO753 HS1371 kr
 have J176 : ∀ (b146 : Nat) (s148 : Seg) (f168 : FM) (W170 : World) (a_ : Act), FM.le f18 f168 → Own tStr 9 f168 (some ⟨b146, 0, none⟩) 4 s148 ([Z27, Z29, Z28, Z32] : List ByteArray) → St t W170 f168 (s148 :: [(b30, .cells #[.int .i64 vt15.W, .int .i64 vt15.H, .slice A22 vt15.Cards.length c23, .slice A27 vt15.Counts.length c28] 29 (0, 0))] :: s24 :: [(b11, .cells #[.slice A2 l1.length c3, .int .i64 vt16] 33 (0, 0))] :: H) → a_ = ⟨#[.slice A2 l1.length c3, iV vk5, iV value6, uV, uV, uV, fV, pV b30 0, uV, uV, uV, uV, uV, uV, uV, uV, uV, uV, uV, .slice A2 l1.length c3, .agg #[.slice A2 l1.length c3, iV 0], pV b11 0, (ag_Frame vt15 A22 c23 A27 c28), .slice (some ⟨b146, 0, none⟩) ([Z27, Z29, Z28, Z32] : List ByteArray).length 4, iV vk5, iV vt46, pV b146 (0 + (vt46 : Int).toNat * 1), uV, uV, iV value6, uV, uV, uV, uV, uV, uV, uV, uV, uV, uV, uV, uV, uV, uV, uV, uV, uV, uV, uV, uV, uV, uV, uV, uV, uV, uV, uV, uV, uV, uV, uV, uV, uV, uV, uV, uV, uV, uV, uV, uV, uV, uV, uV, uV, uV, uV, uV, uV, uV, uV, uV, uV, uV, uV, uV, uV, uV, uV, uV, uV, uV, uV, uV, uV, uV, uV, uV, uV, uV, uV, uV, uV, uV, uV, uV, uV, uV, uV, uV, uV, uV, uV, uV, uV, uV, uV, uV, uV, uV, uV, uV, uV, uV, uV, uV, uV, uV, uV, uV, uV], []⟩ → R173 a_ W170 := by
  intro b146 s148 f168 W170 a_ L169 HO172 HS171 hfr_; subst hfr_
  refine hR174 _ _ ?_
  refine takeAny4 4 5 7 11 kr (Way.mk' rfl rfl ?_) (Way.mk' rfl rfl ?_) (Way.mk' rfl rfl ?_) (Way.mk' rfl rfl ?_)
  · obtain ⟨cs1376, hr1377, hc1378⟩ := HO172.at' (i := vt46) c52 c63
    obtain rfl := hr1377
    refine does_run (run_load rfl Tryz.underlying9 rfl (kv (.pointer (some ⟨b146, 0 + (vt46 : Int).toNat * 1, none⟩))) ((hc1378 HS171) 0 (by decide))) ?_
    refine ⟨(Sg.g0 (Sx.of [s148] L169 HS171)), ?_⟩
    refine hR187 _ _ ?_
    exact J188 b146 s148 f168 W170 _ L169 HO172 HS171 kr
  · refine does_lit (e := tStr) (E := 9) (vs := #[(0, Value.string ⟨#[97]⟩), (1, Value.string ⟨#[55]⟩), (2, Value.string ⟨#[91, 120, 93]⟩)]) (cs := #[.string ⟨#[97]⟩, .string ⟨#[55]⟩, .string ⟨#[91, 120, 93]⟩]) (xs := ([Z40, Z20, Z34] : List ByteArray)) rfl Tryz.underlying46 kr kr ⟨[.string ⟨#[97]⟩], _, rfl, rfl, ⟨[.string ⟨#[55]⟩], _, rfl, rfl, ⟨[.string ⟨#[91, 120, 93]⟩], _, rfl, rfl, rfl⟩⟩⟩ rfl HS171 ?_ (by decide)
    intro b1379 W1380 s1381 HS1382 _ HO1383
    refine ⟨(Sg.g0 (Sx.of [s1381, s148] L169 HS1382)), ?_⟩
    obtain ⟨cs1385, hr1386, hc1387⟩ := HO172.at' (i := vt46) c52 c63
    obtain rfl := hr1386
    refine hR386 _ _ ?_
    exact J387 b146 s148 b1379 s1381 f168 W1380 _ L169 HO172 HO1383 HS1382 kr
  · refine does_call (f := 10) (args := #[.int .i64 value6, .int .i64 3]) kr (spymake_Below.calls k value6 3 HS171 vt83 hc84) ?_
    rintro _ W1390 ⟨f1388, rfl, L1389, HS1391⟩
    refine ⟨_, rfl, ?_⟩
    refine ⟨(Sg.g0 (Sx.of [s148] (L169.trans L1389) HS1391)), ?_⟩
    obtain ⟨cs1392, hr1393, hc1394⟩ := (HO172.mono L1389).at' (i := vt46) c52 c63
    obtain rfl := hr1393
    refine hR538 _ _ ?_
    exact J539 b146 s148 f1388 W1390 _ (L169.trans L1389) (HO172.mono L1389) HS1391 kr
  · refine does_alloc (z := Value.agg #[.string ⟨#[]⟩, .string ⟨#[]⟩, .string ⟨#[]⟩, .string ⟨#[]⟩]) (cs := #[.string ⟨#[]⟩, .string ⟨#[]⟩, .string ⟨#[]⟩, .string ⟨#[]⟩]) rfl kr rfl HS171 ?_
    intro b1395 W1396 HS1397
    refine ⟨(Sg.g0 (Sx.of [[(b1395, .cells #[.string ⟨#[]⟩, .string ⟨#[]⟩, .string ⟨#[]⟩, .string ⟨#[]⟩] 51 (0, 0))], s148] L169 HS1397)), ?_⟩
    obtain ⟨cs1399, hr1400, hc1401⟩ := HO172.at' (i := vt46) c52 c63
    obtain rfl := hr1400
    refine hR606 _ _ ?_
    exact J607 b146 s148 b1395 f168 W1396 _ L169 HO172 HS1397 kr
 have J663 : ∀ (b146 : Nat) (s148 : Seg) (b627 : Nat) (s629 : Seg) (b650 : Nat) (f654 : FM) (W656 : World) (a_ : Act), FM.le f18 f654 → Own tStr 9 f654 (some ⟨b146, 0, none⟩) 4 s148 ([Z27, Z29, Z28, Z32] : List ByteArray) → Own tStr 9 f654 (some ⟨b627, 0, none⟩) 3 s629 ([Z40, Z20, Z34] : List ByteArray) → St t W656 f654 ([(b650, .cells #[.string ⟨#[]⟩, .string ⟨#[]⟩, .string ⟨#[]⟩, .string ⟨#[]⟩] 51 (0, 0))] :: s629 :: s148 :: [(b30, .cells #[.int .i64 vt15.W, .int .i64 vt15.H, .slice A22 vt15.Cards.length c23, .slice A27 vt15.Counts.length c28] 29 (0, 0))] :: s24 :: [(b11, .cells #[.slice A2 l1.length c3, .int .i64 vt16] 33 (0, 0))] :: H) → a_ = ⟨#[.slice A2 l1.length c3, iV vk5, iV value6, uV, uV, uV, fV, pV b30 0, pV b650 0, uV, uV, uV, uV, uV, uV, uV, uV, uV, uV, .slice A2 l1.length c3, .agg #[.slice A2 l1.length c3, iV 0], pV b11 0, (ag_Frame vt15 A22 c23 A27 c28), .slice (some ⟨b146, 0, none⟩) ([Z27, Z29, Z28, Z32] : List ByteArray).length 4, iV vk5, uV, uV, uV, .slice (some ⟨b627, 0, none⟩) ([Z40, Z20, Z34] : List ByteArray).length 3, iV value6, uV, uV, uV, uV, uV, uV, uV, uV, uV, uV, uV, uV, uV, uV, uV, uV, uV, uV, uV, uV, uV, uV, uV, uV, uV, uV, uV, uV, uV, uV, uV, uV, uV, uV, uV, uV, uV, uV, uV, uV, uV, uV, uV, uV, uV, uV, uV, uV, uV, uV, uV, uV, uV, uV, uV, uV, uV, uV, uV, uV, uV, uV, uV, uV, uV, uV, uV, uV, uV, uV, uV, uV, uV, uV, uV, uV, uV, uV, uV, uV, uV, uV, uV, uV, uV, uV, uV, uV, uV, uV, uV, uV, uV, uV, uV, uV, uV, uV, uV, uV], []⟩ → R660 a_ W656 := by
  intro b146 s148 b627 s629 b650 f654 W656 a_ L655 HO658 HO659 HS657 hfr_; subst hfr_
  refine hR661 _ _ ?_
  refine takeGE 2 kr rfl (wanted_none rfl _) ?_
  refine does_call (f := 10) (args := #[.int .i64 vk5, .int .i64 4]) kr (spymake_Below.calls k vk5 4 HS657 vt46 hc47) ?_
  rintro _ W1404 ⟨f1402, rfl, L1403, HS1405⟩
  refine ⟨_, rfl, ?_⟩
  refine ⟨(Sg.g0 (Sx.of [[(b650, .cells #[.string ⟨#[]⟩, .string ⟨#[]⟩, .string ⟨#[]⟩, .string ⟨#[]⟩] 51 (0, 0))], s629, s148] (L655.trans L1403) HS1405)), ?_⟩
  obtain ⟨cs1406, hr1407, hc1408⟩ := (HO658.mono L1403).at' (i := vt46) c52 c63
  obtain rfl := hr1407
  refine takeGQ 3 [] rfl kr kr kr kr kr kr hnp (Sg.g0 (Sx.of [[(b650, .cells #[.string ⟨#[]⟩, .string ⟨#[]⟩, .string ⟨#[]⟩, .string ⟨#[]⟩] 51 (0, 0))], s629, s148] (L655.trans L1403) HS1405)) (fun w_ hw_ => by obtain ⟨g_, hl_, hS_⟩ := hw_.st; exact run_index (sz := 1) rfl Tryz.underlying46 kr (kv (.slice (some ⟨b146, 0, none⟩) ([Z27, Z29, Z28, Z32] : List ByteArray).length 4)) (kv (.int .i64 vt46)) c52 c63 w_) ?_
  refine hR506 _ _ ?_
  exact J507 b146 s148 b627 s629 b650 f1402 W1404 _ (L655.trans L1403) (HO658.mono L1403) (HO659.mono L1403) HS1405 kr
 have J856 : ∀ (b718 : Nat) (s720 : Seg) (b844 : Nat) (f848 : FM) (W850 : World) (a_ : Act), FM.le f18 f848 → Own tStr 9 f848 (some ⟨b718, 0, none⟩) 3 s720 ([Z40, Z20, Z34] : List ByteArray) → St t W850 f848 ([(b844, .cells #[.string ⟨#[]⟩, .string ⟨#[]⟩, .string ⟨#[]⟩, .string ⟨#[]⟩] 51 (0, 0))] :: s720 :: [(b30, .cells #[.int .i64 vt15.W, .int .i64 vt15.H, .slice A22 vt15.Cards.length c23, .slice A27 vt15.Counts.length c28] 29 (0, 0))] :: s24 :: [(b11, .cells #[.slice A2 l1.length c3, .int .i64 vt16] 33 (0, 0))] :: H) → a_ = ⟨#[.slice A2 l1.length c3, iV vk5, iV value6, uV, uV, uV, fV, pV b30 0, pV b844 0, uV, uV, uV, uV, uV, uV, uV, uV, uV, uV, .slice A2 l1.length c3, .agg #[.slice A2 l1.length c3, iV 0], pV b11 0, (ag_Frame vt15 A22 c23 A27 c28), uV, iV vk5, iV vt46, uV, uV, .slice (some ⟨b718, 0, none⟩) ([Z40, Z20, Z34] : List ByteArray).length 3, iV value6, uV, uV, uV, uV, uV, uV, uV, uV, uV, uV, uV, uV, uV, uV, uV, uV, uV, uV, uV, uV, uV, uV, uV, uV, uV, uV, uV, uV, uV, uV, uV, uV, uV, uV, uV, uV, uV, uV, uV, uV, uV, uV, uV, uV, uV, uV, uV, uV, uV, uV, uV, uV, uV, uV, uV, uV, uV, uV, uV, uV, uV, uV, uV, uV, uV, uV, uV, uV, uV, uV, uV, uV, uV, uV, uV, uV, uV, uV, uV, uV, uV, uV, uV, uV, uV, uV, uV, uV, uV, uV, uV, uV, uV, uV, uV, uV, uV, uV, uV, uV], []⟩ → R853 a_ W850 := by
  intro b718 s720 b844 f848 W850 a_ L849 HO852 HS851 hfr_; subst hfr_
  refine hR854 _ _ ?_
  refine takeEither 0 7 kr rfl rfl rfl rfl ?_ ?_
  · refine does_lit (e := tStr) (E := 9) (vs := #[(0, Value.string ⟨#[75, 73, 78, 68]⟩), (1, Value.string ⟨#[78, 85, 77, 66, 69, 82]⟩), (2, Value.string ⟨#[78, 69, 87]⟩), (3, Value.string ⟨#[88, 48]⟩)]) (cs := #[.string ⟨#[75, 73, 78, 68]⟩, .string ⟨#[78, 85, 77, 66, 69, 82]⟩, .string ⟨#[78, 69, 87]⟩, .string ⟨#[88, 48]⟩]) (xs := ([Z27, Z29, Z28, Z32] : List ByteArray)) rfl Tryz.underlying46 kr kr ⟨[.string ⟨#[75, 73, 78, 68]⟩], _, rfl, rfl, ⟨[.string ⟨#[78, 85, 77, 66, 69, 82]⟩], _, rfl, rfl, ⟨[.string ⟨#[78, 69, 87]⟩], _, rfl, rfl, ⟨[.string ⟨#[88, 48]⟩], _, rfl, rfl, rfl⟩⟩⟩⟩ rfl HS851 ?_ (by decide)
    intro b1409 W1410 s1411 HS1412 _ HO1413
    refine ⟨(Sg.g0 (Sx.of [s1411, [(b844, .cells #[.string ⟨#[]⟩, .string ⟨#[]⟩, .string ⟨#[]⟩, .string ⟨#[]⟩] 51 (0, 0))], s720] L849 HS1412)), ?_⟩
    obtain ⟨cs1415, hr1416, hc1417⟩ := HO1413.at' (i := vt46) c52 c63
    obtain rfl := hr1416
    refine takeGQ 3 [] rfl kr kr kr kr kr kr hnp (Sg.g0 (Sx.of [s1411, [(b844, .cells #[.string ⟨#[]⟩, .string ⟨#[]⟩, .string ⟨#[]⟩, .string ⟨#[]⟩] 51 (0, 0))], s720] L849 HS1412)) (fun w_ hw_ => by obtain ⟨g_, hl_, hS_⟩ := hw_.st; exact run_index (sz := 1) rfl Tryz.underlying46 kr (kv (.slice (some ⟨b1409, 0, none⟩) ([Z27, Z29, Z28, Z32] : List ByteArray).length 4)) (kv (.int .i64 vt46)) c52 c63 w_) ?_
    have HS1423 := HS1412.u5.u5.u5.u3.u5.u5
    refine hR506 _ _ ?_
    exact J507 b1409 s1411 b718 s720 b844 f848 W1410 _ L849 HO1413 HO852 HS1423 kr
  · refine does_call (f := 10) (args := #[.int .i64 value6, .int .i64 3]) kr (spymake_Below.calls k value6 3 HS851 vt83 hc84) ?_
    rintro _ W1426 ⟨f1424, rfl, L1425, HS1427⟩
    refine ⟨_, rfl, ?_⟩
    refine ⟨(Sg.g0 (Sx.of [[(b844, .cells #[.string ⟨#[]⟩, .string ⟨#[]⟩, .string ⟨#[]⟩, .string ⟨#[]⟩] 51 (0, 0))], s720] (L849.trans L1425) HS1427)), ?_⟩
    obtain ⟨cs1428, hr1429, hc1430⟩ := (HO852.mono L1425).at' (i := vt83) c89 c113
    obtain rfl := hr1429
    refine takeGQ 8 [] rfl kr kr kr kr kr kr hnp (Sg.g0 (Sx.of [[(b844, .cells #[.string ⟨#[]⟩, .string ⟨#[]⟩, .string ⟨#[]⟩, .string ⟨#[]⟩] 51 (0, 0))], s720] (L849.trans L1425) HS1427)) (fun w_ hw_ => by obtain ⟨g_, hl_, hS_⟩ := hw_.st; exact run_index (sz := 1) rfl Tryz.underlying46 kr (kv (.slice (some ⟨b718, 0, none⟩) ([Z40, Z20, Z34] : List ByteArray).length 3)) (kv (.int .i64 vt83)) c89 c113 w_) ?_
    refine hR827 _ _ ?_
    exact J828 b718 s720 b844 f1424 W1426 _ (L849.trans L1425) (HO852.mono L1425) HS1427 kr
 have J914 : ∀ (b903 : Nat) (f907 : FM) (W909 : World) (a_ : Act), FM.le f18 f907 → St t W909 f907 ([(b903, .cells #[.string ⟨#[]⟩, .string ⟨#[]⟩, .string ⟨#[]⟩, .string ⟨#[]⟩] 51 (0, 0))] :: [(b30, .cells #[.int .i64 vt15.W, .int .i64 vt15.H, .slice A22 vt15.Cards.length c23, .slice A27 vt15.Counts.length c28] 29 (0, 0))] :: s24 :: [(b11, .cells #[.slice A2 l1.length c3, .int .i64 vt16] 33 (0, 0))] :: H) → a_ = ⟨#[.slice A2 l1.length c3, iV vk5, iV value6, uV, uV, uV, fV, pV b30 0, pV b903 0, uV, uV, uV, uV, uV, uV, uV, uV, uV, uV, .slice A2 l1.length c3, .agg #[.slice A2 l1.length c3, iV 0], pV b11 0, (ag_Frame vt15 A22 c23 A27 c28), uV, iV vk5, iV vt46, uV, uV, uV, iV value6, iV vt83, uV, uV, uV, uV, uV, uV, uV, uV, uV, uV, uV, uV, uV, uV, uV, uV, uV, uV, uV, uV, uV, uV, uV, uV, uV, uV, uV, uV, uV, uV, uV, uV, uV, uV, uV, uV, uV, uV, uV, uV, uV, uV, uV, uV, uV, uV, uV, uV, uV, uV, uV, uV, uV, uV, uV, uV, uV, uV, uV, uV, uV, uV, uV, uV, uV, uV, uV, uV, uV, uV, uV, uV, uV, uV, uV, uV, uV, uV, uV, uV, uV, uV, uV, uV, uV, uV, uV, uV, uV, uV, uV, uV, uV, uV, uV, uV, uV, uV, uV], []⟩ → R911 a_ W909 := by
  intro b903 f907 W909 a_ L908  HS910 hfr_; subst hfr_
  refine hR912 _ _ ?_
  refine takeEither 0 5 kr rfl rfl rfl rfl ?_ ?_
  · refine does_lit (e := tStr) (E := 9) (vs := #[(0, Value.string ⟨#[75, 73, 78, 68]⟩), (1, Value.string ⟨#[78, 85, 77, 66, 69, 82]⟩), (2, Value.string ⟨#[78, 69, 87]⟩), (3, Value.string ⟨#[88, 48]⟩)]) (cs := #[.string ⟨#[75, 73, 78, 68]⟩, .string ⟨#[78, 85, 77, 66, 69, 82]⟩, .string ⟨#[78, 69, 87]⟩, .string ⟨#[88, 48]⟩]) (xs := ([Z27, Z29, Z28, Z32] : List ByteArray)) rfl Tryz.underlying46 kr kr ⟨[.string ⟨#[75, 73, 78, 68]⟩], _, rfl, rfl, ⟨[.string ⟨#[78, 85, 77, 66, 69, 82]⟩], _, rfl, rfl, ⟨[.string ⟨#[78, 69, 87]⟩], _, rfl, rfl, ⟨[.string ⟨#[88, 48]⟩], _, rfl, rfl, rfl⟩⟩⟩⟩ rfl HS910 ?_ (by decide)
    intro b1431 W1432 s1433 HS1434 _ HO1435
    refine ⟨(Sg.g0 (Sx.of [s1433, [(b903, .cells #[.string ⟨#[]⟩, .string ⟨#[]⟩, .string ⟨#[]⟩, .string ⟨#[]⟩] 51 (0, 0))]] L908 HS1434)), ?_⟩
    obtain ⟨cs1437, hr1438, hc1439⟩ := HO1435.at' (i := vt46) c52 c63
    obtain rfl := hr1438
    refine takeGQ 3 [] rfl kr kr kr kr kr kr hnp (Sg.g0 (Sx.of [s1433, [(b903, .cells #[.string ⟨#[]⟩, .string ⟨#[]⟩, .string ⟨#[]⟩, .string ⟨#[]⟩] 51 (0, 0))]] L908 HS1434)) (fun w_ hw_ => by obtain ⟨g_, hl_, hS_⟩ := hw_.st; exact run_index (sz := 1) rfl Tryz.underlying46 kr (kv (.slice (some ⟨b1431, 0, none⟩) ([Z27, Z29, Z28, Z32] : List ByteArray).length 4)) (kv (.int .i64 vt46)) c52 c63 w_) ?_
    have HS1444 := HS1434.u4.u4.u4.u3.u4
    refine hR572 _ _ ?_
    exact J573 b1431 s1433 b903 f907 W1432 _ L908 HO1435 HS1444 kr
  · refine does_lit (e := tStr) (E := 9) (vs := #[(0, Value.string ⟨#[97]⟩), (1, Value.string ⟨#[55]⟩), (2, Value.string ⟨#[91, 120, 93]⟩)]) (cs := #[.string ⟨#[97]⟩, .string ⟨#[55]⟩, .string ⟨#[91, 120, 93]⟩]) (xs := ([Z40, Z20, Z34] : List ByteArray)) rfl Tryz.underlying46 kr kr ⟨[.string ⟨#[97]⟩], _, rfl, rfl, ⟨[.string ⟨#[55]⟩], _, rfl, rfl, ⟨[.string ⟨#[91, 120, 93]⟩], _, rfl, rfl, rfl⟩⟩⟩ rfl HS910 ?_ (by decide)
    intro b1445 W1446 s1447 HS1448 _ HO1449
    refine ⟨(Sg.g0 (Sx.of [s1447, [(b903, .cells #[.string ⟨#[]⟩, .string ⟨#[]⟩, .string ⟨#[]⟩, .string ⟨#[]⟩] 51 (0, 0))]] L908 HS1448)), ?_⟩
    obtain ⟨cs1451, hr1452, hc1453⟩ := HO1449.at' (i := vt83) c89 c113
    obtain rfl := hr1452
    refine takeGQ 8 [] rfl kr kr kr kr kr kr hnp (Sg.g0 (Sx.of [s1447, [(b903, .cells #[.string ⟨#[]⟩, .string ⟨#[]⟩, .string ⟨#[]⟩, .string ⟨#[]⟩] 51 (0, 0))]] L908 HS1448)) (fun w_ hw_ => by obtain ⟨g_, hl_, hS_⟩ := hw_.st; exact run_index (sz := 1) rfl Tryz.underlying46 kr (kv (.slice (some ⟨b1445, 0, none⟩) ([Z40, Z20, Z34] : List ByteArray).length 3)) (kv (.int .i64 vt83)) c89 c113 w_) ?_
    have HS1458 := HS1448.u4.u4.u4.u3.u4
    refine hR827 _ _ ?_
    exact J828 b1445 s1447 b903 f907 W1446 _ L908 HO1449 HS1458 kr
 have J642 : ∀ (b146 : Nat) (s148 : Seg) (b627 : Nat) (s629 : Seg) (f633 : FM) (W635 : World) (a_ : Act), FM.le f18 f633 → Own tStr 9 f633 (some ⟨b146, 0, none⟩) 4 s148 ([Z27, Z29, Z28, Z32] : List ByteArray) → Own tStr 9 f633 (some ⟨b627, 0, none⟩) 3 s629 ([Z40, Z20, Z34] : List ByteArray) → St t W635 f633 (s629 :: s148 :: [(b30, .cells #[.int .i64 vt15.W, .int .i64 vt15.H, .slice A22 vt15.Cards.length c23, .slice A27 vt15.Counts.length c28] 29 (0, 0))] :: s24 :: [(b11, .cells #[.slice A2 l1.length c3, .int .i64 vt16] 33 (0, 0))] :: H) → a_ = ⟨#[.slice A2 l1.length c3, iV vk5, iV value6, uV, uV, uV, fV, pV b30 0, uV, uV, uV, uV, uV, uV, uV, uV, uV, uV, uV, .slice A2 l1.length c3, .agg #[.slice A2 l1.length c3, iV 0], pV b11 0, (ag_Frame vt15 A22 c23 A27 c28), .slice (some ⟨b146, 0, none⟩) ([Z27, Z29, Z28, Z32] : List ByteArray).length 4, iV vk5, uV, uV, uV, .slice (some ⟨b627, 0, none⟩) ([Z40, Z20, Z34] : List ByteArray).length 3, iV value6, uV, uV, uV, uV, uV, uV, uV, uV, uV, uV, uV, uV, uV, uV, uV, uV, uV, uV, uV, uV, uV, uV, uV, uV, uV, uV, uV, uV, uV, uV, uV, uV, uV, uV, uV, uV, uV, uV, uV, uV, uV, uV, uV, uV, uV, uV, uV, uV, uV, uV, uV, uV, uV, uV, uV, uV, uV, uV, uV, uV, uV, uV, uV, uV, uV, uV, uV, uV, uV, uV, uV, uV, uV, uV, uV, uV, uV, uV, uV, uV, uV, uV, uV, uV, uV, uV, uV, uV, uV, uV, uV, uV, uV, uV, uV, uV, uV, uV, uV, uV], []⟩ → R639 a_ W635 := by
  intro b146 s148 b627 s629 f633 W635 a_ L634 HO637 HO638 HS636 hfr_; subst hfr_
  refine hR640 _ _ ?_
  refine takeEither 2 11 kr rfl rfl rfl rfl ?_ ?_
  · refine does_call (f := 10) (args := #[.int .i64 vk5, .int .i64 4]) kr (spymake_Below.calls k vk5 4 HS636 vt46 hc47) ?_
    rintro _ W1461 ⟨f1459, rfl, L1460, HS1462⟩
    refine ⟨_, rfl, ?_⟩
    refine ⟨(Sg.g0 (Sx.of [s629, s148] (L634.trans L1460) HS1462)), ?_⟩
    obtain ⟨cs1463, hr1464, hc1465⟩ := (HO637.mono L1460).at' (i := vt46) c52 c63
    obtain rfl := hr1464
    refine takeGQ 3 [] rfl kr kr kr kr kr kr hnp (Sg.g0 (Sx.of [s629, s148] (L634.trans L1460) HS1462)) (fun w_ hw_ => by obtain ⟨g_, hl_, hS_⟩ := hw_.st; exact run_index (sz := 1) rfl Tryz.underlying46 kr (kv (.slice (some ⟨b146, 0, none⟩) ([Z27, Z29, Z28, Z32] : List ByteArray).length 4)) (kv (.int .i64 vt46)) c52 c63 w_) ?_
    refine hR386 _ _ ?_
    exact J387 b146 s148 b627 s629 f1459 W1461 _ (L634.trans L1460) (HO637.mono L1460) (HO638.mono L1460) HS1462 kr
  · refine does_alloc (z := Value.agg #[.string ⟨#[]⟩, .string ⟨#[]⟩, .string ⟨#[]⟩, .string ⟨#[]⟩]) (cs := #[.string ⟨#[]⟩, .string ⟨#[]⟩, .string ⟨#[]⟩, .string ⟨#[]⟩]) rfl kr rfl HS636 ?_
    intro b1466 W1467 HS1468
    refine ⟨(Sg.g0 (Sx.of [[(b1466, .cells #[.string ⟨#[]⟩, .string ⟨#[]⟩, .string ⟨#[]⟩, .string ⟨#[]⟩] 51 (0, 0))], s629, s148] L634 HS1468)), ?_⟩
    refine hR662 _ _ ?_
    exact J663 b146 s148 b627 s629 b1466 f633 W1467 _ L634 HO637 HO638 HS1468 kr
 have J683 : ∀ (b146 : Nat) (s148 : Seg) (b671 : Nat) (f675 : FM) (W677 : World) (a_ : Act), FM.le f18 f675 → Own tStr 9 f675 (some ⟨b146, 0, none⟩) 4 s148 ([Z27, Z29, Z28, Z32] : List ByteArray) → St t W677 f675 ([(b671, .cells #[.string ⟨#[]⟩, .string ⟨#[]⟩, .string ⟨#[]⟩, .string ⟨#[]⟩] 51 (0, 0))] :: s148 :: [(b30, .cells #[.int .i64 vt15.W, .int .i64 vt15.H, .slice A22 vt15.Cards.length c23, .slice A27 vt15.Counts.length c28] 29 (0, 0))] :: s24 :: [(b11, .cells #[.slice A2 l1.length c3, .int .i64 vt16] 33 (0, 0))] :: H) → a_ = ⟨#[.slice A2 l1.length c3, iV vk5, iV value6, uV, uV, uV, fV, pV b30 0, pV b671 0, uV, uV, uV, uV, uV, uV, uV, uV, uV, uV, .slice A2 l1.length c3, .agg #[.slice A2 l1.length c3, iV 0], pV b11 0, (ag_Frame vt15 A22 c23 A27 c28), .slice (some ⟨b146, 0, none⟩) ([Z27, Z29, Z28, Z32] : List ByteArray).length 4, iV vk5, uV, uV, uV, uV, iV value6, uV, uV, uV, uV, uV, uV, uV, uV, uV, uV, uV, uV, uV, uV, uV, uV, uV, uV, uV, uV, uV, uV, uV, uV, uV, uV, uV, uV, uV, uV, uV, uV, uV, uV, uV, uV, uV, uV, uV, uV, uV, uV, uV, uV, uV, uV, uV, uV, uV, uV, uV, uV, uV, uV, uV, uV, uV, uV, uV, uV, uV, uV, uV, uV, uV, uV, uV, uV, uV, uV, uV, uV, uV, uV, uV, uV, uV, uV, uV, uV, uV, uV, uV, uV, uV, uV, uV, uV, uV, uV, uV, uV, uV, uV, uV, uV, uV, uV, uV, uV], []⟩ → R680 a_ W677 := by
  intro b146 s148 b671 f675 W677 a_ L676 HO679 HS678 hfr_; subst hfr_
  refine hR681 _ _ ?_
  refine takeEither 2 5 kr rfl rfl rfl rfl ?_ ?_
  · refine does_call (f := 10) (args := #[.int .i64 vk5, .int .i64 4]) kr (spymake_Below.calls k vk5 4 HS678 vt46 hc47) ?_
    rintro _ W1472 ⟨f1470, rfl, L1471, HS1473⟩
    refine ⟨_, rfl, ?_⟩
    refine ⟨(Sg.g0 (Sx.of [[(b671, .cells #[.string ⟨#[]⟩, .string ⟨#[]⟩, .string ⟨#[]⟩, .string ⟨#[]⟩] 51 (0, 0))], s148] (L676.trans L1471) HS1473)), ?_⟩
    obtain ⟨cs1474, hr1475, hc1476⟩ := (HO679.mono L1471).at' (i := vt46) c52 c63
    obtain rfl := hr1475
    refine takeGQ 3 [] rfl kr kr kr kr kr kr hnp (Sg.g0 (Sx.of [[(b671, .cells #[.string ⟨#[]⟩, .string ⟨#[]⟩, .string ⟨#[]⟩, .string ⟨#[]⟩] 51 (0, 0))], s148] (L676.trans L1471) HS1473)) (fun w_ hw_ => by obtain ⟨g_, hl_, hS_⟩ := hw_.st; exact run_index (sz := 1) rfl Tryz.underlying46 kr (kv (.slice (some ⟨b146, 0, none⟩) ([Z27, Z29, Z28, Z32] : List ByteArray).length 4)) (kv (.int .i64 vt46)) c52 c63 w_) ?_
    refine hR606 _ _ ?_
    exact J607 b146 s148 b671 f1470 W1472 _ (L676.trans L1471) (HO679.mono L1471) HS1473 kr
  · refine does_lit (e := tStr) (E := 9) (vs := #[(0, Value.string ⟨#[97]⟩), (1, Value.string ⟨#[55]⟩), (2, Value.string ⟨#[91, 120, 93]⟩)]) (cs := #[.string ⟨#[97]⟩, .string ⟨#[55]⟩, .string ⟨#[91, 120, 93]⟩]) (xs := ([Z40, Z20, Z34] : List ByteArray)) rfl Tryz.underlying46 kr kr ⟨[.string ⟨#[97]⟩], _, rfl, rfl, ⟨[.string ⟨#[55]⟩], _, rfl, rfl, ⟨[.string ⟨#[91, 120, 93]⟩], _, rfl, rfl, rfl⟩⟩⟩ rfl HS678 ?_ (by decide)
    intro b1477 W1478 s1479 HS1480 _ HO1481
    refine ⟨(Sg.g0 (Sx.of [s1479, [(b671, .cells #[.string ⟨#[]⟩, .string ⟨#[]⟩, .string ⟨#[]⟩, .string ⟨#[]⟩] 51 (0, 0))], s148] L676 HS1480)), ?_⟩
    have HS1488 := HS1480.u5.u5.u5.u5.u4.u5
    refine hR662 _ _ ?_
    exact J663 b146 s148 b1477 s1479 b671 f675 W1478 _ L676 HO679 HO1481 HS1488 kr
 have J732 : ∀ (b718 : Nat) (s720 : Seg) (f724 : FM) (W726 : World) (a_ : Act), FM.le f18 f724 → Own tStr 9 f724 (some ⟨b718, 0, none⟩) 3 s720 ([Z40, Z20, Z34] : List ByteArray) → St t W726 f724 (s720 :: [(b30, .cells #[.int .i64 vt15.W, .int .i64 vt15.H, .slice A22 vt15.Cards.length c23, .slice A27 vt15.Counts.length c28] 29 (0, 0))] :: s24 :: [(b11, .cells #[.slice A2 l1.length c3, .int .i64 vt16] 33 (0, 0))] :: H) → a_ = ⟨#[.slice A2 l1.length c3, iV vk5, iV value6, uV, uV, uV, fV, pV b30 0, uV, uV, uV, uV, uV, uV, uV, uV, uV, uV, uV, .slice A2 l1.length c3, .agg #[.slice A2 l1.length c3, iV 0], pV b11 0, (ag_Frame vt15 A22 c23 A27 c28), uV, iV vk5, iV vt46, uV, uV, .slice (some ⟨b718, 0, none⟩) ([Z40, Z20, Z34] : List ByteArray).length 3, iV value6, uV, uV, uV, uV, uV, uV, uV, uV, uV, uV, uV, uV, uV, uV, uV, uV, uV, uV, uV, uV, uV, uV, uV, uV, uV, uV, uV, uV, uV, uV, uV, uV, uV, uV, uV, uV, uV, uV, uV, uV, uV, uV, uV, uV, uV, uV, uV, uV, uV, uV, uV, uV, uV, uV, uV, uV, uV, uV, uV, uV, uV, uV, uV, uV, uV, uV, uV, uV, uV, uV, uV, uV, uV, uV, uV, uV, uV, uV, uV, uV, uV, uV, uV, uV, uV, uV, uV, uV, uV, uV, uV, uV, uV, uV, uV, uV, uV, uV, uV, uV], []⟩ → R729 a_ W726 := by
  intro b718 s720 f724 W726 a_ L725 HO728 HS727 hfr_; subst hfr_
  refine hR730 _ _ ?_
  refine takeAny3 0 7 11 kr (Way.mk' rfl rfl ?_) (Way.mk' rfl rfl ?_) (Way.mk' rfl rfl ?_)
  · refine does_lit (e := tStr) (E := 9) (vs := #[(0, Value.string ⟨#[75, 73, 78, 68]⟩), (1, Value.string ⟨#[78, 85, 77, 66, 69, 82]⟩), (2, Value.string ⟨#[78, 69, 87]⟩), (3, Value.string ⟨#[88, 48]⟩)]) (cs := #[.string ⟨#[75, 73, 78, 68]⟩, .string ⟨#[78, 85, 77, 66, 69, 82]⟩, .string ⟨#[78, 69, 87]⟩, .string ⟨#[88, 48]⟩]) (xs := ([Z27, Z29, Z28, Z32] : List ByteArray)) rfl Tryz.underlying46 kr kr ⟨[.string ⟨#[75, 73, 78, 68]⟩], _, rfl, rfl, ⟨[.string ⟨#[78, 85, 77, 66, 69, 82]⟩], _, rfl, rfl, ⟨[.string ⟨#[78, 69, 87]⟩], _, rfl, rfl, ⟨[.string ⟨#[88, 48]⟩], _, rfl, rfl, rfl⟩⟩⟩⟩ rfl HS727 ?_ (by decide)
    intro b1489 W1490 s1491 HS1492 _ HO1493
    refine ⟨(Sg.g0 (Sx.of [s1491, s720] L725 HS1492)), ?_⟩
    obtain ⟨cs1495, hr1496, hc1497⟩ := HO1493.at' (i := vt46) c52 c63
    obtain rfl := hr1496
    refine takeGQ 3 [] rfl kr kr kr kr kr kr hnp (Sg.g0 (Sx.of [s1491, s720] L725 HS1492)) (fun w_ hw_ => by obtain ⟨g_, hl_, hS_⟩ := hw_.st; exact run_index (sz := 1) rfl Tryz.underlying46 kr (kv (.slice (some ⟨b1489, 0, none⟩) ([Z27, Z29, Z28, Z32] : List ByteArray).length 4)) (kv (.int .i64 vt46)) c52 c63 w_) ?_
    have HS1502 := HS1492.u4.u4.u4.u3.u4
    refine hR386 _ _ ?_
    exact J387 b1489 s1491 b718 s720 f724 W1490 _ L725 HO1493 HO728 HS1502 kr
  · refine does_call (f := 10) (args := #[.int .i64 value6, .int .i64 3]) kr (spymake_Below.calls k value6 3 HS727 vt83 hc84) ?_
    rintro _ W1505 ⟨f1503, rfl, L1504, HS1506⟩
    refine ⟨_, rfl, ?_⟩
    refine ⟨(Sg.g0 (Sx.of [s720] (L725.trans L1504) HS1506)), ?_⟩
    obtain ⟨cs1507, hr1508, hc1509⟩ := (HO728.mono L1504).at' (i := vt83) c89 c113
    obtain rfl := hr1508
    refine takeGQ 8 [] rfl kr kr kr kr kr kr hnp (Sg.g0 (Sx.of [s720] (L725.trans L1504) HS1506)) (fun w_ hw_ => by obtain ⟨g_, hl_, hS_⟩ := hw_.st; exact run_index (sz := 1) rfl Tryz.underlying46 kr (kv (.slice (some ⟨b718, 0, none⟩) ([Z40, Z20, Z34] : List ByteArray).length 3)) (kv (.int .i64 vt83)) c89 c113 w_) ?_
    refine hR756 _ _ ?_
    exact J757 b718 s720 f1503 W1505 _ (L725.trans L1504) (HO728.mono L1504) HS1506 kr
  · refine does_alloc (z := Value.agg #[.string ⟨#[]⟩, .string ⟨#[]⟩, .string ⟨#[]⟩, .string ⟨#[]⟩]) (cs := #[.string ⟨#[]⟩, .string ⟨#[]⟩, .string ⟨#[]⟩, .string ⟨#[]⟩]) rfl kr rfl HS727 ?_
    intro b1510 W1511 HS1512
    refine ⟨(Sg.g0 (Sx.of [[(b1510, .cells #[.string ⟨#[]⟩, .string ⟨#[]⟩, .string ⟨#[]⟩, .string ⟨#[]⟩] 51 (0, 0))], s720] L725 HS1512)), ?_⟩
    refine hR855 _ _ ?_
    exact J856 b718 s720 b1510 f724 W1511 _ L725 HO728 HS1512 kr
 have J884 : ∀  (f877 : FM) (W879 : World) (a_ : Act), FM.le f18 f877 → St t W879 f877 ([(b30, .cells #[.int .i64 vt15.W, .int .i64 vt15.H, .slice A22 vt15.Cards.length c23, .slice A27 vt15.Counts.length c28] 29 (0, 0))] :: s24 :: [(b11, .cells #[.slice A2 l1.length c3, .int .i64 vt16] 33 (0, 0))] :: H) → a_ = ⟨#[.slice A2 l1.length c3, iV vk5, iV value6, uV, uV, uV, fV, pV b30 0, uV, uV, uV, uV, uV, uV, uV, uV, uV, uV, uV, .slice A2 l1.length c3, .agg #[.slice A2 l1.length c3, iV 0], pV b11 0, (ag_Frame vt15 A22 c23 A27 c28), uV, iV vk5, iV vt46, uV, uV, uV, iV value6, iV vt83, uV, uV, uV, uV, uV, uV, uV, uV, uV, uV, uV, uV, uV, uV, uV, uV, uV, uV, uV, uV, uV, uV, uV, uV, uV, uV, uV, uV, uV, uV, uV, uV, uV, uV, uV, uV, uV, uV, uV, uV, uV, uV, uV, uV, uV, uV, uV, uV, uV, uV, uV, uV, uV, uV, uV, uV, uV, uV, uV, uV, uV, uV, uV, uV, uV, uV, uV, uV, uV, uV, uV, uV, uV, uV, uV, uV, uV, uV, uV, uV, uV, uV, uV, uV, uV, uV, uV, uV, uV, uV, uV, uV, uV, uV, uV, uV, uV, uV, uV], []⟩ → R881 a_ W879 := by
  intro  f877 W879 a_ L878  HS880 hfr_; subst hfr_
  refine hR882 _ _ ?_
  refine takeAny3 0 5 11 kr (Way.mk' rfl rfl ?_) (Way.mk' rfl rfl ?_) (Way.mk' rfl rfl ?_)
  · refine does_lit (e := tStr) (E := 9) (vs := #[(0, Value.string ⟨#[75, 73, 78, 68]⟩), (1, Value.string ⟨#[78, 85, 77, 66, 69, 82]⟩), (2, Value.string ⟨#[78, 69, 87]⟩), (3, Value.string ⟨#[88, 48]⟩)]) (cs := #[.string ⟨#[75, 73, 78, 68]⟩, .string ⟨#[78, 85, 77, 66, 69, 82]⟩, .string ⟨#[78, 69, 87]⟩, .string ⟨#[88, 48]⟩]) (xs := ([Z27, Z29, Z28, Z32] : List ByteArray)) rfl Tryz.underlying46 kr kr ⟨[.string ⟨#[75, 73, 78, 68]⟩], _, rfl, rfl, ⟨[.string ⟨#[78, 85, 77, 66, 69, 82]⟩], _, rfl, rfl, ⟨[.string ⟨#[78, 69, 87]⟩], _, rfl, rfl, ⟨[.string ⟨#[88, 48]⟩], _, rfl, rfl, rfl⟩⟩⟩⟩ rfl HS880 ?_ (by decide)
    intro b1514 W1515 s1516 HS1517 _ HO1518
    refine ⟨(Sg.g0 (Sx.of [s1516] L878 HS1517)), ?_⟩
    obtain ⟨cs1520, hr1521, hc1522⟩ := HO1518.at' (i := vt46) c52 c63
    obtain rfl := hr1521
    refine takeGQ 3 [] rfl kr kr kr kr kr kr hnp (Sg.g0 (Sx.of [s1516] L878 HS1517)) (fun w_ hw_ => by obtain ⟨g_, hl_, hS_⟩ := hw_.st; exact run_index (sz := 1) rfl Tryz.underlying46 kr (kv (.slice (some ⟨b1514, 0, none⟩) ([Z27, Z29, Z28, Z32] : List ByteArray).length 4)) (kv (.int .i64 vt46)) c52 c63 w_) ?_
    refine hR538 _ _ ?_
    exact J539 b1514 s1516 f877 W1515 _ L878 HO1518 HS1517 kr
  · refine does_lit (e := tStr) (E := 9) (vs := #[(0, Value.string ⟨#[97]⟩), (1, Value.string ⟨#[55]⟩), (2, Value.string ⟨#[91, 120, 93]⟩)]) (cs := #[.string ⟨#[97]⟩, .string ⟨#[55]⟩, .string ⟨#[91, 120, 93]⟩]) (xs := ([Z40, Z20, Z34] : List ByteArray)) rfl Tryz.underlying46 kr kr ⟨[.string ⟨#[97]⟩], _, rfl, rfl, ⟨[.string ⟨#[55]⟩], _, rfl, rfl, ⟨[.string ⟨#[91, 120, 93]⟩], _, rfl, rfl, rfl⟩⟩⟩ rfl HS880 ?_ (by decide)
    intro b1523 W1524 s1525 HS1526 _ HO1527
    refine ⟨(Sg.g0 (Sx.of [s1525] L878 HS1526)), ?_⟩
    obtain ⟨cs1529, hr1530, hc1531⟩ := HO1527.at' (i := vt83) c89 c113
    obtain rfl := hr1530
    refine takeGQ 8 [] rfl kr kr kr kr kr kr hnp (Sg.g0 (Sx.of [s1525] L878 HS1526)) (fun w_ hw_ => by obtain ⟨g_, hl_, hS_⟩ := hw_.st; exact run_index (sz := 1) rfl Tryz.underlying46 kr (kv (.slice (some ⟨b1523, 0, none⟩) ([Z40, Z20, Z34] : List ByteArray).length 3)) (kv (.int .i64 vt83)) c89 c113 w_) ?_
    refine hR756 _ _ ?_
    exact J757 b1523 s1525 f877 W1524 _ L878 HO1527 HS1526 kr
  · refine does_alloc (z := Value.agg #[.string ⟨#[]⟩, .string ⟨#[]⟩, .string ⟨#[]⟩, .string ⟨#[]⟩]) (cs := #[.string ⟨#[]⟩, .string ⟨#[]⟩, .string ⟨#[]⟩, .string ⟨#[]⟩]) rfl kr rfl HS880 ?_
    intro b1532 W1533 HS1534
    refine ⟨(Sg.g0 (Sx.of [[(b1532, .cells #[.string ⟨#[]⟩, .string ⟨#[]⟩, .string ⟨#[]⟩, .string ⟨#[]⟩] 51 (0, 0))]] L878 HS1534)), ?_⟩
    refine hR913 _ _ ?_
    exact J914 b1532 f877 W1533 _ L878 HS1534 kr
 have J944 : ∀ (b933 : Nat) (f937 : FM) (W939 : World) (a_ : Act), FM.le f18 f937 → St t W939 f937 ([(b933, .cells #[.string ⟨#[]⟩, .string ⟨#[]⟩, .string ⟨#[]⟩, .string ⟨#[]⟩] 51 (0, 0))] :: [(b30, .cells #[.int .i64 vt15.W, .int .i64 vt15.H, .slice A22 vt15.Cards.length c23, .slice A27 vt15.Counts.length c28] 29 (0, 0))] :: s24 :: [(b11, .cells #[.slice A2 l1.length c3, .int .i64 vt16] 33 (0, 0))] :: H) → a_ = ⟨#[.slice A2 l1.length c3, iV vk5, iV value6, uV, uV, uV, fV, pV b30 0, pV b933 0, uV, uV, uV, uV, uV, uV, uV, uV, uV, uV, .slice A2 l1.length c3, .agg #[.slice A2 l1.length c3, iV 0], pV b11 0, (ag_Frame vt15 A22 c23 A27 c28), uV, iV vk5, iV vt46, uV, uV, uV, iV value6, uV, uV, uV, uV, uV, uV, uV, uV, uV, uV, uV, uV, uV, uV, uV, uV, uV, uV, uV, uV, uV, uV, uV, uV, uV, uV, uV, uV, uV, uV, uV, uV, uV, uV, uV, uV, uV, uV, uV, uV, uV, uV, uV, uV, uV, uV, uV, uV, uV, uV, uV, uV, uV, uV, uV, uV, uV, uV, uV, uV, uV, uV, uV, uV, uV, uV, uV, uV, uV, uV, uV, uV, uV, uV, uV, uV, uV, uV, uV, uV, uV, uV, uV, uV, uV, uV, uV, uV, uV, uV, uV, uV, uV, uV, uV, uV, uV, uV, uV, uV], []⟩ → R941 a_ W939 := by
  intro b933 f937 W939 a_ L938  HS940 hfr_; subst hfr_
  refine hR942 _ _ ?_
  refine takeAny3 0 5 7 kr (Way.mk' rfl rfl ?_) (Way.mk' rfl rfl ?_) (Way.mk' rfl rfl ?_)
  · refine does_lit (e := tStr) (E := 9) (vs := #[(0, Value.string ⟨#[75, 73, 78, 68]⟩), (1, Value.string ⟨#[78, 85, 77, 66, 69, 82]⟩), (2, Value.string ⟨#[78, 69, 87]⟩), (3, Value.string ⟨#[88, 48]⟩)]) (cs := #[.string ⟨#[75, 73, 78, 68]⟩, .string ⟨#[78, 85, 77, 66, 69, 82]⟩, .string ⟨#[78, 69, 87]⟩, .string ⟨#[88, 48]⟩]) (xs := ([Z27, Z29, Z28, Z32] : List ByteArray)) rfl Tryz.underlying46 kr kr ⟨[.string ⟨#[75, 73, 78, 68]⟩], _, rfl, rfl, ⟨[.string ⟨#[78, 85, 77, 66, 69, 82]⟩], _, rfl, rfl, ⟨[.string ⟨#[78, 69, 87]⟩], _, rfl, rfl, ⟨[.string ⟨#[88, 48]⟩], _, rfl, rfl, rfl⟩⟩⟩⟩ rfl HS940 ?_ (by decide)
    intro b1536 W1537 s1538 HS1539 _ HO1540
    refine ⟨(Sg.g0 (Sx.of [s1538, [(b933, .cells #[.string ⟨#[]⟩, .string ⟨#[]⟩, .string ⟨#[]⟩, .string ⟨#[]⟩] 51 (0, 0))]] L938 HS1539)), ?_⟩
    obtain ⟨cs1542, hr1543, hc1544⟩ := HO1540.at' (i := vt46) c52 c63
    obtain rfl := hr1543
    refine takeGQ 3 [] rfl kr kr kr kr kr kr hnp (Sg.g0 (Sx.of [s1538, [(b933, .cells #[.string ⟨#[]⟩, .string ⟨#[]⟩, .string ⟨#[]⟩, .string ⟨#[]⟩] 51 (0, 0))]] L938 HS1539)) (fun w_ hw_ => by obtain ⟨g_, hl_, hS_⟩ := hw_.st; exact run_index (sz := 1) rfl Tryz.underlying46 kr (kv (.slice (some ⟨b1536, 0, none⟩) ([Z27, Z29, Z28, Z32] : List ByteArray).length 4)) (kv (.int .i64 vt46)) c52 c63 w_) ?_
    have HS1549 := HS1539.u4.u4.u4.u3.u4
    refine hR606 _ _ ?_
    exact J607 b1536 s1538 b933 f937 W1537 _ L938 HO1540 HS1549 kr
  · refine does_lit (e := tStr) (E := 9) (vs := #[(0, Value.string ⟨#[97]⟩), (1, Value.string ⟨#[55]⟩), (2, Value.string ⟨#[91, 120, 93]⟩)]) (cs := #[.string ⟨#[97]⟩, .string ⟨#[55]⟩, .string ⟨#[91, 120, 93]⟩]) (xs := ([Z40, Z20, Z34] : List ByteArray)) rfl Tryz.underlying46 kr kr ⟨[.string ⟨#[97]⟩], _, rfl, rfl, ⟨[.string ⟨#[55]⟩], _, rfl, rfl, ⟨[.string ⟨#[91, 120, 93]⟩], _, rfl, rfl, rfl⟩⟩⟩ rfl HS940 ?_ (by decide)
    intro b1550 W1551 s1552 HS1553 _ HO1554
    refine ⟨(Sg.g0 (Sx.of [s1552, [(b933, .cells #[.string ⟨#[]⟩, .string ⟨#[]⟩, .string ⟨#[]⟩, .string ⟨#[]⟩] 51 (0, 0))]] L938 HS1553)), ?_⟩
    have HS1560 := HS1553.u4.u4.u4.u3.u4
    refine hR855 _ _ ?_
    exact J856 b1550 s1552 b933 f937 W1551 _ L938 HO1554 HS1560 kr
  · refine does_call (f := 10) (args := #[.int .i64 value6, .int .i64 3]) kr (spymake_Below.calls k value6 3 HS940 vt83 hc84) ?_
    rintro _ W1563 ⟨f1561, rfl, L1562, HS1564⟩
    refine ⟨_, rfl, ?_⟩
    refine ⟨(Sg.g0 (Sx.of [[(b933, .cells #[.string ⟨#[]⟩, .string ⟨#[]⟩, .string ⟨#[]⟩, .string ⟨#[]⟩] 51 (0, 0))]] (L938.trans L1562) HS1564)), ?_⟩
    refine hR913 _ _ ?_
    exact J914 b933 f1561 W1563 _ (L938.trans L1562) HS1564 kr
 have J1001 : ∀ (b964 : Nat) (s966 : Seg) (b989 : Nat) (f993 : FM) (W995 : World) (a_ : Act), FM.le f18 f993 → Own tStr 9 f993 (some ⟨b964, 0, none⟩) 3 s966 ([Z40, Z20, Z34] : List ByteArray) → St t W995 f993 ([(b989, .cells #[.string ⟨#[]⟩, .string ⟨#[]⟩, .string ⟨#[]⟩, .string ⟨#[]⟩] 51 (0, 0))] :: s966 :: [(b30, .cells #[.int .i64 vt15.W, .int .i64 vt15.H, .slice A22 vt15.Cards.length c23, .slice A27 vt15.Counts.length c28] 29 (0, 0))] :: s24 :: [(b11, .cells #[.slice A2 l1.length c3, .int .i64 vt16] 33 (0, 0))] :: H) → a_ = ⟨#[.slice A2 l1.length c3, iV vk5, iV value6, uV, uV, uV, fV, pV b30 0, pV b989 0, uV, uV, uV, uV, uV, uV, uV, uV, uV, uV, .slice A2 l1.length c3, .agg #[.slice A2 l1.length c3, iV 0], pV b11 0, (ag_Frame vt15 A22 c23 A27 c28), uV, iV vk5, uV, uV, uV, .slice (some ⟨b964, 0, none⟩) ([Z40, Z20, Z34] : List ByteArray).length 3, iV value6, uV, uV, uV, uV, uV, uV, uV, uV, uV, uV, uV, uV, uV, uV, uV, uV, uV, uV, uV, uV, uV, uV, uV, uV, uV, uV, uV, uV, uV, uV, uV, uV, uV, uV, uV, uV, uV, uV, uV, uV, uV, uV, uV, uV, uV, uV, uV, uV, uV, uV, uV, uV, uV, uV, uV, uV, uV, uV, uV, uV, uV, uV, uV, uV, uV, uV, uV, uV, uV, uV, uV, uV, uV, uV, uV, uV, uV, uV, uV, uV, uV, uV, uV, uV, uV, uV, uV, uV, uV, uV, uV, uV, uV, uV, uV, uV, uV, uV, uV, uV], []⟩ → R998 a_ W995 := by
  intro b964 s966 b989 f993 W995 a_ L994 HO997 HS996 hfr_; subst hfr_
  refine hR999 _ _ ?_
  refine takeEither 0 2 kr rfl rfl rfl rfl ?_ ?_
  · refine does_lit (e := tStr) (E := 9) (vs := #[(0, Value.string ⟨#[75, 73, 78, 68]⟩), (1, Value.string ⟨#[78, 85, 77, 66, 69, 82]⟩), (2, Value.string ⟨#[78, 69, 87]⟩), (3, Value.string ⟨#[88, 48]⟩)]) (cs := #[.string ⟨#[75, 73, 78, 68]⟩, .string ⟨#[78, 85, 77, 66, 69, 82]⟩, .string ⟨#[78, 69, 87]⟩, .string ⟨#[88, 48]⟩]) (xs := ([Z27, Z29, Z28, Z32] : List ByteArray)) rfl Tryz.underlying46 kr kr ⟨[.string ⟨#[75, 73, 78, 68]⟩], _, rfl, rfl, ⟨[.string ⟨#[78, 85, 77, 66, 69, 82]⟩], _, rfl, rfl, ⟨[.string ⟨#[78, 69, 87]⟩], _, rfl, rfl, ⟨[.string ⟨#[88, 48]⟩], _, rfl, rfl, rfl⟩⟩⟩⟩ rfl HS996 ?_ (by decide)
    intro b1565 W1566 s1567 HS1568 _ HO1569
    refine ⟨(Sg.g0 (Sx.of [s1567, [(b989, .cells #[.string ⟨#[]⟩, .string ⟨#[]⟩, .string ⟨#[]⟩, .string ⟨#[]⟩] 51 (0, 0))], s966] L994 HS1568)), ?_⟩
    have HS1576 := HS1568.u5.u5.u5.u3.u5.u5
    refine hR662 _ _ ?_
    exact J663 b1565 s1567 b964 s966 b989 f993 W1566 _ L994 HO1569 HO997 HS1576 kr
  · refine does_call (f := 10) (args := #[.int .i64 vk5, .int .i64 4]) kr (spymake_Below.calls k vk5 4 HS996 vt46 hc47) ?_
    rintro _ W1579 ⟨f1577, rfl, L1578, HS1580⟩
    refine ⟨_, rfl, ?_⟩
    refine ⟨(Sg.g0 (Sx.of [[(b989, .cells #[.string ⟨#[]⟩, .string ⟨#[]⟩, .string ⟨#[]⟩, .string ⟨#[]⟩] 51 (0, 0))], s966] (L994.trans L1578) HS1580)), ?_⟩
    refine hR855 _ _ ?_
    exact J856 b964 s966 b989 f1577 W1579 _ (L994.trans L1578) (HO997.mono L1578) HS1580 kr
 have J160 : ∀ (b146 : Nat) (s148 : Seg) (f152 : FM) (W154 : World) (a_ : Act), FM.le f18 f152 → Own tStr 9 f152 (some ⟨b146, 0, none⟩) 4 s148 ([Z27, Z29, Z28, Z32] : List ByteArray) → St t W154 f152 (s148 :: [(b30, .cells #[.int .i64 vt15.W, .int .i64 vt15.H, .slice A22 vt15.Cards.length c23, .slice A27 vt15.Counts.length c28] 29 (0, 0))] :: s24 :: [(b11, .cells #[.slice A2 l1.length c3, .int .i64 vt16] 33 (0, 0))] :: H) → a_ = ⟨#[.slice A2 l1.length c3, iV vk5, iV value6, uV, uV, uV, fV, pV b30 0, uV, uV, uV, uV, uV, uV, uV, uV, uV, uV, uV, .slice A2 l1.length c3, .agg #[.slice A2 l1.length c3, iV 0], pV b11 0, (ag_Frame vt15 A22 c23 A27 c28), .slice (some ⟨b146, 0, none⟩) ([Z27, Z29, Z28, Z32] : List ByteArray).length 4, iV vk5, uV, uV, uV, uV, iV value6, uV, uV, uV, uV, uV, uV, uV, uV, uV, uV, uV, uV, uV, uV, uV, uV, uV, uV, uV, uV, uV, uV, uV, uV, uV, uV, uV, uV, uV, uV, uV, uV, uV, uV, uV, uV, uV, uV, uV, uV, uV, uV, uV, uV, uV, uV, uV, uV, uV, uV, uV, uV, uV, uV, uV, uV, uV, uV, uV, uV, uV, uV, uV, uV, uV, uV, uV, uV, uV, uV, uV, uV, uV, uV, uV, uV, uV, uV, uV, uV, uV, uV, uV, uV, uV, uV, uV, uV, uV, uV, uV, uV, uV, uV, uV, uV, uV, uV, uV, uV], []⟩ → R157 a_ W154 := by
  intro b146 s148 f152 W154 a_ L153 HO156 HS155 hfr_; subst hfr_
  refine hR158 _ _ ?_
  refine takeAny3 2 5 11 kr (Way.mk' rfl rfl ?_) (Way.mk' rfl rfl ?_) (Way.mk' rfl rfl ?_)
  · refine does_call (f := 10) (args := #[.int .i64 vk5, .int .i64 4]) kr (spymake_Below.calls k vk5 4 HS155 vt46 hc47) ?_
    rintro _ W1583 ⟨f1581, rfl, L1582, HS1584⟩
    refine ⟨_, rfl, ?_⟩
    refine ⟨(Sg.g0 (Sx.of [s148] (L153.trans L1582) HS1584)), ?_⟩
    obtain ⟨cs1585, hr1586, hc1587⟩ := (HO156.mono L1582).at' (i := vt46) c52 c63
    obtain rfl := hr1586
    refine takeGQ 3 [] rfl kr kr kr kr kr kr hnp (Sg.g0 (Sx.of [s148] (L153.trans L1582) HS1584)) (fun w_ hw_ => by obtain ⟨g_, hl_, hS_⟩ := hw_.st; exact run_index (sz := 1) rfl Tryz.underlying46 kr (kv (.slice (some ⟨b146, 0, none⟩) ([Z27, Z29, Z28, Z32] : List ByteArray).length 4)) (kv (.int .i64 vt46)) c52 c63 w_) ?_
    refine hR175 _ _ ?_
    exact J176 b146 s148 f1581 W1583 _ (L153.trans L1582) (HO156.mono L1582) HS1584 kr
  · refine does_lit (e := tStr) (E := 9) (vs := #[(0, Value.string ⟨#[97]⟩), (1, Value.string ⟨#[55]⟩), (2, Value.string ⟨#[91, 120, 93]⟩)]) (cs := #[.string ⟨#[97]⟩, .string ⟨#[55]⟩, .string ⟨#[91, 120, 93]⟩]) (xs := ([Z40, Z20, Z34] : List ByteArray)) rfl Tryz.underlying46 kr kr ⟨[.string ⟨#[97]⟩], _, rfl, rfl, ⟨[.string ⟨#[55]⟩], _, rfl, rfl, ⟨[.string ⟨#[91, 120, 93]⟩], _, rfl, rfl, rfl⟩⟩⟩ rfl HS155 ?_ (by decide)
    intro b1588 W1589 s1590 HS1591 _ HO1592
    refine ⟨(Sg.g0 (Sx.of [s1590, s148] L153 HS1591)), ?_⟩
    refine hR641 _ _ ?_
    exact J642 b146 s148 b1588 s1590 f152 W1589 _ L153 HO156 HO1592 HS1591 kr
  · refine does_alloc (z := Value.agg #[.string ⟨#[]⟩, .string ⟨#[]⟩, .string ⟨#[]⟩, .string ⟨#[]⟩]) (cs := #[.string ⟨#[]⟩, .string ⟨#[]⟩, .string ⟨#[]⟩, .string ⟨#[]⟩]) rfl kr rfl HS155 ?_
    intro b1594 W1595 HS1596
    refine ⟨(Sg.g0 (Sx.of [[(b1594, .cells #[.string ⟨#[]⟩, .string ⟨#[]⟩, .string ⟨#[]⟩, .string ⟨#[]⟩] 51 (0, 0))], s148] L153 HS1596)), ?_⟩
    refine hR682 _ _ ?_
    exact J683 b146 s148 b1594 f152 W1595 _ L153 HO156 HS1596 kr
 have J708 : ∀  (f701 : FM) (W703 : World) (a_ : Act), FM.le f18 f701 → St t W703 f701 ([(b30, .cells #[.int .i64 vt15.W, .int .i64 vt15.H, .slice A22 vt15.Cards.length c23, .slice A27 vt15.Counts.length c28] 29 (0, 0))] :: s24 :: [(b11, .cells #[.slice A2 l1.length c3, .int .i64 vt16] 33 (0, 0))] :: H) → a_ = ⟨#[.slice A2 l1.length c3, iV vk5, iV value6, uV, uV, uV, fV, pV b30 0, uV, uV, uV, uV, uV, uV, uV, uV, uV, uV, uV, .slice A2 l1.length c3, .agg #[.slice A2 l1.length c3, iV 0], pV b11 0, (ag_Frame vt15 A22 c23 A27 c28), uV, iV vk5, iV vt46, uV, uV, uV, iV value6, uV, uV, uV, uV, uV, uV, uV, uV, uV, uV, uV, uV, uV, uV, uV, uV, uV, uV, uV, uV, uV, uV, uV, uV, uV, uV, uV, uV, uV, uV, uV, uV, uV, uV, uV, uV, uV, uV, uV, uV, uV, uV, uV, uV, uV, uV, uV, uV, uV, uV, uV, uV, uV, uV, uV, uV, uV, uV, uV, uV, uV, uV, uV, uV, uV, uV, uV, uV, uV, uV, uV, uV, uV, uV, uV, uV, uV, uV, uV, uV, uV, uV, uV, uV, uV, uV, uV, uV, uV, uV, uV, uV, uV, uV, uV, uV, uV, uV, uV, uV], []⟩ → R705 a_ W703 := by
  intro  f701 W703 a_ L702  HS704 hfr_; subst hfr_
  refine hR706 _ _ ?_
  refine takeAny4 0 5 7 11 kr (Way.mk' rfl rfl ?_) (Way.mk' rfl rfl ?_) (Way.mk' rfl rfl ?_) (Way.mk' rfl rfl ?_)
  · refine does_lit (e := tStr) (E := 9) (vs := #[(0, Value.string ⟨#[75, 73, 78, 68]⟩), (1, Value.string ⟨#[78, 85, 77, 66, 69, 82]⟩), (2, Value.string ⟨#[78, 69, 87]⟩), (3, Value.string ⟨#[88, 48]⟩)]) (cs := #[.string ⟨#[75, 73, 78, 68]⟩, .string ⟨#[78, 85, 77, 66, 69, 82]⟩, .string ⟨#[78, 69, 87]⟩, .string ⟨#[88, 48]⟩]) (xs := ([Z27, Z29, Z28, Z32] : List ByteArray)) rfl Tryz.underlying46 kr kr ⟨[.string ⟨#[75, 73, 78, 68]⟩], _, rfl, rfl, ⟨[.string ⟨#[78, 85, 77, 66, 69, 82]⟩], _, rfl, rfl, ⟨[.string ⟨#[78, 69, 87]⟩], _, rfl, rfl, ⟨[.string ⟨#[88, 48]⟩], _, rfl, rfl, rfl⟩⟩⟩⟩ rfl HS704 ?_ (by decide)
    intro b1598 W1599 s1600 HS1601 _ HO1602
    refine ⟨(Sg.g0 (Sx.of [s1600] L702 HS1601)), ?_⟩
    obtain ⟨cs1604, hr1605, hc1606⟩ := HO1602.at' (i := vt46) c52 c63
    obtain rfl := hr1605
    refine takeGQ 3 [] rfl kr kr kr kr kr kr hnp (Sg.g0 (Sx.of [s1600] L702 HS1601)) (fun w_ hw_ => by obtain ⟨g_, hl_, hS_⟩ := hw_.st; exact run_index (sz := 1) rfl Tryz.underlying46 kr (kv (.slice (some ⟨b1598, 0, none⟩) ([Z27, Z29, Z28, Z32] : List ByteArray).length 4)) (kv (.int .i64 vt46)) c52 c63 w_) ?_
    refine hR175 _ _ ?_
    exact J176 b1598 s1600 f701 W1599 _ L702 HO1602 HS1601 kr
  · refine does_lit (e := tStr) (E := 9) (vs := #[(0, Value.string ⟨#[97]⟩), (1, Value.string ⟨#[55]⟩), (2, Value.string ⟨#[91, 120, 93]⟩)]) (cs := #[.string ⟨#[97]⟩, .string ⟨#[55]⟩, .string ⟨#[91, 120, 93]⟩]) (xs := ([Z40, Z20, Z34] : List ByteArray)) rfl Tryz.underlying46 kr kr ⟨[.string ⟨#[97]⟩], _, rfl, rfl, ⟨[.string ⟨#[55]⟩], _, rfl, rfl, ⟨[.string ⟨#[91, 120, 93]⟩], _, rfl, rfl, rfl⟩⟩⟩ rfl HS704 ?_ (by decide)
    intro b1607 W1608 s1609 HS1610 _ HO1611
    refine ⟨(Sg.g0 (Sx.of [s1609] L702 HS1610)), ?_⟩
    refine hR731 _ _ ?_
    exact J732 b1607 s1609 f701 W1608 _ L702 HO1611 HS1610 kr
  · refine does_call (f := 10) (args := #[.int .i64 value6, .int .i64 3]) kr (spymake_Below.calls k value6 3 HS704 vt83 hc84) ?_
    rintro _ W1615 ⟨f1613, rfl, L1614, HS1616⟩
    refine ⟨_, rfl, ?_⟩
    refine ⟨(Sg.g0 (Sx.of [] (L702.trans L1614) HS1616)), ?_⟩
    refine hR883 _ _ ?_
    exact J884 f1613 W1615 _ (L702.trans L1614) HS1616 kr
  · refine does_alloc (z := Value.agg #[.string ⟨#[]⟩, .string ⟨#[]⟩, .string ⟨#[]⟩, .string ⟨#[]⟩]) (cs := #[.string ⟨#[]⟩, .string ⟨#[]⟩, .string ⟨#[]⟩, .string ⟨#[]⟩]) rfl kr rfl HS704 ?_
    intro b1617 W1618 HS1619
    refine ⟨(Sg.g0 (Sx.of [[(b1617, .cells #[.string ⟨#[]⟩, .string ⟨#[]⟩, .string ⟨#[]⟩, .string ⟨#[]⟩] 51 (0, 0))]] L702 HS1619)), ?_⟩
    refine hR943 _ _ ?_
    exact J944 b1617 f701 W1618 _ L702 HS1619 kr
 have J978 : ∀ (b964 : Nat) (s966 : Seg) (f970 : FM) (W972 : World) (a_ : Act), FM.le f18 f970 → Own tStr 9 f970 (some ⟨b964, 0, none⟩) 3 s966 ([Z40, Z20, Z34] : List ByteArray) → St t W972 f970 (s966 :: [(b30, .cells #[.int .i64 vt15.W, .int .i64 vt15.H, .slice A22 vt15.Cards.length c23, .slice A27 vt15.Counts.length c28] 29 (0, 0))] :: s24 :: [(b11, .cells #[.slice A2 l1.length c3, .int .i64 vt16] 33 (0, 0))] :: H) → a_ = ⟨#[.slice A2 l1.length c3, iV vk5, iV value6, uV, uV, uV, fV, pV b30 0, uV, uV, uV, uV, uV, uV, uV, uV, uV, uV, uV, .slice A2 l1.length c3, .agg #[.slice A2 l1.length c3, iV 0], pV b11 0, (ag_Frame vt15 A22 c23 A27 c28), uV, iV vk5, uV, uV, uV, .slice (some ⟨b964, 0, none⟩) ([Z40, Z20, Z34] : List ByteArray).length 3, iV value6, uV, uV, uV, uV, uV, uV, uV, uV, uV, uV, uV, uV, uV, uV, uV, uV, uV, uV, uV, uV, uV, uV, uV, uV, uV, uV, uV, uV, uV, uV, uV, uV, uV, uV, uV, uV, uV, uV, uV, uV, uV, uV, uV, uV, uV, uV, uV, uV, uV, uV, uV, uV, uV, uV, uV, uV, uV, uV, uV, uV, uV, uV, uV, uV, uV, uV, uV, uV, uV, uV, uV, uV, uV, uV, uV, uV, uV, uV, uV, uV, uV, uV, uV, uV, uV, uV, uV, uV, uV, uV, uV, uV, uV, uV, uV, uV, uV, uV, uV, uV], []⟩ → R975 a_ W972 := by
  intro b964 s966 f970 W972 a_ L971 HO974 HS973 hfr_; subst hfr_
  refine hR976 _ _ ?_
  refine takeAny3 0 2 11 kr (Way.mk' rfl rfl ?_) (Way.mk' rfl rfl ?_) (Way.mk' rfl rfl ?_)
  · refine does_lit (e := tStr) (E := 9) (vs := #[(0, Value.string ⟨#[75, 73, 78, 68]⟩), (1, Value.string ⟨#[78, 85, 77, 66, 69, 82]⟩), (2, Value.string ⟨#[78, 69, 87]⟩), (3, Value.string ⟨#[88, 48]⟩)]) (cs := #[.string ⟨#[75, 73, 78, 68]⟩, .string ⟨#[78, 85, 77, 66, 69, 82]⟩, .string ⟨#[78, 69, 87]⟩, .string ⟨#[88, 48]⟩]) (xs := ([Z27, Z29, Z28, Z32] : List ByteArray)) rfl Tryz.underlying46 kr kr ⟨[.string ⟨#[75, 73, 78, 68]⟩], _, rfl, rfl, ⟨[.string ⟨#[78, 85, 77, 66, 69, 82]⟩], _, rfl, rfl, ⟨[.string ⟨#[78, 69, 87]⟩], _, rfl, rfl, ⟨[.string ⟨#[88, 48]⟩], _, rfl, rfl, rfl⟩⟩⟩⟩ rfl HS973 ?_ (by decide)
    intro b1621 W1622 s1623 HS1624 _ HO1625
    refine ⟨(Sg.g0 (Sx.of [s1623, s966] L971 HS1624)), ?_⟩
    have HS1631 := HS1624.u4.u4.u4.u3.u4
    refine hR641 _ _ ?_
    exact J642 b1621 s1623 b964 s966 f970 W1622 _ L971 HO1625 HO974 HS1631 kr
  · refine does_call (f := 10) (args := #[.int .i64 vk5, .int .i64 4]) kr (spymake_Below.calls k vk5 4 HS973 vt46 hc47) ?_
    rintro _ W1634 ⟨f1632, rfl, L1633, HS1635⟩
    refine ⟨_, rfl, ?_⟩
    refine ⟨(Sg.g0 (Sx.of [s966] (L971.trans L1633) HS1635)), ?_⟩
    refine hR731 _ _ ?_
    exact J732 b964 s966 f1632 W1634 _ (L971.trans L1633) (HO974.mono L1633) HS1635 kr
  · refine does_alloc (z := Value.agg #[.string ⟨#[]⟩, .string ⟨#[]⟩, .string ⟨#[]⟩, .string ⟨#[]⟩]) (cs := #[.string ⟨#[]⟩, .string ⟨#[]⟩, .string ⟨#[]⟩, .string ⟨#[]⟩]) rfl kr rfl HS973 ?_
    intro b1636 W1637 HS1638
    refine ⟨(Sg.g0 (Sx.of [[(b1636, .cells #[.string ⟨#[]⟩, .string ⟨#[]⟩, .string ⟨#[]⟩, .string ⟨#[]⟩] 51 (0, 0))], s966] L971 HS1638)), ?_⟩
    refine hR1000 _ _ ?_
    exact J1001 b964 s966 b1636 f970 W1637 _ L971 HO974 HS1638 kr
 have J1023 : ∀ (b1012 : Nat) (f1016 : FM) (W1018 : World) (a_ : Act), FM.le f18 f1016 → St t W1018 f1016 ([(b1012, .cells #[.string ⟨#[]⟩, .string ⟨#[]⟩, .string ⟨#[]⟩, .string ⟨#[]⟩] 51 (0, 0))] :: [(b30, .cells #[.int .i64 vt15.W, .int .i64 vt15.H, .slice A22 vt15.Cards.length c23, .slice A27 vt15.Counts.length c28] 29 (0, 0))] :: s24 :: [(b11, .cells #[.slice A2 l1.length c3, .int .i64 vt16] 33 (0, 0))] :: H) → a_ = ⟨#[.slice A2 l1.length c3, iV vk5, iV value6, uV, uV, uV, fV, pV b30 0, pV b1012 0, uV, uV, uV, uV, uV, uV, uV, uV, uV, uV, .slice A2 l1.length c3, .agg #[.slice A2 l1.length c3, iV 0], pV b11 0, (ag_Frame vt15 A22 c23 A27 c28), uV, iV vk5, uV, uV, uV, uV, iV value6, uV, uV, uV, uV, uV, uV, uV, uV, uV, uV, uV, uV, uV, uV, uV, uV, uV, uV, uV, uV, uV, uV, uV, uV, uV, uV, uV, uV, uV, uV, uV, uV, uV, uV, uV, uV, uV, uV, uV, uV, uV, uV, uV, uV, uV, uV, uV, uV, uV, uV, uV, uV, uV, uV, uV, uV, uV, uV, uV, uV, uV, uV, uV, uV, uV, uV, uV, uV, uV, uV, uV, uV, uV, uV, uV, uV, uV, uV, uV, uV, uV, uV, uV, uV, uV, uV, uV, uV, uV, uV, uV, uV, uV, uV, uV, uV, uV, uV, uV, uV], []⟩ → R1020 a_ W1018 := by
  intro b1012 f1016 W1018 a_ L1017  HS1019 hfr_; subst hfr_
  refine hR1021 _ _ ?_
  refine takeAny3 0 2 5 kr (Way.mk' rfl rfl ?_) (Way.mk' rfl rfl ?_) (Way.mk' rfl rfl ?_)
  · refine does_lit (e := tStr) (E := 9) (vs := #[(0, Value.string ⟨#[75, 73, 78, 68]⟩), (1, Value.string ⟨#[78, 85, 77, 66, 69, 82]⟩), (2, Value.string ⟨#[78, 69, 87]⟩), (3, Value.string ⟨#[88, 48]⟩)]) (cs := #[.string ⟨#[75, 73, 78, 68]⟩, .string ⟨#[78, 85, 77, 66, 69, 82]⟩, .string ⟨#[78, 69, 87]⟩, .string ⟨#[88, 48]⟩]) (xs := ([Z27, Z29, Z28, Z32] : List ByteArray)) rfl Tryz.underlying46 kr kr ⟨[.string ⟨#[75, 73, 78, 68]⟩], _, rfl, rfl, ⟨[.string ⟨#[78, 85, 77, 66, 69, 82]⟩], _, rfl, rfl, ⟨[.string ⟨#[78, 69, 87]⟩], _, rfl, rfl, ⟨[.string ⟨#[88, 48]⟩], _, rfl, rfl, rfl⟩⟩⟩⟩ rfl HS1019 ?_ (by decide)
    intro b1640 W1641 s1642 HS1643 _ HO1644
    refine ⟨(Sg.g0 (Sx.of [s1642, [(b1012, .cells #[.string ⟨#[]⟩, .string ⟨#[]⟩, .string ⟨#[]⟩, .string ⟨#[]⟩] 51 (0, 0))]] L1017 HS1643)), ?_⟩
    have HS1650 := HS1643.u4.u4.u4.u3.u4
    refine hR682 _ _ ?_
    exact J683 b1640 s1642 b1012 f1016 W1641 _ L1017 HO1644 HS1650 kr
  · refine does_call (f := 10) (args := #[.int .i64 vk5, .int .i64 4]) kr (spymake_Below.calls k vk5 4 HS1019 vt46 hc47) ?_
    rintro _ W1653 ⟨f1651, rfl, L1652, HS1654⟩
    refine ⟨_, rfl, ?_⟩
    refine ⟨(Sg.g0 (Sx.of [[(b1012, .cells #[.string ⟨#[]⟩, .string ⟨#[]⟩, .string ⟨#[]⟩, .string ⟨#[]⟩] 51 (0, 0))]] (L1017.trans L1652) HS1654)), ?_⟩
    refine hR943 _ _ ?_
    exact J944 b1012 f1651 W1653 _ (L1017.trans L1652) HS1654 kr
  · refine does_lit (e := tStr) (E := 9) (vs := #[(0, Value.string ⟨#[97]⟩), (1, Value.string ⟨#[55]⟩), (2, Value.string ⟨#[91, 120, 93]⟩)]) (cs := #[.string ⟨#[97]⟩, .string ⟨#[55]⟩, .string ⟨#[91, 120, 93]⟩]) (xs := ([Z40, Z20, Z34] : List ByteArray)) rfl Tryz.underlying46 kr kr ⟨[.string ⟨#[97]⟩], _, rfl, rfl, ⟨[.string ⟨#[55]⟩], _, rfl, rfl, ⟨[.string ⟨#[91, 120, 93]⟩], _, rfl, rfl, rfl⟩⟩⟩ rfl HS1019 ?_ (by decide)
    intro b1655 W1656 s1657 HS1658 _ HO1659
    refine ⟨(Sg.g0 (Sx.of [s1657, [(b1012, .cells #[.string ⟨#[]⟩, .string ⟨#[]⟩, .string ⟨#[]⟩, .string ⟨#[]⟩] 51 (0, 0))]] L1017 HS1658)), ?_⟩
    have HS1665 := HS1658.u4.u4.u4.u3.u4
    refine hR1000 _ _ ?_
    exact J1001 b1655 s1657 b1012 f1016 W1656 _ L1017 HO1659 HS1665 kr
 refine takeAny4 0 2 5 11 kr (Way.mk' rfl rfl ?_) (Way.mk' rfl rfl ?_) (Way.mk' rfl rfl ?_) (Way.mk' rfl rfl ?_)
 · refine does_lit (e := tStr) (E := 9) (vs := #[(0, Value.string ⟨#[75, 73, 78, 68]⟩), (1, Value.string ⟨#[78, 85, 77, 66, 69, 82]⟩), (2, Value.string ⟨#[78, 69, 87]⟩), (3, Value.string ⟨#[88, 48]⟩)]) (cs := #[.string ⟨#[75, 73, 78, 68]⟩, .string ⟨#[78, 85, 77, 66, 69, 82]⟩, .string ⟨#[78, 69, 87]⟩, .string ⟨#[88, 48]⟩]) (xs := ([Z27, Z29, Z28, Z32] : List ByteArray)) rfl Tryz.underlying46 kr kr ⟨[.string ⟨#[75, 73, 78, 68]⟩], _, rfl, rfl, ⟨[.string ⟨#[78, 85, 77, 66, 69, 82]⟩], _, rfl, rfl, ⟨[.string ⟨#[78, 69, 87]⟩], _, rfl, rfl, ⟨[.string ⟨#[88, 48]⟩], _, rfl, rfl, rfl⟩⟩⟩⟩ rfl HS39 ?_ (by decide)
   intro b1666 W1667 s1668 HS1669 _ HO1670
   refine ⟨(Sg.g0 (Sx.of [s1668] fL HS1669)), ?_⟩
   refine hR159 _ _ ?_
   exact J160 b1666 s1668 f18 W1667 _ fL HO1670 HS1669 kr
 · refine does_call (f := 10) (args := #[.int .i64 vk5, .int .i64 4]) kr (spymake_Below.calls k vk5 4 HS39 vt46 hc47) ?_
   rintro _ W1674 ⟨f1672, rfl, L1673, HS1675⟩
   refine ⟨_, rfl, ?_⟩
   refine ⟨(Sg.g0 (Sx.of [] L1673 HS1675)), ?_⟩
   refine hR707 _ _ ?_
   exact J708 f1672 W1674 _ L1673 HS1675 kr
 · refine does_lit (e := tStr) (E := 9) (vs := #[(0, Value.string ⟨#[97]⟩), (1, Value.string ⟨#[55]⟩), (2, Value.string ⟨#[91, 120, 93]⟩)]) (cs := #[.string ⟨#[97]⟩, .string ⟨#[55]⟩, .string ⟨#[91, 120, 93]⟩]) (xs := ([Z40, Z20, Z34] : List ByteArray)) rfl Tryz.underlying46 kr kr ⟨[.string ⟨#[97]⟩], _, rfl, rfl, ⟨[.string ⟨#[55]⟩], _, rfl, rfl, ⟨[.string ⟨#[91, 120, 93]⟩], _, rfl, rfl, rfl⟩⟩⟩ rfl HS39 ?_ (by decide)
   intro b1676 W1677 s1678 HS1679 _ HO1680
   refine ⟨(Sg.g0 (Sx.of [s1678] fL HS1679)), ?_⟩
   refine hR977 _ _ ?_
   exact J978 b1676 s1678 f18 W1677 _ fL HO1680 HS1679 kr
 · refine does_alloc (z := Value.agg #[.string ⟨#[]⟩, .string ⟨#[]⟩, .string ⟨#[]⟩, .string ⟨#[]⟩]) (cs := #[.string ⟨#[]⟩, .string ⟨#[]⟩, .string ⟨#[]⟩, .string ⟨#[]⟩]) rfl kr rfl HS39 ?_
   intro b1682 W1683 HS1684
   refine ⟨(Sg.g0 (Sx.of [[(b1682, .cells #[.string ⟨#[]⟩, .string ⟨#[]⟩, .string ⟨#[]⟩, .string ⟨#[]⟩] 51 (0, 0))]] fL HS1684)), ?_⟩
   refine hR1022 _ _ ?_
   exact J1023 b1682 f18 W1683 _ fL HS1684 kr

end Go.Sp.T6
