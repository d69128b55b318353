import Derived.Test.YtiofgpdfnhihhaaGreatDoorProg
import Derived.Test.YtiofgpdfnhihhaaGreatDoorSpCopy
import Derived.Test.YtiofgpdfnhihhaaGreatDoorFF3
import Derived.Test.YtiofgpdfnhihhaaGreatDoorSpStr
import Derived.Test.YtiofgpdfnhihhaaGreatDoorSpLib
import Derived.Test.YtiofgpdfnhihhaaGreatDoorSpBld
import Derived.Test.YtiofgpdfnhihhaaGreatDoorConv
import Derived.Test.YtiofgpdfnhihhaaGreatDoorLibs
import Derived.Test.YtiofgpdfnhihhaaGreatDoorSpGrow
import Derived.Test.YtiofgpdfnhihhaaGreatDoorSpRound
import Derived.Test.YtiofgpdfnhihhaaGreatDoorKF3n0
import Derived.Test.YtiofgpdfnhihhaaGreatDoorKF3n1
import Derived.Test.YtiofgpdfnhihhaaGreatDoorKF3n2
import Derived.Test.YtiofgpdfnhihhaaGreatDoorKF3n3
import Derived.Test.YtiofgpdfnhihhaaGreatDoorKF3n4
import Derived.Test.YtiofgpdfnhihhaaGreatDoorKF3n5
import Derived.Test.YtiofgpdfnhihhaaGreatDoorKF3n6
import Derived.Test.YtiofgpdfnhihhaaGreatDoorKF3n7
namespace Go.Sp.F3
open Go Go.Sp Go.Proofs
set_option linter.unusedVariables false
attribute [local irreducible] wpList AnyL Code.wp Calls Does Code.wpIn wpListIn CallsIn bodyPostM LeavesInM
set_option maxRecDepth 100000 in
set_option maxHeartbeats 4000000 in
theorem spykeep3_SqueezeFramesBack.calls (k : Nat) (A2 : Option Addr) (c3 : Nat) (l1 : List Int) {t w : World} {f : FM} {H : List Seg} (HS : St t w f (H)) (HR4 : SlR (tInt .i64) f A2 c3 l1) (HA : TabF Tryz.prog "strings.asciiSpace" .u8 Go.Lib.asciiSpaceTab f) (HM : VarI 3 f) (HT : TabF Tryz.prog "internal/strconv.uint64pow10" .u64 Go.Lib.pow10Tab f) (rr1 : Bool) (h : spykeep3_SqueezeFramesBack k l1 = some rr1) :
    Calls Tryz.prog 3 #[.slice A2 l1.length c3] w (fun e w' => ∃ (g : FM), e = .returned (Value.bool rr1) ∧ FM.le f g ∧ St t w' g (H)) := by
 unfold spykeep3_SqueezeFramesBack at h
 refine enter Tryz.func3 rfl (tm := #[.slice A2 l1.length c3, uV, uV, uV, uV, uV, uV, uV, uV, uV, uV, uV, uV, uV, uV, uV, uV, uV, uV, uV, uV, uV, uV, uV, uV, uV, uV, uV, uV, uV, uV, uV, uV, uV, uV, uV]) kr ?_
 intro B hret hnor hnp
 refine wp_seq_k fun K5 hK6 => rl ?_
 refine seqL1 kr ?_
 refine nl (hK6 _ _ ?_)
 refine wp_seq_k fun K7 hK8 => rl ?_
 refine seqL2 kr ?_
 refine seqK rfl (does_box (cs := #[.slice A2 l1.length c3, .int .i64 0]) rfl (kv (.agg #[.slice A2 l1.length c3, .int .i64 0])) rfl HS ?_)
 intro b9 W10 HS11
 have hq_ := bind_some h; clear h; obtain ⟨⟨vt13, vt14⟩, hc15, h⟩ := hq_
 refine seqK rfl (does_call (f := 4) (args := #[.pointer (some ⟨b9, 0, none⟩)]) kr (spykeep3_noted.calls k b9 A2 c3 (⟨l1, 0⟩ : S_Stream) HS11 HR4 HT vt13 vt14 hc15) ?_)
 rintro _ W18 ⟨f16, A20, c21, s22, A25, c26, rfl, L17, HS19, HO23, HR27⟩
 refine ⟨_, rfl, ?_⟩
 refine seqK rfl (does_alloc (z := Value.agg #[.int .i64 0, .int .i64 0, .slice none 0 0, .slice none 0 0]) (cs := #[.int .i64 0, .int .i64 0, .slice none 0 0, .slice none 0 0]) rfl kr rfl HS19 ?_)
 intro b28 W29 HS30
 refine seqK rfl (does_storeA (vs := [.int .i64 vt13.W, .int .i64 vt13.H, .slice A20 vt13.Cards.length c21, .slice A25 vt13.Counts.length c26]) rfl kr kr kr rfl (ones rfl) HS30 kr ?_)
 intro W32 HS33
 refine nl (hK8 _ _ ?_)
 refine wp_seq_k fun K34 hK35 => rl ?_
 refine seqK rfl (does_run (run_loadN (n := 4) rfl Tryz.underlying25 rfl kr (kv (.pointer (some ⟨b28, 0, none⟩))) (cs := [.int .i64 vt13.W, .int .i64 vt13.H, .slice A20 vt13.Cards.length c21, .slice A25 vt13.Counts.length c26]) rfl (HS33.cells 0 4 _ rfl)) ?_)
 have HS36 := HS33.u1
 obtain ⟨f37, L38, HS39, HR40, th41⟩ := HO23.lend HS36
 have hq_ := bind_some h; clear h; obtain ⟨⟨vt42, vt43⟩, hc44, h⟩ := hq_
 refine seqK rfl (does_call (f := 5) (args := #[.agg #[.int .i64 vt13.W, .int .i64 vt13.H, .slice A20 vt13.Cards.length c21, .slice A25 vt13.Counts.length c26]]) kr (squeeze_Save.calls k A20 c21 A25 c26 vt13 HS39 HR40 (HR27.mono L38) (HA.mono (L17.trans L38)) (HT.mono (L17.trans L38)) vt42 vt43 hc44) ?_)
 rintro _ W47 ⟨f45, A49, c50, s51, rfl, L46, HS48, HO52⟩
 refine ⟨_, rfl, ?_⟩
 obtain ⟨f54, L55, HS56⟩ := th41 L46 HS48
 replace HO52 := HO52.flat (g := f54) (fun _ _ _ _ h_ => h_)
 refine seqL5 kr ?_
 refine nl (hK35 _ _ ?_)
 refine wp_seq_k fun K57 hK58 => rl ?_
 have HS59 := HS56.u1
 obtain ⟨f60, L61, HS62, HR63⟩ := HO52.freeze HS59
 have hq_ := bind_some h; clear h; obtain ⟨⟨vt64, vt65⟩, hc66, h⟩ := hq_
 refine seqL1 kr ?_
 refine seqK rfl (does_call (f := 6) (args := #[.slice A49 vt42.length c50]) kr (squeeze_Load.calls k A49 c50 vt42 HS62 HR63 (HA.mono (L17.trans (L55.trans L61))) (HM.mono (L17.trans (L55.trans L61))) (HT.mono (L17.trans (L55.trans L61))) vt64 vt65 hc66) ?_)
 rintro _ W69 ⟨f67, A71, c72, A74, c75, s76, rfl, L68, HS70, HR73, HO77⟩
 refine ⟨_, rfl, ?_⟩
 refine seqL3 kr ?_
 refine seqK rfl (does_alloc (z := Value.agg #[.int .i64 0, .int .i64 0, .slice none 0 0, .slice none 0 0]) (cs := #[.int .i64 0, .int .i64 0, .slice none 0 0, .slice none 0 0]) rfl kr rfl HS70 ?_)
 intro b79 W80 HS81
 refine seqK rfl (does_storeA (vs := [.int .i64 vt64.W, .int .i64 vt64.H, .slice A71 vt64.Cards.length c72, .slice A74 vt64.Counts.length c75]) rfl kr kr kr rfl (ones rfl) HS81 kr ?_)
 intro W83 HS84
 refine seqL1 kr ?_
 refine nl (hK58 _ _ ?_)
 refine wp_seq_k fun K85 hK86 => rl ?_
 have hq_ := bind_some h; clear h; obtain ⟨vt87, hc88, h⟩ := hq_
 refine seqK rfl (does_call (f := 7) (args := #[]) kr (spykeep3_squeezed.calls k  HS84 vt87 hc88) ?_)
 rintro _ W91 ⟨f89, rfl, L90, HS92⟩
 refine ⟨_, rfl, ?_⟩
 refine seqL1 kr ?_
 have hq_ := ite_some h; clear h; rcases hq_ with ⟨c93, h⟩ | ⟨c93, h⟩
 · have c93 : vt87 = true := c93
   refine seqRwI 22 kr c93 ?_
   refine seqRwI 23 kr c93 ?_
   refine seqL4 kr ?_
   have hq_ := ite_some h; clear h; rcases hq_ with ⟨c94, h⟩ | ⟨c94, h⟩
   · have c94 : vt43 = 0 := c94
     refine seqRwI 25 kr (beq_iff_eq.mpr c94) ?_
     refine seqRwI 26 kr (beq_iff_eq.mpr c94) ?_
     refine seqRwI 27 kr (beq_iff_eq.mpr c94) ?_
     refine seqL4 kr ?_
     have hq_ := ite_some h; clear h; rcases hq_ with ⟨c95, h⟩ | ⟨c95, h⟩
     · have c95 : vt65 = 0 := c95
       refine seqRwI 29 kr (beq_iff_eq.mpr c95) ?_
       refine seqRwI 30 kr (beq_iff_eq.mpr c95) ?_
       refine seqRwI 31 kr (beq_iff_eq.mpr c95) ?_
       refine seqG kr (does_run (run_loadN (n := 4) rfl Tryz.underlying25 rfl kr (kv (.pointer (some ⟨b28, 0, none⟩))) (cs := [.int .i64 vt13.W, .int .i64 vt13.H, .slice A20 vt13.Cards.length c21, .slice A25 vt13.Counts.length c26]) rfl (HS92.u3.cells 0 4 _ rfl)) ?_)
       refine seqG kr (does_run (run_loadN (n := 4) rfl Tryz.underlying25 rfl kr (kv (.pointer (some ⟨b79, 0, none⟩))) (cs := [.int .i64 vt64.W, .int .i64 vt64.H, .slice A71 vt64.Cards.length c72, .slice A74 vt64.Counts.length c75]) rfl (HS92.cells 0 4 _ rfl)) ?_)
       have HS96 := HS92.u2
       obtain ⟨f97, L98, HS99, HR100, th101⟩ := (HO23.mono (L55.trans (L61.trans (L68.trans L90)))).lend HS96
       have HS102 := HS99.u1
       obtain ⟨f103, L104, HS105, HR106, th107⟩ := (HO77.mono (L90.trans L98)).lend HS102
       have hq_ := bind_some h; clear h; obtain ⟨vt108, hc109, h⟩ := hq_
       refine seqG kr (does_call (f := 8) (args := #[.agg #[.int .i64 vt13.W, .int .i64 vt13.H, .slice A20 vt13.Cards.length c21, .slice A25 vt13.Counts.length c26], .agg #[.int .i64 vt64.W, .int .i64 vt64.H, .slice A71 vt64.Cards.length c72, .slice A74 vt64.Counts.length c75]]) kr (spykeep3_same.calls k A20 c21 A25 c26 A71 c72 A74 c75 vt13 vt64 HS105 (HR100.mono L104) (HR27.mono (L55.trans (L61.trans (L68.trans (L90.trans (L98.trans L104)))))) (HR73.mono (L90.trans (L98.trans L104))) HR106 vt108 hc109) ?_)
       rintro _ W112 ⟨f110, rfl, L111, HS113⟩
       refine ⟨_, rfl, ?_⟩
       obtain ⟨f114, L115, HS116⟩ := th107 L111 HS113
       obtain ⟨f117, L118, HS119⟩ := th101 L115 HS116
       refine seqL2 kr ?_
       refine nl (hK86 _ _ ?_)
       refine wp_ret ?_
       refine hret _ _ ?_
       refine ends_still (v := Value.bool vt108) kr kr ?_
       have HS120 := HS119.drop
       have HS121 := HS120.drop
       have HS122 := HS121.drop
       have HS123 := HS122.drop
       have HS124 := HS123.drop
       injection h with h
       subst h
       exact ⟨f117, rfl, (L17.trans (L55.trans (L61.trans (L68.trans (L90.trans L118))))), HS124⟩
     · have c95 : ¬ (vt65 = 0) := c95
       refine seqRwI 29 kr (beq_eq_false_iff_ne.mpr c95) ?_
       refine seqRwI 30 kr (beq_eq_false_iff_ne.mpr c95) ?_
       refine seqRwI 31 kr (beq_eq_false_iff_ne.mpr c95) ?_
       refine seqL5 kr ?_
       refine nl (hK86 _ _ ?_)
       refine wp_ret ?_
       refine hret _ _ ?_
       refine ends_still (v := Value.bool false) kr kr ?_
       have HS125 := HS92.drop
       have HS126 := HS125.drop
       have HS127 := HS126.drop
       have HS128 := HS127.drop
       have HS129 := HS128.drop
       injection h with h
       subst h
       exact ⟨f89, rfl, (L17.trans (L55.trans (L61.trans (L68.trans L90)))), HS129⟩
   · have c94 : ¬ (vt43 = 0) := c94
     refine seqRwI 25 kr (beq_eq_false_iff_ne.mpr c94) ?_
     refine seqRwI 26 kr (beq_eq_false_iff_ne.mpr c94) ?_
     refine seqRwI 27 kr (beq_eq_false_iff_ne.mpr c94) ?_
     refine seqL9 kr ?_
     refine nl (hK86 _ _ ?_)
     refine wp_ret ?_
     refine hret _ _ ?_
     refine ends_still (v := Value.bool false) kr kr ?_
     have HS130 := HS92.drop
     have HS131 := HS130.drop
     have HS132 := HS131.drop
     have HS133 := HS132.drop
     have HS134 := HS133.drop
     injection h with h
     subst h
     exact ⟨f89, rfl, (L17.trans (L55.trans (L61.trans (L68.trans L90)))), HS134⟩
 · have c93 : ¬ (vt87 = true) := c93
   refine seqRwI 22 kr (Bool.eq_false_iff.mpr c93) ?_
   refine seqRwI 23 kr (Bool.eq_false_iff.mpr c93) ?_
   refine seqL13 kr ?_
   refine nl (hK86 _ _ ?_)
   refine wp_ret ?_
   refine hret _ _ ?_
   refine ends_still (v := Value.bool false) kr kr ?_
   have HS135 := HS92.drop
   have HS136 := HS135.drop
   have HS137 := HS136.drop
   have HS138 := HS137.drop
   have HS139 := HS138.drop
   injection h with h
   subst h
   exact ⟨f89, rfl, (L17.trans (L55.trans (L61.trans (L68.trans L90)))), HS139⟩

end Go.Sp.F3
