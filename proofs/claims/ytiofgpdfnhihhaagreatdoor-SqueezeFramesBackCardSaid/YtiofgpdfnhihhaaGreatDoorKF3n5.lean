import Derived.Test.YtiofgpdfnhihhaaGreatDoorProg
import Derived.Test.YtiofgpdfnhihhaaGreatDoorSpCopy
import Derived.Test.YtiofgpdfnhihhaaGreatDoorFF3
import Derived.Test.YtiofgpdfnhihhaaGreatDoorSpStr
import Derived.Test.YtiofgpdfnhihhaaGreatDoorSpLib
import Derived.Test.YtiofgpdfnhihhaaGreatDoorSpBld
import Derived.Test.YtiofgpdfnhihhaaGreatDoorConv
import Derived.Test.YtiofgpdfnhihhaaGreatDoorLibs
import Derived.Test.YtiofgpdfnhihhaaGreatDoorSpGrow
import Derived.Test.YtiofgpdfnhihhaaGreatDoorSpRound
import Derived.Test.YtiofgpdfnhihhaaGreatDoorKF3n0
import Derived.Test.YtiofgpdfnhihhaaGreatDoorKF3n1
import Derived.Test.YtiofgpdfnhihhaaGreatDoorKF3n2
import Derived.Test.YtiofgpdfnhihhaaGreatDoorKF3n3
import Derived.Test.YtiofgpdfnhihhaaGreatDoorKF3n4
namespace Go.Sp.F3
open Go Go.Sp Go.Proofs
set_option linter.unusedVariables false
attribute [local irreducible] wpList AnyL Code.wp Calls Does Code.wpIn wpListIn CallsIn bodyPostM LeavesInM
set_option maxRecDepth 100000 in
set_option maxHeartbeats 4000000 in
theorem squeeze_Save.calls (k : Nat) (A2 : Option Addr) (c3 : Nat) (A5 : Option Addr) (c6 : Nat) (vf1 : S_Frame) {t w : World} {f : FM} {H : List Seg} (HS : St t w f (H)) (HR4 : SlR ty_Card f A2 c3 vf1.Cards) (HR7 : SlR (tInt .i64) f A5 c6 vf1.Counts) (HA : TabF Tryz.prog "strings.asciiSpace" .u8 Go.Lib.asciiSpaceTab f) (HT : TabF Tryz.prog "internal/strconv.uint64pow10" .u64 Go.Lib.pow10Tab f) (rr1 : List Int) (rr2 : Int) (h : squeeze_Save k vf1 = some (rr1, rr2)) :
    Calls Tryz.prog 5 #[.agg #[.int .i64 vf1.W, .int .i64 vf1.H, .slice A2 vf1.Cards.length c3, .slice A5 vf1.Counts.length c6]] w (fun e w' => ∃ (g : FM) (A133 : Option Addr) (c134 : Nat) (s135 : Seg), e = .returned (Value.tuple #[.slice A133 rr1.length c134, .int .i64 rr2]) ∧ FM.le f g ∧ St t w' g (s135 :: H) ∧ Own (tInt .u8) 5 g A133 c134 s135 rr1) := by
 unfold squeeze_Save at h
 refine enter Tryz.func5 rfl (tm := #[(ag_Frame vf1 A2 c3 A5 c6), uV, uV, uV, uV, uV, uV, uV, uV, uV, uV, uV, uV, uV, uV, uV, uV, uV, uV, uV, uV, uV, uV, uV, uV, uV, uV, uV, uV, uV, uV, uV, uV, uV, uV, uV, uV, uV, uV, uV, uV, uV, uV, uV, uV, uV, uV, uV, uV, uV, uV]) kr ?_
 intro B hret hnor hnp
 refine wp_seq_k fun K8 hK9 => rl ?_
 refine seqK rfl (does_box (cs := #[.int .i64 vf1.W, .int .i64 vf1.H, .slice A2 vf1.Cards.length c3, .slice A5 vf1.Counts.length c6]) rfl (kv (.agg #[.int .i64 vf1.W, .int .i64 vf1.H, .slice A2 vf1.Cards.length c3, .slice A5 vf1.Counts.length c6])) rfl HS ?_)
 intro b10 W11 HS12
 refine seqL2 kr ?_
 refine nl (hK9 _ _ ?_)
 refine wp_seq_k (fun K14 hK15 => ?_)
 refine wp_seq_k fun K16 hK17 => rl ?_
 refine seqK rfl (does_run (run_loadN (n := 4) rfl Tryz.underlying25 rfl kr (kv (.pointer (some ⟨b10, 0, none⟩))) (cs := [.int .i64 vf1.W, .int .i64 vf1.H, .slice A2 vf1.Cards.length c3, .slice A5 vf1.Counts.length c6]) rfl (HS12.cells 0 4 _ rfl)) ?_)
 have hq_ := bind_some h; clear h; obtain ⟨vt18, hc19, h⟩ := hq_
 refine seqK rfl (does_call (f := 15) (args := #[.agg #[.int .i64 vf1.W, .int .i64 vf1.H, .slice A2 vf1.Cards.length c3, .slice A5 vf1.Counts.length c6]]) kr (frame_Check.calls k A2 c3 A5 c6 vf1 HS12 HR4 HR7 HA vt18 hc19) ?_)
 rintro _ W22 ⟨f20, rfl, L21, HS23⟩
 refine ⟨_, rfl, ?_⟩
 refine seqL1 kr ?_
 refine nl (hK17 _ _ ?_)
 refine wp_seq_k fun K24 hK25 => rl ?_
 refine seqL2 kr ?_
 refine nl (hK25 _ _ ?_)
 have hq_ := ite_some h; clear h; rcases hq_ with ⟨c27, h⟩ | ⟨c27, h⟩
 · have c27 : vt18 ≠ 0 := c27
   refine wpRwI 12 kr (bne_iff_ne.mpr c27) ?_
   refine condT kr ?_
   refine wp_seq_k fun K28 hK29 => rl ?_
   refine seqL3 kr ?_
   refine nl (hK29 _ _ ?_)
   refine wp_ret ?_
   refine hret _ _ ?_
   have HS122 := HS23.cons_nil
   refine ends_still (v := Value.tuple #[.slice none 0 0, .int .i64 vt18]) kr kr ?_
   have HS124 := HS122.u1
   have HS125 := HS124.drop
   injection h with h
   injection h with h0_ h
   subst h0_ h
   exact ⟨f20, none, 0, [], rfl, L21, HS125, (Own.nil _)⟩
 · have c27 : ¬ (vt18 ≠ 0) := c27
   refine wpRwI 12 (x := (vt18 != 0)) (v := false) kr (bne_eq_false_iff_eq.mpr (Decidable.of_not_not c27)) ?_
   refine condF kr ?_
   refine wp_skip ?_
   refine hK15 _ _ ?_
   refine wp_seq_k (fun K30 hK31 => ?_)
   refine heldG (S := Sg t f20 ([(b10, .cells #[.int .i64 vf1.W, .int .i64 vf1.H, .slice A2 vf1.Cards.length c3, .slice A5 vf1.Counts.length c6] 25 (0, 0))] :: H) []) (n := 17) kr rfl HS23 ?_
   intro W32 HS33
   refine takeGL [0] (n := 17) (fuel := 16) #[true, false, false, false, false, false, false, false, false, false, false, false, false, false, false, false, false] rfl kr kr kr hnp (Sg.g0 (Sx.of [] fL HS33)) ?_
   refine takeGQ 1 [] rfl kr kr kr kr kr kr hnp (Sg.g0 (Sx.of [] fL HS33)) (fun w_ hw_ => by obtain ⟨g_, hl_, hS_⟩ := hw_.st; exact run_load rfl Tryz.underlying3 rfl (kv (.pointer (some ⟨b10, 0, none⟩))) (hS_.cell 0)) ?_
   refine takeGL [2] (n := 15) (fuel := 14) #[true, true, true, false, false, false, false, false, false, false, false, false, false, false, false, false, false] rfl kr kr kr hnp (Sg.g0 (Sx.of [] fL HS33)) ?_
   refine takeGQ 3 [] rfl kr kr kr kr kr kr hnp (Sg.g0 (Sx.of [] fL HS33)) (fun w_ hw_ => by obtain ⟨g_, hl_, hS_⟩ := hw_.st; exact run_load rfl Tryz.underlying3 rfl (kv (.pointer (some ⟨b10, 1, none⟩))) (hS_.cell 1)) ?_
   refine takeGL [4] (n := 13) (fuel := 12) #[true, true, true, true, true, false, false, false, false, false, false, false, false, false, false, false, false] rfl kr kr kr hnp (Sg.g0 (Sx.of [] fL HS33)) ?_
   refine takeGQ 5 [] rfl kr kr kr kr kr kr hnp (Sg.g0 (Sx.of [] fL HS33)) (fun w_ hw_ => by obtain ⟨g_, hl_, hS_⟩ := hw_.st; exact run_load rfl Tryz.underlying23 rfl (kv (.pointer (some ⟨b10, 2, none⟩))) (hS_.cell 2)) ?_
   refine takeGL [6] (n := 11) (fuel := 10) #[true, true, true, true, true, true, true, false, false, false, false, false, false, false, false, false, false] rfl kr kr kr hnp (Sg.g0 (Sx.of [] fL HS33)) ?_
   refine takeGQ 7 [] rfl kr kr kr kr kr kr hnp (Sg.g0 (Sx.of [] fL HS33)) (fun w_ hw_ => by obtain ⟨g_, hl_, hS_⟩ := hw_.st; exact run_load rfl Tryz.underlying22 rfl (kv (.pointer (some ⟨b10, 3, none⟩))) (hS_.cell 3)) ?_
   refine takeGL [8] (n := 9) (fuel := 8) #[true, true, true, true, true, true, true, true, true, false, false, false, false, false, false, false, false] rfl kr kr kr hnp (Sg.g0 (Sx.of [] fL HS33)) ?_
   have hq_ := guard_some h; clear h; obtain ⟨c34, h⟩ := hq_
   have c34 : 0 ≤ (vf1.Counts.length : Int) := c34
   have hq_ := guard_some h; clear h; obtain ⟨c35, h⟩ := hq_
   have c35 : (vf1.Counts.length : Int) * 8 ≤ 140737488355328 := c35
   refine takeGE 9 kr rfl kr (does_make (e := (tInt .i64)) (E := 3) (u := 0) (n := (vf1.Counts.length : Int)) rfl (kv (.int .i64 (vf1.Counts.length : Int))) (kv (.int .i64 (vf1.Counts.length : Int))) Tryz.underlying22 inf3 c34 c35 (by omega) rfl HS33 ?_)
   intro b36 W37 s38 HS39 HO40
   refine ⟨(Sg.g0 (Sx.of [s38] fL HS39)), ?_⟩
   refine takeGL [10] (n := 7) (fuel := 6) #[true, true, true, true, true, true, true, true, true, true, true, false, false, false, false, false, false] rfl kr kr kr hnp (Sg.g0 (Sx.of [s38] fL HS39)) ?_
   obtain ⟨f42, L43, HS44, HR45, th46⟩ := HO40.lend HS39
   have hq_ := bind_some h; clear h; obtain ⟨⟨vt47, vt48⟩, hc49, h⟩ := hq_
   refine takeGE 11 kr rfl kr (does_call (f := 16) (args := #[.agg #[.int .i64 vf1.W, .int .i64 vf1.H, .slice A2 vf1.Cards.length c3, .slice (some ⟨b36, 0, none⟩) (List.replicate ((vf1.Counts.length : Int)).toNat (0 : Int)).length ((vf1.Counts.length : Int)).toNat]]) kr (frame_Encode.calls k A2 c3 (some ⟨b36, 0, none⟩) (((vf1.Counts.length : Int)).toNat) (⟨vf1.W, vf1.H, vf1.Cards, (List.replicate ((vf1.Counts.length : Int)).toNat (0 : Int))⟩ : S_Frame) HS44 (HR4.mono (L21.trans L43)) HR45 (HA.mono (L21.trans L43)) (HT.mono (L21.trans L43)) vt47 vt48 hc49) ?_)
   rintro _ W52 ⟨f50, A54, c55, s56, rfl, L51, HS53, HO57⟩
   refine ⟨_, rfl, ?_⟩
   obtain ⟨f59, L60, HS61⟩ := th46 L51 HS53
   replace HO57 := HO57.flat (g := f59) (fun _ _ _ _ h_ => h_)
   refine ⟨(Sg.g0 (Sx.of [s38, s56] L60 HS61)), ?_⟩
   refine takeGL [12, 13, 14, 15, 16] (n := 5) (fuel := 0) #[true, true, true, true, true, true, true, true, true, true, true, true, true, true, true, true, true] rfl kr kr kr hnp (Sg.g0 (Sx.of [s38, s56] L60 HS61)) ?_
   refine doneG kr ?_ _
   refine hK31 _ _ ?_
   refine wp_seq_k fun K62 hK63 => rl ?_
   refine seqL1 kr ?_
   refine seqK rfl (does_run (run_load rfl Tryz.underlying3 rfl (kv (.pointer (some ⟨b10, 0, none⟩))) (HS61.u2.cell 0)) ?_)
   refine seqL1 kr ?_
   refine seqK rfl (does_run (run_load rfl Tryz.underlying3 rfl (kv (.pointer (some ⟨b10, 1, none⟩))) (HS61.u2.cell 1)) ?_)
   refine seqL1 kr ?_
   refine seqK rfl (does_run (run_load rfl Tryz.underlying22 rfl (kv (.pointer (some ⟨b10, 3, none⟩))) (HS61.u2.cell 3)) ?_)
   have hq_ := bind_some h; clear h; obtain ⟨⟨vt64, vt65⟩, hc66, h⟩ := hq_
   refine seqK rfl (does_call (f := 17) (args := #[.int .i64 vf1.W, .int .i64 vf1.H, .slice A5 vf1.Counts.length c6]) kr (squeeze_Pack.calls k A5 c6 vf1.W vf1.H vf1.Counts HS61 (HR7.mono (L21.trans L60)) vt64 vt65 hc66) ?_)
   rintro _ W69 ⟨f67, A71, c72, s73, rfl, L68, HS70, HO74⟩
   refine ⟨_, rfl, ?_⟩
   refine seqL5 kr ?_
   refine nl (hK63 _ _ ?_)
   refine wp_seq_k fun K76 hK77 => rl ?_
   refine seqL7 kr ?_
   refine seqK rfl (does_lit (e := (tInt .u8)) (E := 5) (vs := #[(0, Value.int .u8 (u8 (shr (vt47.length : Int) 8))), (1, Value.int .u8 (u8 ((vt47.length : Int))))]) (cs := #[.int .u8 (u8 (shr (vt47.length : Int) 8)), .int .u8 (u8 ((vt47.length : Int)))]) (xs := ([u8 (shr (vt47.length : Int) 8), u8 ((vt47.length : Int))] : List Int)) rfl Tryz.underlying30 kr kr ⟨[.int .u8 (u8 (shr (vt47.length : Int) 8))], _, rfl, rfl, ⟨[.int .u8 (u8 ((vt47.length : Int)))], _, rfl, rfl, rfl⟩⟩ rfl HS70 ?_ (by decide))
   intro b78 W79 s80 HS81 _ HO82
   obtain ⟨f84, L85, HS86, HR87⟩ := HO82.freeze HS81
   have HS88 := HS86.u2
   obtain ⟨f89, L90, HS91, HR92⟩ := (HO57.mono (L68.trans L85)).freeze HS88
   obtain ⟨f93, L94, HS95, HR96⟩ := (HO74.mono (L85.trans L90)).freeze HS91
   refine seqL2 kr ?_
   refine seqK rfl (does_lit (e := (tSl (tInt .u8))) (E := 30) (vs := #[(0, Value.slice (some ⟨b78, 0, none⟩) ([u8 (shr (vt47.length : Int) 8), u8 ((vt47.length : Int))] : List Int).length 2), (1, Value.slice A54 vt47.length c55), (2, Value.slice A71 vt64.length c72)]) (cs := #[.slice (some ⟨b78, 0, none⟩) ([u8 (shr (vt47.length : Int) 8), u8 ((vt47.length : Int))] : List Int).length 2, .slice A54 vt47.length c55, .slice A71 vt64.length c72]) (xs := ([([u8 (shr (vt47.length : Int) 8), u8 ((vt47.length : Int))] : List Int), vt47, vt64] : List (List Int))) rfl Tryz.underlying84 kr kr ⟨[.slice (some ⟨b78, 0, none⟩) ([u8 (shr (vt47.length : Int) 8), u8 ((vt47.length : Int))] : List Int).length 2], _, rfl, ⟨(some ⟨b78, 0, none⟩), 2, rfl, (HR87.mono (L90.trans L94))⟩, ⟨[.slice A54 vt47.length c55], _, rfl, ⟨A54, c55, rfl, (HR92.mono L94)⟩, ⟨[.slice A71 vt64.length c72], _, rfl, ⟨A71, c72, rfl, HR96⟩, rfl⟩⟩⟩ rfl HS95 ?_ (by decide))
   intro b97 W98 s99 HS100 _ HO101
   obtain ⟨f103, L104, HS105, HR106, th107⟩ := HO101.lend HS100
   have hq_ := bind_some h; clear h; obtain ⟨vt108, hc109, h⟩ := hq_
   refine seqK rfl (does_call (f := 18) (args := #[.slice (some ⟨b97, 0, none⟩) ([([u8 (shr (vt47.length : Int) 8), u8 ((vt47.length : Int))] : List Int), vt47, vt64] : List (List Int)).length 3]) kr (slices_Concat_byte.calls k (some ⟨b97, 0, none⟩) 3 ([([u8 (shr (vt47.length : Int) 8), u8 ((vt47.length : Int))] : List Int), vt47, vt64] : List (List Int)) HS105 HR106 vt108 hc109) ?_)
   rintro _ W112 ⟨f110, A114, c115, s116, rfl, L111, HS113, HO117⟩
   refine ⟨_, rfl, ?_⟩
   obtain ⟨f119, L120, HS121⟩ := th107 L111 HS113
   replace HO117 := HO117.flat (g := f119) (fun _ _ _ _ h_ => h_)
   refine seqL2 kr ?_
   refine nl (hK77 _ _ ?_)
   refine wp_ret ?_
   refine hret _ _ ?_
   refine ends_still (v := Value.tuple #[.slice A114 vt108.length c115, .int .i64 0]) kr kr ?_
   have HS129 := HS121.u1.u3.u3.u3
   have HS130 := HS129.drop
   have HS131 := HS130.drop
   have HS132 := HS131.drop
   injection h with h
   injection h with h0_ h
   subst h0_ h
   exact ⟨f119, A114, c115, s116, rfl, (L21.trans (L60.trans (L68.trans (L85.trans (L90.trans (L94.trans L120)))))), HS132, HO117⟩

set_option maxRecDepth 100000 in
set_option maxHeartbeats 4000000 in
theorem frame_Verify.calls (k : Nat) (A2 : Option Addr) (c3 : Nat) (b1 : List Int) {t w : World} {f : FM} {H : List Seg} (HS : St t w f (H)) (HR4 : SlR (tInt .u8) f A2 c3 b1) (rr1 : List Int) (rr2 : Int) (h : frame_Verify k b1 = some (rr1, rr2)) :
    Calls Tryz.prog 38 #[.slice A2 b1.length c3] w (fun e w' => ∃ (g : FM) (A165 : Option Addr) (c166 : Nat) (s167 : Seg), e = .returned (Value.tuple #[.slice A165 rr1.length c166, .int .i64 rr2]) ∧ FM.le f g ∧ St t w' g (s167 :: H) ∧ Own (tInt .i64) 3 g A165 c166 s167 rr1) := by
 unfold frame_Verify at h
 refine enter Tryz.func38 rfl (tm := #[.slice A2 b1.length c3, uV, uV, uV, uV, uV, uV, uV, uV, uV, uV, uV, uV, uV, uV, uV, uV, uV, uV, uV, uV, uV, uV, uV, uV, uV, uV, uV, uV, uV, uV, uV, uV, uV, uV, uV, uV, uV, uV, uV, uV, uV, uV, uV]) kr ?_
 intro B hret hnor hnp
 refine wp_seq_k fun K5 hK6 => rl ?_
 refine seqL2 kr ?_
 refine nl (hK6 _ _ ?_)
 refine wp_seq_k (fun K7 hK8 => ?_)
 refine wp_seq_k fun K9 hK10 => rl ?_
 refine seqL4 kr ?_
 have hq_ := ite_some h; clear h; rcases hq_ with ⟨c11, h⟩ | ⟨c11, h⟩
 · have c11 : (b1.length : Int) = 0 := c11
   refine seqRwI 9 kr (beq_iff_eq.mpr c11) ?_
   refine seqRwI 10 kr (beq_iff_eq.mpr c11) ?_
   refine seqL5 kr ?_
   refine nl (hK10 _ _ ?_)
   refine condT kr ?_
   refine wp_seq_k fun K12 hK13 => rl ?_
   refine seqL2 kr ?_
   refine nl (hK13 _ _ ?_)
   refine wp_ret ?_
   refine hret _ _ ?_
   have HS161 := HS.cons_nil
   refine ends_still (v := Value.tuple #[.slice none 0 0, .int .i64 14]) kr kr ?_
   injection h with h
   injection h with h0_ h
   subst h0_ h
   exact ⟨f, none, 0, [], rfl, FM.le.refl _, HS161, (Own.nil _)⟩
 · have c11 : ¬ ((b1.length : Int) = 0) := c11
   refine seqRwI 9 kr (beq_eq_false_iff_ne.mpr c11) ?_
   refine seqRwI 10 kr (beq_eq_false_iff_ne.mpr c11) ?_
   refine seqL5 kr ?_
   refine nl (hK10 _ _ ?_)
   have hq_ := ite_some h; clear h; rcases hq_ with ⟨c15, h⟩ | ⟨c15, h⟩
   · have c15 : (Int.tmod (b1.length : Int) 260) ≠ 0 := c15
     refine wpRwI 14 kr (bne_iff_ne.mpr c15) ?_
     refine wpRwI 15 kr (bne_iff_ne.mpr c15) ?_
     refine condT kr ?_
     refine wp_seq_k fun K16 hK17 => rl ?_
     refine seqL2 kr ?_
     refine nl (hK17 _ _ ?_)
     refine wp_ret ?_
     refine hret _ _ ?_
     have HS163 := HS.cons_nil
     refine ends_still (v := Value.tuple #[.slice none 0 0, .int .i64 14]) kr kr ?_
     injection h with h
     injection h with h0_ h
     subst h0_ h
     exact ⟨f, none, 0, [], rfl, FM.le.refl _, HS163, (Own.nil _)⟩
   · have c15 : ¬ ((Int.tmod (b1.length : Int) 260) ≠ 0) := c15
     refine wpRwI 14 (x := ((Int.tmod (b1.length : Int) 260) != 0)) (v := false) kr (bne_eq_false_iff_eq.mpr (Decidable.of_not_not c15)) ?_
     refine wpRwI 15 (x := ((Int.tmod (b1.length : Int) 260) != 0)) (v := false) kr (bne_eq_false_iff_eq.mpr (Decidable.of_not_not c15)) ?_
     refine condF kr ?_
     refine wp_skip ?_
     refine hK8 _ _ ?_
     refine wp_seq_k fun K18 hK19 => rl ?_
     refine seqL1 kr ?_
     refine nl (hK19 _ _ ?_)
     refine wp_seq_k (fun K20 hK21 => ?_)
     refine wp_seq_k fun K22 hK23 => rl ?_
     refine seqL1 kr ?_
     refine nl (hK23 _ _ ?_)
     refine blockK (fun B24 hx25 hn26 hr27 ho28 hp29 => ?_)
     have hq_ := bind_some h; clear h; obtain ⟨o30, hv149, h⟩ := hq_
     have J150 : ∀ (f138 : FM) (A144 : Option Addr) (c145 : Nat) (s146 : Seg) (out143 : List Int) (j142 : Nat → Value) (W140 : World) (a_ : Act), FM.le f f138 → some (out143) = some o30 → St t W140 f138 (s146 :: H) → Own (tInt .i64) 3 f138 A144 c145 s146 out143 → a_ = ⟨#[.slice A2 b1.length c3, uV, .slice none 0 0, iV 0, .slice A144 out143.length c145, (j142 0), (j142 1), .slice A2 b1.length c3, iV (b1.length : Int), fV, fV, .slice A2 b1.length c3, iV (b1.length : Int), iV (Int.tmod (b1.length : Int) 260), fV, fV, (j142 2), (j142 3), (j142 4), (j142 5), (j142 6), (j142 7), (j142 8), (j142 9), (j142 10), (j142 11), (j142 12), (j142 13), (j142 14), (j142 15), (j142 16), (j142 17), (j142 18), (j142 19), (j142 20), (j142 21), (j142 22), (j142 23), (j142 24), (j142 25), (j142 26), (j142 27), (j142 28), uV], []⟩ → K20 a_ W140 := by
      intro f138 A144 c145 s146 out143 j142 W140 a_ L139 hj151 HS141 HO147 hfr_; subst hfr_
      injection hj151 with hj151; subst hj151; try dsimp only at h
      refine hK21 _ _ ?_
      refine wp_seq_k fun K159 hK160 => rl ?_
      refine seqL3 kr ?_
      refine nl (hK160 _ _ ?_)
      refine wp_ret ?_
      refine hret _ _ ?_
      refine ends_still (v := Value.tuple #[.slice A144 out143.length c145, .int .i64 0]) kr kr ?_
      injection h with h
      injection h with h0_ h
      subst h0_ h
      exact ⟨f138, A144, c145, s146, rfl, L139, HS141, HO147⟩
     clear h; have h := hv149; clear hv149
     have HS152 := HS.cons_nil
     refine loopK (fun n_ a_ w_ => ∃ (f34 : FM) (A40 : Option Addr) (c41 : Nat) (s42 : Seg) (out39 : List Int) (i45 : Int) (j38 : Nat → Value), FM.le f f34 ∧ St t w_ f34 (s42 :: H) ∧ Own (tInt .i64) 3 f34 A40 c41 s42 out39 ∧ frame_Verify.l0 k b1 n_ out39 i45 = some o30 ∧ a_ = ⟨#[.slice A2 b1.length c3, uV, .slice none 0 0, iV 0, .slice A40 out39.length c41, iV i45, (j38 0), .slice A2 b1.length c3, iV (b1.length : Int), fV, fV, .slice A2 b1.length c3, iV (b1.length : Int), iV (Int.tmod (b1.length : Int) 260), fV, fV, (j38 1), (j38 2), (j38 3), (j38 4), (j38 5), (j38 6), (j38 7), (j38 8), (j38 9), (j38 10), (j38 11), (j38 12), (j38 13), (j38 14), (j38 15), (j38 16), (j38 17), (j38 18), (j38 19), (j38 20), (j38 21), (j38 22), (j38 23), (j38 24), (j38 25), (j38 26), (j38 27), uV], []⟩) k ⟨f, none, 0, [], ([] : List Int), 0, (jL []), fL, HS152, (Own.nil _), h, kr⟩ ?_
     clear h
     rintro n33 _ W36 ⟨f34, A40, c41, s42, out39, i45, j38, L35, HS37, HO43, h, rfl⟩ K31 hK32
     obtain _ | n33 := n33
     · exact nomatch h
     simp only [frame_Verify.l0] at h
     refine wp_seq_k (fun K46 hK47 => ?_)
     refine wp_seq_k fun K48 hK49 => rl ?_
     refine seqL5 kr ?_
     refine nl (hK49 _ _ ?_)
     have hq_ := ite_some h; clear h; rcases hq_ with ⟨c51, h⟩ | ⟨c51, h⟩
     · have c51 : (w64 (i45 * 260)) < (b1.length : Int) := c51
       refine wpRwI 20 kr (decide_eq_true c51) ?_
       refine condT kr ?_
       refine wp_skip ?_
       refine hK47 _ _ ?_
       refine wp_seq_k (fun K52 hK53 => ?_)
       refine blockK (fun B54 hx55 hn56 hr57 ho58 hp59 => ?_)
       refine wp_seq_k fun K61 hK62 => rl ?_
       have hq_ := guard_some h; clear h; obtain ⟨c63, h⟩ := hq_
       have c63 : 0 ≤ (w64 (i45 * 260)) := c63
       have hq_ := guard_some h; clear h; obtain ⟨c64, h⟩ := hq_
       have c64 : (w64 (i45 * 260)) ≤ (w64 ((w64 (i45 + 1)) * 260)) := c64
       have hq_ := guard_some h; clear h; obtain ⟨c65, h⟩ := hq_
       have c65 : (w64 ((w64 (i45 + 1)) * 260)) ≤ (b1.length : Int) := c65
       refine seqL6 kr ?_
       refine seqK rfl (does_cutLH (e := (tInt .u8)) (xs := b1) rfl Tryz.underlying30 kr (kv (.slice A2 b1.length c3)) (kv (.int .i64 (w64 (i45 * 260)))) (kv (.int .i64 (w64 ((w64 (i45 + 1)) * 260))))  c63 c64 c65 HR4 ?_)
       intro A66 c67 HR68
       refine seqL1 kr ?_
       refine nl (hK62 _ _ ?_)
       refine wp_seq_k (fun K69 hK70 => ?_)
       refine heldG (S := Sg t f34 (s42 :: H) []) (n := 9) kr rfl HS37 ?_
       intro W71 HS72
       have hq_ := guard_some h; clear h; obtain ⟨c73, h⟩ := hq_
       have c73 : 256 ≤ (((b1.take (w64 ((w64 (i45 + 1)) * 260)).toNat).drop (w64 (i45 * 260)).toNat).length : Int) := c73
       refine takeGL [0, 1] (n := 9) (fuel := 7) #[true, true, false, false, false, false, false, false, false] rfl kr kr kr (fun ch_ a_ w_ q_ => (fun ch_ a_ w_ q_ => hnp ch_ a_ w_ (hp29 ch_ a_ w_ q_)) ch_ a_ w_ (hp59 ch_ a_ w_ q_)) (Sg.g0 (Sx.of [] fL HS72)) ?_
       refine takeGQ 2 [] rfl kr kr kr kr kr kr (fun ch_ a_ w_ q_ => (fun ch_ a_ w_ q_ => hnp ch_ a_ w_ (hp29 ch_ a_ w_ q_)) ch_ a_ w_ (hp59 ch_ a_ w_ q_)) (Sg.g0 (Sx.of [] fL HS72)) (fun w_ hw_ => by obtain ⟨g_, hl_, hS_⟩ := hw_.st; exact run_cutH (e := (tInt .u8)) (xs := ((b1.take (w64 ((w64 (i45 + 1)) * 260)).toNat).drop (w64 (i45 * 260)).toNat)) rfl Tryz.underlying30 kr (kv (.slice A66 ((b1.take (w64 ((w64 (i45 + 1)) * 260)).toNat).drop (w64 (i45 * 260)).toNat).length c67)) (kv (.int .i64 256)) (by decide) c73 HR68.le w_) ?_
       have hq_ := bind_some h; clear h; obtain ⟨vt77, hc78, h⟩ := hq_
       refine takeGL [5] (n := 6) (fuel := 5) #[true, true, true, false, false, true, false, false, false] rfl kr kr kr (fun ch_ a_ w_ q_ => (fun ch_ a_ w_ q_ => hnp ch_ a_ w_ (hp29 ch_ a_ w_ q_)) ch_ a_ w_ (hp59 ch_ a_ w_ q_)) (Sg.g0 (Sx.of [] fL HS72)) ?_
       refine withR #[true, true, true, true, true, true, true, true, true] ?_
       intro R88 hR89 hR90
       have J91 : ∀ (f79 : FM) (A83 : Option Addr) (c84 : Nat) (s85 : Seg) (A74 : Option Addr) (c75 : Nat) (W92 : World) (a_ : Act), FM.le f34 f79 → Own (tInt .u8) 5 f79 A83 c84 s85 vt77 → SlR (tInt .u8) f A74 c75 (((b1.take (w64 ((w64 (i45 + 1)) * 260)).toNat).drop (w64 (i45 * 260)).toNat).drop (256 : Int).toNat) → St t W92 f79 (s85 :: s42 :: H) → a_ = ⟨#[.slice A2 b1.length c3, uV, .slice none 0 0, iV 0, .slice A40 out39.length c41, iV i45, .slice A66 ((b1.take (w64 ((w64 (i45 + 1)) * 260)).toNat).drop (w64 (i45 * 260)).toNat).length c67, .slice A2 b1.length c3, iV (b1.length : Int), fV, fV, .slice A2 b1.length c3, iV (b1.length : Int), iV (Int.tmod (b1.length : Int) 260), fV, fV, iV i45, iV (w64 (i45 * 260)), .slice A2 b1.length c3, iV (b1.length : Int), tV, (j38 6), (j38 7), .slice A2 b1.length c3, iV i45, iV (w64 (i45 * 260)), iV i45, iV (w64 (i45 + 1)), iV (w64 ((w64 (i45 + 1)) * 260)), .slice A66 ((b1.take (w64 ((w64 (i45 + 1)) * 260)).toNat).drop (w64 (i45 * 260)).toNat).length c67, iV i45, .slice A66 ((b1.take (w64 ((w64 (i45 + 1)) * 260)).toNat).drop (w64 (i45 * 260)).toNat).length c67, .slice A66 (((b1.take (w64 ((w64 (i45 + 1)) * 260)).toNat).drop (w64 (i45 * 260)).toNat).take (256 : Int).toNat).length c67, .slice A83 vt77.length c84, .string (bstr vt77), .slice A66 ((b1.take (w64 ((w64 (i45 + 1)) * 260)).toNat).drop (w64 (i45 * 260)).toNat).length c67, .slice A74 (((b1.take (w64 ((w64 (i45 + 1)) * 260)).toNat).drop (w64 (i45 * 260)).toNat).drop (256 : Int).toNat).length c75, .string (bstr (((b1.take (w64 ((w64 (i45 + 1)) * 260)).toNat).drop (w64 (i45 * 260)).toNat).drop (256 : Int).toNat)), .bool (!((bstr vt77).toList == (bstr (((b1.take (w64 ((w64 (i45 + 1)) * 260)).toNat).drop (w64 (i45 * 260)).toNat).drop (256 : Int).toNat)).toList)), (j38 24), (j38 25), (j38 26), (j38 27), uV], []⟩ → R88 a_ W92 := by
        intro f79 A83 c84 s85 A74 c75 W92 a_ L80 HO86 HR76 HS93 hfr_; subst hfr_
        refine hR89 _ _ ?_
        refine doneG kr ?_ _
        refine hK70 _ _ ?_
        have hq_ := ite_some h; clear h; rcases hq_ with ⟨c122, h⟩ | ⟨c122, h⟩
        · have c122 : (!((bstr vt77).toList == (bstr (((b1.take (w64 ((w64 (i45 + 1)) * 260)).toNat).drop (w64 (i45 * 260)).toNat).drop (256 : Int).toNat)).toList)) = true := c122
          refine wpRwI 38 kr c122 ?_
          refine condT kr ?_
          refine rl ?_
          refine seqL2 kr ?_
          refine seqK rfl (does_lit (e := (tInt .i64)) (E := 3) (vs := #[(0, Value.int .i64 i45)]) (cs := #[.int .i64 i45]) (xs := ([i45] : List Int)) rfl Tryz.underlying22 kr kr ⟨[.int .i64 i45], _, rfl, rfl, rfl⟩ rfl HS93 ?_ (by decide))
          intro b123 W124 s125 HS126 _ HO127
          have hq_ := guard_some h; clear h; obtain ⟨c129, h⟩ := hq_
          have c129 : (out39.length + 1) * 8 ≤ 140737488355328 := c129
          have HS131 := HS126.u2.u1
          refine seqK rfl (does_append1 (e := (tInt .i64)) (E := 3) (xs := out39) (ys := ([i45] : List Int)) rfl (kv (.slice A40 out39.length c41)) (kv (.slice (some ⟨b123, 0, none⟩) ([i45] : List Int).length 1)) Tryz.underlying22 inf3 (HO43.mono L80) HO127 HS131 c129 (lim63 c129 (by decide)) ?_)
          intro A132 c133 s134 W135 HS136 HO137
          refine seqL1 kr ?_
          refine nl ?_
          refine hn56 _ _ ?_
          refine hK53 _ _ ?_
          refine rl ?_
          refine seqL3 kr ?_
          refine nl ?_
          refine hK32 n33 _ _ (Nat.lt_succ_self _) ?_
          have HS154 := HS136.u1
          have HS155 := HS154.drop
          exact ⟨f79, A132, c133, s134, (out39 ++ ([i45] : List Int)), (w64 (i45 + 1)), (jL [.slice A66 ((b1.take (w64 ((w64 (i45 + 1)) * 260)).toNat).drop (w64 (i45 * 260)).toNat).length c67, iV i45, iV (w64 (i45 * 260)), .slice A2 b1.length c3, iV (b1.length : Int), tV, iV i45, iV (w64 (i45 + 1)), .slice A2 b1.length c3, iV i45, iV (w64 (i45 * 260)), iV i45, iV (w64 (i45 + 1)), iV (w64 ((w64 (i45 + 1)) * 260)), .slice A66 ((b1.take (w64 ((w64 (i45 + 1)) * 260)).toNat).drop (w64 (i45 * 260)).toNat).length c67, iV i45, .slice A66 ((b1.take (w64 ((w64 (i45 + 1)) * 260)).toNat).drop (w64 (i45 * 260)).toNat).length c67, .slice A66 (((b1.take (w64 ((w64 (i45 + 1)) * 260)).toNat).drop (w64 (i45 * 260)).toNat).take (256 : Int).toNat).length c67, .slice A83 vt77.length c84, .string (bstr vt77), .slice A66 ((b1.take (w64 ((w64 (i45 + 1)) * 260)).toNat).drop (w64 (i45 * 260)).toNat).length c67, .slice A74 (((b1.take (w64 ((w64 (i45 + 1)) * 260)).toNat).drop (w64 (i45 * 260)).toNat).drop (256 : Int).toNat).length c75, .string (bstr (((b1.take (w64 ((w64 (i45 + 1)) * 260)).toNat).drop (w64 (i45 * 260)).toNat).drop (256 : Int).toNat)), tV, .slice A40 out39.length c41, iV i45, .slice (some ⟨b123, 0, none⟩) ([i45] : List Int).length 1, .slice A132 (out39 ++ ([i45] : List Int)).length c133]), (L35.trans L80), HS155, HO137, h, kr⟩
        · have c122 : ¬ ((!((bstr vt77).toList == (bstr (((b1.take (w64 ((w64 (i45 + 1)) * 260)).toNat).drop (w64 (i45 * 260)).toNat).drop (256 : Int).toNat)).toList)) = true) := c122
          refine wpRwI 38 kr (Bool.eq_false_iff.mpr c122) ?_
          refine condF kr ?_
          refine wp_skip ?_
          refine hn56 _ _ ?_
          refine hK53 _ _ ?_
          refine rl ?_
          refine seqL3 kr ?_
          refine nl ?_
          refine hK32 n33 _ _ (Nat.lt_succ_self _) ?_
          have HS157 := HS93.u1.u1
          have HS158 := HS157.drop
          exact ⟨f79, A40, c41, s42, out39, (w64 (i45 + 1)), (jL [.slice A66 ((b1.take (w64 ((w64 (i45 + 1)) * 260)).toNat).drop (w64 (i45 * 260)).toNat).length c67, iV i45, iV (w64 (i45 * 260)), .slice A2 b1.length c3, iV (b1.length : Int), tV, iV i45, iV (w64 (i45 + 1)), .slice A2 b1.length c3, iV i45, iV (w64 (i45 * 260)), iV i45, iV (w64 (i45 + 1)), iV (w64 ((w64 (i45 + 1)) * 260)), .slice A66 ((b1.take (w64 ((w64 (i45 + 1)) * 260)).toNat).drop (w64 (i45 * 260)).toNat).length c67, iV i45, .slice A66 ((b1.take (w64 ((w64 (i45 + 1)) * 260)).toNat).drop (w64 (i45 * 260)).toNat).length c67, .slice A66 (((b1.take (w64 ((w64 (i45 + 1)) * 260)).toNat).drop (w64 (i45 * 260)).toNat).take (256 : Int).toNat).length c67, .slice A83 vt77.length c84, .string (bstr vt77), .slice A66 ((b1.take (w64 ((w64 (i45 + 1)) * 260)).toNat).drop (w64 (i45 * 260)).toNat).length c67, .slice A74 (((b1.take (w64 ((w64 (i45 + 1)) * 260)).toNat).drop (w64 (i45 * 260)).toNat).drop (256 : Int).toNat).length c75, .string (bstr (((b1.take (w64 ((w64 (i45 + 1)) * 260)).toNat).drop (w64 (i45 * 260)).toNat).drop (256 : Int).toNat)), fV, (j38 24), (j38 25), (j38 26), (j38 27)]), (L35.trans L80), HS158, (HO43.mono L80), h, kr⟩
       refine takeEither 3 6 kr rfl rfl rfl rfl ?_ ?_
       · refine does_call (f := 34) (args := #[.int .i64 i45, .slice A66 (((b1.take (w64 ((w64 (i45 + 1)) * 260)).toNat).drop (w64 (i45 * 260)).toNat).take (256 : Int).toNat).length c67]) kr (frame_seal.calls k A66 c67 i45 (((b1.take (w64 ((w64 (i45 + 1)) * 260)).toNat).drop (w64 (i45 * 260)).toNat).take (256 : Int).toNat) HS72 ((HR68.take (256 : Int).toNat).mono L35) vt77 hc78) ?_
         rintro _ W96 ⟨f94, A98, c99, s100, rfl, L95, HS97, HO101⟩
         refine ⟨_, rfl, ?_⟩
         refine ⟨(Sg.g0 (Sx.of [s100] L95 HS97)), ?_⟩
         refine takeEither 4 6 kr rfl rfl rfl rfl ?_ ?_
         · refine does_run (run_bstr (f := _) rfl Tryz.underlying30 Tryz.underlying5 Tryz.underlying9 (kv (.slice A98 vt77.length c99)) ((HO101.mono fL).rc HS97)) ?_
           refine ⟨(Sg.g0 (Sx.of [s100] L95 HS97)), ?_⟩
           refine takeGE 6 kr rfl kr (does_cutL (e := (tInt .u8)) (xs := ((b1.take (w64 ((w64 (i45 + 1)) * 260)).toNat).drop (w64 (i45 * 260)).toNat)) rfl Tryz.underlying30 kr (kv (.slice A66 ((b1.take (w64 ((w64 (i45 + 1)) * 260)).toNat).drop (w64 (i45 * 260)).toNat).length c67)) (kv (.int .i64 256)) (by decide) c73 HR68 ?_)
           intro A103 c104 HR105
           refine ⟨(Sg.g0 (Sx.of [s100] L95 HS97)), ?_⟩
           refine takeGQ 7 [] rfl kr kr kr kr kr kr (fun ch_ a_ w_ q_ => (fun ch_ a_ w_ q_ => hnp ch_ a_ w_ (hp29 ch_ a_ w_ q_)) ch_ a_ w_ (hp59 ch_ a_ w_ q_)) (Sg.g0 (Sx.of [s100] L95 HS97)) (fun w_ hw_ => by obtain ⟨g_, hl_, hS_⟩ := hw_.st; exact run_bstr (f := _) rfl Tryz.underlying30 Tryz.underlying5 Tryz.underlying9 (kv (.slice A103 (((b1.take (w64 ((w64 (i45 + 1)) * 260)).toNat).drop (w64 (i45 * 260)).toNat).drop (256 : Int).toNat).length c104)) ((HR105.mono (L35.trans hl_)).rc hS_)) ?_
           refine takeGL [8] (n := 1) (fuel := 0) #[true, true, true, true, true, true, true, true, true] rfl kr kr kr (fun ch_ a_ w_ q_ => (fun ch_ a_ w_ q_ => hnp ch_ a_ w_ (hp29 ch_ a_ w_ q_)) ch_ a_ w_ (hp59 ch_ a_ w_ q_)) (Sg.g0 (Sx.of [s100] L95 HS97)) ?_
           refine hR90 _ _ ?_
           exact J91 f94 A98 c99 s100 A103 c104 W96 _ L95 HO101 HR105 HS97 kr
         · refine does_cutL (e := (tInt .u8)) (xs := ((b1.take (w64 ((w64 (i45 + 1)) * 260)).toNat).drop (w64 (i45 * 260)).toNat)) rfl Tryz.underlying30 kr (kv (.slice A66 ((b1.take (w64 ((w64 (i45 + 1)) * 260)).toNat).drop (w64 (i45 * 260)).toNat).length c67)) (kv (.int .i64 256)) (by decide) c73 HR68 ?_
           intro A106 c107 HR108
           refine ⟨(Sg.g0 (Sx.of [s100] L95 HS97)), ?_⟩
           refine takeGQ 7 [] rfl kr kr kr kr kr kr (fun ch_ a_ w_ q_ => (fun ch_ a_ w_ q_ => hnp ch_ a_ w_ (hp29 ch_ a_ w_ q_)) ch_ a_ w_ (hp59 ch_ a_ w_ q_)) (Sg.g0 (Sx.of [s100] L95 HS97)) (fun w_ hw_ => by obtain ⟨g_, hl_, hS_⟩ := hw_.st; exact run_bstr (f := _) rfl Tryz.underlying30 Tryz.underlying5 Tryz.underlying9 (kv (.slice A106 (((b1.take (w64 ((w64 (i45 + 1)) * 260)).toNat).drop (w64 (i45 * 260)).toNat).drop (256 : Int).toNat).length c107)) ((HR108.mono (L35.trans hl_)).rc hS_)) ?_
           refine takeGE 4 kr rfl kr (does_run (run_bstr (f := _) rfl Tryz.underlying30 Tryz.underlying5 Tryz.underlying9 (kv (.slice A98 vt77.length c99)) ((HO101.mono fL).rc HS97)) ?_)
           refine ⟨(Sg.g0 (Sx.of [s100] L95 HS97)), ?_⟩
           refine takeGL [8] (n := 1) (fuel := 0) #[true, true, true, true, true, true, true, true, true] rfl kr kr kr (fun ch_ a_ w_ q_ => (fun ch_ a_ w_ q_ => hnp ch_ a_ w_ (hp29 ch_ a_ w_ q_)) ch_ a_ w_ (hp59 ch_ a_ w_ q_)) (Sg.g0 (Sx.of [s100] L95 HS97)) ?_
           refine hR90 _ _ ?_
           exact J91 f94 A98 c99 s100 A106 c107 W96 _ L95 HO101 HR108 HS97 kr
       · refine does_cutL (e := (tInt .u8)) (xs := ((b1.take (w64 ((w64 (i45 + 1)) * 260)).toNat).drop (w64 (i45 * 260)).toNat)) rfl Tryz.underlying30 kr (kv (.slice A66 ((b1.take (w64 ((w64 (i45 + 1)) * 260)).toNat).drop (w64 (i45 * 260)).toNat).length c67)) (kv (.int .i64 256)) (by decide) c73 HR68 ?_
         intro A109 c110 HR111
         refine ⟨(Sg.g0 (Sx.of [] fL HS72)), ?_⟩
         refine takeGQ 7 [] rfl kr kr kr kr kr kr (fun ch_ a_ w_ q_ => (fun ch_ a_ w_ q_ => hnp ch_ a_ w_ (hp29 ch_ a_ w_ q_)) ch_ a_ w_ (hp59 ch_ a_ w_ q_)) (Sg.g0 (Sx.of [] fL HS72)) (fun w_ hw_ => by obtain ⟨g_, hl_, hS_⟩ := hw_.st; exact run_bstr (f := _) rfl Tryz.underlying30 Tryz.underlying5 Tryz.underlying9 (kv (.slice A109 (((b1.take (w64 ((w64 (i45 + 1)) * 260)).toNat).drop (w64 (i45 * 260)).toNat).drop (256 : Int).toNat).length c110)) ((HR111.mono (L35.trans hl_)).rc hS_)) ?_
         refine takeGE 3 kr rfl kr (does_call (f := 34) (args := #[.int .i64 i45, .slice A66 (((b1.take (w64 ((w64 (i45 + 1)) * 260)).toNat).drop (w64 (i45 * 260)).toNat).take (256 : Int).toNat).length c67]) kr (frame_seal.calls k A66 c67 i45 (((b1.take (w64 ((w64 (i45 + 1)) * 260)).toNat).drop (w64 (i45 * 260)).toNat).take (256 : Int).toNat) HS72 ((HR68.take (256 : Int).toNat).mono L35) vt77 hc78) ?_)
         rintro _ W114 ⟨f112, A116, c117, s118, rfl, L113, HS115, HO119⟩
         refine ⟨_, rfl, ?_⟩
         refine ⟨(Sg.g0 (Sx.of [s118] L113 HS115)), ?_⟩
         refine takeGE 4 kr rfl kr (does_run (run_bstr (f := _) rfl Tryz.underlying30 Tryz.underlying5 Tryz.underlying9 (kv (.slice A116 vt77.length c117)) ((HO119.mono fL).rc HS115)) ?_)
         refine ⟨(Sg.g0 (Sx.of [s118] L113 HS115)), ?_⟩
         refine takeGL [8] (n := 1) (fuel := 0) #[true, true, true, true, true, true, true, true, true] rfl kr kr kr (fun ch_ a_ w_ q_ => (fun ch_ a_ w_ q_ => hnp ch_ a_ w_ (hp29 ch_ a_ w_ q_)) ch_ a_ w_ (hp59 ch_ a_ w_ q_)) (Sg.g0 (Sx.of [s118] L113 HS115)) ?_
         refine hR90 _ _ ?_
         exact J91 f112 A116 c117 s118 A109 c110 W114 _ L113 HO119 HR111 HS115 kr
     · have c51 : ¬ ((w64 (i45 * 260)) < (b1.length : Int)) := c51
       refine wpRwI 20 kr (decide_eq_false c51) ?_
       refine condF kr ?_
       refine wp_exit ?_
       refine hx25 _ _ ?_
       exact J150 f34 A40 c41 s42 out39 (jL [iV i45, (j38 0), iV i45, iV (w64 (i45 * 260)), .slice A2 b1.length c3, iV (b1.length : Int), fV, (j38 6), (j38 7), (j38 8), (j38 9), (j38 10), (j38 11), (j38 12), (j38 13), (j38 14), (j38 15), (j38 16), (j38 17), (j38 18), (j38 19), (j38 20), (j38 21), (j38 22), (j38 23), (j38 24), (j38 25), (j38 26), (j38 27)]) W36 _ L35 h HS37 HO43 kr

theorem strings_TrimRight.calls (k : Nat) (s : ByteArray) (p : ByteArray) {t w : World} {f : FM} {H : List Seg} (HS : St t w f H) (r1 : ByteArray) (h : strings_TrimRight k s p = some r1) :
    Calls Tryz.prog 39 #[.string s, .string p] w (fun e w' => ∃ (g : FM), e = .returned (Value.string r1) ∧ FM.le f g ∧ St t w' g H) := by
  unfold strings_TrimRight at h
  have hq_ := guard_some h; clear h; obtain ⟨h1, h⟩ := hq_
  have hq_ := guard_some h; clear h; obtain ⟨h2, h⟩ := hq_
  injection h with h; subst h
  have hp_ : p = ⟨#[32]⟩ := by cases p; congr 1; exact Array.toList_inj.mp h2
  subst hp_
  exact lib_calls (Tryz.strings_TrimRight_one s 32 (by decide) w h1) q_same HS

theorem strings_Cut.calls (k : Nat) (s : ByteArray) (p : ByteArray) {t w : World} {f : FM} {H : List Seg} (HS : St t w f H) (HM : VarI 3 f) (r1 : ByteArray) (r2 : ByteArray) (r3 : Bool) (h : strings_Cut k s p = some (r1, r2, r3)) :
    Calls Tryz.prog 74 #[.string s, .string p] w (fun e w' => ∃ (g : FM), e = .returned (Value.tuple #[Value.string r1, Value.string r2, Value.bool r3]) ∧ FM.le f g ∧ St t w' g H) := by
  unfold strings_Cut at h
  have hq_ := guard_some h; clear h; obtain ⟨h1, h⟩ := hq_
  injection h with h; injection h with h1_ h2_; injection h2_ with h2_ h3_; subst h1_ h2_ h3_
  obtain ⟨m_, hm_⟩ := HM.cell HS
  exact lib_calls (Any.strings_Cut (P := Tryz.prog) (ρ := Tryz.laysM145_ren) { Tryz.laysM145 with } s p m_ w h1 hm_) q_drew HS

theorem strings_CutPrefix.calls (k : Nat) (s : ByteArray) (p : ByteArray) {t w : World} {f : FM} {H : List Seg} (HS : St t w f H) (r1 : ByteArray) (r2 : Bool) (h : strings_CutPrefix k s p = some (r1, r2)) :
    Calls Tryz.prog 75 #[.string s, .string p] w (fun e w' => ∃ (g : FM), e = .returned (Value.tuple #[Value.string r1, Value.bool r2]) ∧ FM.le f g ∧ St t w' g H) := by
  unfold strings_CutPrefix at h
  injection h with h; injection h with h1_ h2_; subst h1_ h2_
  exact lib_calls (Tryz.strings_CutPrefix s p w) q_same HS

theorem strings_TrimPrefix.calls (k : Nat) (s : ByteArray) (p : ByteArray) {t w : World} {f : FM} {H : List Seg} (HS : St t w f H) (r1 : ByteArray) (h : strings_TrimPrefix k s p = some r1) :
    Calls Tryz.prog 76 #[.string s, .string p] w (fun e w' => ∃ (g : FM), e = .returned (Value.string r1) ∧ FM.le f g ∧ St t w' g H) := by
  unfold strings_TrimPrefix at h
  injection h with h; subst h
  exact lib_calls (Tryz.strings_TrimPrefix s p w) q_same HS

set_option maxRecDepth 100000 in
set_option maxHeartbeats 4000000 in
theorem frame_card.calls (k : Nat)  (s1 : ByteArray) {t w : World} {f : FM} {H : List Seg} (HS : St t w f (H)) (HM : VarI 3 f) (rr1 : S_Card) (rr2 : Bool) (h : frame_card k s1 = some (rr1, rr2)) :
    Calls Tryz.prog 40 #[.string s1] w (fun e w' => ∃ (g : FM), e = .returned (Value.tuple #[.agg #[.string rr1.Key, .string rr1.Value, .string rr1.Unit, .string rr1.Note], .bool rr2]) ∧ FM.le f g ∧ St t w' g (H)) := by
 unfold frame_card at h
 refine enter Tryz.func40 rfl (tm := #[.string s1, uV, uV, uV, uV, uV, uV, uV, uV, uV, uV, uV, uV, uV, uV, uV, uV, uV, uV, uV, uV, uV, uV, uV, uV, uV, uV, uV, uV, uV, uV, uV, uV, uV, uV, uV, uV, uV, uV, uV, uV, uV, uV, uV, uV, uV, uV, uV, uV, uV, uV, uV, uV]) kr ?_
 intro B hret hnor hnp
 refine wp_seq_k fun K2 hK3 => rl ?_
 refine seqK rfl (does_alloc (z := Value.agg #[.string ⟨#[]⟩, .string ⟨#[]⟩, .string ⟨#[]⟩, .string ⟨#[]⟩]) (cs := #[.string ⟨#[]⟩, .string ⟨#[]⟩, .string ⟨#[]⟩, .string ⟨#[]⟩]) rfl kr rfl HS ?_)
 intro b4 W5 HS6
 refine seqL1 kr ?_
 refine nl (hK3 _ _ ?_)
 refine wp_seq_k (fun K8 hK9 => ?_)
 refine wp_seq_k fun K10 hK11 => rl ?_
 refine seqL4 kr ?_
 have hq_ := ite_some h; clear h; rcases hq_ with ⟨c12, h⟩ | ⟨c12, h⟩
 · have c12 : (s1.size : Int) < 11 := c12
   refine seqRwI 10 kr (decide_eq_true c12) ?_
   refine seqRwI 11 kr (decide_eq_true c12) ?_
   refine seqL4 kr ?_
   refine nl (hK11 _ _ ?_)
   refine condT kr ?_
   refine wp_seq_k fun K13 hK14 => rl ?_
   refine seqL1 kr ?_
   refine seqK rfl (does_storeA (vs := [.string ⟨#[]⟩, .string ⟨#[]⟩, .string ⟨#[]⟩, .string ⟨#[]⟩]) rfl kr kr kr rfl (ones rfl) HS6 kr ?_)
   intro W15 HS16
   refine seqL1 kr ?_
   refine nl (hK14 _ _ ?_)
   refine wp_ret ?_
   refine hret _ _ ?_
   refine ends (v := Value.tuple #[.agg #[.string ⟨#[]⟩, .string ⟨#[]⟩, .string ⟨#[]⟩, .string ⟨#[]⟩], .bool false]) (results2 (q1 := .cell 2 70) (q2 := .tmp 3) kr (resN (n := 4) (cs := [.string ⟨#[]⟩, .string ⟨#[]⟩, .string ⟨#[]⟩, .string ⟨#[]⟩]) (kv (.pointer (some ⟨b4, 0, none⟩))) Tryz.underlying70 rfl kr rfl (HS16.cells 0 4 _ rfl)) (resT (kv (.bool false)))) kr ?_
   have HS133 := HS16.drop
   injection h with h
   injection h with h0_ h
   subst h0_ h
   exact ⟨f, rfl, FM.le.refl _, HS133⟩
 · have c12 : ¬ ((s1.size : Int) < 11) := c12
   refine seqRwI 10 kr (decide_eq_false c12) ?_
   refine seqRwI 11 kr (decide_eq_false c12) ?_
   have hq_ := guard_some h; clear h; obtain ⟨c17, h⟩ := hq_
   have c17 : 10 ≤ (s1.size : Int) := c17
   refine seqL1 kr ?_
   refine seqG kr (does_run (run_scutLH rfl Tryz.underlying9 (kv (.string s1)) (kv (.int .i64 8)) (kv (.int .i64 10)) (by decide) (by decide) c17 W5) ?_)
   refine seqL2 kr ?_
   refine nl (hK11 _ _ ?_)
   have hq_ := ite_some h; clear h; rcases hq_ with ⟨c19, h⟩ | ⟨c19, h⟩
   · have c19 : (!((scut s1 8 10).toList == Z16.toList)) = true := c19
     refine wpRwI 14 kr c19 ?_
     refine wpRwI 15 kr c19 ?_
     refine condT kr ?_
     refine wp_seq_k fun K20 hK21 => rl ?_
     refine seqL1 kr ?_
     refine seqK rfl (does_storeA (vs := [.string ⟨#[]⟩, .string ⟨#[]⟩, .string ⟨#[]⟩, .string ⟨#[]⟩]) rfl kr kr kr rfl (ones rfl) HS6 kr ?_)
     intro W22 HS23
     refine seqL1 kr ?_
     refine nl (hK21 _ _ ?_)
     refine wp_ret ?_
     refine hret _ _ ?_
     refine ends (v := Value.tuple #[.agg #[.string ⟨#[]⟩, .string ⟨#[]⟩, .string ⟨#[]⟩, .string ⟨#[]⟩], .bool false]) (results2 (q1 := .cell 2 70) (q2 := .tmp 3) kr (resN (n := 4) (cs := [.string ⟨#[]⟩, .string ⟨#[]⟩, .string ⟨#[]⟩, .string ⟨#[]⟩]) (kv (.pointer (some ⟨b4, 0, none⟩))) Tryz.underlying70 rfl kr rfl (HS23.cells 0 4 _ rfl)) (resT (kv (.bool false)))) kr ?_
     have HS134 := HS23.drop
     injection h with h
     injection h with h0_ h
     subst h0_ h
     exact ⟨f, rfl, FM.le.refl _, HS134⟩
   · have c19 : ¬ ((!((scut s1 8 10).toList == Z16.toList)) = true) := c19
     refine wpRwI 14 kr (Bool.eq_false_iff.mpr c19) ?_
     refine wpRwI 15 kr (Bool.eq_false_iff.mpr c19) ?_
     refine condF kr ?_
     refine wp_skip ?_
     refine hK9 _ _ ?_
     refine wp_seq_k fun K24 hK25 => rl ?_
     have hq_ := guard_some h; clear h; obtain ⟨c26, h⟩ := hq_
     have c26 : 8 ≤ (s1.size : Int) := c26
     refine seqL1 kr ?_
     refine seqK rfl (does_run (run_scutH rfl Tryz.underlying9 (kv (.string s1)) (kv (.int .i64 8)) (by decide) c26 W5) ?_)
     have hq_ := bind_some h; clear h; obtain ⟨vt27, hc28, h⟩ := hq_
     refine seqK rfl (does_call (f := 39) (args := #[.string (scut s1 0 8), .string ⟨#[32]⟩]) kr (strings_TrimRight.calls k (scut s1 0 8) Z11 HS6 vt27 hc28) ?_)
     rintro _ W31 ⟨f29, rfl, L30, HS32⟩
     refine ⟨_, rfl, ?_⟩
     refine seqL1 kr ?_
     refine seqK rfl (does_alloc (z := Value.agg #[.string ⟨#[]⟩, .string ⟨#[]⟩, .string ⟨#[]⟩, .string ⟨#[]⟩]) (cs := #[.string ⟨#[]⟩, .string ⟨#[]⟩, .string ⟨#[]⟩, .string ⟨#[]⟩]) rfl kr rfl HS32 ?_)
     intro b33 W34 HS35
     refine seqK rfl (does_storeA (vs := [.string vt27, .string ⟨#[]⟩, .string ⟨#[]⟩, .string ⟨#[]⟩]) rfl kr kr kr rfl (ones rfl) HS35 kr ?_)
     intro W37 HS38
     refine nl (hK25 _ _ ?_)
     refine wp_seq_k fun K39 hK40 => rl ?_
     refine seqL1 kr ?_
     refine seqK rfl (does_run (run_scutL rfl Tryz.underlying9 (kv (.string s1)) (kv (.int .i64 10)) (by decide) c17 W37) ?_)
     have hq_ := bind_some h; clear h; obtain ⟨vt41, hc42, h⟩ := hq_
     refine seqK rfl (does_call (f := 39) (args := #[.string (scut s1 10 (s1.size : Int)), .string ⟨#[32]⟩]) kr (strings_TrimRight.calls k (scut s1 10 (s1.size : Int)) Z11 HS38 vt41 hc42) ?_)
     rintro _ W45 ⟨f43, rfl, L44, HS46⟩
     refine ⟨_, rfl, ?_⟩
     refine seqL1 kr ?_
     refine nl (hK40 _ _ ?_)
     refine wp_seq_k fun K47 hK48 => rl ?_
     have hq_ := bind_some h; clear h; obtain ⟨⟨vt49, vt50, vt51⟩, hc52, h⟩ := hq_
     refine seqL1 kr ?_
     refine seqK rfl (does_call (f := 74) (args := #[.string vt41, .string ⟨#[32]⟩]) kr (strings_Cut.calls k vt41 Z11 HS46 (HM.mono (L30.trans L44)) vt49 vt50 vt51 hc52) ?_)
     rintro _ W55 ⟨f53, rfl, L54, HS56⟩
     refine ⟨_, rfl, ?_⟩
     refine seqL5 kr ?_
     refine seqK rfl (does_store (n := 1) (vs := [.string vt49]) (cs' := #[.string vt27, .string vt49, .string ⟨#[]⟩, .string ⟨#[]⟩]) rfl kr (kv (.pointer (some ⟨b33, 1, none⟩))) (kv (.string vt49)) rfl rfl (ones rfl) HS56 (Nat.le_of_ble_eq_true rfl) kr ?_)
     intro W57 HS58
     refine seqL1 kr ?_
     refine nl (hK48 _ _ ?_)
     refine wp_seq_k (fun K59 hK60 => ?_)
     refine wp_seq_k fun K61 hK62 => rl ?_
     have hq_ := bind_some h; clear h; obtain ⟨⟨vt63, vt64⟩, hc65, h⟩ := hq_
     refine seqL1 kr ?_
     refine seqK rfl (does_call (f := 75) (args := #[.string vt50, .string ⟨#[91]⟩]) kr (strings_CutPrefix.calls k vt50 (⟨#[91]⟩ : ByteArray) HS58 vt63 vt64 hc65) ?_)
     rintro _ W68 ⟨f66, rfl, L67, HS69⟩
     refine ⟨_, rfl, ?_⟩
     refine seqL5 kr ?_
     refine nl (hK62 _ _ ?_)
     refine wp_seq_k fun K70 hK71 => rl ?_
     refine seqL1 kr ?_
     refine nl (hK71 _ _ ?_)
     have hq_ := ite_some h; clear h; rcases hq_ with ⟨c73, h⟩ | ⟨c73, h⟩
     · have c73 : vt64 = true := c73
       refine wpRwI 7 kr c73 ?_
       refine wpRwI 35 kr c73 ?_
       refine wpRwI 36 kr c73 ?_
       refine condT kr ?_
       refine wp_seq_k fun K74 hK75 => rl ?_
       have hq_ := bind_some h; clear h; obtain ⟨⟨vt76, vt77, vt78⟩, hc79, h⟩ := hq_
       refine seqL1 kr ?_
       refine seqK rfl (does_call (f := 74) (args := #[.string vt63, .string ⟨#[93]⟩]) kr (strings_Cut.calls k vt63 Z27 HS69 (HM.mono (L30.trans (L44.trans (L54.trans L67)))) vt76 vt77 vt78 hc79) ?_)
       rintro _ W82 ⟨f80, rfl, L81, HS83⟩
       refine ⟨_, rfl, ?_⟩
       refine seqL5 kr ?_
       refine seqK rfl (does_store (n := 1) (vs := [.string vt76]) (cs' := #[.string vt27, .string vt49, .string vt76, .string ⟨#[]⟩]) rfl kr (kv (.pointer (some ⟨b33, 2, none⟩))) (kv (.string vt76)) rfl rfl (ones rfl) HS83 (Nat.le_of_ble_eq_true rfl) kr ?_)
       intro W84 HS85
       refine seqL2 kr ?_
       refine nl (hK75 _ _ ?_)
       refine wp_seq_k fun K86 hK87 => rl ?_
       have hq_ := bind_some h; clear h; obtain ⟨vt88, hc89, h⟩ := hq_
       refine seqL1 kr ?_
       refine seqK rfl (does_call (f := 76) (args := #[.string vt77, .string ⟨#[32]⟩]) kr (strings_TrimPrefix.calls k vt77 Z11 HS85 vt88 hc89) ?_)
       rintro _ W92 ⟨f90, rfl, L91, HS93⟩
       refine ⟨_, rfl, ?_⟩
       refine seqL1 kr ?_
       refine nl (hK87 _ _ ?_)
       refine wp_seq_k fun K94 hK95 => rl ?_
       refine seqL2 kr ?_
       refine nl (hK95 _ _ ?_)
       have hq_ := ite_some h; clear h; rcases hq_ with ⟨c97, h⟩ | ⟨c97, h⟩
       · have c97 : ¬ (vt78 = true) := c97
         refine wpRwI 47 kr (congrArg (fun b_ => !b_) (show vt78 = false from (Bool.eq_false_iff.mpr c97)) : (!vt78) = true) ?_
         refine condT kr ?_
         refine wp_seq_k fun K98 hK99 => rl ?_
         have HS100 := HS93.u1
         refine seqL1 kr ?_
         refine seqK rfl (does_storeA (vs := [.string ⟨#[]⟩, .string ⟨#[]⟩, .string ⟨#[]⟩, .string ⟨#[]⟩]) rfl kr kr kr rfl (ones rfl) HS100 kr ?_)
         intro W101 HS102
         refine seqL1 kr ?_
         refine nl (hK99 _ _ ?_)
         refine wp_ret ?_
         refine hret _ _ ?_
         refine ends (v := Value.tuple #[.agg #[.string ⟨#[]⟩, .string ⟨#[]⟩, .string ⟨#[]⟩, .string ⟨#[]⟩], .bool false]) (results2 (q1 := .cell 2 70) (q2 := .tmp 3) kr (resN (n := 4) (cs := [.string ⟨#[]⟩, .string ⟨#[]⟩, .string ⟨#[]⟩, .string ⟨#[]⟩]) (kv (.pointer (some ⟨b4, 0, none⟩))) Tryz.underlying70 rfl kr rfl (HS102.cells 0 4 _ rfl)) (resT (kv (.bool false)))) kr ?_
         have HS135 := HS102.drop
         have HS136 := HS135.drop
         injection h with h
         injection h with h0_ h
         subst h0_ h
         exact ⟨f90, rfl, (L30.trans (L44.trans (L54.trans (L67.trans (L81.trans L91))))), HS136⟩
       · have c97 : ¬ (¬ (vt78 = true)) := c97
         refine wpRwI 47 (x := (!vt78)) (v := false) kr (congrArg (fun b_ => !b_) (show vt78 = true from (Decidable.of_not_not c97)) : (!vt78) = false) ?_
         refine condF kr ?_
         refine wp_skip ?_
         refine hK60 _ _ ?_
         refine wp_seq_k fun K103 hK104 => rl ?_
         have hq_ := bind_some h; clear h; obtain ⟨vt105, hc106, h⟩ := hq_
         refine seqL1 kr ?_
         refine seqK rfl (does_call (f := 76) (args := #[.string vt88, .string ⟨#[47, 32]⟩]) kr (strings_TrimPrefix.calls k vt88 (⟨#[47, 32]⟩ : ByteArray) HS93 vt105 hc106) ?_)
         rintro _ W109 ⟨f107, rfl, L108, HS110⟩
         refine ⟨_, rfl, ?_⟩
         refine seqL1 kr ?_
         refine seqK rfl (does_store (n := 1) (vs := [.string vt105]) (cs' := #[.string vt27, .string vt49, .string vt76, .string vt105]) rfl kr (kv (.pointer (some ⟨b33, 3, none⟩))) (kv (.string vt105)) rfl rfl (ones rfl) HS110 (Nat.le_of_ble_eq_true rfl) kr ?_)
         intro W111 HS112
         refine nl (hK104 _ _ ?_)
         refine wp_seq_k fun K113 hK114 => rl ?_
         refine seqK rfl (does_run (run_loadN (n := 4) rfl Tryz.underlying70 rfl kr (kv (.pointer (some ⟨b33, 0, none⟩))) (cs := [.string vt27, .string vt49, .string vt76, .string vt105]) rfl (HS112.cells 0 4 _ rfl)) ?_)
         have HS115 := HS112.u1
         refine seqK rfl (does_storeA (vs := [.string vt27, .string vt49, .string vt76, .string vt105]) rfl kr kr kr rfl (ones rfl) HS115 kr ?_)
         intro W116 HS117
         refine seqL1 kr ?_
         refine nl (hK114 _ _ ?_)
         refine wp_ret ?_
         refine hret _ _ ?_
         refine ends (v := Value.tuple #[.agg #[.string vt27, .string vt49, .string vt76, .string vt105], .bool true]) (results2 (q1 := .cell 2 70) (q2 := .tmp 3) kr (resN (n := 4) (cs := [.string vt27, .string vt49, .string vt76, .string vt105]) (kv (.pointer (some ⟨b4, 0, none⟩))) Tryz.underlying70 rfl kr rfl (HS117.cells 0 4 _ rfl)) (resT (kv (.bool true)))) kr ?_
         have HS137 := HS117.drop
         have HS138 := HS137.drop
         injection h with h
         injection h with h0_ h
         subst h0_ h
         exact ⟨f107, rfl, (L30.trans (L44.trans (L54.trans (L67.trans (L81.trans (L91.trans L108)))))), HS138⟩
     · have c73 : ¬ (vt64 = true) := c73
       refine wpRwI 7 kr (Bool.eq_false_iff.mpr c73) ?_
       refine wpRwI 35 kr (Bool.eq_false_iff.mpr c73) ?_
       refine wpRwI 36 kr (Bool.eq_false_iff.mpr c73) ?_
       refine condF kr ?_
       refine wp_skip ?_
       refine hK60 _ _ ?_
       refine wp_seq_k fun K118 hK119 => rl ?_
       have hq_ := bind_some h; clear h; obtain ⟨vt120, hc121, h⟩ := hq_
       refine seqL1 kr ?_
       refine seqK rfl (does_call (f := 76) (args := #[.string vt50, .string ⟨#[47, 32]⟩]) kr (strings_TrimPrefix.calls k vt50 (⟨#[47, 32]⟩ : ByteArray) HS69 vt120 hc121) ?_)
       rintro _ W124 ⟨f122, rfl, L123, HS125⟩
       refine ⟨_, rfl, ?_⟩
       refine seqL1 kr ?_
       refine seqK rfl (does_store (n := 1) (vs := [.string vt120]) (cs' := #[.string vt27, .string vt49, .string ⟨#[]⟩, .string vt120]) rfl kr (kv (.pointer (some ⟨b33, 3, none⟩))) (kv (.string vt120)) rfl rfl (ones rfl) HS125 (Nat.le_of_ble_eq_true rfl) kr ?_)
       intro W126 HS127
       refine nl (hK119 _ _ ?_)
       refine wp_seq_k fun K128 hK129 => rl ?_
       refine seqK rfl (does_run (run_loadN (n := 4) rfl Tryz.underlying70 rfl kr (kv (.pointer (some ⟨b33, 0, none⟩))) (cs := [.string vt27, .string vt49, .string ⟨#[]⟩, .string vt120]) rfl (HS127.cells 0 4 _ rfl)) ?_)
       have HS130 := HS127.u1
       refine seqK rfl (does_storeA (vs := [.string vt27, .string vt49, .string ⟨#[]⟩, .string vt120]) rfl kr kr kr rfl (ones rfl) HS130 kr ?_)
       intro W131 HS132
       refine seqL1 kr ?_
       refine nl (hK129 _ _ ?_)
       refine wp_ret ?_
       refine hret _ _ ?_
       refine ends (v := Value.tuple #[.agg #[.string vt27, .string vt49, .string ⟨#[]⟩, .string vt120], .bool true]) (results2 (q1 := .cell 2 70) (q2 := .tmp 3) kr (resN (n := 4) (cs := [.string vt27, .string vt49, .string ⟨#[]⟩, .string vt120]) (kv (.pointer (some ⟨b4, 0, none⟩))) Tryz.underlying70 rfl kr rfl (HS132.cells 0 4 _ rfl)) (resT (kv (.bool true)))) kr ?_
       have HS139 := HS132.drop
       have HS140 := HS139.drop
       injection h with h
       injection h with h0_ h
       subst h0_ h
       exact ⟨f122, rfl, (L30.trans (L44.trans (L54.trans (L67.trans L123)))), HS140⟩

theorem strconv_Atoi.calls (k : Nat) (s : ByteArray) {t w : World} {f : FM} {H : List Seg} (HS : St t w f H) (r1 : Int) (h : strconv_Atoi k s = some r1) :
    Calls Tryz.prog 77 #[.string s] w (fun e w' => ∃ (g : FM), e = .returned (Value.tuple #[Value.int .i64 r1, Value.nilIface]) ∧ FM.le f g ∧ St t w' g H) := by
  unfold strconv_Atoi at h
  have hq_ := guard_some h; clear h; obtain ⟨h1, h⟩ := hq_
  have hv : Go.Lib.atoiAll s.data.toList = .ok r1 := by
    cases hc_ : Go.Lib.atoiAll s.data.toList with
    | ok v_ => rw [hc_] at h; injection h with h; rw [h]
    | _ => rw [hc_] at h; cases h
  exact lib_calls (Tryz.strconv_Atoi_ok s h1 r1 hv w) q_bytes2 HS

set_option maxRecDepth 100000 in
set_option maxHeartbeats 4000000 in
theorem frame_whole.calls (k : Nat) (A2 : Option Addr) (c3 : Nat) (A6 : Option Addr) (c7 : Nat) (cards1 : List S_Card) (data5 : List Int) {t w : World} {f : FM} {H : List Seg} (HS : St t w f (H)) (HR4 : SlR ty_Card f A2 c3 cards1) (HR8 : SlR (tInt .u8) f A6 c7 data5) (rr1 : S_Frame) (rr2 : Bool) (h : frame_whole k cards1 data5 = some (rr1, rr2)) :
    Calls Tryz.prog 41 #[.slice A2 cards1.length c3, .slice A6 data5.length c7] w (fun e w' => ∃ (g : FM) (A612 : Option Addr) (c613 : Nat) (A614 : Option Addr) (c615 : Nat) (s616 : Seg), e = .returned (Value.tuple #[.agg #[.int .i64 rr1.W, .int .i64 rr1.H, .slice A612 rr1.Cards.length c613, .slice A614 rr1.Counts.length c615], .bool rr2]) ∧ FM.le f g ∧ St t w' g (s616 :: H) ∧ SlR ty_Card g A612 c613 rr1.Cards ∧ Own (tInt .i64) 3 g A614 c615 s616 rr1.Counts) := by
 unfold frame_whole at h
 refine enter Tryz.func41 rfl (tm := #[.slice A2 cards1.length c3, .slice A6 data5.length c7, uV, uV, uV, uV, uV, uV, uV, uV, uV, uV, uV, uV, uV, uV, uV, uV, uV, uV, uV, uV, uV, uV, uV, uV, uV, uV, uV, uV, uV, uV, uV, uV, uV, uV, uV, uV, uV, uV, uV, uV, uV, uV, uV, uV, uV, uV, uV, uV, uV, uV, uV, uV, uV, uV, uV, uV, uV, uV, uV, uV, uV, uV, uV, uV, uV, uV, uV, uV, uV, uV, uV, uV, uV, uV, uV, uV, uV, uV, uV, uV, uV, uV, uV, uV, uV, uV, uV, uV, uV, uV, uV, uV, uV, uV, uV, uV, uV, uV, uV, uV, uV, uV, uV, uV, uV, uV, uV]) kr ?_
 intro B hret hnor hnp
 refine wp_seq_k fun K9 hK10 => rl ?_
 refine seqK rfl (does_alloc (z := Value.agg #[.int .i64 0, .int .i64 0, .slice none 0 0, .slice none 0 0]) (cs := #[.int .i64 0, .int .i64 0, .slice none 0 0, .slice none 0 0]) rfl kr rfl HS ?_)
 intro b11 W12 HS13
 refine seqL1 kr ?_
 refine nl (hK10 _ _ ?_)
 refine wp_seq_k fun K15 hK16 => rl ?_
 refine seqK rfl (does_alloc (z := Value.agg #[.int .i64 0, .int .i64 0, .int .i64 0]) (cs := #[.int .i64 0, .int .i64 0, .int .i64 0]) rfl kr rfl HS13 ?_)
 intro b17 W18 HS19
 refine nl (hK16 _ _ ?_)
 refine wp_seq_k (fun K21 hK22 => ?_)
 refine wp_seq_k fun K23 hK24 => rl ?_
 refine seqL1 kr ?_
 refine nl (hK24 _ _ ?_)
 refine blockK (fun B25 hx26 hn27 hr28 ho29 hp30 => ?_)
 refine wp_loop_rounds 4 ?_
 refine loopStepK (fun K31 hK32 => ?_)
 refine wp_seq_k fun K33 hK34 => rl ?_
 refine seqL1 kr ?_
 refine nl (hK34 _ _ ?_)
 refine wp_seq_k (fun K35 hK36 => ?_)
 refine condT kr ?_
 refine wp_skip ?_
 refine hK36 _ _ ?_
 refine wp_seq_k (fun K37 hK38 => ?_)
 refine blockK (fun B39 hx40 hn41 hr42 ho43 hp44 => ?_)
 refine wp_seq_k fun K46 hK47 => rl ?_
 refine seqL2 kr ?_
 refine nl (hK47 _ _ ?_)
 refine wp_seq_k (fun K48 hK49 => ?_)
 refine wp_seq_k fun K50 hK51 => rl ?_
 refine seqL4 kr ?_
 refine nl (hK51 _ _ ?_)
 have hq_ := ite_some h; clear h; rcases hq_ with ⟨c53, h⟩ | ⟨c53, h⟩
 · have c53 : 0 ≥ (cards1.length : Int) := c53
   refine wpRwI 21 kr (decide_eq_true c53) ?_
   refine condT kr ?_
   refine wp_seq_k fun K54 hK55 => rl ?_
   have HS56 := HS19.u1
   refine seqL1 kr ?_
   refine seqK rfl (does_storeA (vs := [.int .i64 0, .int .i64 0, .slice none 0 0, .slice none 0 0]) rfl kr kr kr rfl (ones rfl) HS56 kr ?_)
   intro W57 HS58
   refine seqL1 kr ?_
   refine nl (hK55 _ _ ?_)
   refine wp_ret ?_
   refine hr42 _ _ ?_
   refine hr28 _ _ ?_
   refine hret _ _ ?_
   have HS535 := HS58.cons_nil
   refine ends (v := Value.tuple #[.agg #[.int .i64 0, .int .i64 0, .slice none 0 0, .slice none 0 0], .bool false]) (results2 (q1 := .cell 4 25) (q2 := .tmp 5) kr (resN (n := 4) (cs := [.int .i64 0, .int .i64 0, .slice none 0 0, .slice none 0 0]) (kv (.pointer (some ⟨b11, 0, none⟩))) Tryz.underlying25 rfl kr rfl (HS535.u1.cells 0 4 _ rfl)) (resT (kv (.bool false)))) kr ?_
   have HS538 := HS535.u2.u2
   have HS539 := HS538.drop
   have HS540 := HS539.drop
   injection h with h
   injection h with h0_ h
   subst h0_ h
   exact ⟨f, none, 0, none, 0, [], rfl, FM.le.refl _, HS540, (SlR.nil _ _), (Own.nil _)⟩
 · have c53 : ¬ (0 ≥ (cards1.length : Int)) := c53
   refine wpRwI 21 kr (decide_eq_false c53) ?_
   refine condF kr ?_
   refine wp_skip ?_
   refine hK49 _ _ ?_
   refine wp_seq_k fun K59 hK60 => rl ?_
   have hq_ := guard_some h; clear h; obtain ⟨c61, h⟩ := hq_
   have c61 : 0 < (cards1.length : Int) := c61
   obtain ⟨b65, of66, cs62, hA67, hr63, hc64⟩ := HR4.at (i := 0) (by decide) c61
   obtain rfl := hr63
   refine seqL2 kr ?_
   refine seqK rfl (does_run (run_indexE hA67 (sz := 4) rfl Tryz.underlying23 kr (kv (.slice A2 cards1.length c3)) (kv (.int .i64 0)) (by decide) c61 W18) ?_)
   refine seqL1 kr ?_
   refine seqK rfl (does_run (run_load rfl Tryz.underlying9 rfl (kv (.pointer (some ⟨b65, of66 + (0 : Int).toNat * 4 + 1, none⟩))) ((hc64 fL HS19) 1 (by decide))) ?_)
   have hq_ := bind_some h; clear h; obtain ⟨vt68, hc69, h⟩ := hq_
   refine seqK rfl (does_call (f := 77) (args := #[.string ((rd cards1 0).Value)]) kr (strconv_Atoi.calls k ((rd cards1 0).Value) HS19 vt68 hc69) ?_)
   rintro _ W72 ⟨f70, rfl, L71, HS73⟩
   refine ⟨_, rfl, ?_⟩
   refine seqL5 kr ?_
   refine nl (hK60 _ _ ?_)
   refine wp_seq_k (fun K74 hK75 => ?_)
   refine wp_seq_k fun K76 hK77 => rl ?_
   refine seqL7 kr ?_
   have hq_ := ite_some h; clear h; rcases hq_ with ⟨c78, h⟩ | ⟨c78, h⟩
   · have c78 : vt68 < 1 := c78
     refine seqRwI 36 kr (decide_eq_true c78) ?_
     refine seqRwI 37 kr (decide_eq_true c78) ?_
     refine seqRwI 38 kr (decide_eq_true c78) ?_
     refine seqL3 kr ?_
     refine nl (hK77 _ _ ?_)
     refine condT kr ?_
     refine wp_seq_k fun K79 hK80 => rl ?_
     have HS81 := HS73.u1
     refine seqL1 kr ?_
     refine seqK rfl (does_storeA (vs := [.int .i64 0, .int .i64 0, .slice none 0 0, .slice none 0 0]) rfl kr kr kr rfl (ones rfl) HS81 kr ?_)
     intro W82 HS83
     refine seqL1 kr ?_
     refine nl (hK80 _ _ ?_)
     refine wp_ret ?_
     refine hr42 _ _ ?_
     refine hr28 _ _ ?_
     refine hret _ _ ?_
     have HS541 := HS83.cons_nil
     refine ends (v := Value.tuple #[.agg #[.int .i64 0, .int .i64 0, .slice none 0 0, .slice none 0 0], .bool false]) (results2 (q1 := .cell 4 25) (q2 := .tmp 5) kr (resN (n := 4) (cs := [.int .i64 0, .int .i64 0, .slice none 0 0, .slice none 0 0]) (kv (.pointer (some ⟨b11, 0, none⟩))) Tryz.underlying25 rfl kr rfl (HS541.u1.cells 0 4 _ rfl)) (resT (kv (.bool false)))) kr ?_
     have HS544 := HS541.u2.u2
     have HS545 := HS544.drop
     have HS546 := HS545.drop
     injection h with h
     injection h with h0_ h
     subst h0_ h
     exact ⟨f70, none, 0, none, 0, [], rfl, L71, HS546, (SlR.nil _ _), (Own.nil _)⟩
   · have c78 : ¬ (vt68 < 1) := c78
     refine seqRwI 36 kr (decide_eq_false c78) ?_
     refine seqRwI 37 kr (decide_eq_false c78) ?_
     refine seqRwI 38 kr (decide_eq_false c78) ?_
     refine seqL3 kr ?_
     refine nl (hK77 _ _ ?_)
     have hq_ := ite_some h; clear h; rcases hq_ with ⟨c85, h⟩ | ⟨c85, h⟩
     · have c85 : vt68 > 32 := c85
       refine wpRwI 40 kr (decide_eq_true c85) ?_
       refine wpRwI 41 kr (decide_eq_true c85) ?_
       refine condT kr ?_
       refine wp_seq_k fun K86 hK87 => rl ?_
       have HS88 := HS73.u1
       refine seqL1 kr ?_
       refine seqK rfl (does_storeA (vs := [.int .i64 0, .int .i64 0, .slice none 0 0, .slice none 0 0]) rfl kr kr kr rfl (ones rfl) HS88 kr ?_)
       intro W89 HS90
       refine seqL1 kr ?_
       refine nl (hK87 _ _ ?_)
       refine wp_ret ?_
       refine hr42 _ _ ?_
       refine hr28 _ _ ?_
       refine hret _ _ ?_
       have HS547 := HS90.cons_nil
       refine ends (v := Value.tuple #[.agg #[.int .i64 0, .int .i64 0, .slice none 0 0, .slice none 0 0], .bool false]) (results2 (q1 := .cell 4 25) (q2 := .tmp 5) kr (resN (n := 4) (cs := [.int .i64 0, .int .i64 0, .slice none 0 0, .slice none 0 0]) (kv (.pointer (some ⟨b11, 0, none⟩))) Tryz.underlying25 rfl kr rfl (HS547.u1.cells 0 4 _ rfl)) (resT (kv (.bool false)))) kr ?_
       have HS550 := HS547.u2.u2
       have HS551 := HS550.drop
       have HS552 := HS551.drop
       injection h with h
       injection h with h0_ h
       subst h0_ h
       exact ⟨f70, none, 0, none, 0, [], rfl, L71, HS552, (SlR.nil _ _), (Own.nil _)⟩
     · have c85 : ¬ (vt68 > 32) := c85
       refine wpRwI 40 kr (decide_eq_false c85) ?_
       refine wpRwI 41 kr (decide_eq_false c85) ?_
       refine condF kr ?_
       refine wp_skip ?_
       refine hK75 _ _ ?_
       refine rl ?_
       refine seqL3 kr ?_
       refine seqK rfl (does_store (n := 1) (vs := [.int .i64 vt68]) (cs' := #[.int .i64 vt68, .int .i64 0, .int .i64 0]) rfl kr (kv (.pointer (some ⟨b17, 0, none⟩))) (kv (.int .i64 vt68)) rfl rfl (ones rfl) HS73 (Nat.le_of_ble_eq_true rfl) kr ?_)
       intro W91 HS92
       refine nl ?_
       refine hn41 _ _ ?_
       refine hK38 _ _ ?_
       refine rl ?_
       refine seqL2 kr ?_
       refine nl (hK32 _ _ ?_)
       refine loopStepK (fun K93 hK94 => ?_)
       refine wp_seq_k fun K95 hK96 => rl ?_
       refine seqL1 kr ?_
       refine nl (hK96 _ _ ?_)
       refine wp_seq_k (fun K97 hK98 => ?_)
       refine condT kr ?_
       refine wp_skip ?_
       refine hK98 _ _ ?_
       refine wp_seq_k (fun K99 hK100 => ?_)
       refine blockK (fun B101 hx102 hn103 hr104 ho105 hp106 => ?_)
       refine wp_seq_k fun K108 hK109 => rl ?_
       refine seqL2 kr ?_
       refine nl (hK109 _ _ ?_)
       refine wp_seq_k (fun K110 hK111 => ?_)
       refine wp_seq_k fun K112 hK113 => rl ?_
       refine seqL4 kr ?_
       refine nl (hK113 _ _ ?_)
       have hq_ := ite_some h; clear h; rcases hq_ with ⟨c115, h⟩ | ⟨c115, h⟩
       · have c115 : 1 ≥ (cards1.length : Int) := c115
         refine wpRwI 21 kr (decide_eq_true c115) ?_
         refine condT kr ?_
         refine wp_seq_k fun K116 hK117 => rl ?_
         have HS118 := HS92.u1
         refine seqL1 kr ?_
         refine seqK rfl (does_storeA (vs := [.int .i64 0, .int .i64 0, .slice none 0 0, .slice none 0 0]) rfl kr kr kr rfl (ones rfl) HS118 kr ?_)
         intro W119 HS120
         refine seqL1 kr ?_
         refine nl (hK117 _ _ ?_)
         refine wp_ret ?_
         refine hr104 _ _ ?_
         refine hr28 _ _ ?_
         refine hret _ _ ?_
         have HS553 := HS120.cons_nil
         refine ends (v := Value.tuple #[.agg #[.int .i64 0, .int .i64 0, .slice none 0 0, .slice none 0 0], .bool false]) (results2 (q1 := .cell 4 25) (q2 := .tmp 5) kr (resN (n := 4) (cs := [.int .i64 0, .int .i64 0, .slice none 0 0, .slice none 0 0]) (kv (.pointer (some ⟨b11, 0, none⟩))) Tryz.underlying25 rfl kr rfl (HS553.u1.cells 0 4 _ rfl)) (resT (kv (.bool false)))) kr ?_
         have HS556 := HS553.u2.u2
         have HS557 := HS556.drop
         have HS558 := HS557.drop
         injection h with h
         injection h with h0_ h
         subst h0_ h
         exact ⟨f70, none, 0, none, 0, [], rfl, L71, HS558, (SlR.nil _ _), (Own.nil _)⟩
       · have c115 : ¬ (1 ≥ (cards1.length : Int)) := c115
         refine wpRwI 21 kr (decide_eq_false c115) ?_
         refine condF kr ?_
         refine wp_skip ?_
         refine hK111 _ _ ?_
         refine wp_seq_k fun K121 hK122 => rl ?_
         have hq_ := guard_some h; clear h; obtain ⟨c123, h⟩ := hq_
         have c123 : 1 < (cards1.length : Int) := c123
         obtain ⟨b127, of128, cs124, hA129, hr125, hc126⟩ := (HR4.mono L71).at (i := 1) (by decide) c123
         obtain rfl := hr125
         refine seqL2 kr ?_
         refine seqK rfl (does_run (run_indexE hA129 (sz := 4) rfl Tryz.underlying23 kr (kv (.slice A2 cards1.length c3)) (kv (.int .i64 1)) (by decide) c123 W91) ?_)
         refine seqL1 kr ?_
         refine seqK rfl (does_run (run_load rfl Tryz.underlying9 rfl (kv (.pointer (some ⟨b127, of128 + (1 : Int).toNat * 4 + 1, none⟩))) ((hc126 fL HS92) 1 (by decide))) ?_)
         have hq_ := bind_some h; clear h; obtain ⟨vt130, hc131, h⟩ := hq_
         refine seqK rfl (does_call (f := 77) (args := #[.string ((rd cards1 1).Value)]) kr (strconv_Atoi.calls k ((rd cards1 1).Value) HS92 vt130 hc131) ?_)
         rintro _ W134 ⟨f132, rfl, L133, HS135⟩
         refine ⟨_, rfl, ?_⟩
         refine seqL5 kr ?_
         refine nl (hK122 _ _ ?_)
         refine wp_seq_k (fun K136 hK137 => ?_)
         refine wp_seq_k fun K138 hK139 => rl ?_
         refine seqL7 kr ?_
         have hq_ := ite_some h; clear h; rcases hq_ with ⟨c140, h⟩ | ⟨c140, h⟩
         · have c140 : vt130 < 1 := c140
           refine seqRwI 36 kr (decide_eq_true c140) ?_
           refine seqRwI 37 kr (decide_eq_true c140) ?_
           refine seqRwI 38 kr (decide_eq_true c140) ?_
           refine seqL3 kr ?_
           refine nl (hK139 _ _ ?_)
           refine condT kr ?_
           refine wp_seq_k fun K141 hK142 => rl ?_
           have HS143 := HS135.u1
           refine seqL1 kr ?_
           refine seqK rfl (does_storeA (vs := [.int .i64 0, .int .i64 0, .slice none 0 0, .slice none 0 0]) rfl kr kr kr rfl (ones rfl) HS143 kr ?_)
           intro W144 HS145
           refine seqL1 kr ?_
           refine nl (hK142 _ _ ?_)
           refine wp_ret ?_
           refine hr104 _ _ ?_
           refine hr28 _ _ ?_
           refine hret _ _ ?_
           have HS559 := HS145.cons_nil
           refine ends (v := Value.tuple #[.agg #[.int .i64 0, .int .i64 0, .slice none 0 0, .slice none 0 0], .bool false]) (results2 (q1 := .cell 4 25) (q2 := .tmp 5) kr (resN (n := 4) (cs := [.int .i64 0, .int .i64 0, .slice none 0 0, .slice none 0 0]) (kv (.pointer (some ⟨b11, 0, none⟩))) Tryz.underlying25 rfl kr rfl (HS559.u1.cells 0 4 _ rfl)) (resT (kv (.bool false)))) kr ?_
           have HS562 := HS559.u2.u2
           have HS563 := HS562.drop
           have HS564 := HS563.drop
           injection h with h
           injection h with h0_ h
           subst h0_ h
           exact ⟨f132, none, 0, none, 0, [], rfl, (L71.trans L133), HS564, (SlR.nil _ _), (Own.nil _)⟩
         · have c140 : ¬ (vt130 < 1) := c140
           refine seqRwI 36 kr (decide_eq_false c140) ?_
           refine seqRwI 37 kr (decide_eq_false c140) ?_
           refine seqRwI 38 kr (decide_eq_false c140) ?_
           refine seqL3 kr ?_
           refine nl (hK139 _ _ ?_)
           have hq_ := ite_some h; clear h; rcases hq_ with ⟨c147, h⟩ | ⟨c147, h⟩
           · have c147 : vt130 > 32 := c147
             refine wpRwI 40 kr (decide_eq_true c147) ?_
             refine wpRwI 41 kr (decide_eq_true c147) ?_
             refine condT kr ?_
             refine wp_seq_k fun K148 hK149 => rl ?_
             have HS150 := HS135.u1
             refine seqL1 kr ?_
             refine seqK rfl (does_storeA (vs := [.int .i64 0, .int .i64 0, .slice none 0 0, .slice none 0 0]) rfl kr kr kr rfl (ones rfl) HS150 kr ?_)
             intro W151 HS152
             refine seqL1 kr ?_
             refine nl (hK149 _ _ ?_)
             refine wp_ret ?_
             refine hr104 _ _ ?_
             refine hr28 _ _ ?_
             refine hret _ _ ?_
             have HS565 := HS152.cons_nil
             refine ends (v := Value.tuple #[.agg #[.int .i64 0, .int .i64 0, .slice none 0 0, .slice none 0 0], .bool false]) (results2 (q1 := .cell 4 25) (q2 := .tmp 5) kr (resN (n := 4) (cs := [.int .i64 0, .int .i64 0, .slice none 0 0, .slice none 0 0]) (kv (.pointer (some ⟨b11, 0, none⟩))) Tryz.underlying25 rfl kr rfl (HS565.u1.cells 0 4 _ rfl)) (resT (kv (.bool false)))) kr ?_
             have HS568 := HS565.u2.u2
             have HS569 := HS568.drop
             have HS570 := HS569.drop
             injection h with h
             injection h with h0_ h
             subst h0_ h
             exact ⟨f132, none, 0, none, 0, [], rfl, (L71.trans L133), HS570, (SlR.nil _ _), (Own.nil _)⟩
           · have c147 : ¬ (vt130 > 32) := c147
             refine wpRwI 40 kr (decide_eq_false c147) ?_
             refine wpRwI 41 kr (decide_eq_false c147) ?_
             refine condF kr ?_
             refine wp_skip ?_
             refine hK137 _ _ ?_
             refine rl ?_
             refine seqL3 kr ?_
             refine seqK rfl (does_store (n := 1) (vs := [.int .i64 vt130]) (cs' := #[.int .i64 vt68, .int .i64 vt130, .int .i64 0]) rfl kr (kv (.pointer (some ⟨b17, 1, none⟩))) (kv (.int .i64 vt130)) rfl rfl (ones rfl) HS135 (Nat.le_of_ble_eq_true rfl) kr ?_)
             intro W153 HS154
             refine nl ?_
             refine hn103 _ _ ?_
             refine hK100 _ _ ?_
             refine rl ?_
             refine seqS2 (a' := ⟨#[.slice A2 cards1.length c3, .slice A6 data5.length c7, uV, uV, pV b11 0, fV, pV b17 0, iV 1, iV vt130, .nilIface, uV, uV, uV, uV, uV, iV 2, tV, iV 1, iV 1, .slice A2 cards1.length c3, iV (cards1.length : Int), fV, uV, .tuple #[iV vt130, .nilIface], .slice A2 cards1.length c3, iV 1, pV b127 (of128 + (1 : Int).toNat * 4), pV b127 (of128 + (1 : Int).toNat * 4 + 1), .string ((rd cards1 1).Value), .tuple #[iV vt130, .nilIface], iV vt130, .nilIface, .nilIface, fV, fV, iV vt130, fV, fV, fV, iV vt130, fV, fV, uV, iV 1, iV vt130, pV b17 1, iV 2, uV, uV, uV, uV, uV, uV, uV, uV, uV, uV, uV, uV, uV, uV, uV, uV, uV, uV, uV, uV, uV, uV, uV, uV, uV, uV, uV, uV, uV, uV, uV, uV, uV, uV, uV, uV, uV, uV, uV, uV, uV, uV, uV, uV, uV, uV, uV, uV, uV, uV, uV, uV, uV, uV, uV, uV, uV, uV, uV, uV, uV, uV], []⟩) kr ?_
             refine nl (hK94 _ _ ?_)
             refine loopStepK (fun K155 hK156 => ?_)
             refine wp_seq_k fun K157 hK158 => rl ?_
             refine seqL1 kr ?_
             refine nl (hK158 _ _ ?_)
             refine wp_seq_k (fun K159 hK160 => ?_)
             refine condT kr ?_
             refine wp_skip ?_
             refine hK160 _ _ ?_
             refine wp_seq_k (fun K161 hK162 => ?_)
             refine blockK (fun B163 hx164 hn165 hr166 ho167 hp168 => ?_)
             refine wp_seq_k fun K170 hK171 => rl ?_
             refine seqL2 kr ?_
             refine nl (hK171 _ _ ?_)
             refine wp_seq_k (fun K172 hK173 => ?_)
             refine wp_seq_k fun K174 hK175 => rl ?_
             refine seqL4 kr ?_
             refine nl (hK175 _ _ ?_)
             have hq_ := ite_some h; clear h; rcases hq_ with ⟨c177, h⟩ | ⟨c177, h⟩
             · have c177 : 2 ≥ (cards1.length : Int) := c177
               refine wpRwI 21 kr (decide_eq_true c177) ?_
               refine condT kr ?_
               refine wp_seq_k fun K178 hK179 => rl ?_
               have HS180 := HS154.u1
               refine seqL1 kr ?_
               refine seqK rfl (does_storeA (vs := [.int .i64 0, .int .i64 0, .slice none 0 0, .slice none 0 0]) rfl kr kr kr rfl (ones rfl) HS180 kr ?_)
               intro W181 HS182
               refine seqL1 kr ?_
               refine nl (hK179 _ _ ?_)
               refine wp_ret ?_
               refine hr166 _ _ ?_
               refine hr28 _ _ ?_
               refine hret _ _ ?_
               have HS571 := HS182.cons_nil
               refine ends (v := Value.tuple #[.agg #[.int .i64 0, .int .i64 0, .slice none 0 0, .slice none 0 0], .bool false]) (results2 (q1 := .cell 4 25) (q2 := .tmp 5) kr (resN (n := 4) (cs := [.int .i64 0, .int .i64 0, .slice none 0 0, .slice none 0 0]) (kv (.pointer (some ⟨b11, 0, none⟩))) Tryz.underlying25 rfl kr rfl (HS571.u1.cells 0 4 _ rfl)) (resT (kv (.bool false)))) kr ?_
               have HS574 := HS571.u2.u2
               have HS575 := HS574.drop
               have HS576 := HS575.drop
               injection h with h
               injection h with h0_ h
               subst h0_ h
               exact ⟨f132, none, 0, none, 0, [], rfl, (L71.trans L133), HS576, (SlR.nil _ _), (Own.nil _)⟩
             · have c177 : ¬ (2 ≥ (cards1.length : Int)) := c177
               refine wpRwI 21 kr (decide_eq_false c177) ?_
               refine condF kr ?_
               refine wp_skip ?_
               refine hK173 _ _ ?_
               refine wp_seq_k fun K183 hK184 => rl ?_
               have hq_ := guard_some h; clear h; obtain ⟨c185, h⟩ := hq_
               have c185 : 2 < (cards1.length : Int) := c185
               obtain ⟨b189, of190, cs186, hA191, hr187, hc188⟩ := (HR4.mono (L71.trans L133)).at (i := 2) (by decide) c185
               obtain rfl := hr187
               refine seqL2 kr ?_
               refine seqK rfl (does_run (run_indexE hA191 (sz := 4) rfl Tryz.underlying23 kr (kv (.slice A2 cards1.length c3)) (kv (.int .i64 2)) (by decide) c185 W153) ?_)
               refine seqL1 kr ?_
               refine seqK rfl (does_run (run_load rfl Tryz.underlying9 rfl (kv (.pointer (some ⟨b189, of190 + (2 : Int).toNat * 4 + 1, none⟩))) ((hc188 fL HS154) 1 (by decide))) ?_)
               have hq_ := bind_some h; clear h; obtain ⟨vt192, hc193, h⟩ := hq_
               refine seqK rfl (does_call (f := 77) (args := #[.string ((rd cards1 2).Value)]) kr (strconv_Atoi.calls k ((rd cards1 2).Value) HS154 vt192 hc193) ?_)
               rintro _ W196 ⟨f194, rfl, L195, HS197⟩
               refine ⟨_, rfl, ?_⟩
               refine seqL5 kr ?_
               refine nl (hK184 _ _ ?_)
               refine wp_seq_k (fun K198 hK199 => ?_)
               refine wp_seq_k fun K200 hK201 => rl ?_
               refine seqL7 kr ?_
               have hq_ := ite_some h; clear h; rcases hq_ with ⟨c202, h⟩ | ⟨c202, h⟩
               · have c202 : vt192 < 1 := c202
                 refine seqRwI 36 kr (decide_eq_true c202) ?_
                 refine seqRwI 37 kr (decide_eq_true c202) ?_
                 refine seqRwI 38 kr (decide_eq_true c202) ?_
                 refine seqL3 kr ?_
                 refine nl (hK201 _ _ ?_)
                 refine condT kr ?_
                 refine wp_seq_k fun K203 hK204 => rl ?_
                 have HS205 := HS197.u1
                 refine seqL1 kr ?_
                 refine seqK rfl (does_storeA (vs := [.int .i64 0, .int .i64 0, .slice none 0 0, .slice none 0 0]) rfl kr kr kr rfl (ones rfl) HS205 kr ?_)
                 intro W206 HS207
                 refine seqL1 kr ?_
                 refine nl (hK204 _ _ ?_)
                 refine wp_ret ?_
                 refine hr166 _ _ ?_
                 refine hr28 _ _ ?_
                 refine hret _ _ ?_
                 have HS577 := HS207.cons_nil
                 refine ends (v := Value.tuple #[.agg #[.int .i64 0, .int .i64 0, .slice none 0 0, .slice none 0 0], .bool false]) (results2 (q1 := .cell 4 25) (q2 := .tmp 5) kr (resN (n := 4) (cs := [.int .i64 0, .int .i64 0, .slice none 0 0, .slice none 0 0]) (kv (.pointer (some ⟨b11, 0, none⟩))) Tryz.underlying25 rfl kr rfl (HS577.u1.cells 0 4 _ rfl)) (resT (kv (.bool false)))) kr ?_
                 have HS580 := HS577.u2.u2
                 have HS581 := HS580.drop
                 have HS582 := HS581.drop
                 injection h with h
                 injection h with h0_ h
                 subst h0_ h
                 exact ⟨f194, none, 0, none, 0, [], rfl, (L71.trans (L133.trans L195)), HS582, (SlR.nil _ _), (Own.nil _)⟩
               · have c202 : ¬ (vt192 < 1) := c202
                 refine seqRwI 36 kr (decide_eq_false c202) ?_
                 refine seqRwI 37 kr (decide_eq_false c202) ?_
                 refine seqRwI 38 kr (decide_eq_false c202) ?_
                 refine seqL3 kr ?_
                 refine nl (hK201 _ _ ?_)
                 have hq_ := ite_some h; clear h; rcases hq_ with ⟨c209, h⟩ | ⟨c209, h⟩
                 · have c209 : vt192 > 32 := c209
                   refine wpRwI 40 kr (decide_eq_true c209) ?_
                   refine wpRwI 41 kr (decide_eq_true c209) ?_
                   refine condT kr ?_
                   refine wp_seq_k fun K210 hK211 => rl ?_
                   have HS212 := HS197.u1
                   refine seqL1 kr ?_
                   refine seqK rfl (does_storeA (vs := [.int .i64 0, .int .i64 0, .slice none 0 0, .slice none 0 0]) rfl kr kr kr rfl (ones rfl) HS212 kr ?_)
                   intro W213 HS214
                   refine seqL1 kr ?_
                   refine nl (hK211 _ _ ?_)
                   refine wp_ret ?_
                   refine hr166 _ _ ?_
                   refine hr28 _ _ ?_
                   refine hret _ _ ?_
                   have HS583 := HS214.cons_nil
                   refine ends (v := Value.tuple #[.agg #[.int .i64 0, .int .i64 0, .slice none 0 0, .slice none 0 0], .bool false]) (results2 (q1 := .cell 4 25) (q2 := .tmp 5) kr (resN (n := 4) (cs := [.int .i64 0, .int .i64 0, .slice none 0 0, .slice none 0 0]) (kv (.pointer (some ⟨b11, 0, none⟩))) Tryz.underlying25 rfl kr rfl (HS583.u1.cells 0 4 _ rfl)) (resT (kv (.bool false)))) kr ?_
                   have HS586 := HS583.u2.u2
                   have HS587 := HS586.drop
                   have HS588 := HS587.drop
                   injection h with h
                   injection h with h0_ h
                   subst h0_ h
                   exact ⟨f194, none, 0, none, 0, [], rfl, (L71.trans (L133.trans L195)), HS588, (SlR.nil _ _), (Own.nil _)⟩
                 · have c209 : ¬ (vt192 > 32) := c209
                   refine wpRwI 40 kr (decide_eq_false c209) ?_
                   refine wpRwI 41 kr (decide_eq_false c209) ?_
                   refine condF kr ?_
                   refine wp_skip ?_
                   refine hK199 _ _ ?_
                   refine rl ?_
                   refine seqL3 kr ?_
                   refine seqK rfl (does_store (n := 1) (vs := [.int .i64 vt192]) (cs' := #[.int .i64 vt68, .int .i64 vt130, .int .i64 vt192]) rfl kr (kv (.pointer (some ⟨b17, 2, none⟩))) (kv (.int .i64 vt192)) rfl rfl (ones rfl) HS197 (Nat.le_of_ble_eq_true rfl) kr ?_)
                   intro W215 HS216
                   refine nl ?_
                   refine hn165 _ _ ?_
                   refine hK162 _ _ ?_
                   refine rl ?_
                   refine seqL2 kr ?_
                   refine nl (hK156 _ _ ?_)
                   refine loopStepK (fun K217 hK218 => ?_)
                   refine wp_seq_k fun K219 hK220 => rl ?_
                   refine seqL1 kr ?_
                   refine nl (hK220 _ _ ?_)
                   refine wp_seq_k (fun K221 hK222 => ?_)
                   refine condF kr ?_
                   refine wp_exit ?_
                   refine hx26 _ _ ?_
                   refine hK22 _ _ ?_
                   refine wp_seq_k (fun K223 hK224 => ?_)
                   refine heldG (S := Sg t f194 ([(b17, .cells #[.int .i64 vt68, .int .i64 vt130, .int .i64 vt192] 135 (0, 0))] :: [(b11, .cells #[.int .i64 0, .int .i64 0, .slice none 0 0, .slice none 0 0] 25 (0, 0))] :: H) []) (n := 9) kr rfl HS216 ?_
                   intro W225 HS226
                   refine takeGL [0] (n := 9) (fuel := 8) #[true, false, false, false, false, false, false, false, false] rfl kr kr kr hnp (Sg.g0 (Sx.of [] fL HS226)) ?_
                   refine takeGQ 1 [] rfl kr kr kr kr kr kr hnp (Sg.g0 (Sx.of [] fL HS226)) (fun w_ hw_ => by obtain ⟨g_, hl_, hS_⟩ := hw_.st; exact run_load rfl Tryz.underlying3 rfl (kv (.pointer (some ⟨b17, 0, none⟩))) (hS_.cell 0)) ?_
                   refine takeGL [2] (n := 7) (fuel := 6) #[true, true, true, false, false, false, false, false, false] rfl kr kr kr hnp (Sg.g0 (Sx.of [] fL HS226)) ?_
                   refine takeGQ 3 [] rfl kr kr kr kr kr kr hnp (Sg.g0 (Sx.of [] fL HS226)) (fun w_ hw_ => by obtain ⟨g_, hl_, hS_⟩ := hw_.st; exact run_load rfl Tryz.underlying3 rfl (kv (.pointer (some ⟨b17, 1, none⟩))) (hS_.cell 1)) ?_
                   have hq_ := guard_some h; clear h; obtain ⟨c227, h⟩ := hq_
                   have c227 : 3 ≤ (cards1.length : Int) := c227
                   refine takeGL [4] (n := 5) (fuel := 4) #[true, true, true, true, true, false, false, false, false] rfl kr kr kr hnp (Sg.g0 (Sx.of [] fL HS226)) ?_
                   refine withR #[true, true, true, true, true, true, true, true, true] ?_
                   intro R237 hR238 hR239
                   have J240 : ∀ (A228 : Option Addr) (c229 : Nat) (b231 : Nat) (W241 : World) (a_ : Act), SlR ty_Card f A228 c229 (cards1.drop (3 : Int).toNat) → St t W241 f194 ([(b231, .cells #[.int .i64 vt68, .int .i64 vt130, .slice A228 (cards1.drop (3 : Int).toNat).length c229, .slice none 0 0] 25 (0, 0))] :: [(b17, .cells #[.int .i64 vt68, .int .i64 vt130, .int .i64 vt192] 135 (0, 0))] :: [(b11, .cells #[.int .i64 0, .int .i64 0, .slice none 0 0, .slice none 0 0] 25 (0, 0))] :: H) → a_ = ⟨#[.slice A2 cards1.length c3, .slice A6 data5.length c7, uV, uV, pV b11 0, fV, pV b17 0, iV 2, iV vt192, .nilIface, pV b231 0, uV, uV, uV, uV, iV 3, fV, iV 2, iV 2, .slice A2 cards1.length c3, iV (cards1.length : Int), fV, uV, .tuple #[iV vt192, .nilIface], .slice A2 cards1.length c3, iV 2, pV b189 (of190 + (2 : Int).toNat * 4), pV b189 (of190 + (2 : Int).toNat * 4 + 1), .string ((rd cards1 2).Value), .tuple #[iV vt192, .nilIface], iV vt192, .nilIface, .nilIface, fV, fV, iV vt192, fV, fV, fV, iV vt192, fV, fV, uV, iV 2, iV vt192, pV b17 2, iV 3, pV b17 0, iV vt68, pV b17 1, iV vt130, .slice A2 cards1.length c3, .slice A228 (cards1.drop (3 : Int).toNat).length c229, .agg #[iV vt68, iV vt130, .slice A228 (cards1.drop (3 : Int).toNat).length c229, .slice none 0 0], uV, uV, uV, uV, uV, uV, uV, uV, uV, uV, uV, uV, uV, uV, uV, uV, uV, uV, uV, uV, uV, uV, uV, uV, uV, uV, uV, uV, uV, uV, uV, uV, uV, uV, uV, uV, uV, uV, uV, uV, uV, uV, uV, uV, uV, uV, uV, uV, uV, uV, uV, uV, uV, uV, uV], []⟩ → R237 a_ W241 := by
                    intro A228 c229 b231 W241 a_ HR230 HS242 hfr_; subst hfr_
                    refine hR238 _ _ ?_
                    refine doneG kr ?_ _
                    refine hK224 _ _ ?_
                    refine wp_seq_k (fun K261 hK262 => ?_)
                    refine wp_seq_k fun K263 hK264 => rl ?_
                    refine seqL1 kr ?_
                    refine seqK rfl (does_run (run_load rfl Tryz.underlying3 rfl (kv (.pointer (some ⟨b17, 2, none⟩))) (HS242.u1.cell 2)) ?_)
                    refine seqL2 kr ?_
                    have hq_ := ite_some h; clear h; rcases hq_ with ⟨c265, h⟩ | ⟨c265, h⟩
                    · have c265 : vt192 > 2 := c265
                      refine seqRwI 56 kr (decide_eq_true c265) ?_
                      refine seqRwI 57 kr (decide_eq_true c265) ?_
                      refine seqL12 kr ?_
                      refine nl (hK264 _ _ ?_)
                      refine condT kr ?_
                      refine wp_seq_k fun K266 hK267 => rl ?_
                      have HS268 := HS242.u2
                      refine seqL1 kr ?_
                      refine seqK rfl (does_storeA (vs := [.int .i64 0, .int .i64 0, .slice none 0 0, .slice none 0 0]) rfl kr kr kr rfl (ones rfl) HS268 kr ?_)
                      intro W269 HS270
                      refine seqL1 kr ?_
                      refine nl (hK267 _ _ ?_)
                      refine wp_ret ?_
                      refine hret _ _ ?_
                      have HS589 := HS270.cons_nil
                      refine ends (v := Value.tuple #[.agg #[.int .i64 0, .int .i64 0, .slice none 0 0, .slice none 0 0], .bool false]) (results2 (q1 := .cell 4 25) (q2 := .tmp 5) kr (resN (n := 4) (cs := [.int .i64 0, .int .i64 0, .slice none 0 0, .slice none 0 0]) (kv (.pointer (some ⟨b11, 0, none⟩))) Tryz.underlying25 rfl kr rfl (HS589.u1.cells 0 4 _ rfl)) (resT (kv (.bool false)))) kr ?_
                      have HS593 := HS589.u3.u3.u3
                      have HS594 := HS593.drop
                      have HS595 := HS594.drop
                      have HS596 := HS595.drop
                      injection h with h
                      injection h with h0_ h
                      subst h0_ h
                      exact ⟨f194, none, 0, none, 0, [], rfl, (L71.trans (L133.trans L195)), HS596, (SlR.nil _ _), (Own.nil _)⟩
                    · have c265 : ¬ (vt192 > 2) := c265
                      refine seqRwI 56 kr (decide_eq_false c265) ?_
                      refine seqRwI 57 kr (decide_eq_false c265) ?_
                      refine seqL3 kr ?_
                      refine seqG kr (does_run (run_load rfl Tryz.underlying3 rfl (kv (.pointer (some ⟨b231, 0, none⟩))) (HS242.cell 0)) ?_)
                      refine seqL1 kr ?_
                      refine seqG kr (does_run (run_load rfl Tryz.underlying3 rfl (kv (.pointer (some ⟨b231, 1, none⟩))) (HS242.cell 1)) ?_)
                      refine seqL2 kr ?_
                      refine seqG kr (does_run (run_load rfl Tryz.underlying3 rfl (kv (.pointer (some ⟨b17, 2, none⟩))) (HS242.u1.cell 2)) ?_)
                      refine seqL3 kr ?_
                      refine nl (hK264 _ _ ?_)
                      have hq_ := ite_some h; clear h; rcases hq_ with ⟨c272, h⟩ | ⟨c272, h⟩
                      · have c272 : (data5.length : Int) < (w64 ((w64 (vt68 * vt130)) * vt192)) := c272
                        refine wpRwI 68 kr (decide_eq_true c272) ?_
                        refine wpRwI 69 kr (decide_eq_true c272) ?_
                        refine condT kr ?_
                        refine wp_seq_k fun K273 hK274 => rl ?_
                        have HS275 := HS242.u2
                        refine seqL1 kr ?_
                        refine seqK rfl (does_storeA (vs := [.int .i64 0, .int .i64 0, .slice none 0 0, .slice none 0 0]) rfl kr kr kr rfl (ones rfl) HS275 kr ?_)
                        intro W276 HS277
                        refine seqL1 kr ?_
                        refine nl (hK274 _ _ ?_)
                        refine wp_ret ?_
                        refine hret _ _ ?_
                        have HS597 := HS277.cons_nil
                        refine ends (v := Value.tuple #[.agg #[.int .i64 0, .int .i64 0, .slice none 0 0, .slice none 0 0], .bool false]) (results2 (q1 := .cell 4 25) (q2 := .tmp 5) kr (resN (n := 4) (cs := [.int .i64 0, .int .i64 0, .slice none 0 0, .slice none 0 0]) (kv (.pointer (some ⟨b11, 0, none⟩))) Tryz.underlying25 rfl kr rfl (HS597.u1.cells 0 4 _ rfl)) (resT (kv (.bool false)))) kr ?_
                        have HS601 := HS597.u3.u3.u3
                        have HS602 := HS601.drop
                        have HS603 := HS602.drop
                        have HS604 := HS603.drop
                        injection h with h
                        injection h with h0_ h
                        subst h0_ h
                        exact ⟨f194, none, 0, none, 0, [], rfl, (L71.trans (L133.trans L195)), HS604, (SlR.nil _ _), (Own.nil _)⟩
                      · have c272 : ¬ ((data5.length : Int) < (w64 ((w64 (vt68 * vt130)) * vt192))) := c272
                        refine wpRwI 68 kr (decide_eq_false c272) ?_
                        refine wpRwI 69 kr (decide_eq_false c272) ?_
                        refine condF kr ?_
                        refine wp_skip ?_
                        refine hK262 _ _ ?_
                        refine wp_seq_k (fun K278 hK279 => ?_)
                        refine wp_seq_k fun K280 hK281 => rl ?_
                        refine seqL1 kr ?_
                        refine seqK rfl (does_run (run_load rfl Tryz.underlying3 rfl (kv (.pointer (some ⟨b231, 0, none⟩))) (HS242.cell 0)) ?_)
                        refine seqL1 kr ?_
                        refine seqK rfl (does_run (run_load rfl Tryz.underlying3 rfl (kv (.pointer (some ⟨b231, 1, none⟩))) (HS242.cell 1)) ?_)
                        refine seqL2 kr ?_
                        refine nl (hK281 _ _ ?_)
                        refine blockK (fun B282 hx283 hn284 hr285 ho286 hp287 => ?_)
                        have hq_ := bind_some h; clear h; obtain ⟨o397, hv521, h⟩ := hq_
                        have J522 : ∀ (f510 : FM) (A516 : Option Addr) (c517 : Nat) (s518 : Seg) (x515 : List Int) (j514 : Nat → Value) (W512 : World) (a_ : Act), FM.le f194 f510 → some (x515) = some o397 → St t W512 f510 (s518 :: [(b231, .cells #[.int .i64 vt68, .int .i64 vt130, .slice A228 (cards1.drop (3 : Int).toNat).length c229, .slice A516 x515.length c517] 25 (0, 0))] :: [(b17, .cells #[.int .i64 vt68, .int .i64 vt130, .int .i64 vt192] 135 (0, 0))] :: [(b11, .cells #[.int .i64 0, .int .i64 0, .slice none 0 0, .slice none 0 0] 25 (0, 0))] :: H) → Own (tInt .i64) 3 f510 A516 c517 s518 x515 → a_ = ⟨#[.slice A2 cards1.length c3, .slice A6 data5.length c7, uV, uV, pV b11 0, fV, pV b17 0, iV 2, iV vt192, .nilIface, pV b231 0, (j514 0), (j514 1), uV, (j514 2), iV 3, fV, iV 2, iV 2, .slice A2 cards1.length c3, iV (cards1.length : Int), fV, uV, .tuple #[iV vt192, .nilIface], .slice A2 cards1.length c3, iV 2, pV b189 (of190 + (2 : Int).toNat * 4), pV b189 (of190 + (2 : Int).toNat * 4 + 1), .string ((rd cards1 2).Value), .tuple #[iV vt192, .nilIface], iV vt192, .nilIface, .nilIface, fV, fV, iV vt192, fV, fV, fV, iV vt192, fV, fV, uV, iV 2, iV vt192, pV b17 2, iV 3, pV b17 0, iV vt68, pV b17 1, iV vt130, .slice A2 cards1.length c3, .slice A228 (cards1.drop (3 : Int).toNat).length c229, .agg #[iV vt68, iV vt130, .slice A228 (cards1.drop (3 : Int).toNat).length c229, .slice none 0 0], pV b17 2, iV vt192, fV, fV, .slice A6 data5.length c7, iV (data5.length : Int), pV b231 0, iV vt68, pV b231 1, iV vt130, iV (w64 (vt68 * vt130)), pV b17 2, iV vt192, iV (w64 ((w64 (vt68 * vt130)) * vt192)), fV, fV, uV, pV b231 0, iV vt68, pV b231 1, iV vt130, iV (w64 (vt68 * vt130)), (j514 3), (j514 4), (j514 5), (j514 6), (j514 7), (j514 8), (j514 9), (j514 10), (j514 11), (j514 12), (j514 13), (j514 14), (j514 15), (j514 16), (j514 17), (j514 18), (j514 19), (j514 20), (j514 21), (j514 22), (j514 23), (j514 24), (j514 25), (j514 26), (j514 27), (j514 28), (j514 29), (j514 30), (j514 31), (j514 32), (j514 33), (j514 34), uV], []⟩ → K278 a_ W512 := by
                         intro f510 A516 c517 s518 x515 j514 W512 a_ L511 hj523 HS513 HO519 hfr_; subst hfr_
                         injection hj523 with hj523; subst hj523; try dsimp only at h
                         refine hK279 _ _ ?_
                         refine wp_seq_k fun K530 hK531 => rl ?_
                         refine seqK rfl (does_run (run_loadN (n := 4) rfl Tryz.underlying25 rfl kr (kv (.pointer (some ⟨b231, 0, none⟩))) (cs := [.int .i64 vt68, .int .i64 vt130, .slice A228 (cards1.drop (3 : Int).toNat).length c229, .slice A516 x515.length c517]) rfl (HS513.u1.cells 0 4 _ rfl)) ?_)
                         have HS532 := HS513.u3
                         refine seqK rfl (does_storeA (vs := [.int .i64 vt68, .int .i64 vt130, .slice A228 (cards1.drop (3 : Int).toNat).length c229, .slice A516 x515.length c517]) rfl kr kr kr rfl (ones rfl) HS532 kr ?_)
                         intro W533 HS534
                         refine seqL1 kr ?_
                         refine nl (hK531 _ _ ?_)
                         refine wp_ret ?_
                         refine hret _ _ ?_
                         refine ends (v := Value.tuple #[.agg #[.int .i64 vt68, .int .i64 vt130, .slice A228 (cards1.drop (3 : Int).toNat).length c229, .slice A516 x515.length c517], .bool true]) (results2 (q1 := .cell 4 25) (q2 := .tmp 5) kr (resN (n := 4) (cs := [.int .i64 vt68, .int .i64 vt130, .slice A228 (cards1.drop (3 : Int).toNat).length c229, .slice A516 x515.length c517]) (kv (.pointer (some ⟨b11, 0, none⟩))) Tryz.underlying25 rfl kr rfl (HS534.cells 0 4 _ rfl)) (resT (kv (.bool true)))) kr ?_
                         have HS608 := HS534.u1.u3.u3.u3
                         have HS609 := HS608.drop
                         have HS610 := HS609.drop
                         have HS611 := HS610.drop
                         injection h with h
                         injection h with h0_ h
                         subst h0_ h
                         exact ⟨f510, A228, c229, A516, c517, s518, rfl, (L71.trans (L133.trans (L195.trans L511))), HS611, (HR230.mono (L71.trans (L133.trans (L195.trans L511)))), HO519⟩
                        clear h; have h := hv521; clear hv521
                        have HS524 := HS242.cons_nil
                        refine loopK (fun n_ a_ w_ => ∃ (f401 : FM) (A408 : Option Addr) (c409 : Nat) (s410 : Seg) (x406 : Int) (x407 : List Int) (j405 : Nat → Value), FM.le f194 f401 ∧ St t w_ f401 (s410 :: [(b231, .cells #[.int .i64 vt68, .int .i64 vt130, .slice A228 (cards1.drop (3 : Int).toNat).length c229, .slice A408 x407.length c409] 25 (0, 0))] :: [(b17, .cells #[.int .i64 vt68, .int .i64 vt130, .int .i64 vt192] 135 (0, 0))] :: [(b11, .cells #[.int .i64 0, .int .i64 0, .slice none 0 0, .slice none 0 0] 25 (0, 0))] :: H) ∧ Own (tInt .i64) 3 f401 A408 c409 s410 x407 ∧ frame_whole.l0 k vt68 vt130 vt192 data5 n_ x406 x407 = some o397 ∧ a_ = ⟨#[.slice A2 cards1.length c3, .slice A6 data5.length c7, uV, uV, pV b11 0, fV, pV b17 0, iV 2, iV vt192, .nilIface, pV b231 0, (j405 0), (j405 1), uV, (j405 2), iV 3, fV, iV 2, iV 2, .slice A2 cards1.length c3, iV (cards1.length : Int), fV, uV, .tuple #[iV vt192, .nilIface], .slice A2 cards1.length c3, iV 2, pV b189 (of190 + (2 : Int).toNat * 4), pV b189 (of190 + (2 : Int).toNat * 4 + 1), .string ((rd cards1 2).Value), .tuple #[iV vt192, .nilIface], iV vt192, .nilIface, .nilIface, fV, fV, iV vt192, fV, fV, fV, iV vt192, fV, fV, uV, iV 2, iV vt192, pV b17 2, iV 3, pV b17 0, iV vt68, pV b17 1, iV vt130, .slice A2 cards1.length c3, .slice A228 (cards1.drop (3 : Int).toNat).length c229, .agg #[iV vt68, iV vt130, .slice A228 (cards1.drop (3 : Int).toNat).length c229, .slice none 0 0], pV b17 2, iV vt192, fV, fV, .slice A6 data5.length c7, iV (data5.length : Int), pV b231 0, iV vt68, pV b231 1, iV vt130, iV (w64 (vt68 * vt130)), pV b17 2, iV vt192, iV (w64 ((w64 (vt68 * vt130)) * vt192)), fV, fV, uV, pV b231 0, iV vt68, pV b231 1, iV vt130, iV (w64 (vt68 * vt130)), iV x406, (j405 3), (j405 4), (j405 5), (j405 6), (j405 7), (j405 8), (j405 9), (j405 10), (j405 11), (j405 12), (j405 13), (j405 14), (j405 15), (j405 16), (j405 17), (j405 18), (j405 19), (j405 20), (j405 21), (j405 22), (j405 23), (j405 24), (j405 25), (j405 26), (j405 27), (j405 28), (j405 29), (j405 30), (j405 31), (j405 32), (j405 33), uV], []⟩) k ⟨f194, none, 0, [], 0, ([] : List Int), (jL []), fL, HS524, (Own.nil _), h, kr⟩ ?_
                        clear h
                        rintro n400 _ W403 ⟨f401, A408, c409, s410, x406, x407, j405, L402, HS404, HO411, h, rfl⟩ K398 hK399
                        obtain _ | n400 := n400
                        · exact nomatch h
                        simp only [frame_whole.l0] at h
                        refine wp_seq_k fun K413 hK414 => rl ?_
                        refine seqL1 kr ?_
                        refine nl (hK414 _ _ ?_)
                        refine wp_seq_k (fun K415 hK416 => ?_)
                        have hq_ := ite_some h; clear h; rcases hq_ with ⟨c418, h⟩ | ⟨c418, h⟩
                        · have c418 : x406 < (w64 (vt68 * vt130)) := c418
                          refine wpRwI 77 kr (decide_eq_true c418) ?_
                          refine condT kr ?_
                          refine wp_skip ?_
                          refine hK416 _ _ ?_
                          refine wp_seq_k (fun K419 hK420 => ?_)
                          refine blockK (fun B421 hx422 hn423 hr424 ho425 hp426 => ?_)
                          refine wp_seq_k fun K428 hK429 => rl ?_
                          refine seqL2 kr ?_
                          refine nl (hK429 _ _ ?_)
                          refine wp_seq_k fun K430 hK431 => rl ?_
                          refine seqL1 kr ?_
                          refine nl (hK431 _ _ ?_)
                          refine wp_seq_k (fun K432 hK433 => ?_)
                          refine wp_seq_k fun K434 hK435 => rl ?_
                          refine seqL3 kr ?_
                          refine seqK rfl (does_run (run_load rfl Tryz.underlying3 rfl (kv (.pointer (some ⟨b17, 2, none⟩))) (HS404.u2.cell 2)) ?_)
                          refine seqL4 kr ?_
                          refine seqK rfl (does_run (run_load rfl Tryz.underlying3 rfl (kv (.pointer (some ⟨b17, 2, none⟩))) (HS404.u2.cell 2)) ?_)
                          have hq_ := guard_some h; clear h; obtain ⟨c436, h⟩ := hq_
                          have c436 : 0 ≤ (w64 (x406 * vt192)) := c436
                          have hq_ := guard_some h; clear h; obtain ⟨c437, h⟩ := hq_
                          have c437 : (w64 (x406 * vt192)) ≤ (w64 ((w64 (x406 + 1)) * vt192)) := c437
                          have hq_ := guard_some h; clear h; obtain ⟨c438, h⟩ := hq_
                          have c438 : (w64 ((w64 (x406 + 1)) * vt192)) ≤ (data5.length : Int) := c438
                          refine seqL1 kr ?_
                          refine seqK rfl (does_cutLH (e := (tInt .u8)) (xs := data5) rfl Tryz.underlying30 kr (kv (.slice A6 data5.length c7)) (kv (.int .i64 (w64 (x406 * vt192)))) (kv (.int .i64 (w64 ((w64 (x406 + 1)) * vt192))))  c436 c437 c438 HR8 ?_)
                          intro A439 c440 HR441
                          refine seqL2 kr ?_
                          refine nl (hK435 _ _ ?_)
                          refine blockK (fun B442 hx443 hn444 hr445 ho446 hp447 => ?_)
                          have hq_ := bind_some h; clear h; obtain ⟨o448, hv489, h⟩ := hq_
                          have J490 : ∀ (f483 : FM) (c488 : Int) (j487 : Nat → Value) (W485 : World) (a_ : Act), FM.le f401 f483 → some (c488) = some o448 → St t W485 f483 (s410 :: [(b231, .cells #[.int .i64 vt68, .int .i64 vt130, .slice A228 (cards1.drop (3 : Int).toNat).length c229, .slice A408 x407.length c409] 25 (0, 0))] :: [(b17, .cells #[.int .i64 vt68, .int .i64 vt130, .int .i64 vt192] 135 (0, 0))] :: [(b11, .cells #[.int .i64 0, .int .i64 0, .slice none 0 0, .slice none 0 0] 25 (0, 0))] :: H) → a_ = ⟨#[.slice A2 cards1.length c3, .slice A6 data5.length c7, uV, uV, pV b11 0, fV, pV b17 0, iV 2, iV vt192, .nilIface, pV b231 0, iV x406, iV c488, uV, (j487 0), iV 3, fV, iV 2, iV 2, .slice A2 cards1.length c3, iV (cards1.length : Int), fV, uV, .tuple #[iV vt192, .nilIface], .slice A2 cards1.length c3, iV 2, pV b189 (of190 + (2 : Int).toNat * 4), pV b189 (of190 + (2 : Int).toNat * 4 + 1), .string ((rd cards1 2).Value), .tuple #[iV vt192, .nilIface], iV vt192, .nilIface, .nilIface, fV, fV, iV vt192, fV, fV, fV, iV vt192, fV, fV, uV, iV 2, iV vt192, pV b17 2, iV 3, pV b17 0, iV vt68, pV b17 1, iV vt130, .slice A2 cards1.length c3, .slice A228 (cards1.drop (3 : Int).toNat).length c229, .agg #[iV vt68, iV vt130, .slice A228 (cards1.drop (3 : Int).toNat).length c229, .slice none 0 0], pV b17 2, iV vt192, fV, fV, .slice A6 data5.length c7, iV (data5.length : Int), pV b231 0, iV vt68, pV b231 1, iV vt130, iV (w64 (vt68 * vt130)), pV b17 2, iV vt192, iV (w64 ((w64 (vt68 * vt130)) * vt192)), fV, fV, uV, pV b231 0, iV vt68, pV b231 1, iV vt130, iV (w64 (vt68 * vt130)), iV x406, tV, iV x406, .slice A6 data5.length c7, iV x406, pV b17 2, iV vt192, iV (w64 (x406 * vt192)), iV x406, iV (w64 (x406 + 1)), pV b17 2, iV vt192, iV (w64 ((w64 (x406 + 1)) * vt192)), .slice A439 ((data5.take (w64 ((w64 (x406 + 1)) * vt192)).toNat).drop (w64 (x406 * vt192)).toNat).length c440, iV (((data5.take (w64 ((w64 (x406 + 1)) * vt192)).toNat).drop (w64 (x406 * vt192)).toNat).length : Int), (j487 1), (j487 2), (j487 3), (j487 4), (j487 5), (j487 6), (j487 7), (j487 8), (j487 9), (j487 10), (j405 27), (j405 28), (j405 29), (j405 30), (j405 31), (j405 32), (j405 33), uV], []⟩ → K432 a_ W485 := by
                           intro f483 c488 j487 W485 a_ L484 hj491 HS486  hfr_; subst hfr_
                           injection hj491 with hj491; subst hj491; try dsimp only at h
                           refine hK433 _ _ ?_
                           refine rl ?_
                           refine seqL1 kr ?_
                           refine seqK rfl (does_run (run_load rfl Tryz.underlying22 rfl (kv (.pointer (some ⟨b231, 3, none⟩))) (HS486.u1.cell 3)) ?_)
                           refine seqL1 kr ?_
                           refine seqK rfl (does_lit (e := (tInt .i64)) (E := 3) (vs := #[(0, Value.int .i64 c488)]) (cs := #[.int .i64 c488]) (xs := ([c488] : List Int)) rfl Tryz.underlying22 kr kr ⟨[.int .i64 c488], _, rfl, rfl, rfl⟩ rfl HS486 ?_ (by decide))
                           intro b492 W493 s494 HS495 _ HO496
                           have hq_ := guard_some h; clear h; obtain ⟨c498, h⟩ := hq_
                           have c498 : (x407.length + 1) * 8 ≤ 140737488355328 := c498
                           have HS500 := HS495.u1.u1
                           refine seqK rfl (does_append1 (e := (tInt .i64)) (E := 3) (xs := x407) (ys := ([c488] : List Int)) rfl (kv (.slice A408 x407.length c409)) (kv (.slice (some ⟨b492, 0, none⟩) ([c488] : List Int).length 1)) Tryz.underlying22 inf3 (HO411.mono L484) HO496 HS500 c498 (lim63 c498 (by decide)) ?_)
                           intro A501 c502 s503 W504 HS505 HO506
                           have HS507 := HS505.u1
                           refine seqL1 kr ?_
                           refine seqK rfl (does_store (n := 1) (vs := [.slice A501 (x407 ++ ([c488] : List Int)).length c502]) (cs' := #[.int .i64 vt68, .int .i64 vt130, .slice A228 (cards1.drop (3 : Int).toNat).length c229, .slice A501 (x407 ++ ([c488] : List Int)).length c502]) rfl kr (kv (.pointer (some ⟨b231, 3, none⟩))) (kv (.slice A501 (x407 ++ ([c488] : List Int)).length c502)) rfl rfl (ones rfl) HS507 (Nat.le_of_ble_eq_true rfl) kr ?_)
                           intro W508 HS509
                           refine nl ?_
                           refine hn423 _ _ ?_
                           refine hK420 _ _ ?_
                           refine rl ?_
                           refine seqL2 kr ?_
                           refine nl ?_
                           refine hK399 n400 _ _ (Nat.lt_succ_self _) ?_
                           have HS529 := HS509.u3.u3.u2.u3
                           exact ⟨f483, A501, c502, s503, (w64 (x406 + 1)), (x407 ++ ([c488] : List Int)), (jL [iV x406, iV c488, (j487 0), tV, iV x406, .slice A6 data5.length c7, iV x406, .pointer (some ⟨b17, 2, none⟩), iV vt192, iV (w64 (x406 * vt192)), iV x406, iV (w64 (x406 + 1)), .pointer (some ⟨b17, 2, none⟩), iV vt192, iV (w64 ((w64 (x406 + 1)) * vt192)), .slice A439 ((data5.take (w64 ((w64 (x406 + 1)) * vt192)).toNat).drop (w64 (x406 * vt192)).toNat).length c440, iV (((data5.take (w64 ((w64 (x406 + 1)) * vt192)).toNat).drop (w64 (x406 * vt192)).toNat).length : Int), (j487 1), (j487 2), (j487 3), (j487 4), (j487 5), (j487 6), (j487 7), (j487 8), (j487 9), (j487 10), .pointer (some ⟨b231, 3, none⟩), .slice A408 x407.length c409, iV c488, .slice (some ⟨b492, 0, none⟩) ([c488] : List Int).length 1, .slice A501 (x407 ++ ([c488] : List Int)).length c502, .pointer (some ⟨b231, 3, none⟩), iV (w64 (x406 + 1))]), (L402.trans L484), HS529, HO506, h, kr⟩
                          clear h; have h := hv489; clear hv489
                          refine loopK (fun n_ a_ w_ => ∃ (f452 : FM) (c457 : Int) (x458 : Int) (j456 : Nat → Value), FM.le f401 f452 ∧ St t w_ f452 (s410 :: [(b231, .cells #[.int .i64 vt68, .int .i64 vt130, .slice A228 (cards1.drop (3 : Int).toNat).length c229, .slice A408 x407.length c409] 25 (0, 0))] :: [(b17, .cells #[.int .i64 vt68, .int .i64 vt130, .int .i64 vt192] 135 (0, 0))] :: [(b11, .cells #[.int .i64 0, .int .i64 0, .slice none 0 0, .slice none 0 0] 25 (0, 0))] :: H) ∧ frame_whole.l1 k data5 x406 vt192 n_ c457 x458 = some o448 ∧ a_ = ⟨#[.slice A2 cards1.length c3, .slice A6 data5.length c7, uV, uV, pV b11 0, fV, pV b17 0, iV 2, iV vt192, .nilIface, pV b231 0, iV x406, iV c457, uV, (j456 0), iV 3, fV, iV 2, iV 2, .slice A2 cards1.length c3, iV (cards1.length : Int), fV, uV, .tuple #[iV vt192, .nilIface], .slice A2 cards1.length c3, iV 2, pV b189 (of190 + (2 : Int).toNat * 4), pV b189 (of190 + (2 : Int).toNat * 4 + 1), .string ((rd cards1 2).Value), .tuple #[iV vt192, .nilIface], iV vt192, .nilIface, .nilIface, fV, fV, iV vt192, fV, fV, fV, iV vt192, fV, fV, uV, iV 2, iV vt192, pV b17 2, iV 3, pV b17 0, iV vt68, pV b17 1, iV vt130, .slice A2 cards1.length c3, .slice A228 (cards1.drop (3 : Int).toNat).length c229, .agg #[iV vt68, iV vt130, .slice A228 (cards1.drop (3 : Int).toNat).length c229, .slice none 0 0], pV b17 2, iV vt192, fV, fV, .slice A6 data5.length c7, iV (data5.length : Int), pV b231 0, iV vt68, pV b231 1, iV vt130, iV (w64 (vt68 * vt130)), pV b17 2, iV vt192, iV (w64 ((w64 (vt68 * vt130)) * vt192)), fV, fV, uV, pV b231 0, iV vt68, pV b231 1, iV vt130, iV (w64 (vt68 * vt130)), iV x406, tV, iV x406, .slice A6 data5.length c7, iV x406, pV b17 2, iV vt192, iV (w64 (x406 * vt192)), iV x406, iV (w64 (x406 + 1)), pV b17 2, iV vt192, iV (w64 ((w64 (x406 + 1)) * vt192)), .slice A439 ((data5.take (w64 ((w64 (x406 + 1)) * vt192)).toNat).drop (w64 (x406 * vt192)).toNat).length c440, iV (((data5.take (w64 ((w64 (x406 + 1)) * vt192)).toNat).drop (w64 (x406 * vt192)).toNat).length : Int), iV x458, (j456 1), (j456 2), (j456 3), (j456 4), (j456 5), (j456 6), (j456 7), (j456 8), (j456 9), (j405 27), (j405 28), (j405 29), (j405 30), (j405 31), (j405 32), (j405 33), uV], []⟩) k ⟨f401, 0, 0, (jL [(j405 2), (j405 18), (j405 19), (j405 20), (j405 21), (j405 22), (j405 23), (j405 24), (j405 25), (j405 26)]), fL, HS404, h, kr⟩ ?_
                          clear h
                          rintro n451 _ W454 ⟨f452, c457, x458, j456, L453, HS455, h, rfl⟩ K449 hK450
                          obtain _ | n451 := n451
                          · exact nomatch h
                          simp only [frame_whole.l1] at h
                          refine wp_seq_k fun K459 hK460 => rl ?_
                          refine seqL1 kr ?_
                          refine nl (hK460 _ _ ?_)
                          refine wp_seq_k (fun K461 hK462 => ?_)
                          have hq_ := ite_some h; clear h; rcases hq_ with ⟨c464, h⟩ | ⟨c464, h⟩
                          · have c464 : x458 < (((data5.take (w64 ((w64 (x406 + 1)) * vt192)).toNat).drop (w64 (x406 * vt192)).toNat).length : Int) := c464
                            refine wpRwI 92 kr (decide_eq_true c464) ?_
                            refine condT kr ?_
                            refine wp_skip ?_
                            refine hK462 _ _ ?_
                            refine wp_seq_k (fun K465 hK466 => ?_)
                            refine blockK (fun B467 hx468 hn469 hr470 ho471 hp472 => ?_)
                            refine wp_seq_k fun K474 hK475 => rl ?_
                            have hq_ := guard_some h; clear h; obtain ⟨c476, h⟩ := hq_
                            have c476 : 0 ≤ x458 := c476
                            obtain ⟨b480, of481, cs477, hA482, hr478, hc479⟩ := (HR441.mono (L71.trans (L133.trans (L195.trans (L402.trans L453))))).at (i := x458) c476 c464
                            obtain rfl := hr478
                            refine seqK rfl (does_run (run_indexE hA482 (sz := 1) rfl Tryz.underlying30 kr (kv (.slice A439 ((data5.take (w64 ((w64 (x406 + 1)) * vt192)).toNat).drop (w64 (x406 * vt192)).toNat).length c440)) (kv (.int .i64 x458)) c476 c464 W454) ?_)
                            refine seqK rfl (does_run (run_load rfl Tryz.underlying5 rfl (kv (.pointer (some ⟨b480, of481 + (x458 : Int).toNat * 1, none⟩))) ((hc479 fL HS455) 0 (by decide))) ?_)
                            refine seqL1 kr ?_
                            refine nl (hK475 _ _ ?_)
                            refine rl ?_
                            refine seqL6 kr ?_
                            refine nl ?_
                            refine hn469 _ _ ?_
                            refine hK466 _ _ ?_
                            refine rl ?_
                            refine seqL2 kr ?_
                            refine nl ?_
                            refine hK450 n451 _ _ (Nat.lt_succ_self _) ?_
                            exact ⟨f452, (Go.bits .or .i64 (w64 (c457 * 2 ^ 8)) (w64 ((rd ((data5.take (w64 ((w64 (x406 + 1)) * vt192)).toNat).drop (w64 (x406 * vt192)).toNat) x458)))), (w64 (x458 + 1)), (jL [.int .u8 (rd ((data5.take (w64 ((w64 (x406 + 1)) * vt192)).toNat).drop (w64 (x406 * vt192)).toNat) x458), tV, .pointer (some ⟨b480, of481 + (x458 : Int).toNat * 1, none⟩), .int .u8 (rd ((data5.take (w64 ((w64 (x406 + 1)) * vt192)).toNat).drop (w64 (x406 * vt192)).toNat) x458), iV c457, iV (w64 (c457 * 2 ^ 8)), .int .u8 (rd ((data5.take (w64 ((w64 (x406 + 1)) * vt192)).toNat).drop (w64 (x406 * vt192)).toNat) x458), iV (w64 ((rd ((data5.take (w64 ((w64 (x406 + 1)) * vt192)).toNat).drop (w64 (x406 * vt192)).toNat) x458))), iV (Go.bits .or .i64 (w64 (c457 * 2 ^ 8)) (w64 ((rd ((data5.take (w64 ((w64 (x406 + 1)) * vt192)).toNat).drop (w64 (x406 * vt192)).toNat) x458)))), iV (w64 (x458 + 1))]), L453, HS455, h, kr⟩
                          · have c464 : ¬ (x458 < (((data5.take (w64 ((w64 (x406 + 1)) * vt192)).toNat).drop (w64 (x406 * vt192)).toNat).length : Int)) := c464
                            refine wpRwI 92 kr (decide_eq_false c464) ?_
                            refine condF kr ?_
                            refine wp_exit ?_
                            refine hx443 _ _ ?_
                            exact J490 f452 c457 (jL [(j456 0), iV x458, fV, (j456 2), (j456 3), (j456 4), (j456 5), (j456 6), (j456 7), (j456 8), (j456 9)]) W454 _ L453 h HS455 kr
                        · have c418 : ¬ (x406 < (w64 (vt68 * vt130))) := c418
                          refine wpRwI 77 kr (decide_eq_false c418) ?_
                          refine condF kr ?_
                          refine wp_exit ?_
                          refine hx283 _ _ ?_
                          exact J522 f401 A408 c409 s410 x407 (jL [(j405 0), (j405 1), (j405 2), iV x406, fV, (j405 4), (j405 5), (j405 6), (j405 7), (j405 8), (j405 9), (j405 10), (j405 11), (j405 12), (j405 13), (j405 14), (j405 15), (j405 16), (j405 17), (j405 18), (j405 19), (j405 20), (j405 21), (j405 22), (j405 23), (j405 24), (j405 25), (j405 26), (j405 27), (j405 28), (j405 29), (j405 30), (j405 31), (j405 32), (j405 33)]) W403 _ L402 h HS404 HO411 kr
                   refine takeEither 5 7 kr rfl rfl rfl rfl ?_ ?_
                   · refine does_cutL (e := ty_Card) (xs := cards1) rfl Tryz.underlying23 kr (kv (.slice A2 cards1.length c3)) (kv (.int .i64 3)) (by decide) c227 HR4 ?_
                     intro A243 c244 HR245
                     refine ⟨(Sg.g0 (Sx.of [] fL HS226)), ?_⟩
                     refine takeGL [6] (n := 3) (fuel := 2) #[true, true, true, true, true, true, true, false, false] rfl kr kr kr hnp (Sg.g0 (Sx.of [] fL HS226)) ?_
                     refine takeGE 7 kr rfl kr (does_alloc (z := Value.agg #[.int .i64 0, .int .i64 0, .slice none 0 0, .slice none 0 0]) (cs := #[.int .i64 0, .int .i64 0, .slice none 0 0, .slice none 0 0]) rfl kr rfl HS226 ?_)
                     intro b246 W247 HS248
                     refine ⟨(Sg.g0 (Sx.of [[(b246, .cells #[.int .i64 0, .int .i64 0, .slice none 0 0, .slice none 0 0] 25 (0, 0))]] fL HS248)), ?_⟩
                     refine takeGE 8 kr rfl kr (does_storeA (vs := [.int .i64 vt68, .int .i64 vt130, .slice A243 (cards1.drop (3 : Int).toNat).length c244, .slice none 0 0]) rfl kr kr kr rfl (ones rfl) HS248 kr ?_)
                     intro W250 HS251
                     refine ⟨(Sg.g0 (Sx.of [[(b246, .cells #[.int .i64 vt68, .int .i64 vt130, .slice A243 (cards1.drop (3 : Int).toNat).length c244, .slice none 0 0] 25 (0, 0))]] fL HS251)), ?_⟩
                     refine hR239 _ _ ?_
                     exact J240 A243 c244 b246 W250 _ HR245 HS251 kr
                   · refine does_alloc (z := Value.agg #[.int .i64 0, .int .i64 0, .slice none 0 0, .slice none 0 0]) (cs := #[.int .i64 0, .int .i64 0, .slice none 0 0, .slice none 0 0]) rfl kr rfl HS226 ?_
                     intro b252 W253 HS254
                     refine ⟨(Sg.g0 (Sx.of [[(b252, .cells #[.int .i64 0, .int .i64 0, .slice none 0 0, .slice none 0 0] 25 (0, 0))]] fL HS254)), ?_⟩
                     refine takeGE 5 kr rfl kr (does_cutL (e := ty_Card) (xs := cards1) rfl Tryz.underlying23 kr (kv (.slice A2 cards1.length c3)) (kv (.int .i64 3)) (by decide) c227 HR4 ?_)
                     intro A256 c257 HR258
                     refine ⟨(Sg.g0 (Sx.of [[(b252, .cells #[.int .i64 0, .int .i64 0, .slice none 0 0, .slice none 0 0] 25 (0, 0))]] fL HS254)), ?_⟩
                     refine takeGL [6] (n := 2) (fuel := 1) #[true, true, true, true, true, true, true, true, false] rfl kr kr kr hnp (Sg.g0 (Sx.of [[(b252, .cells #[.int .i64 0, .int .i64 0, .slice none 0 0, .slice none 0 0] 25 (0, 0))]] fL HS254)) ?_
                     refine takeGE 8 kr rfl kr (does_storeA (vs := [.int .i64 vt68, .int .i64 vt130, .slice A256 (cards1.drop (3 : Int).toNat).length c257, .slice none 0 0]) rfl kr kr kr rfl (ones rfl) HS254 kr ?_)
                     intro W259 HS260
                     refine ⟨(Sg.g0 (Sx.of [[(b252, .cells #[.int .i64 vt68, .int .i64 vt130, .slice A256 (cards1.drop (3 : Int).toNat).length c257, .slice none 0 0] 25 (0, 0))]] fL HS260)), ?_⟩
                     refine hR239 _ _ ?_
                     exact J240 A256 c257 b252 W259 _ HR258 HS260 kr

end Go.Sp.F3
