import Derived.Test.YtjnehahcpeiheaaGreatDoorProg
import Derived.Test.YtjnehahcpeiheaaGreatDoorSpCopy
import Derived.Test.YtjnehahcpeiheaaGreatDoorFT6
import Derived.Test.YtjnehahcpeiheaaGreatDoorSpStr
import Derived.Test.YtjnehahcpeiheaaGreatDoorSpLib
import Derived.Test.YtjnehahcpeiheaaGreatDoorSpBld
import Derived.Test.YtjnehahcpeiheaaGreatDoorConv
import Derived.Test.YtjnehahcpeiheaaGreatDoorLibs
import Derived.Test.YtjnehahcpeiheaaGreatDoorSpWays
import Derived.Test.YtjnehahcpeiheaaGreatDoorSpRound
import Derived.Test.YtjnehahcpeiheaaGreatDoorKT6n0
import Derived.Test.YtjnehahcpeiheaaGreatDoorKT6n1
import Derived.Test.YtjnehahcpeiheaaGreatDoorKT6n2
import Derived.Test.YtjnehahcpeiheaaGreatDoorKT6n3
import Derived.Test.YtjnehahcpeiheaaGreatDoorKT6n4
namespace Go.Sp.T6
open Go Go.Sp Go.Proofs
set_option linter.unusedVariables false
attribute [local irreducible] wpList AnyL Code.wp Calls Does Code.wpIn wpListIn CallsIn bodyPostM LeavesInM
set_option maxRecDepth 100000 in
set_option maxHeartbeats 4000000 in
theorem num_Mul.calls (k : Nat)  (a1 : Int) (b2 : Int) {t w : World} {f : FM} {H : List Seg} (HS : St t w f (H)) (rr1 : Int) (rr2 : Bool) (h : num_Mul k a1 b2 = some (rr1, rr2)) :
    Calls Tryz.prog 40 #[.int .i64 a1, .int .i64 b2] w (fun e w' => ∃ (g : FM), e = .returned (Value.tuple #[.int .i64 rr1, .bool rr2]) ∧ FM.le f g ∧ St t w' g (H)) := by
 unfold num_Mul at h
 refine enter Tryz.func40 rfl (tm := #[iV a1, iV b2, uV, uV, uV, uV, uV, uV, uV, uV, uV, uV, uV, uV, uV, uV, uV, uV, uV, uV]) kr ?_
 intro B hret hnor hnp
 refine wp_seq_k fun K3 hK4 => rl ?_
 refine seqL2 kr ?_
 refine nl (hK4 _ _ ?_)
 refine wp_seq_k fun K5 hK6 => rl ?_
 have hq_ := bind_some h; clear h; obtain ⟨vt7, hc8, h⟩ := hq_
 refine seqL2 kr ?_
 refine seqK rfl (does_call (f := 68) (args := #[.int .i64 a1, .int .i64 b2]) kr (num_Product.calls k a1 b2 HS vt7 hc8) ?_)
 rintro _ W11 ⟨f9, rfl, L10, HS12⟩
 refine ⟨_, rfl, ?_⟩
 refine seqK rfl (does_alloc (z := Value.agg #[.int .i64 0, .int .u64 0]) (cs := #[.int .i64 0, .int .u64 0]) rfl kr rfl HS12 ?_)
 intro b13 W14 HS15
 refine seqK rfl (does_storeA (vs := [.int .i64 vt7.Hi, .int .u64 vt7.Lo]) rfl kr kr kr rfl (ones rfl) HS15 kr ?_)
 intro W17 HS18
 refine nl (hK6 _ _ ?_)
 refine wp_seq_k (fun K19 hK20 => ?_)
 refine wp_seq_k fun K21 hK22 => rl ?_
 refine seqL1 kr ?_
 refine seqK rfl (does_run (run_load rfl Tryz.underlying2 rfl (kv (.pointer (some ⟨b13, 0, none⟩))) (HS18.cell 0)) ?_)
 refine seqL1 kr ?_
 refine seqK rfl (does_run (run_load rfl Tryz.underlying69 rfl (kv (.pointer (some ⟨b13, 1, none⟩))) (HS18.cell 1)) ?_)
 refine seqL3 kr ?_
 refine nl (hK22 _ _ ?_)
 have hq_ := ite_some h; clear h; rcases hq_ with ⟨c24, h⟩ | ⟨c24, h⟩
 · have c24 : vt7.Hi ≠ (shr (w64 (vt7.Lo)) 63) := c24
   refine wpRwI 16 kr (bne_iff_ne.mpr c24) ?_
   refine condT kr ?_
   refine wp_seq_k fun K25 hK26 => rl ?_
   refine seqL2 kr ?_
   refine nl (hK26 _ _ ?_)
   refine wp_ret ?_
   refine hret _ _ ?_
   refine ends_still (v := Value.tuple #[.int .i64 0, .bool false]) kr kr ?_
   have HS29 := HS18.drop
   injection h with h
   injection h with h0_ h
   subst h0_ h
   exact ⟨f9, rfl, L10, HS29⟩
 · have c24 : ¬ (vt7.Hi ≠ (shr (w64 (vt7.Lo)) 63)) := c24
   refine wpRwI 16 (x := (vt7.Hi != (shr (w64 (vt7.Lo)) 63))) (v := false) kr (bne_eq_false_iff_eq.mpr (Decidable.of_not_not c24)) ?_
   refine condF kr ?_
   refine wp_skip ?_
   refine hK20 _ _ ?_
   refine wp_seq_k fun K27 hK28 => rl ?_
   refine seqL1 kr ?_
   refine seqK rfl (does_run (run_load rfl Tryz.underlying69 rfl (kv (.pointer (some ⟨b13, 1, none⟩))) (HS18.cell 1)) ?_)
   refine seqL3 kr ?_
   refine nl (hK28 _ _ ?_)
   refine wp_ret ?_
   refine hret _ _ ?_
   refine ends_still (v := Value.tuple #[.int .i64 (w64 (vt7.Lo)), .bool true]) kr kr ?_
   have HS30 := HS18.drop
   injection h with h
   injection h with h0_ h
   subst h0_ h
   exact ⟨f9, rfl, L10, HS30⟩

set_option maxRecDepth 100000 in
set_option maxHeartbeats 4000000 in
theorem frame_Number.calls (k : Nat) (A2 : Option Addr) (c3 : Nat) (A5 : Option Addr) (c6 : Nat) (vf1 : S_Frame) (key8 : ByteArray) (vto9 : ByteArray) {t w : World} {f : FM} {H : List Seg} (HS : St t w f (H)) (HR4 : SlR ty_Card f A2 c3 vf1.Cards) (HR7 : SlR (tInt .i64) f A5 c6 vf1.Counts) (HT : TabF Tryz.prog "internal/strconv.uint64pow10" .u64 Go.Lib.pow10Tab f) (rr1 : Int) (rr2 : Int) (h : frame_Number k vf1 key8 vto9 = some (rr1, rr2)) :
    Calls Tryz.prog 19 #[.agg #[.int .i64 vf1.W, .int .i64 vf1.H, .slice A2 vf1.Cards.length c3, .slice A5 vf1.Counts.length c6], .string key8, .string vto9] w (fun e w' => ∃ (g : FM), e = .returned (Value.tuple #[.int .i64 rr1, .int .i64 rr2]) ∧ FM.le f g ∧ St t w' g (H)) := by
 unfold frame_Number at h
 refine enter Tryz.func19 rfl (tm := #[(ag_Frame vf1 A2 c3 A5 c6), .string key8, .string vto9, uV, uV, uV, uV, uV, uV, uV, uV, uV, uV, uV, uV, uV, uV, uV, uV, uV, uV, uV, uV, uV, uV, uV, uV, uV, uV, uV, uV, uV, uV, uV, uV, uV, uV, uV, uV, uV, uV, uV, uV, uV, uV, uV, uV, uV, uV, uV, uV, uV, uV, uV, uV, uV, uV, uV, uV, uV, uV, uV, uV, uV, uV, uV, uV, uV, uV, uV, uV, uV, uV, uV, uV, uV, uV, uV, uV, uV]) kr ?_
 intro B hret hnor hnp
 refine wp_seq_k fun K10 hK11 => rl ?_
 refine seqK rfl (does_box (cs := #[.int .i64 vf1.W, .int .i64 vf1.H, .slice A2 vf1.Cards.length c3, .slice A5 vf1.Counts.length c6]) rfl (kv (.agg #[.int .i64 vf1.W, .int .i64 vf1.H, .slice A2 vf1.Cards.length c3, .slice A5 vf1.Counts.length c6])) rfl HS ?_)
 intro b12 W13 HS14
 refine seqL2 kr ?_
 refine nl (hK11 _ _ ?_)
 refine wp_seq_k fun K16 hK17 => rl ?_
 refine seqK rfl (does_run (run_loadN (n := 4) rfl Tryz.underlying29 rfl kr (kv (.pointer (some ⟨b12, 0, none⟩))) (cs := [.int .i64 vf1.W, .int .i64 vf1.H, .slice A2 vf1.Cards.length c3, .slice A5 vf1.Counts.length c6]) rfl (HS14.cells 0 4 _ rfl)) ?_)
 have hq_ := bind_some h; clear h; obtain ⟨⟨vt18, vt19⟩, hc20, h⟩ := hq_
 refine seqL1 kr ?_
 refine seqK rfl (does_call (f := 20) (args := #[.agg #[.int .i64 vf1.W, .int .i64 vf1.H, .slice A2 vf1.Cards.length c3, .slice A5 vf1.Counts.length c6], .string key8]) kr (frame_Get.calls k A2 c3 A5 c6 vf1 key8 HS14 HR4 HR7 vt18 vt19 hc20) ?_)
 rintro _ W23 ⟨f21, rfl, L22, HS24⟩
 refine ⟨_, rfl, ?_⟩
 refine seqL3 kr ?_
 refine seqK rfl (does_alloc (z := Value.agg #[.string ⟨#[]⟩, .string ⟨#[]⟩, .string ⟨#[]⟩, .string ⟨#[]⟩]) (cs := #[.string ⟨#[]⟩, .string ⟨#[]⟩, .string ⟨#[]⟩, .string ⟨#[]⟩]) rfl kr rfl HS24 ?_)
 intro b25 W26 HS27
 refine seqK rfl (does_storeA (vs := [.string vt18.Key, .string vt18.Value, .string vt18.Unit, .string vt18.Note]) rfl kr kr kr rfl (ones rfl) HS27 kr ?_)
 intro W29 HS30
 refine seqL1 kr ?_
 refine nl (hK17 _ _ ?_)
 refine wp_seq_k (fun K31 hK32 => ?_)
 refine wp_seq_k fun K33 hK34 => rl ?_
 refine seqL2 kr ?_
 refine nl (hK34 _ _ ?_)
 have hq_ := ite_some h; clear h; rcases hq_ with ⟨c36, h⟩ | ⟨c36, h⟩
 · have c36 : ¬ (vt19 = true) := c36
   refine wpRwI 24 kr (congrArg (fun b_ => !b_) (show vt19 = false from (Bool.eq_false_iff.mpr c36)) : (!vt19) = true) ?_
   refine condT kr ?_
   refine wp_seq_k fun K37 hK38 => rl ?_
   refine seqL2 kr ?_
   refine nl (hK38 _ _ ?_)
   refine wp_ret ?_
   refine hret _ _ ?_
   refine ends_still (v := Value.tuple #[.int .i64 0, .int .i64 8]) kr kr ?_
   have HS133 := HS30.drop
   have HS134 := HS133.drop
   injection h with h
   injection h with h0_ h
   subst h0_ h
   exact ⟨f21, rfl, L22, HS134⟩
 · have c36 : ¬ (¬ (vt19 = true)) := c36
   refine wpRwI 24 (x := (!vt19)) (v := false) kr (congrArg (fun b_ => !b_) (show vt19 = true from (Decidable.of_not_not c36)) : (!vt19) = false) ?_
   refine condF kr ?_
   refine wp_skip ?_
   refine hK32 _ _ ?_
   refine wp_seq_k fun K39 hK40 => rl ?_
   refine seqL1 kr ?_
   refine seqK rfl (does_run (run_load rfl Tryz.underlying9 rfl (kv (.pointer (some ⟨b25, 1, none⟩))) (HS30.cell 1)) ?_)
   have hq_ := bind_some h; clear h; obtain ⟨vt41, hc42, h⟩ := hq_
   refine seqK rfl (does_call (f := 37) (args := #[.string vt18.Value, .int .i64 10, .int .i64 64]) kr (strconv_ParseInt.calls k vt18.Value 10 64 HS30 vt41 hc42) ?_)
   rintro _ W45 ⟨f43, rfl, L44, HS46⟩
   refine ⟨_, rfl, ?_⟩
   refine seqL5 kr ?_
   refine nl (hK40 _ _ ?_)
   refine wp_seq_k (fun K47 hK48 => ?_)
   refine wp_seq_k (fun K49 hK50 => ?_)
   refine heldG (S := Sg t f43 ([(b25, .cells #[.string vt18.Key, .string vt18.Value, .string vt18.Unit, .string vt18.Note] 51 (0, 0))] :: [(b12, .cells #[.int .i64 vf1.W, .int .i64 vf1.H, .slice A2 vf1.Cards.length c3, .slice A5 vf1.Counts.length c6] 29 (0, 0))] :: H) []) (n := 9) kr rfl HS46 ?_
   intro W51 HS52
   refine takeGL [0, 1, 2, 3, 5] (n := 9) (fuel := 4) #[true, true, true, true, false, true, false, false, false] rfl kr kr kr hnp (Sg.g0 (Sx.of [] fL HS52)) ?_
   refine takeGQ 6 [] rfl kr kr kr kr kr kr hnp (Sg.g0 (Sx.of [] fL HS52)) (fun w_ hw_ => by obtain ⟨g_, hl_, hS_⟩ := hw_.st; exact run_load rfl Tryz.underlying9 rfl (kv (.pointer (some ⟨b25, 1, none⟩))) (hS_.cell 1)) ?_
   have hq_ := bind_some h; clear h; obtain ⟨vt53, hc54, h⟩ := hq_
   refine takeGE 4 kr rfl kr (does_call (f := 38) (args := #[.int .i64 vt41, .int .i64 10]) kr (strconv_FormatInt.calls k vt41 10 HS52 (HT.mono (L22.trans L44)) vt53 hc54) ?_)
   rintro _ W57 ⟨f55, rfl, L56, HS58⟩
   refine ⟨_, rfl, ?_⟩
   refine ⟨(Sg.g0 (Sx.of [] L56 HS58)), ?_⟩
   refine takeGL [7, 8] (n := 2) (fuel := 0) #[true, true, true, true, true, true, true, true, true] rfl kr kr kr hnp (Sg.g0 (Sx.of [] L56 HS58)) ?_
   refine doneG kr ?_ _
   refine hK50 _ _ ?_
   have hq_ := ite_some h; clear h; rcases hq_ with ⟨c60, h⟩ | ⟨c60, h⟩
   · have c60 : (!(vt53.toList == vt18.Value.toList)) = true := c60
     refine wpRwI 38 kr c60 ?_
     refine wpRwI 39 kr c60 ?_
     refine condT kr ?_
     refine wp_seq_k fun K61 hK62 => rl ?_
     refine seqL2 kr ?_
     refine nl (hK62 _ _ ?_)
     refine wp_ret ?_
     refine hret _ _ ?_
     refine ends_still (v := Value.tuple #[.int .i64 0, .int .i64 5]) kr kr ?_
     have HS135 := HS58.drop
     have HS136 := HS135.drop
     injection h with h
     injection h with h0_ h
     subst h0_ h
     exact ⟨f55, rfl, (L22.trans (L44.trans L56)), HS136⟩
   · have c60 : ¬ ((!(vt53.toList == vt18.Value.toList)) = true) := c60
     refine wpRwI 38 kr (Bool.eq_false_iff.mpr c60) ?_
     refine wpRwI 39 kr (Bool.eq_false_iff.mpr c60) ?_
     refine condF kr ?_
     refine wp_skip ?_
     refine hK48 _ _ ?_
     refine wp_seq_k (fun K63 hK64 => ?_)
     refine wp_seq_k fun K65 hK66 => rl ?_
     refine seqL1 kr ?_
     refine seqK rfl (does_run (run_load rfl Tryz.underlying9 rfl (kv (.pointer (some ⟨b25, 2, none⟩))) (HS58.cell 2)) ?_)
     refine seqL2 kr ?_
     refine nl (hK66 _ _ ?_)
     have hq_ := ite_some h; clear h; rcases hq_ with ⟨c68, h⟩ | ⟨c68, h⟩
     · have c68 : (vt18.Unit.toList == vto9.toList) = true := c68
       refine wpRwI 43 kr c68 ?_
       refine condT kr ?_
       refine wp_seq_k fun K69 hK70 => rl ?_
       refine seqL3 kr ?_
       refine nl (hK70 _ _ ?_)
       refine wp_ret ?_
       refine hret _ _ ?_
       refine ends_still (v := Value.tuple #[.int .i64 vt41, .int .i64 0]) kr kr ?_
       have HS137 := HS58.drop
       have HS138 := HS137.drop
       injection h with h
       injection h with h0_ h
       subst h0_ h
       exact ⟨f55, rfl, (L22.trans (L44.trans L56)), HS138⟩
     · have c68 : ¬ ((vt18.Unit.toList == vto9.toList) = true) := c68
       refine wpRwI 43 kr (Bool.eq_false_iff.mpr c68) ?_
       refine condF kr ?_
       refine wp_skip ?_
       refine hK64 _ _ ?_
       refine wp_seq_k fun K71 hK72 => rl ?_
       refine seqL1 kr ?_
       refine seqK rfl (does_run (run_load rfl Tryz.underlying9 rfl (kv (.pointer (some ⟨b25, 2, none⟩))) (HS58.cell 2)) ?_)
       have hq_ := bind_some h; clear h; obtain ⟨⟨vt73, vt74⟩, hc75, h⟩ := hq_
       refine seqK rfl (does_call (f := 39) (args := #[.string vt18.Unit]) kr (frame_unit.calls k vt18.Unit HS58 vt73 vt74 hc75) ?_)
       rintro _ W78 ⟨f76, rfl, L77, HS79⟩
       refine ⟨_, rfl, ?_⟩
       refine seqL5 kr ?_
       refine nl (hK72 _ _ ?_)
       refine wp_seq_k fun K80 hK81 => rl ?_
       have hq_ := bind_some h; clear h; obtain ⟨⟨vt82, vt83⟩, hc84, h⟩ := hq_
       refine seqL1 kr ?_
       refine seqK rfl (does_call (f := 39) (args := #[.string vto9]) kr (frame_unit.calls k vto9 HS79 vt82 vt83 hc84) ?_)
       rintro _ W87 ⟨f85, rfl, L86, HS88⟩
       refine ⟨_, rfl, ?_⟩
       refine seqL5 kr ?_
       refine nl (hK81 _ _ ?_)
       refine wp_seq_k (fun K89 hK90 => ?_)
       refine wp_seq_k fun K91 hK92 => rl ?_
       refine seqL3 kr ?_
       have hq_ := ite_some h; clear h; rcases hq_ with ⟨c93, h⟩ | ⟨c93, h⟩
       · have c93 : (vt73.toList == Z44.toList) = true := c93
         refine seqRwI 57 kr c93 ?_
         refine seqRwI 58 kr c93 ?_
         refine seqL4 kr ?_
         refine nl (hK92 _ _ ?_)
         refine condT kr ?_
         refine wp_seq_k fun K94 hK95 => rl ?_
         refine seqL2 kr ?_
         refine nl (hK95 _ _ ?_)
         refine wp_ret ?_
         refine hret _ _ ?_
         refine ends_still (v := Value.tuple #[.int .i64 0, .int .i64 12]) kr kr ?_
         have HS139 := HS88.drop
         have HS140 := HS139.drop
         injection h with h
         injection h with h0_ h
         subst h0_ h
         exact ⟨f85, rfl, (L22.trans (L44.trans (L56.trans (L77.trans L86)))), HS140⟩
       · have c93 : ¬ ((vt73.toList == Z44.toList) = true) := c93
         refine seqRwI 57 kr (Bool.eq_false_iff.mpr c93) ?_
         refine seqRwI 58 kr (Bool.eq_false_iff.mpr c93) ?_
         refine seqL4 kr ?_
         refine nl (hK92 _ _ ?_)
         have hq_ := ite_some h; clear h; rcases hq_ with ⟨c97, h⟩ | ⟨c97, h⟩
         · have c97 : (!(vt73.toList == vt82.toList)) = true := c97
           refine wpRwI 61 kr c97 ?_
           refine wpRwI 62 kr c97 ?_
           refine condT kr ?_
           refine wp_seq_k fun K98 hK99 => rl ?_
           refine seqL2 kr ?_
           refine nl (hK99 _ _ ?_)
           refine wp_ret ?_
           refine hret _ _ ?_
           refine ends_still (v := Value.tuple #[.int .i64 0, .int .i64 12]) kr kr ?_
           have HS141 := HS88.drop
           have HS142 := HS141.drop
           injection h with h
           injection h with h0_ h
           subst h0_ h
           exact ⟨f85, rfl, (L22.trans (L44.trans (L56.trans (L77.trans L86)))), HS142⟩
         · have c97 : ¬ ((!(vt73.toList == vt82.toList)) = true) := c97
           refine wpRwI 61 kr (Bool.eq_false_iff.mpr c97) ?_
           refine wpRwI 62 kr (Bool.eq_false_iff.mpr c97) ?_
           refine condF kr ?_
           refine wp_skip ?_
           refine hK90 _ _ ?_
           refine wp_seq_k fun K100 hK101 => rl ?_
           have hq_ := bind_some h; clear h; obtain ⟨⟨vt102, vt103⟩, hc104, h⟩ := hq_
           refine seqL2 kr ?_
           refine seqK rfl (does_call (f := 40) (args := #[.int .i64 vt41, .int .i64 vt74]) kr (num_Mul.calls k vt41 vt74 HS88 vt102 vt103 hc104) ?_)
           rintro _ W107 ⟨f105, rfl, L106, HS108⟩
           refine ⟨_, rfl, ?_⟩
           refine seqL5 kr ?_
           refine nl (hK101 _ _ ?_)
           refine wp_seq_k (fun K109 hK110 => ?_)
           refine blockK (fun B111 hx112 hn113 hr114 ho115 hp116 => ?_)
           refine wp_seq_k fun K118 hK119 => rl ?_
           refine seqL3 kr ?_
           refine nl (hK119 _ _ ?_)
           have hq_ := ite_some h; clear h; rcases hq_ with ⟨c121, h⟩ | ⟨c121, h⟩
           · have c121 : ¬ (vt103 = true) := c121
             refine wpRwI 69 kr (congrArg (fun b_ => !b_) (show vt103 = false from (Bool.eq_false_iff.mpr c121)) : (!vt103) = true) ?_
             refine wpRwI 71 kr (congrArg (fun b_ => !b_) (show vt103 = false from (Bool.eq_false_iff.mpr c121)) : (!vt103) = true) ?_
             refine condT kr ?_
             refine wp_seq_k fun K122 hK123 => rl ?_
             refine seqL2 kr ?_
             refine nl (hK123 _ _ ?_)
             refine wp_ret ?_
             refine hr114 _ _ ?_
             refine hret _ _ ?_
             refine ends_still (v := Value.tuple #[.int .i64 0, .int .i64 2]) kr kr ?_
             have HS143 := HS108.drop
             have HS144 := HS143.drop
             injection h with h
             injection h with h0_ h
             subst h0_ h
             exact ⟨f105, rfl, (L22.trans (L44.trans (L56.trans (L77.trans (L86.trans L106))))), HS144⟩
           · have c121 : ¬ (¬ (vt103 = true)) := c121
             refine wpRwI 69 (x := (!vt103)) (v := false) kr (congrArg (fun b_ => !b_) (show vt103 = true from (Decidable.of_not_not c121)) : (!vt103) = false) ?_
             refine wpRwI 71 (x := (!vt103)) (v := false) kr (congrArg (fun b_ => !b_) (show vt103 = true from (Decidable.of_not_not c121)) : (!vt103) = false) ?_
             refine condF kr ?_
             refine wp_seq_k fun K124 hK125 => rl ?_
             have hq_ := guard_some h; clear h; obtain ⟨c126, h⟩ := hq_
             have c126 : ¬ (vt83 = 0) := c126
             refine seqL2 kr ?_
             refine seqK rfl (does_run (run_rem rfl (kv (.int .i64 vt102)) (kv (.int .i64 vt83)) c126 W107) ?_)
             refine seqL2 kr ?_
             refine nl (hK125 _ _ ?_)
             have hq_ := ite_some h; clear h; rcases hq_ with ⟨c128, h⟩ | ⟨c128, h⟩
             · have c128 : (Int.tmod vt102 vt83) ≠ 0 := c128
               refine wpRwI 72 kr (bne_iff_ne.mpr c128) ?_
               refine wpRwI 76 kr (bne_iff_ne.mpr c128) ?_
               refine condT kr ?_
               refine wp_seq_k fun K129 hK130 => rl ?_
               refine seqL2 kr ?_
               refine nl (hK130 _ _ ?_)
               refine wp_ret ?_
               refine hr114 _ _ ?_
               refine hret _ _ ?_
               refine ends_still (v := Value.tuple #[.int .i64 0, .int .i64 3]) kr kr ?_
               have HS145 := HS108.drop
               have HS146 := HS145.drop
               injection h with h
               injection h with h0_ h
               subst h0_ h
               exact ⟨f105, rfl, (L22.trans (L44.trans (L56.trans (L77.trans (L86.trans L106))))), HS146⟩
             · have c128 : ¬ ((Int.tmod vt102 vt83) ≠ 0) := c128
               refine wpRwI 72 (x := ((Int.tmod vt102 vt83) != 0)) (v := false) kr (bne_eq_false_iff_eq.mpr (Decidable.of_not_not c128)) ?_
               refine wpRwI 76 (x := ((Int.tmod vt102 vt83) != 0)) (v := false) kr (bne_eq_false_iff_eq.mpr (Decidable.of_not_not c128)) ?_
               refine condF kr ?_
               refine wp_skip ?_
               refine hn113 _ _ ?_
               refine hK110 _ _ ?_
               refine wp_seq_k fun K131 hK132 => rl ?_
               refine seqL2 kr ?_
               refine seqK rfl (does_run (run_div rfl (kv (.int .i64 vt102)) (kv (.int .i64 vt83)) c126 W107) ?_)
               refine seqS2 (a' := ⟨#[(ag_Frame vf1 A2 c3 A5 c6), .string key8, .string vto9, pV b12 0, uV, uV, iV (w64 (Int.tdiv vt102 vt83)), iV 0, pV b25 0, .bool vt103, iV vt41, .nilIface, .string vt73, iV vt74, .string vt82, iV vt83, iV vt102, .tuple #[(ag_Card vt18), .bool vt19], (ag_Frame vf1 A2 c3 A5 c6), .string key8, .tuple #[(ag_Card vt18), .bool vt19], (ag_Card vt18), .bool vt19, .bool vt19, fV, .tuple #[iV vt41, .nilIface], pV b25 1, .string vt18.Value, .tuple #[iV vt41, .nilIface], iV vt41, .nilIface, .nilIface, fV, fV, iV vt41, .string vt53, pV b25 1, .string vt18.Value, fV, fV, pV b25 2, .string vt18.Unit, .string vto9, fV, uV, .tuple #[.string vt73, iV vt74], pV b25 2, .string vt18.Unit, .tuple #[.string vt73, iV vt74], .string vt73, iV vt74, .tuple #[.string vt82, iV vt83], .string vto9, .tuple #[.string vt82, iV vt83], .string vt82, iV vt83, .string vt73, fV, fV, .string vt73, .string vt82, fV, fV, .tuple #[iV vt102, .bool vt103], iV vt41, iV vt74, .tuple #[iV vt102, .bool vt103], iV vt102, .bool vt103, fV, .bool vt103, fV, fV, iV vt102, iV vt83, iV (Int.tmod vt102 vt83), fV, iV vt102, iV vt83, iV (w64 (Int.tdiv vt102 vt83))], []⟩) kr ?_
               refine nl (hK132 _ _ ?_)
               refine wp_ret ?_
               refine hret _ _ ?_
               refine ends_still (v := Value.tuple #[.int .i64 (w64 (Int.tdiv vt102 vt83)), .int .i64 0]) kr kr ?_
               have HS147 := HS108.drop
               have HS148 := HS147.drop
               injection h with h
               injection h with h0_ h
               subst h0_ h
               exact ⟨f105, rfl, (L22.trans (L44.trans (L56.trans (L77.trans (L86.trans L106))))), HS148⟩

set_option maxRecDepth 100000 in
set_option maxHeartbeats 4000000 in
theorem spykeep3_filed.calls (k : Nat)   {t w : World} {f : FM} {H : List Seg} (HS : St t w f (H)) (HA : TabF Tryz.prog "strings.asciiSpace" .u8 Go.Lib.asciiSpaceTab f) (HM : VarI 5 f) (HT : TabF Tryz.prog "internal/strconv.uint64pow10" .u64 Go.Lib.pow10Tab f) (rr1 : Bool) (h : spykeep3_filed k = some rr1) :
    Calls Tryz.prog 9 #[] w (fun e w' => ∃ (g : FM), e = .returned (Value.bool rr1) ∧ FM.le f g ∧ St t w' g (H)) := by
 unfold spykeep3_filed at h
 refine enter Tryz.func9 rfl (tm := #[uV, uV, uV, uV, uV, uV, uV, uV, uV, uV, uV, uV, uV, uV, uV, uV, uV, uV, uV, uV, uV, uV, uV, uV, uV, uV, uV, uV, uV, uV, uV, uV, uV, uV, uV, uV, uV, uV, uV, uV, uV, uV, uV, uV, uV, uV]) kr ?_
 intro B hret hnor hnp
 refine wp_seq_k fun K1 hK2 => rl ?_
 refine seqL1 kr ?_
 refine nl (hK2 _ _ ?_)
 refine wp_seq_k fun K3 hK4 => rl ?_
 refine seqL1 kr ?_
 refine seqK rfl (does_lit (e := ty_Card) (E := 51) (vs := #[(0, Value.agg #[.string ⟨#[65]⟩, .string ⟨#[51]⟩, .string ⟨#[98, 101, 97, 116]⟩, .string ⟨#[]⟩])]) (cs := #[.string ⟨#[65]⟩, .string ⟨#[51]⟩, .string ⟨#[98, 101, 97, 116]⟩, .string ⟨#[]⟩]) (xs := ([(⟨Z23, Z19, Z41, Z44⟩ : S_Card)] : List S_Card)) rfl Tryz.underlying27 kr kr ⟨[.string ⟨#[65]⟩, .string ⟨#[51]⟩, .string ⟨#[98, 101, 97, 116]⟩, .string ⟨#[]⟩], _, rfl, rfl, rfl⟩ rfl HS ?_ (by decide))
 intro b5 W6 s7 HS8 _ HO9
 refine seqK rfl (does_lit (e := (tInt .i64)) (E := 3) (vs := #[(0, Value.int .i64 9)]) (cs := #[.int .i64 9]) (xs := ([9] : List Int)) rfl Tryz.underlying22 kr kr ⟨[.int .i64 9], _, rfl, rfl, rfl⟩ rfl HS8 ?_ (by decide))
 intro b11 W12 s13 HS14 _ HO15
 refine seqL1 kr ?_
 refine seqK rfl (does_alloc (z := Value.agg #[.int .i64 0, .int .i64 0, .slice none 0 0, .slice none 0 0]) (cs := #[.int .i64 0, .int .i64 0, .slice none 0 0, .slice none 0 0]) rfl kr rfl HS14 ?_)
 intro b17 W18 HS19
 refine seqK rfl (does_storeA (vs := [.int .i64 1, .int .i64 1, .slice (some ⟨b5, 0, none⟩) ([(⟨Z23, Z19, Z41, Z44⟩ : S_Card)] : List S_Card).length 1, .slice (some ⟨b11, 0, none⟩) ([9] : List Int).length 1]) rfl kr kr kr rfl (ones rfl) HS19 kr ?_)
 intro W21 HS22
 refine nl (hK4 _ _ ?_)
 refine wp_seq_k fun K23 hK24 => rl ?_
 refine seqK rfl (does_run (run_loadN (n := 4) rfl Tryz.underlying29 rfl kr (kv (.pointer (some ⟨b17, 0, none⟩))) (cs := [.int .i64 1, .int .i64 1, .slice (some ⟨b5, 0, none⟩) ([(⟨Z23, Z19, Z41, Z44⟩ : S_Card)] : List S_Card).length 1, .slice (some ⟨b11, 0, none⟩) ([9] : List Int).length 1]) rfl (HS22.cells 0 4 _ rfl)) ?_)
 have HS25 := HS22.u2
 obtain ⟨f26, L27, HS28, HR29, th30⟩ := HO9.lend HS25
 have HS31 := HS28.u1
 obtain ⟨f32, L33, HS34, HR35, th36⟩ := (HO15.mono L27).lend HS31
 have hq_ := bind_some h; clear h; obtain ⟨⟨vt37, vt38⟩, hc39, h⟩ := hq_
 refine seqK rfl (does_call (f := 7) (args := #[.agg #[.int .i64 1, .int .i64 1, .slice (some ⟨b5, 0, none⟩) ([(⟨Z23, Z19, Z41, Z44⟩ : S_Card)] : List S_Card).length 1, .slice (some ⟨b11, 0, none⟩) ([9] : List Int).length 1]]) kr (frame_Encode.calls k (some ⟨b5, 0, none⟩) 1 (some ⟨b11, 0, none⟩) 1 (⟨1, 1, ([(⟨Z23, Z19, Z41, Z44⟩ : S_Card)] : List S_Card), ([9] : List Int)⟩ : S_Frame) HS34 (HR29.mono L33) HR35 (HA.mono (L27.trans L33)) (HT.mono (L27.trans L33)) vt37 vt38 hc39) ?_)
 rintro _ W42 ⟨f40, A44, c45, s46, rfl, L41, HS43, HO47⟩
 refine ⟨_, rfl, ?_⟩
 obtain ⟨f49, L50, HS51⟩ := th36 L41 HS43
 obtain ⟨f52, L53, HS54⟩ := th30 L50 HS51
 replace HO47 := HO47.flat (g := f52) (fun _ _ _ _ h_ => h_)
 refine seqL5 kr ?_
 refine nl (hK24 _ _ ?_)
 refine wp_seq_k fun K55 hK56 => rl ?_
 have HS57 := HS54.u2
 obtain ⟨f58, L59, HS60, HR61⟩ := HO47.freeze HS57
 have hq_ := bind_some h; clear h; obtain ⟨⟨vt62, vt63⟩, hc64, h⟩ := hq_
 refine seqL1 kr ?_
 refine seqK rfl (does_call (f := 12) (args := #[.slice A44 vt37.length c45]) kr (frame_Decode.calls k A44 c45 vt37 HS60 HR61 (HA.mono (L53.trans L59)) (HM.mono (L53.trans L59)) (HT.mono (L53.trans L59)) vt62 vt63 hc64) ?_)
 rintro _ W67 ⟨f65, A69, c70, A72, c73, s74, rfl, L66, HS68, HR71, HO75⟩
 refine ⟨_, rfl, ?_⟩
 refine seqL3 kr ?_
 refine seqK rfl (does_alloc (z := Value.agg #[.int .i64 0, .int .i64 0, .slice none 0 0, .slice none 0 0]) (cs := #[.int .i64 0, .int .i64 0, .slice none 0 0, .slice none 0 0]) rfl kr rfl HS68 ?_)
 intro b77 W78 HS79
 refine seqK rfl (does_storeA (vs := [.int .i64 vt62.W, .int .i64 vt62.H, .slice A69 vt62.Cards.length c70, .slice A72 vt62.Counts.length c73]) rfl kr kr kr rfl (ones rfl) HS79 kr ?_)
 intro W81 HS82
 refine seqL1 kr ?_
 refine nl (hK56 _ _ ?_)
 refine wp_seq_k fun K83 hK84 => rl ?_
 refine seqK rfl (does_run (run_loadN (n := 4) rfl Tryz.underlying29 rfl kr (kv (.pointer (some ⟨b77, 0, none⟩))) (cs := [.int .i64 vt62.W, .int .i64 vt62.H, .slice A69 vt62.Cards.length c70, .slice A72 vt62.Counts.length c73]) rfl (HS82.cells 0 4 _ rfl)) ?_)
 have HS85 := HS82.u1
 obtain ⟨f86, L87, HS88, HR89, th90⟩ := HO75.lend HS85
 have hq_ := bind_some h; clear h; obtain ⟨⟨vt91, vt92⟩, hc93, h⟩ := hq_
 refine seqK rfl (does_call (f := 19) (args := #[.agg #[.int .i64 vt62.W, .int .i64 vt62.H, .slice A69 vt62.Cards.length c70, .slice A72 vt62.Counts.length c73], .string ⟨#[65]⟩, .string ⟨#[116, 105, 99, 107]⟩]) kr (frame_Number.calls k A69 c70 A72 c73 vt62 Z23 Z9 HS88 (HR71.mono L87) HR89 (HT.mono (L53.trans (L59.trans (L66.trans L87)))) vt91 vt92 hc93) ?_)
 rintro _ W96 ⟨f94, rfl, L95, HS97⟩
 refine ⟨_, rfl, ?_⟩
 obtain ⟨f98, L99, HS100⟩ := th90 L95 HS97
 refine seqL5 kr ?_
 refine nl (hK84 _ _ ?_)
 refine wp_seq_k fun K101 hK102 => rl ?_
 refine seqL3 kr ?_
 have hq_ := ite_some h; clear h; rcases hq_ with ⟨c103, h⟩ | ⟨c103, h⟩
 · have c103 : vt38 = 0 := c103
   refine seqRwI 28 kr (beq_iff_eq.mpr c103) ?_
   refine seqRwI 29 kr (beq_iff_eq.mpr c103) ?_
   refine seqL4 kr ?_
   have hq_ := ite_some h; clear h; rcases hq_ with ⟨c104, h⟩ | ⟨c104, h⟩
   · have c104 : vt63 = 0 := c104
     refine seqRwI 31 kr (beq_iff_eq.mpr c104) ?_
     refine seqRwI 32 kr (beq_iff_eq.mpr c104) ?_
     refine seqRwI 33 kr (beq_iff_eq.mpr c104) ?_
     refine seqL4 kr ?_
     have hq_ := ite_some h; clear h; rcases hq_ with ⟨c105, h⟩ | ⟨c105, h⟩
     · have c105 : vt92 = 0 := c105
       refine seqRwI 35 kr (beq_iff_eq.mpr c105) ?_
       refine seqRwI 36 kr (beq_iff_eq.mpr c105) ?_
       refine seqRwI 37 kr (beq_iff_eq.mpr c105) ?_
       refine seqL4 kr ?_
       have hq_ := ite_some h; clear h; rcases hq_ with ⟨c106, h⟩ | ⟨c106, h⟩
       · have c106 : vt91 = 3000 := c106
         refine seqRwI 39 kr (beq_iff_eq.mpr c106) ?_
         refine seqRwI 40 kr (beq_iff_eq.mpr c106) ?_
         refine seqRwI 41 kr (beq_iff_eq.mpr c106) ?_
         refine seqL5 kr ?_
         refine nl (hK102 _ _ ?_)
         refine wp_ret ?_
         refine hret _ _ ?_
         refine ends_still (v := Value.bool ((vt37.length : Int) == 780)) kr kr ?_
         have HS107 := HS100.drop
         have HS108 := HS107.drop
         have HS109 := HS108.drop
         have HS110 := HS109.drop
         have HS111 := HS110.drop
         injection h with h
         subst h
         exact ⟨f98, rfl, (L53.trans (L59.trans (L66.trans L99))), HS111⟩
       · have c106 : ¬ (vt91 = 3000) := c106
         refine seqRwI 39 kr (beq_eq_false_iff_ne.mpr c106) ?_
         refine seqRwI 40 kr (beq_eq_false_iff_ne.mpr c106) ?_
         refine seqRwI 41 kr (beq_eq_false_iff_ne.mpr c106) ?_
         refine seqL5 kr ?_
         refine nl (hK102 _ _ ?_)
         refine wp_ret ?_
         refine hret _ _ ?_
         refine ends_still (v := Value.bool false) kr kr ?_
         have HS112 := HS100.drop
         have HS113 := HS112.drop
         have HS114 := HS113.drop
         have HS115 := HS114.drop
         have HS116 := HS115.drop
         injection h with h
         subst h
         exact ⟨f98, rfl, (L53.trans (L59.trans (L66.trans L99))), HS116⟩
     · have c105 : ¬ (vt92 = 0) := c105
       refine seqRwI 35 kr (beq_eq_false_iff_ne.mpr c105) ?_
       refine seqRwI 36 kr (beq_eq_false_iff_ne.mpr c105) ?_
       refine seqRwI 37 kr (beq_eq_false_iff_ne.mpr c105) ?_
       refine seqL9 kr ?_
       refine nl (hK102 _ _ ?_)
       refine wp_ret ?_
       refine hret _ _ ?_
       refine ends_still (v := Value.bool false) kr kr ?_
       have HS117 := HS100.drop
       have HS118 := HS117.drop
       have HS119 := HS118.drop
       have HS120 := HS119.drop
       have HS121 := HS120.drop
       injection h with h
       subst h
       exact ⟨f98, rfl, (L53.trans (L59.trans (L66.trans L99))), HS121⟩
   · have c104 : ¬ (vt63 = 0) := c104
     refine seqRwI 31 kr (beq_eq_false_iff_ne.mpr c104) ?_
     refine seqRwI 32 kr (beq_eq_false_iff_ne.mpr c104) ?_
     refine seqRwI 33 kr (beq_eq_false_iff_ne.mpr c104) ?_
     refine seqL13 kr ?_
     refine nl (hK102 _ _ ?_)
     refine wp_ret ?_
     refine hret _ _ ?_
     refine ends_still (v := Value.bool false) kr kr ?_
     have HS122 := HS100.drop
     have HS123 := HS122.drop
     have HS124 := HS123.drop
     have HS125 := HS124.drop
     have HS126 := HS125.drop
     injection h with h
     subst h
     exact ⟨f98, rfl, (L53.trans (L59.trans (L66.trans L99))), HS126⟩
 · have c103 : ¬ (vt38 = 0) := c103
   refine seqRwI 28 kr (beq_eq_false_iff_ne.mpr c103) ?_
   refine seqRwI 29 kr (beq_eq_false_iff_ne.mpr c103) ?_
   refine seqL17 kr ?_
   refine nl (hK102 _ _ ?_)
   refine wp_ret ?_
   refine hret _ _ ?_
   refine ends_still (v := Value.bool false) kr kr ?_
   have HS127 := HS100.drop
   have HS128 := HS127.drop
   have HS129 := HS128.drop
   have HS130 := HS129.drop
   have HS131 := HS130.drop
   injection h with h
   subst h
   exact ⟨f98, rfl, (L53.trans (L59.trans (L66.trans L99))), HS131⟩

set_option maxRecDepth 100000 in
set_option maxHeartbeats 4000000 in
theorem slices_Equal_int.calls (k : Nat) (A2 : Option Addr) (c3 : Nat) (A6 : Option Addr) (c7 : Nat) (s11 : List Int) (s25 : List Int) {t w : World} {f : FM} {H : List Seg} (HS : St t w f (H)) (HR4 : SlR (tInt .i64) f A2 c3 s11) (HR8 : SlR (tInt .i64) f A6 c7 s25) (rr1 : Bool) (h : slices_Equal_int k s11 s25 = some rr1) :
    Calls Tryz.prog 13 #[.slice A2 s11.length c3, .slice A6 s25.length c7] w (fun e w' => ∃ (g : FM), e = .returned (Value.bool rr1) ∧ FM.le f g ∧ St t w' g (H)) := by
 unfold slices_Equal_int at h
 refine enter Tryz.func13 rfl (tm := #[.slice A2 s11.length c3, .slice A6 s25.length c7, uV, uV, uV, uV, uV, uV, uV, uV, uV, uV, uV, uV, uV, uV, uV, uV, uV, uV, uV, uV, uV, uV, uV, uV]) kr ?_
 intro B hret hnor hnp
 refine wp_seq_k fun K9 hK10 => rl ?_
 refine seqL1 kr ?_
 refine nl (hK10 _ _ ?_)
 refine wp_seq_k (fun K11 hK12 => ?_)
 refine wp_seq_k fun K13 hK14 => rl ?_
 refine seqL5 kr ?_
 refine nl (hK14 _ _ ?_)
 have hq_ := ite_some h; clear h; rcases hq_ with ⟨c16, h⟩ | ⟨c16, h⟩
 · have c16 : (s11.length : Int) ≠ (s25.length : Int) := c16
   refine wpRwI 10 kr (bne_iff_ne.mpr c16) ?_
   refine condT kr ?_
   refine wp_seq_k fun K17 hK18 => rl ?_
   refine seqL1 kr ?_
   refine nl (hK18 _ _ ?_)
   refine wp_ret ?_
   refine hret _ _ ?_
   refine ends_still (v := Value.bool false) kr kr ?_
   injection h with h
   subst h
   exact ⟨f, rfl, FM.le.refl _, HS⟩
 · have c16 : ¬ ((s11.length : Int) ≠ (s25.length : Int)) := c16
   refine wpRwI 10 (x := ((s11.length : Int) != (s25.length : Int))) (v := false) kr (bne_eq_false_iff_eq.mpr (Decidable.of_not_not c16)) ?_
   refine condF kr ?_
   refine wp_skip ?_
   refine hK12 _ _ ?_
   refine wp_seq_k (fun K19 hK20 => ?_)
   refine wp_seq_k fun K21 hK22 => rl ?_
   refine seqL3 kr ?_
   refine nl (hK22 _ _ ?_)
   refine blockK (fun B23 hx24 hn25 hr26 ho27 hp28 => ?_)
   have hq_ := bind_some h; clear h; obtain ⟨o29, hv83, h⟩ := hq_
   have JR85 : ∀ z_, some (Sum.inl z_) = some o29 → some z_ = some rr1 := by
    intro z_ e_; injection e_ with e_; subst e_; exact h
   have J84 : ∀ (f78 : FM) (j82 : Nat → Value) (W80 : World) (a_ : Act), FM.le f f78 → some (Sum.inr ()) = some o29 → St t W80 f78 (H) → a_ = ⟨#[.slice A2 s11.length c3, .slice A6 s25.length c7, uV, uV, (j82 0), (j82 1), .slice A2 s11.length c3, iV (s11.length : Int), .slice A6 s25.length c7, iV (s25.length : Int), fV, .slice A2 s11.length c3, iV (s11.length : Int), (j82 2), (j82 3), (j82 4), (j82 5), (j82 6), (j82 7), (j82 8), (j82 9), (j82 10), (j82 11), (j82 12), (j82 13), (j82 14)], []⟩ → K19 a_ W80 := by
    intro f78 j82 W80 a_ L79 hj86 HS81  hfr_; subst hfr_
    injection hj86 with hj86; subst hj86; try dsimp only at h
    simp only [Sum.elim_inr] at h
    refine hK20 _ _ ?_
    refine wp_seq_k fun K87 hK88 => rl ?_
    refine seqL1 kr ?_
    refine nl (hK88 _ _ ?_)
    refine wp_ret ?_
    refine hret _ _ ?_
    refine ends_still (v := Value.bool true) kr kr ?_
    injection h with h
    subst h
    exact ⟨f78, rfl, L79, HS81⟩
   clear h; have h := hv83; clear hv83
   refine loopK (fun n_ a_ w_ => ∃ (f33 : FM) (x38 : Int) (j37 : Nat → Value), FM.le f f33 ∧ St t w_ f33 (H) ∧ slices_Equal_int.l0 k s11 s25 n_ x38 = some o29 ∧ a_ = ⟨#[.slice A2 s11.length c3, .slice A6 s25.length c7, uV, uV, (j37 0), (j37 1), .slice A2 s11.length c3, iV (s11.length : Int), .slice A6 s25.length c7, iV (s25.length : Int), fV, .slice A2 s11.length c3, iV (s11.length : Int), iV x38, (j37 2), (j37 3), (j37 4), (j37 5), (j37 6), (j37 7), (j37 8), (j37 9), (j37 10), (j37 11), (j37 12), (j37 13)], []⟩) k ⟨f, 0, (jL [fV]), fL, HS, h, kr⟩ ?_
   clear h
   rintro n32 _ W35 ⟨f33, x38, j37, L34, HS36, h, rfl⟩ K30 hK31
   obtain _ | n32 := n32
   · exact nomatch h
   simp only [slices_Equal_int.l0] at h
   refine wp_seq_k fun K39 hK40 => rl ?_
   refine seqL1 kr ?_
   refine nl (hK40 _ _ ?_)
   refine wp_seq_k (fun K41 hK42 => ?_)
   have hq_ := ite_some h; clear h; rcases hq_ with ⟨c44, h⟩ | ⟨c44, h⟩
   · have c44 : x38 < (s11.length : Int) := c44
     refine wpRwI 14 kr (decide_eq_true c44) ?_
     refine condT kr ?_
     refine wp_skip ?_
     refine hK42 _ _ ?_
     refine wp_seq_k (fun K45 hK46 => ?_)
     refine blockK (fun B47 hx48 hn49 hr50 ho51 hp52 => ?_)
     refine wp_seq_k fun K54 hK55 => rl ?_
     refine seqL2 kr ?_
     refine nl (hK55 _ _ ?_)
     refine wp_seq_k (fun K56 hK57 => ?_)
     refine heldG (S := Sg t f33 (H) []) (n := 9) kr rfl HS36 ?_
     intro W58 HS59
     have hq_ := guard_some h; clear h; obtain ⟨c60, h⟩ := hq_
     have c60 : 0 ≤ x38 := c60
     obtain ⟨b64, of65, cs61, hA66, hr62, hc63⟩ := (HR4.mono L34).at (i := x38) c60 c44
     obtain rfl := hr62
     refine takeGL [0, 1] (n := 9) (fuel := 7) #[true, true, false, false, false, false, false, false, false] rfl kr kr kr (fun ch_ a_ w_ q_ => (fun ch_ a_ w_ q_ => hnp ch_ a_ w_ (hp28 ch_ a_ w_ q_)) ch_ a_ w_ (hp52 ch_ a_ w_ q_)) (Sg.g0 (Sx.of [] fL HS59)) ?_
     refine takeGQ 2 [] rfl kr kr kr kr kr kr (fun ch_ a_ w_ q_ => (fun ch_ a_ w_ q_ => hnp ch_ a_ w_ (hp28 ch_ a_ w_ q_)) ch_ a_ w_ (hp52 ch_ a_ w_ q_)) (Sg.g0 (Sx.of [] fL HS59)) (fun w_ hw_ => by obtain ⟨g_, hl_, hS_⟩ := hw_.st; exact run_indexE hA66 (sz := 1) rfl Tryz.underlying22 kr (kv (.slice A2 s11.length c3)) (kv (.int .i64 x38)) c60 c44 w_) ?_
     refine takeGQ 3 [] rfl kr kr kr kr kr kr (fun ch_ a_ w_ q_ => (fun ch_ a_ w_ q_ => hnp ch_ a_ w_ (hp28 ch_ a_ w_ q_)) ch_ a_ w_ (hp52 ch_ a_ w_ q_)) (Sg.g0 (Sx.of [] fL HS59)) (fun w_ hw_ => by obtain ⟨g_, hl_, hS_⟩ := hw_.st; exact run_load rfl Tryz.underlying3 rfl (kv (.pointer (some ⟨b64, of65 + (x38 : Int).toNat * 1, none⟩))) ((hc63 hl_ hS_) 0 (by decide))) ?_
     have hq_ := guard_some h; clear h; obtain ⟨c67, h⟩ := hq_
     have c67 : x38 < (s25.length : Int) := c67
     obtain ⟨b71, of72, cs68, hA73, hr69, hc70⟩ := (HR8.mono L34).at (i := x38) c60 c67
     obtain rfl := hr69
     refine takeGL [4, 5] (n := 5) (fuel := 3) #[true, true, true, true, true, true, false, false, false] rfl kr kr kr (fun ch_ a_ w_ q_ => (fun ch_ a_ w_ q_ => hnp ch_ a_ w_ (hp28 ch_ a_ w_ q_)) ch_ a_ w_ (hp52 ch_ a_ w_ q_)) (Sg.g0 (Sx.of [] fL HS59)) ?_
     refine takeGQ 6 [] rfl kr kr kr kr kr kr (fun ch_ a_ w_ q_ => (fun ch_ a_ w_ q_ => hnp ch_ a_ w_ (hp28 ch_ a_ w_ q_)) ch_ a_ w_ (hp52 ch_ a_ w_ q_)) (Sg.g0 (Sx.of [] fL HS59)) (fun w_ hw_ => by obtain ⟨g_, hl_, hS_⟩ := hw_.st; exact run_indexE hA73 (sz := 1) rfl Tryz.underlying22 kr (kv (.slice A6 s25.length c7)) (kv (.int .i64 x38)) c60 c67 w_) ?_
     refine takeGQ 7 [] rfl kr kr kr kr kr kr (fun ch_ a_ w_ q_ => (fun ch_ a_ w_ q_ => hnp ch_ a_ w_ (hp28 ch_ a_ w_ q_)) ch_ a_ w_ (hp52 ch_ a_ w_ q_)) (Sg.g0 (Sx.of [] fL HS59)) (fun w_ hw_ => by obtain ⟨g_, hl_, hS_⟩ := hw_.st; exact run_load rfl Tryz.underlying3 rfl (kv (.pointer (some ⟨b71, of72 + (x38 : Int).toNat * 1, none⟩))) ((hc70 hl_ hS_) 0 (by decide))) ?_
     refine takeGL [8] (n := 1) (fuel := 0) #[true, true, true, true, true, true, true, true, true] rfl kr kr kr (fun ch_ a_ w_ q_ => (fun ch_ a_ w_ q_ => hnp ch_ a_ w_ (hp28 ch_ a_ w_ q_)) ch_ a_ w_ (hp52 ch_ a_ w_ q_)) (Sg.g0 (Sx.of [] fL HS59)) ?_
     refine doneG kr ?_ _
     refine hK57 _ _ ?_
     have hq_ := ite_some h; clear h; rcases hq_ with ⟨c75, h⟩ | ⟨c75, h⟩
     · have c75 : (rd s11 x38) ≠ (rd s25 x38) := c75
       refine wpRwI 24 kr (bne_iff_ne.mpr c75) ?_
       refine condT kr ?_
       refine wp_seq_k fun K76 hK77 => rl ?_
       refine seqL1 kr ?_
       refine nl (hK77 _ _ ?_)
       refine wp_ret ?_
       refine hr50 _ _ ?_
       refine hr26 _ _ ?_
       refine hret _ _ ?_
       refine ends_still (v := Value.bool false) kr kr ?_
       replace h := JR85 _ h
       injection h with h
       subst h
       exact ⟨f33, rfl, L34, HS59⟩
     · have c75 : ¬ ((rd s11 x38) ≠ (rd s25 x38)) := c75
       refine wpRwI 24 (x := ((rd s11 x38) != (rd s25 x38))) (v := false) kr (bne_eq_false_iff_eq.mpr (Decidable.of_not_not c75)) ?_
       refine condF kr ?_
       refine wp_skip ?_
       refine hn49 _ _ ?_
       refine hK46 _ _ ?_
       refine rl ?_
       refine seqL2 kr ?_
       refine nl ?_
       refine hK31 n32 _ _ (Nat.lt_succ_self _) ?_
       exact ⟨f33, (w64 (x38 + 1)), (jL [(j37 0), iV x38, tV, iV x38, .slice A2 s11.length c3, iV x38, .pointer (some ⟨b64, of65 + (x38 : Int).toNat * 1, none⟩), iV (rd s11 x38), .slice A6 s25.length c7, iV x38, .pointer (some ⟨b71, of72 + (x38 : Int).toNat * 1, none⟩), iV (rd s25 x38), fV, iV (w64 (x38 + 1))]), L34, HS59, h, kr⟩
   · have c44 : ¬ (x38 < (s11.length : Int)) := c44
     refine wpRwI 14 kr (decide_eq_false c44) ?_
     refine condF kr ?_
     refine wp_exit ?_
     refine hx24 _ _ ?_
     exact J84 f33 (jL [(j37 0), (j37 1), iV x38, fV, (j37 3), (j37 4), (j37 5), (j37 6), (j37 7), (j37 8), (j37 9), (j37 10), (j37 11), (j37 12), (j37 13)]) W35 _ L34 h HS36 kr

end Go.Sp.T6
