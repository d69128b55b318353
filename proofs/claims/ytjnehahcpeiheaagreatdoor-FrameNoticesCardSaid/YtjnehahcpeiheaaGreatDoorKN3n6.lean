import Derived.Test.YtjnehahcpeiheaaGreatDoorProg
import Derived.Test.YtjnehahcpeiheaaGreatDoorSpCopy
import Derived.Test.YtjnehahcpeiheaaGreatDoorFN3
import Derived.Test.YtjnehahcpeiheaaGreatDoorSpStr
import Derived.Test.YtjnehahcpeiheaaGreatDoorSpLib
import Derived.Test.YtjnehahcpeiheaaGreatDoorSpBld
import Derived.Test.YtjnehahcpeiheaaGreatDoorConv
import Derived.Test.YtjnehahcpeiheaaGreatDoorLibs
import Derived.Test.YtjnehahcpeiheaaGreatDoorSpRound
import Derived.Test.YtjnehahcpeiheaaGreatDoorKN3n0
import Derived.Test.YtjnehahcpeiheaaGreatDoorKN3n1
import Derived.Test.YtjnehahcpeiheaaGreatDoorKN3n2
import Derived.Test.YtjnehahcpeiheaaGreatDoorKN3n3
import Derived.Test.YtjnehahcpeiheaaGreatDoorKN3n4
import Derived.Test.YtjnehahcpeiheaaGreatDoorKN3n5
namespace Go.Sp.N3
open Go Go.Sp Go.Proofs
set_option linter.unusedVariables false
attribute [local irreducible] wpList AnyL Code.wp Calls Does Code.wpIn wpListIn CallsIn bodyPostM LeavesInM
set_option maxRecDepth 100000 in
set_option maxHeartbeats 4000000 in
theorem spykeep3_FrameNotices.calls (k : Nat) (A2 : Option Addr) (c3 : Nat) (l1 : List Int) (vat5 : Int) (x6 : Int) {t w : World} {f : FM} {H : List Seg} (HS : St t w f (H)) (HR4 : SlR (tInt .i64) f A2 c3 l1) (HA : TabF Tryz.prog "strings.asciiSpace" .u8 Go.Lib.asciiSpaceTab f) (HM : VarI 5 f) (HT : TabF Tryz.prog "internal/strconv.uint64pow10" .u64 Go.Lib.pow10Tab f) (rr1 : Bool) (h : spykeep3_FrameNotices k l1 vat5 x6 = some rr1) :
    Calls Tryz.prog 3 #[.slice A2 l1.length c3, .int .i64 vat5, .int .u8 x6] w (fun e w' => ∃ (g : FM), e = .returned (Value.bool rr1) ∧ FM.le f g ∧ St t w' g (H)) := by
 unfold spykeep3_FrameNotices at h
 refine enter Tryz.func3 rfl (tm := #[.slice A2 l1.length c3, iV vat5, .int .u8 x6, uV, uV, uV, uV, uV, uV, uV, uV, uV, uV, uV, uV, uV, uV, uV, uV, uV, uV, uV, uV, uV, uV, uV, uV, uV, uV, uV, uV, uV, uV, uV, uV, uV, uV, uV, uV, uV, uV, uV, uV, uV, uV, uV, uV, uV, uV, uV, uV, uV, uV, uV, uV, uV, uV, uV, uV, uV, uV, uV, uV, uV, uV, uV, uV]) kr ?_
 intro B hret hnor hnp
 refine wp_seq_k fun K7 hK8 => rl ?_
 refine seqL1 kr ?_
 refine nl (hK8 _ _ ?_)
 refine wp_seq_k fun K9 hK10 => rl ?_
 refine seqL2 kr ?_
 refine seqK rfl (does_box (cs := #[.slice A2 l1.length c3, .int .i64 0]) rfl (kv (.agg #[.slice A2 l1.length c3, .int .i64 0])) rfl HS ?_)
 intro b11 W12 HS13
 have hq_ := bind_some h; clear h; obtain ⟨⟨vt15, vt16⟩, hc17, h⟩ := hq_
 refine seqK rfl (does_call (f := 8) (args := #[.pointer (some ⟨b11, 0, none⟩)]) kr (spykeep3_noted.calls k b11 A2 c3 (⟨l1, 0⟩ : S_Stream) HS13 HR4 HT vt15 vt16 hc17) ?_)
 rintro _ W20 ⟨f18, A22, c23, s24, A27, c28, rfl, L19, HS21, HO25, HR29⟩
 refine ⟨_, rfl, ?_⟩
 obtain ⟨f30, L31, HS32, HR33, th34⟩ := HO25.lend HS21
 have hq_ := bind_some h; clear h; obtain ⟨⟨vt35, vt36⟩, hc37, h⟩ := hq_
 refine seqK rfl (does_call (f := 7) (args := #[.agg #[.int .i64 vt15.W, .int .i64 vt15.H, .slice A22 vt15.Cards.length c23, .slice A27 vt15.Counts.length c28]]) kr (frame_Encode.calls k A22 c23 A27 c28 vt15 HS32 HR33 (HR29.mono L31) (HA.mono (L19.trans L31)) (HT.mono (L19.trans L31)) vt35 vt36 hc37) ?_)
 rintro _ W40 ⟨f38, A42, c43, s44, rfl, L39, HS41, HO45⟩
 refine ⟨_, rfl, ?_⟩
 obtain ⟨f47, L48, HS49⟩ := th34 L39 HS41
 replace HO45 := HO45.flat (g := f47) (fun _ _ _ _ h_ => h_)
 refine seqL5 kr ?_
 refine nl (hK10 _ _ ?_)
 refine wp_seq_k (fun K50 hK51 => ?_)
 refine wp_seq_k fun K52 hK53 => rl ?_
 have hq_ := bind_some h; clear h; obtain ⟨vt54, hc55, h⟩ := hq_
 refine seqK rfl (does_call (f := 9) (args := #[]) kr (spykeep3_filed.calls k  HS49 (HA.mono (L19.trans L48)) (HM.mono (L19.trans L48)) (HT.mono (L19.trans L48)) vt54 hc55) ?_)
 rintro _ W58 ⟨f56, rfl, L57, HS59⟩
 refine ⟨_, rfl, ?_⟩
 refine seqL2 kr ?_
 have hq_ := ite_some h; clear h; rcases hq_ with ⟨c60, h⟩ | ⟨c60, h⟩
 · have c60 : ¬ (vt54 = true) := c60
   refine seqRwI 22 (x := (!vt54)) (v := true) kr (congrArg (fun b_ => !b_) (show vt54 = false from (Bool.eq_false_iff.mpr c60)) : (!vt54) = true) ?_
   refine seqRwI 23 (x := (!vt54)) (v := true) kr (congrArg (fun b_ => !b_) (show vt54 = false from (Bool.eq_false_iff.mpr c60)) : (!vt54) = true) ?_
   refine seqL8 kr ?_
   refine nl (hK53 _ _ ?_)
   refine condT kr ?_
   refine wp_seq_k fun K61 hK62 => rl ?_
   refine seqL1 kr ?_
   refine nl (hK62 _ _ ?_)
   refine wp_ret ?_
   refine hret _ _ ?_
   refine ends_still (v := Value.bool false) kr kr ?_
   have HS175 := HS59.drop
   have HS176 := HS175.drop
   have HS177 := HS176.drop
   injection h with h
   subst h
   exact ⟨f56, rfl, (L19.trans (L48.trans L57)), HS177⟩
 · have c60 : ¬ (¬ (vt54 = true)) := c60
   refine seqRwI 22 (x := (!vt54)) (v := false) kr (congrArg (fun b_ => !b_) (show vt54 = true from (Decidable.of_not_not c60)) : (!vt54) = false) ?_
   refine seqRwI 23 (x := (!vt54)) (v := false) kr (congrArg (fun b_ => !b_) (show vt54 = true from (Decidable.of_not_not c60)) : (!vt54) = false) ?_
   refine seqL4 kr ?_
   have hq_ := ite_some h; clear h; rcases hq_ with ⟨c63, h⟩ | ⟨c63, h⟩
   · have c63 : vt36 ≠ 0 := c63
     refine seqRwI 25 (x := (vt36 != 0)) (v := true) kr (bne_iff_ne.mpr c63) ?_
     refine seqRwI 26 (x := (vt36 != 0)) (v := true) kr (bne_iff_ne.mpr c63) ?_
     refine seqRwI 27 (x := (vt36 != 0)) (v := true) kr (bne_iff_ne.mpr c63) ?_
     refine seqL4 kr ?_
     refine nl (hK53 _ _ ?_)
     refine condT kr ?_
     refine wp_seq_k fun K64 hK65 => rl ?_
     refine seqL1 kr ?_
     refine nl (hK65 _ _ ?_)
     refine wp_ret ?_
     refine hret _ _ ?_
     refine ends_still (v := Value.bool false) kr kr ?_
     have HS178 := HS59.drop
     have HS179 := HS178.drop
     have HS180 := HS179.drop
     injection h with h
     subst h
     exact ⟨f56, rfl, (L19.trans (L48.trans L57)), HS180⟩
   · have c63 : ¬ (vt36 ≠ 0) := c63
     refine seqRwI 25 (x := (vt36 != 0)) (v := false) kr (bne_eq_false_iff_eq.mpr (Decidable.of_not_not c63)) ?_
     refine seqRwI 26 (x := (vt36 != 0)) (v := false) kr (bne_eq_false_iff_eq.mpr (Decidable.of_not_not c63)) ?_
     refine seqRwI 27 (x := (vt36 != 0)) (v := false) kr (bne_eq_false_iff_eq.mpr (Decidable.of_not_not c63)) ?_
     refine seqL4 kr ?_
     refine nl (hK53 _ _ ?_)
     have hq_ := ite_some h; clear h; rcases hq_ with ⟨c67, h⟩ | ⟨c67, h⟩
     · have c67 : (vt35.length : Int) = 0 := c67
       refine wpRwI 30 (x := ((vt35.length : Int) == 0)) (v := true) kr (beq_iff_eq.mpr c67) ?_
       refine wpRwI 31 (x := ((vt35.length : Int) == 0)) (v := true) kr (beq_iff_eq.mpr c67) ?_
       refine condT kr ?_
       refine wp_seq_k fun K68 hK69 => rl ?_
       refine seqL1 kr ?_
       refine nl (hK69 _ _ ?_)
       refine wp_ret ?_
       refine hret _ _ ?_
       refine ends_still (v := Value.bool false) kr kr ?_
       have HS181 := HS59.drop
       have HS182 := HS181.drop
       have HS183 := HS182.drop
       injection h with h
       subst h
       exact ⟨f56, rfl, (L19.trans (L48.trans L57)), HS183⟩
     · have c67 : ¬ ((vt35.length : Int) = 0) := c67
       refine wpRwI 30 (x := ((vt35.length : Int) == 0)) (v := false) kr (beq_eq_false_iff_ne.mpr c67) ?_
       refine wpRwI 31 (x := ((vt35.length : Int) == 0)) (v := false) kr (beq_eq_false_iff_ne.mpr c67) ?_
       refine condF kr ?_
       refine wp_skip ?_
       refine hK51 _ _ ?_
       refine wp_seq_k fun K70 hK71 => rl ?_
       have hq_ := bind_some h; clear h; obtain ⟨vt72, hc73, h⟩ := hq_
       refine seqL3 kr ?_
       refine seqK rfl (does_call (f := 10) (args := #[.int .i64 vat5, .int .i64 (vt35.length : Int)]) kr (spymake_Below.calls k vat5 (vt35.length : Int) HS59 vt72 hc73) ?_)
       rintro _ W76 ⟨f74, rfl, L75, HS77⟩
       refine ⟨_, rfl, ?_⟩
       refine seqL1 kr ?_
       refine nl (hK71 _ _ ?_)
       refine wp_seq_k fun K78 hK79 => rl ?_
       have hq_ := guard_some h; clear h; obtain ⟨c80, h⟩ := hq_
       have c80 : 0 ≤ vt72 := c80
       have hq_ := guard_some h; clear h; obtain ⟨c81, h⟩ := hq_
       have c81 : vt72 < (vt35.length : Int) := c81
       obtain ⟨b85, of86, cs82, hA87, hr83, hc84⟩ := (HO45.mono (L57.trans L75)).at (i := vt72) c80 c81
       obtain rfl := hr83
       refine seqL2 kr ?_
       refine seqK rfl (does_run (run_indexE hA87 (sz := 1) rfl Tryz.underlying23 kr (kv (.slice A42 vt35.length c43)) (kv (.int .i64 vt72)) c80 c81 W76) ?_)
       refine seqK rfl (does_run (run_load rfl Tryz.underlying5 rfl (kv (.pointer (some ⟨b85, of86 + (vt72 : Int).toNat * 1, none⟩))) ((hc84 HS77.u1) 0 (by decide))) ?_)
       refine seqL3 kr ?_
       refine seqK rfl (does_run (run_indexE hA87 (sz := 1) rfl Tryz.underlying23 kr (kv (.slice A42 vt35.length c43)) (kv (.int .i64 vt72)) c80 c81 W76) ?_)
       have HS88 := HS77.u1
       refine seqK rfl (does_put (e := (tInt .u8)) (E := 5) (vs := [.int .u8 (Go.bits .xor .u8 (rd vt35 vt72) (mx 1 x6))]) (u := Go.bits .xor .u8 (rd vt35 vt72) (mx 1 x6)) (i := vt72) rfl kr (HO45.mono (L57.trans L75)) HS88 hA87 (kv (.pointer (some ⟨b85, of86 + (vt72 : Int).toNat * 1, none⟩))) (kv (.int .u8 (Go.bits .xor .u8 (rd vt35 vt72) (mx 1 x6)))) rfl rfl c80 c81 ?_)
       intro W89 s90 HS91 HO92
       refine seqRwS 7 (A := A42) (m := vt35.length) (n := (vt35.set (vt72).toNat (Go.bits .xor .u8 (rd vt35 vt72) (mx 1 x6))).length) (c := c43) kr (List.length_set).symm ?_
       refine seqRwS 19 (A := A42) (m := vt35.length) (n := (vt35.set (vt72).toNat (Go.bits .xor .u8 (rd vt35 vt72) (mx 1 x6))).length) (c := c43) kr (List.length_set).symm ?_
       refine seqRwS 28 (A := A42) (m := vt35.length) (n := (vt35.set (vt72).toNat (Go.bits .xor .u8 (rd vt35 vt72) (mx 1 x6))).length) (c := c43) kr (List.length_set).symm ?_
       refine seqRwS 33 (A := A42) (m := vt35.length) (n := (vt35.set (vt72).toNat (Go.bits .xor .u8 (rd vt35 vt72) (mx 1 x6))).length) (c := c43) kr (List.length_set).symm ?_
       refine seqRwS 36 (A := A42) (m := vt35.length) (n := (vt35.set (vt72).toNat (Go.bits .xor .u8 (rd vt35 vt72) (mx 1 x6))).length) (c := c43) kr (List.length_set).symm ?_
       refine nl (hK79 _ _ ?_)
       refine wp_seq_k fun K93 hK94 => rl ?_
       obtain ⟨f95, L96, HS97, HR98, th99⟩ := HO92.lend HS91
       have hq_ := bind_some h; clear h; obtain ⟨⟨vt100, vt101⟩, hc102, h⟩ := hq_
       refine seqL1 kr ?_
       refine seqK rfl (does_call (f := 11) (args := #[.slice A42 (vt35.set (vt72).toNat (Go.bits .xor .u8 (rd vt35 vt72) (mx 1 x6))).length c43]) kr (frame_Verify.calls k A42 c43 (vt35.set (vt72).toNat (Go.bits .xor .u8 (rd vt35 vt72) (mx 1 x6))) HS97 HR98 vt100 vt101 hc102) ?_)
       rintro _ W105 ⟨f103, A107, c108, s109, rfl, L104, HS106, HO110⟩
       refine ⟨_, rfl, ?_⟩
       obtain ⟨f112, L113, HS114⟩ := th99 L104 HS106
       replace HO110 := HO110.flat (g := f112) (fun _ _ _ _ h_ => h_)
       refine seqL5 kr ?_
       refine nl (hK94 _ _ ?_)
       refine wp_seq_k fun K115 hK116 => rl ?_
       obtain ⟨f117, L118, HS119, HR120⟩ := (HO92.mono L113).freeze HS114
       have hq_ := bind_some h; clear h; obtain ⟨⟨vt121, vt122⟩, hc123, h⟩ := hq_
       refine seqL1 kr ?_
       refine seqK rfl (does_call (f := 12) (args := #[.slice A42 (vt35.set (vt72).toNat (Go.bits .xor .u8 (rd vt35 vt72) (mx 1 x6))).length c43]) kr (frame_Decode.calls k A42 c43 (vt35.set (vt72).toNat (Go.bits .xor .u8 (rd vt35 vt72) (mx 1 x6))) HS119 HR120 (HA.mono (L19.trans (L48.trans (L57.trans (L75.trans (L113.trans L118)))))) (HM.mono (L19.trans (L48.trans (L57.trans (L75.trans (L113.trans L118)))))) (HT.mono (L19.trans (L48.trans (L57.trans (L75.trans (L113.trans L118)))))) vt121 vt122 hc123) ?_)
       rintro _ W126 ⟨f124, A128, c129, A131, c132, s133, rfl, L125, HS127, HR130, HO134⟩
       refine ⟨_, rfl, ?_⟩
       refine seqL3 kr ?_
       refine seqK rfl (does_alloc (z := Value.agg #[.int .i64 0, .int .i64 0, .slice none 0 0, .slice none 0 0]) (cs := #[.int .i64 0, .int .i64 0, .slice none 0 0, .slice none 0 0]) rfl kr rfl HS127 ?_)
       intro b136 W137 HS138
       refine seqK rfl (does_store (n := 4) (vs := [.int .i64 vt121.W, .int .i64 vt121.H, .slice A128 vt121.Cards.length c129, .slice A131 vt121.Counts.length c132]) (cs' := #[.int .i64 vt121.W, .int .i64 vt121.H, .slice A128 vt121.Cards.length c129, .slice A131 vt121.Counts.length c132]) rfl kr (kv (.pointer (some ⟨b136, 0, none⟩))) (kv (.agg #[.int .i64 vt121.W, .int .i64 vt121.H, .slice A128 vt121.Cards.length c129, .slice A131 vt121.Counts.length c132])) rfl rfl (by intro u_ hu_; simp only [List.mem_cons, List.not_mem_nil, or_false] at hu_; rcases hu_ with rfl | rfl | rfl | rfl <;> rfl) HS138 (Nat.le_of_ble_eq_true rfl) kr ?_)
       intro W140 HS141
       refine seqL1 kr ?_
       refine nl (hK116 _ _ ?_)
       refine wp_seq_k fun K142 hK143 => rl ?_
       refine seqL3 kr ?_
       have hq_ := ite_some h; clear h; rcases hq_ with ⟨c144, h⟩ | ⟨c144, h⟩
       · have c144 : vt101 = 0 := c144
         refine seqRwI 55 (x := (vt101 == 0)) (v := true) kr (beq_iff_eq.mpr c144) ?_
         refine seqRwI 56 (x := (vt101 == 0)) (v := true) kr (beq_iff_eq.mpr c144) ?_
         refine seqL4 kr ?_
         have hq_ := ite_some h; clear h; rcases hq_ with ⟨c145, h⟩ | ⟨c145, h⟩
         · have c145 : vt122 = 13 := c145
           refine seqRwI 58 (x := (vt122 == 13)) (v := true) kr (beq_iff_eq.mpr c145) ?_
           refine seqRwI 59 (x := (vt122 == 13)) (v := true) kr (beq_iff_eq.mpr c145) ?_
           refine seqRwI 60 (x := (vt122 == 13)) (v := true) kr (beq_iff_eq.mpr c145) ?_
           refine seqL3 kr ?_
           refine seqG kr (does_lit (e := (tInt .i64)) (E := 3) (vs := #[(0, Value.int .i64 (w64 (Int.tdiv vt72 260)))]) (cs := #[.int .i64 (w64 (Int.tdiv vt72 260))]) (xs := ([w64 (Int.tdiv vt72 260)] : List Int)) rfl Tryz.underlying22 kr kr ⟨[.int .i64 (w64 (Int.tdiv vt72 260))], _, rfl, rfl, rfl⟩ rfl HS141 ?_ (by decide))
           intro b146 W147 s148 HS149 _ HO150
           have HS152 := HS149.u3
           obtain ⟨f153, L154, HS155, HR156, th157⟩ := (HO110.mono (L118.trans L125)).lend HS152
           obtain ⟨f158, L159, HS160, HR161, th162⟩ := (HO150.mono L154).lend HS155
           have hq_ := bind_some h; clear h; obtain ⟨vt163, hc164, h⟩ := hq_
           refine seqG kr (does_call (f := 13) (args := #[.slice A107 vt100.length c108, .slice (some ⟨b146, 0, none⟩) ([w64 (Int.tdiv vt72 260)] : List Int).length 1]) kr (slices_Equal_int.calls k A107 c108 (some ⟨b146, 0, none⟩) 1 vt100 ([w64 (Int.tdiv vt72 260)] : List Int) HS160 (HR156.mono L159) HR161 vt163 hc164) ?_)
           rintro _ W167 ⟨f165, rfl, L166, HS168⟩
           refine ⟨_, rfl, ?_⟩
           obtain ⟨f169, L170, HS171⟩ := th162 L166 HS168
           obtain ⟨f172, L173, HS174⟩ := th157 L170 HS171
           refine seqL2 kr ?_
           refine nl (hK143 _ _ ?_)
           refine wp_ret ?_
           refine hret _ _ ?_
           refine ends_still (v := Value.bool vt163) kr kr ?_
           have HS184 := HS174.drop
           have HS185 := HS184.drop
           have HS186 := HS185.drop
           have HS187 := HS186.drop
           have HS188 := HS187.drop
           have HS189 := HS188.drop
           injection h with h
           subst h
           exact ⟨f172, rfl, (L19.trans (L48.trans (L57.trans (L75.trans (L113.trans (L118.trans (L125.trans L173))))))), HS189⟩
         · have c145 : ¬ (vt122 = 13) := c145
           refine seqRwI 58 (x := (vt122 == 13)) (v := false) kr (beq_eq_false_iff_ne.mpr c145) ?_
           refine seqRwI 59 (x := (vt122 == 13)) (v := false) kr (beq_eq_false_iff_ne.mpr c145) ?_
           refine seqRwI 60 (x := (vt122 == 13)) (v := false) kr (beq_eq_false_iff_ne.mpr c145) ?_
           refine seqL7 kr ?_
           refine nl (hK143 _ _ ?_)
           refine wp_ret ?_
           refine hret _ _ ?_
           refine ends_still (v := Value.bool false) kr kr ?_
           have HS190 := HS141.drop
           have HS191 := HS190.drop
           have HS192 := HS191.drop
           have HS193 := HS192.drop
           have HS194 := HS193.drop
           injection h with h
           subst h
           exact ⟨f124, rfl, (L19.trans (L48.trans (L57.trans (L75.trans (L113.trans (L118.trans L125)))))), HS194⟩
       · have c144 : ¬ (vt101 = 0) := c144
         refine seqRwI 55 (x := (vt101 == 0)) (v := false) kr (beq_eq_false_iff_ne.mpr c144) ?_
         refine seqRwI 56 (x := (vt101 == 0)) (v := false) kr (beq_eq_false_iff_ne.mpr c144) ?_
         refine seqL11 kr ?_
         refine nl (hK143 _ _ ?_)
         refine wp_ret ?_
         refine hret _ _ ?_
         refine ends_still (v := Value.bool false) kr kr ?_
         have HS195 := HS141.drop
         have HS196 := HS195.drop
         have HS197 := HS196.drop
         have HS198 := HS197.drop
         have HS199 := HS198.drop
         injection h with h
         subst h
         exact ⟨f124, rfl, (L19.trans (L48.trans (L57.trans (L75.trans (L113.trans (L118.trans L125)))))), HS199⟩

end Go.Sp.N3
