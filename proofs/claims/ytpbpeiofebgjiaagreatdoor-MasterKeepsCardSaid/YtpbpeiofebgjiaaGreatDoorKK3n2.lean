import Derived.Test.YtpbpeiofebgjiaaGreatDoorProg
import Derived.Test.YtpbpeiofebgjiaaGreatDoorSpCopy
import Derived.Test.YtpbpeiofebgjiaaGreatDoorFK3
import Derived.Test.YtpbpeiofebgjiaaGreatDoorSpStr
import Derived.Test.YtpbpeiofebgjiaaGreatDoorSpLib
import Derived.Test.YtpbpeiofebgjiaaGreatDoorConv
import Derived.Test.YtpbpeiofebgjiaaGreatDoorLibs
import Derived.Test.YtpbpeiofebgjiaaGreatDoorKK3n0
import Derived.Test.YtpbpeiofebgjiaaGreatDoorKK3n1
namespace Go.Sp.K3
open Go Go.Sp Go.Proofs
set_option linter.unusedVariables false
attribute [local irreducible] wpList AnyL Code.wp Calls Does
set_option maxRecDepth 100000 in
set_option maxHeartbeats 4000000 in
theorem frame_CheckCard.calls (k : Nat)  (c1 : S_Card) {t w : World} {f : FM} {H : List Seg} (HS : St t w f (H)) (HA : TabF Tryz.prog "strings.asciiSpace" .u8 Go.Lib.asciiSpaceTab f) (rr1 : Int) (h : frame_CheckCard k c1 = some rr1) :
    Calls Tryz.prog 73 #[.agg #[.string c1.Key, .string c1.Value, .string c1.Unit, .string c1.Note]] w (fun e w' => ∃ (g : FM), e = .returned (Value.int .i64 rr1) ∧ FM.le f g ∧ St t w' g (H)) := by
 unfold frame_CheckCard at h
 refine enter Tryz.func73 rfl (tm := #[(ag_Card c1), uV, uV, uV, uV, uV, uV, uV, uV, uV, uV, uV, uV, uV, uV, uV, uV, uV, uV, uV, uV, uV, uV, uV, uV, uV, uV, uV, uV, uV, uV, uV, uV, uV, uV, uV, uV, uV, uV, uV, uV, uV, uV, uV, uV, uV, uV, uV, uV, uV, uV, uV, uV, uV, uV, uV, uV, uV, uV, uV, uV, uV, uV, uV, uV, uV, uV, uV, uV, uV, uV, uV, uV, uV, uV, uV]) kr ?_
 intro B hret hnor hnp
 refine wp_seq_k fun K2 hK3 => rl ?_
 refine seqK rfl (does_box (cs := #[.string c1.Key, .string c1.Value, .string c1.Unit, .string c1.Note]) rfl (kv (.agg #[.string c1.Key, .string c1.Value, .string c1.Unit, .string c1.Note])) rfl HS ?_)
 intro b4 W5 HS6
 refine seqL1 kr ?_
 refine nl (hK3 _ _ ?_)
 refine wp_seq_k (fun K8 hK9 => ?_)
 refine blockK (fun B10 hx11 hn12 hr13 ho14 hp15 => ?_)
 refine wp_seq_k fun K17 hK18 => rl ?_
 refine seqL1 kr ?_
 refine seqK rfl (does_run (run_load rfl Tryz.underlying9 rfl (kv (.pointer (some ⟨b4, 0, none⟩))) (HS6.cell 0)) ?_)
 refine seqL2 kr ?_
 have hq_ := ite_some h; clear h; rcases hq_ with ⟨c19, h⟩ | ⟨c19, h⟩
 · have c19 : (c1.Key.toList == (⟨#[]⟩ : ByteArray).toList) = true := c19
   refine seqRwI 6 (x := (c1.Key.toList == (⟨#[]⟩ : ByteArray).toList)) (v := true) kr c19 ?_
   refine seqRwI 7 (x := (c1.Key.toList == (⟨#[]⟩ : ByteArray).toList)) (v := true) kr c19 ?_
   refine seqL24 kr ?_
   refine nl (hK18 _ _ ?_)
   refine condT kr ?_
   refine wp_seq_k fun K20 hK21 => rl ?_
   refine seqL1 kr ?_
   refine nl (hK21 _ _ ?_)
   refine wp_ret ?_
   refine hr13 _ _ ?_
   refine hret _ _ ?_
   refine ends_still (v := Value.int .i64 6) kr kr ?_
   have HS124 := HS6.drop
   injection h with h
   subst h
   exact ⟨f, rfl, FM.le.refl _, HS124⟩
 · have c19 : ¬ ((c1.Key.toList == (⟨#[]⟩ : ByteArray).toList) = true) := c19
   refine seqRwI 6 (x := (c1.Key.toList == (⟨#[]⟩ : ByteArray).toList)) (v := false) kr (Bool.eq_false_iff.mpr c19) ?_
   refine seqRwI 7 (x := (c1.Key.toList == (⟨#[]⟩ : ByteArray).toList)) (v := false) kr (Bool.eq_false_iff.mpr c19) ?_
   refine seqL1 kr ?_
   refine seqG kr (does_run (run_load rfl Tryz.underlying9 rfl (kv (.pointer (some ⟨b4, 0, none⟩))) (HS6.cell 0)) ?_)
   refine seqL4 kr ?_
   have hq_ := ite_some h; clear h; rcases hq_ with ⟨c22, h⟩ | ⟨c22, h⟩
   · have c22 : (c1.Key.size : Int) > 8 := c22
     refine seqRwI 11 (x := (decide ((c1.Key.size : Int) > 8))) (v := true) kr (decide_eq_true c22) ?_
     refine seqRwI 12 (x := (decide ((c1.Key.size : Int) > 8))) (v := true) kr (decide_eq_true c22) ?_
     refine seqRwI 13 (x := (decide ((c1.Key.size : Int) > 8))) (v := true) kr (decide_eq_true c22) ?_
     refine seqL18 kr ?_
     refine nl (hK18 _ _ ?_)
     refine condT kr ?_
     refine wp_seq_k fun K23 hK24 => rl ?_
     refine seqL1 kr ?_
     refine nl (hK24 _ _ ?_)
     refine wp_ret ?_
     refine hr13 _ _ ?_
     refine hret _ _ ?_
     refine ends_still (v := Value.int .i64 6) kr kr ?_
     have HS125 := HS6.drop
     injection h with h
     subst h
     exact ⟨f, rfl, FM.le.refl _, HS125⟩
   · have c22 : ¬ ((c1.Key.size : Int) > 8) := c22
     refine seqRwI 11 (x := (decide ((c1.Key.size : Int) > 8))) (v := false) kr (decide_eq_false c22) ?_
     refine seqRwI 12 (x := (decide ((c1.Key.size : Int) > 8))) (v := false) kr (decide_eq_false c22) ?_
     refine seqRwI 13 (x := (decide ((c1.Key.size : Int) > 8))) (v := false) kr (decide_eq_false c22) ?_
     refine seqL1 kr ?_
     refine seqG kr (does_run (run_load rfl Tryz.underlying9 rfl (kv (.pointer (some ⟨b4, 0, none⟩))) (HS6.cell 0)) ?_)
     have hq_ := guard_some h; clear h; obtain ⟨c25, h⟩ := hq_
     have c25 : 0 < (c1.Key.size : Int) := c25
     refine seqG kr (does_run (run_byte rfl Tryz.underlying9 (kv (.string c1.Key)) (kv (.int .i64 0)) (by decide) c25 W5) ?_)
     have hq_ := bind_some h; clear h; obtain ⟨vt26, hc27, h⟩ := hq_
     refine seqG kr (does_call (f := 85) (args := #[.int .u8 (bt c1.Key 0)]) kr (frame_upper.calls k (bt c1.Key 0) HS6 vt26 hc27) ?_)
     rintro _ W30 ⟨f28, rfl, L29, HS31⟩
     refine ⟨_, rfl, ?_⟩
     refine seqL3 kr ?_
     have hq_ := ite_some h; clear h; rcases hq_ with ⟨c32, h⟩ | ⟨c32, h⟩
     · have c32 : ¬ (vt26 = true) := c32
       refine seqRwI 18 (x := (!vt26)) (v := true) kr (congrArg (fun b_ => !b_) (show vt26 = false from (Bool.eq_false_iff.mpr c32)) : (!vt26) = true) ?_
       refine seqRwI 19 (x := (!vt26)) (v := true) kr (congrArg (fun b_ => !b_) (show vt26 = false from (Bool.eq_false_iff.mpr c32)) : (!vt26) = true) ?_
       refine seqRwI 20 (x := (!vt26)) (v := true) kr (congrArg (fun b_ => !b_) (show vt26 = false from (Bool.eq_false_iff.mpr c32)) : (!vt26) = true) ?_
       refine seqL11 kr ?_
       refine nl (hK18 _ _ ?_)
       refine condT kr ?_
       refine wp_seq_k fun K33 hK34 => rl ?_
       refine seqL1 kr ?_
       refine nl (hK34 _ _ ?_)
       refine wp_ret ?_
       refine hr13 _ _ ?_
       refine hret _ _ ?_
       refine ends_still (v := Value.int .i64 6) kr kr ?_
       have HS126 := HS31.drop
       injection h with h
       subst h
       exact ⟨f28, rfl, L29, HS126⟩
     · have c32 : ¬ (¬ (vt26 = true)) := c32
       refine seqRwI 18 (x := (!vt26)) (v := false) kr (congrArg (fun b_ => !b_) (show vt26 = true from (Decidable.of_not_not c32)) : (!vt26) = false) ?_
       refine seqRwI 19 (x := (!vt26)) (v := false) kr (congrArg (fun b_ => !b_) (show vt26 = true from (Decidable.of_not_not c32)) : (!vt26) = false) ?_
       refine seqRwI 20 (x := (!vt26)) (v := false) kr (congrArg (fun b_ => !b_) (show vt26 = true from (Decidable.of_not_not c32)) : (!vt26) = false) ?_
       refine seqL1 kr ?_
       refine seqG kr (does_run (run_load rfl Tryz.underlying9 rfl (kv (.pointer (some ⟨b4, 0, none⟩))) (HS31.cell 0)) ?_)
       have hq_ := bind_some h; clear h; obtain ⟨vt35, hc36, h⟩ := hq_
       refine seqG kr (does_call (f := 86) (args := #[.string c1.Key, .func (.func 87) #[] #[]]) kr (frame_all__frame_inKey.calls k c1.Key HS31 vt35 hc36) ?_)
       rintro _ W39 ⟨f37, rfl, L38, HS40⟩
       refine ⟨_, rfl, ?_⟩
       refine seqL3 kr ?_
       have hq_ := ite_some h; clear h; rcases hq_ with ⟨c41, h⟩ | ⟨c41, h⟩
       · have c41 : ¬ (vt35 = true) := c41
         refine seqRwI 24 (x := (!vt35)) (v := true) kr (congrArg (fun b_ => !b_) (show vt35 = false from (Bool.eq_false_iff.mpr c41)) : (!vt35) = true) ?_
         refine seqRwI 25 (x := (!vt35)) (v := true) kr (congrArg (fun b_ => !b_) (show vt35 = false from (Bool.eq_false_iff.mpr c41)) : (!vt35) = true) ?_
         refine seqRwI 26 (x := (!vt35)) (v := true) kr (congrArg (fun b_ => !b_) (show vt35 = false from (Bool.eq_false_iff.mpr c41)) : (!vt35) = true) ?_
         refine seqL5 kr ?_
         refine nl (hK18 _ _ ?_)
         refine condT kr ?_
         refine wp_seq_k fun K42 hK43 => rl ?_
         refine seqL1 kr ?_
         refine nl (hK43 _ _ ?_)
         refine wp_ret ?_
         refine hr13 _ _ ?_
         refine hret _ _ ?_
         refine ends_still (v := Value.int .i64 6) kr kr ?_
         have HS127 := HS40.drop
         injection h with h
         subst h
         exact ⟨f37, rfl, (L29.trans L38), HS127⟩
       · have c41 : ¬ (¬ (vt35 = true)) := c41
         refine seqRwI 24 (x := (!vt35)) (v := false) kr (congrArg (fun b_ => !b_) (show vt35 = true from (Decidable.of_not_not c41)) : (!vt35) = false) ?_
         refine seqRwI 25 (x := (!vt35)) (v := false) kr (congrArg (fun b_ => !b_) (show vt35 = true from (Decidable.of_not_not c41)) : (!vt35) = false) ?_
         refine seqRwI 26 (x := (!vt35)) (v := false) kr (congrArg (fun b_ => !b_) (show vt35 = true from (Decidable.of_not_not c41)) : (!vt35) = false) ?_
         refine seqL1 kr ?_
         refine seqG kr (does_run (run_load rfl Tryz.underlying9 rfl (kv (.pointer (some ⟨b4, 0, none⟩))) (HS40.cell 0)) ?_)
         have hq_ := bind_some h; clear h; obtain ⟨vt44, hc45, h⟩ := hq_
         refine seqG kr (does_call (f := 88) (args := #[.string c1.Key]) kr (frame_own.calls k c1.Key HS40 vt44 hc45) ?_)
         rintro _ W48 ⟨f46, rfl, L47, HS49⟩
         refine ⟨_, rfl, ?_⟩
         refine seqL2 kr ?_
         refine nl (hK18 _ _ ?_)
         have hq_ := ite_some h; clear h; rcases hq_ with ⟨c51, h⟩ | ⟨c51, h⟩
         · have c51 : vt44 = true := c51
           refine wpRwI 3 (x := vt44) (v := true) kr c51 ?_
           refine wpRwI 29 (x := vt44) (v := true) kr c51 ?_
           refine wpRwI 30 (x := vt44) (v := true) kr c51 ?_
           refine condT kr ?_
           refine wp_seq_k fun K52 hK53 => rl ?_
           refine seqL1 kr ?_
           refine nl (hK53 _ _ ?_)
           refine wp_ret ?_
           refine hr13 _ _ ?_
           refine hret _ _ ?_
           refine ends_still (v := Value.int .i64 6) kr kr ?_
           have HS128 := HS49.drop
           injection h with h
           subst h
           exact ⟨f46, rfl, (L29.trans (L38.trans L47)), HS128⟩
         · have c51 : ¬ (vt44 = true) := c51
           refine wpRwI 3 (x := vt44) (v := false) kr (Bool.eq_false_iff.mpr c51) ?_
           refine wpRwI 29 (x := vt44) (v := false) kr (Bool.eq_false_iff.mpr c51) ?_
           refine wpRwI 30 (x := vt44) (v := false) kr (Bool.eq_false_iff.mpr c51) ?_
           refine condF kr ?_
           refine wp_seq_k fun K54 hK55 => rl ?_
           refine seqL1 kr ?_
           refine seqK rfl (does_run (run_load rfl Tryz.underlying9 rfl (kv (.pointer (some ⟨b4, 1, none⟩))) (HS49.cell 1)) ?_)
           refine seqL2 kr ?_
           have hq_ := ite_some h; clear h; rcases hq_ with ⟨c56, h⟩ | ⟨c56, h⟩
           · have c56 : (c1.Value.toList == (⟨#[]⟩ : ByteArray).toList) = true := c56
             refine seqRwI 34 (x := (c1.Value.toList == (⟨#[]⟩ : ByteArray).toList)) (v := true) kr c56 ?_
             refine seqRwI 35 (x := (c1.Value.toList == (⟨#[]⟩ : ByteArray).toList)) (v := true) kr c56 ?_
             refine seqL12 kr ?_
             refine nl (hK55 _ _ ?_)
             refine condT kr ?_
             refine wp_seq_k fun K57 hK58 => rl ?_
             refine seqL1 kr ?_
             refine nl (hK58 _ _ ?_)
             refine wp_ret ?_
             refine hr13 _ _ ?_
             refine hret _ _ ?_
             refine ends_still (v := Value.int .i64 3) kr kr ?_
             have HS129 := HS49.drop
             injection h with h
             subst h
             exact ⟨f46, rfl, (L29.trans (L38.trans L47)), HS129⟩
           · have c56 : ¬ ((c1.Value.toList == (⟨#[]⟩ : ByteArray).toList) = true) := c56
             refine seqRwI 34 (x := (c1.Value.toList == (⟨#[]⟩ : ByteArray).toList)) (v := false) kr (Bool.eq_false_iff.mpr c56) ?_
             refine seqRwI 35 (x := (c1.Value.toList == (⟨#[]⟩ : ByteArray).toList)) (v := false) kr (Bool.eq_false_iff.mpr c56) ?_
             refine seqL1 kr ?_
             refine seqG kr (does_run (run_load rfl Tryz.underlying9 rfl (kv (.pointer (some ⟨b4, 1, none⟩))) (HS49.cell 1)) ?_)
             refine seqL4 kr ?_
             have hq_ := ite_some h; clear h; rcases hq_ with ⟨c59, h⟩ | ⟨c59, h⟩
             · have c59 : (c1.Value.size : Int) > 20 := c59
               refine seqRwI 39 (x := (decide ((c1.Value.size : Int) > 20))) (v := true) kr (decide_eq_true c59) ?_
               refine seqRwI 40 (x := (decide ((c1.Value.size : Int) > 20))) (v := true) kr (decide_eq_true c59) ?_
               refine seqRwI 41 (x := (decide ((c1.Value.size : Int) > 20))) (v := true) kr (decide_eq_true c59) ?_
               refine seqL6 kr ?_
               refine nl (hK55 _ _ ?_)
               refine condT kr ?_
               refine wp_seq_k fun K60 hK61 => rl ?_
               refine seqL1 kr ?_
               refine nl (hK61 _ _ ?_)
               refine wp_ret ?_
               refine hr13 _ _ ?_
               refine hret _ _ ?_
               refine ends_still (v := Value.int .i64 3) kr kr ?_
               have HS130 := HS49.drop
               injection h with h
               subst h
               exact ⟨f46, rfl, (L29.trans (L38.trans L47)), HS130⟩
             · have c59 : ¬ ((c1.Value.size : Int) > 20) := c59
               refine seqRwI 39 (x := (decide ((c1.Value.size : Int) > 20))) (v := false) kr (decide_eq_false c59) ?_
               refine seqRwI 40 (x := (decide ((c1.Value.size : Int) > 20))) (v := false) kr (decide_eq_false c59) ?_
               refine seqRwI 41 (x := (decide ((c1.Value.size : Int) > 20))) (v := false) kr (decide_eq_false c59) ?_
               refine seqL1 kr ?_
               refine seqG kr (does_run (run_load rfl Tryz.underlying9 rfl (kv (.pointer (some ⟨b4, 1, none⟩))) (HS49.cell 1)) ?_)
               have hq_ := bind_some h; clear h; obtain ⟨vt62, hc63, h⟩ := hq_
               refine seqG kr (does_call (f := 86) (args := #[.string c1.Value, .func (.func 89) #[] #[]]) kr (frame_all__frame_inked.calls k c1.Value HS49 vt62 hc63) ?_)
               rintro _ W66 ⟨f64, rfl, L65, HS67⟩
               refine ⟨_, rfl, ?_⟩
               refine seqL3 kr ?_
               refine nl (hK55 _ _ ?_)
               have hq_ := ite_some h; clear h; rcases hq_ with ⟨c69, h⟩ | ⟨c69, h⟩
               · have c69 : ¬ (vt62 = true) := c69
                 refine wpRwI 31 (x := (!vt62)) (v := true) kr (congrArg (fun b_ => !b_) (show vt62 = false from (Bool.eq_false_iff.mpr c69)) : (!vt62) = true) ?_
                 refine wpRwI 45 (x := (!vt62)) (v := true) kr (congrArg (fun b_ => !b_) (show vt62 = false from (Bool.eq_false_iff.mpr c69)) : (!vt62) = true) ?_
                 refine wpRwI 46 (x := (!vt62)) (v := true) kr (congrArg (fun b_ => !b_) (show vt62 = false from (Bool.eq_false_iff.mpr c69)) : (!vt62) = true) ?_
                 refine condT kr ?_
                 refine wp_seq_k fun K70 hK71 => rl ?_
                 refine seqL1 kr ?_
                 refine nl (hK71 _ _ ?_)
                 refine wp_ret ?_
                 refine hr13 _ _ ?_
                 refine hret _ _ ?_
                 refine ends_still (v := Value.int .i64 3) kr kr ?_
                 have HS131 := HS67.drop
                 injection h with h
                 subst h
                 exact ⟨f64, rfl, (L29.trans (L38.trans (L47.trans L65))), HS131⟩
               · have c69 : ¬ (¬ (vt62 = true)) := c69
                 refine wpRwI 31 (x := (!vt62)) (v := false) kr (congrArg (fun b_ => !b_) (show vt62 = true from (Decidable.of_not_not c69)) : (!vt62) = false) ?_
                 refine wpRwI 45 (x := (!vt62)) (v := false) kr (congrArg (fun b_ => !b_) (show vt62 = true from (Decidable.of_not_not c69)) : (!vt62) = false) ?_
                 refine wpRwI 46 (x := (!vt62)) (v := false) kr (congrArg (fun b_ => !b_) (show vt62 = true from (Decidable.of_not_not c69)) : (!vt62) = false) ?_
                 refine condF kr ?_
                 refine wp_seq_k fun K72 hK73 => rl ?_
                 refine seqL1 kr ?_
                 refine seqK rfl (does_run (run_load rfl Tryz.underlying9 rfl (kv (.pointer (some ⟨b4, 2, none⟩))) (HS67.cell 2)) ?_)
                 refine seqL3 kr ?_
                 have hq_ := ite_some h; clear h; rcases hq_ with ⟨c74, h⟩ | ⟨c74, h⟩
                 · have c74 : (c1.Unit.size : Int) > 8 := c74
                   refine seqRwI 51 (x := (decide ((c1.Unit.size : Int) > 8))) (v := true) kr (decide_eq_true c74) ?_
                   refine seqRwI 52 (x := (decide ((c1.Unit.size : Int) > 8))) (v := true) kr (decide_eq_true c74) ?_
                   refine seqL6 kr ?_
                   refine nl (hK73 _ _ ?_)
                   refine condT kr ?_
                   refine wp_seq_k fun K75 hK76 => rl ?_
                   refine seqL1 kr ?_
                   refine nl (hK76 _ _ ?_)
                   refine wp_ret ?_
                   refine hr13 _ _ ?_
                   refine hret _ _ ?_
                   refine ends_still (v := Value.int .i64 3) kr kr ?_
                   have HS132 := HS67.drop
                   injection h with h
                   subst h
                   exact ⟨f64, rfl, (L29.trans (L38.trans (L47.trans L65))), HS132⟩
                 · have c74 : ¬ ((c1.Unit.size : Int) > 8) := c74
                   refine seqRwI 51 (x := (decide ((c1.Unit.size : Int) > 8))) (v := false) kr (decide_eq_false c74) ?_
                   refine seqRwI 52 (x := (decide ((c1.Unit.size : Int) > 8))) (v := false) kr (decide_eq_false c74) ?_
                   refine seqL1 kr ?_
                   refine seqG kr (does_run (run_load rfl Tryz.underlying9 rfl (kv (.pointer (some ⟨b4, 2, none⟩))) (HS67.cell 2)) ?_)
                   have hq_ := bind_some h; clear h; obtain ⟨vt77, hc78, h⟩ := hq_
                   refine seqG kr (does_call (f := 86) (args := #[.string c1.Unit, .func (.func 90) #[] #[]]) kr (frame_all__frame_lower.calls k c1.Unit HS67 vt77 hc78) ?_)
                   rintro _ W81 ⟨f79, rfl, L80, HS82⟩
                   refine ⟨_, rfl, ?_⟩
                   refine seqL3 kr ?_
                   refine nl (hK73 _ _ ?_)
                   have hq_ := ite_some h; clear h; rcases hq_ with ⟨c84, h⟩ | ⟨c84, h⟩
                   · have c84 : ¬ (vt77 = true) := c84
                     refine wpRwI 47 (x := (!vt77)) (v := true) kr (congrArg (fun b_ => !b_) (show vt77 = false from (Bool.eq_false_iff.mpr c84)) : (!vt77) = true) ?_
                     refine wpRwI 56 (x := (!vt77)) (v := true) kr (congrArg (fun b_ => !b_) (show vt77 = false from (Bool.eq_false_iff.mpr c84)) : (!vt77) = true) ?_
                     refine wpRwI 57 (x := (!vt77)) (v := true) kr (congrArg (fun b_ => !b_) (show vt77 = false from (Bool.eq_false_iff.mpr c84)) : (!vt77) = true) ?_
                     refine condT kr ?_
                     refine wp_seq_k fun K85 hK86 => rl ?_
                     refine seqL1 kr ?_
                     refine nl (hK86 _ _ ?_)
                     refine wp_ret ?_
                     refine hr13 _ _ ?_
                     refine hret _ _ ?_
                     refine ends_still (v := Value.int .i64 3) kr kr ?_
                     have HS133 := HS82.drop
                     injection h with h
                     subst h
                     exact ⟨f79, rfl, (L29.trans (L38.trans (L47.trans (L65.trans L80)))), HS133⟩
                   · have c84 : ¬ (¬ (vt77 = true)) := c84
                     refine wpRwI 47 (x := (!vt77)) (v := false) kr (congrArg (fun b_ => !b_) (show vt77 = true from (Decidable.of_not_not c84)) : (!vt77) = false) ?_
                     refine wpRwI 56 (x := (!vt77)) (v := false) kr (congrArg (fun b_ => !b_) (show vt77 = true from (Decidable.of_not_not c84)) : (!vt77) = false) ?_
                     refine wpRwI 57 (x := (!vt77)) (v := false) kr (congrArg (fun b_ => !b_) (show vt77 = true from (Decidable.of_not_not c84)) : (!vt77) = false) ?_
                     refine condF kr ?_
                     refine wp_seq_k (fun K87 hK88 => ?_)
                     refine heldG (S := Sg t f79 ([(b4, .cells #[.string c1.Key, .string c1.Value, .string c1.Unit, .string c1.Note] 98 (0, 0))] :: H) []) (n := 13) kr rfl HS82 ?_
                     intro W89 HS90
                     refine takeGL [0] (n := 13) (fuel := 12) #[true, false, false, false, false, false, false, false, false, false, false, false, false] rfl kr kr kr (fun ch_ a_ w_ q_ => hnp ch_ a_ w_ (hp15 ch_ a_ w_ q_)) (Sg.g0 (Sx.of [] (FM.le.refl _) HS90)) ?_
                     refine takeGQ 1 [] rfl kr kr kr kr kr kr (fun ch_ a_ w_ q_ => hnp ch_ a_ w_ (hp15 ch_ a_ w_ q_)) (Sg.g0 (Sx.of [] (FM.le.refl _) HS90)) (fun w_ hw_ => by obtain ⟨g_, hl_, hS_⟩ := hw_.st; exact run_load rfl Tryz.underlying9 rfl (kv (.pointer (some ⟨b4, 3, none⟩))) (hS_.cell 3)) ?_
                     have hq_ := bind_some h; clear h; obtain ⟨vt91, hc92, h⟩ := hq_
                     refine takeGE 2 kr rfl kr (does_call (f := 86) (args := #[.string c1.Note, .func (.func 91) #[] #[]]) kr (frame_all__frame_typed.calls k c1.Note HS90 vt91 hc92) ?_)
                     rintro _ W95 ⟨f93, rfl, L94, HS96⟩
                     refine ⟨_, rfl, ?_⟩
                     refine ⟨(Sg.g0 (Sx.of [] L94 HS96)), ?_⟩
                     refine takeGL [3, 4] (n := 10) (fuel := 8) #[true, true, true, true, true, false, false, false, false, false, false, false, false] rfl kr kr kr (fun ch_ a_ w_ q_ => hnp ch_ a_ w_ (hp15 ch_ a_ w_ q_)) (Sg.g0 (Sx.of [] L94 HS96)) ?_
                     have hq_ := ite_some h; clear h; rcases hq_ with ⟨c97, h⟩ | ⟨c97, h⟩
                     · have c97 : ¬ (vt91 = true) := c97
                       refine gateRwI 62 (x := (!vt91)) (v := true) kr (congrArg (fun b_ => !b_) (show vt91 = false from (Bool.eq_false_iff.mpr c97)) : (!vt91) = true) ?_
                       refine gateRwI 63 (x := (!vt91)) (v := true) kr (congrArg (fun b_ => !b_) (show vt91 = false from (Bool.eq_false_iff.mpr c97)) : (!vt91) = true) ?_
                       refine takeGL [5, 6, 7, 8, 9, 10, 11, 12] (n := 8) (fuel := 0) #[true, true, true, true, true, true, true, true, true, true, true, true, true] rfl kr kr kr (fun ch_ a_ w_ q_ => hnp ch_ a_ w_ (hp15 ch_ a_ w_ q_)) (Sg.g0 (Sx.of [] L94 HS96)) ?_
                       refine doneG kr ?_ _
                       refine hK88 _ _ ?_
                       refine condT kr ?_
                       refine wp_seq_k fun K98 hK99 => rl ?_
                       refine seqL1 kr ?_
                       refine nl (hK99 _ _ ?_)
                       refine wp_ret ?_
                       refine hr13 _ _ ?_
                       refine hret _ _ ?_
                       refine ends_still (v := Value.int .i64 3) kr kr ?_
                       have HS134 := HS96.drop
                       injection h with h
                       subst h
                       exact ⟨f93, rfl, (L29.trans (L38.trans (L47.trans (L65.trans (L80.trans L94))))), HS134⟩
                     · have c97 : ¬ (¬ (vt91 = true)) := c97
                       refine gateRwI 62 (x := (!vt91)) (v := false) kr (congrArg (fun b_ => !b_) (show vt91 = true from (Decidable.of_not_not c97)) : (!vt91) = false) ?_
                       refine gateRwI 63 (x := (!vt91)) (v := false) kr (congrArg (fun b_ => !b_) (show vt91 = true from (Decidable.of_not_not c97)) : (!vt91) = false) ?_
                       refine takeGL [5] (n := 8) (fuel := 7) #[true, true, true, true, true, true, false, false, false, false, false, false, false] rfl kr kr kr (fun ch_ a_ w_ q_ => hnp ch_ a_ w_ (hp15 ch_ a_ w_ q_)) (Sg.g0 (Sx.of [] L94 HS96)) ?_
                       refine takeGQ 6 [] rfl kr kr kr kr kr kr (fun ch_ a_ w_ q_ => hnp ch_ a_ w_ (hp15 ch_ a_ w_ q_)) (Sg.g0 (Sx.of [] L94 HS96)) (fun w_ hw_ => by obtain ⟨g_, hl_, hS_⟩ := hw_.st; exact run_load rfl Tryz.underlying9 rfl (kv (.pointer (some ⟨b4, 3, none⟩))) (hS_.cell 3)) ?_
                       refine takeGL [8] (n := 6) (fuel := 5) #[true, true, true, true, true, true, true, false, true, false, false, false, false] rfl kr kr kr (fun ch_ a_ w_ q_ => hnp ch_ a_ w_ (hp15 ch_ a_ w_ q_)) (Sg.g0 (Sx.of [] L94 HS96)) ?_
                       refine takeGQ 9 [] rfl kr kr kr kr kr kr (fun ch_ a_ w_ q_ => hnp ch_ a_ w_ (hp15 ch_ a_ w_ q_)) (Sg.g0 (Sx.of [] L94 HS96)) (fun w_ hw_ => by obtain ⟨g_, hl_, hS_⟩ := hw_.st; exact run_load rfl Tryz.underlying9 rfl (kv (.pointer (some ⟨b4, 3, none⟩))) (hS_.cell 3)) ?_
                       have hq_ := bind_some h; clear h; obtain ⟨vt100, hc101, h⟩ := hq_
                       refine takeGE 7 kr rfl kr (does_call (f := 92) (args := #[.string c1.Note]) kr (strings_TrimSpace.calls k c1.Note HS96 (HA.mono (L29.trans (L38.trans (L47.trans (L65.trans (L80.trans L94)))))) vt100 hc101) ?_)
                       rintro _ W104 ⟨f102, rfl, L103, HS105⟩
                       refine ⟨_, rfl, ?_⟩
                       refine ⟨(Sg.g0 (Sx.of [] (L94.trans L103) HS105)), ?_⟩
                       refine takeGL [10, 11, 12] (n := 3) (fuel := 0) #[true, true, true, true, true, true, true, true, true, true, true, true, true] rfl kr kr kr (fun ch_ a_ w_ q_ => hnp ch_ a_ w_ (hp15 ch_ a_ w_ q_)) (Sg.g0 (Sx.of [] (L94.trans L103) HS105)) ?_
                       refine doneG kr ?_ _
                       refine hK88 _ _ ?_
                       have hq_ := ite_some h; clear h; rcases hq_ with ⟨c107, h⟩ | ⟨c107, h⟩
                       · have c107 : (!(vt100.toList == c1.Note.toList)) = true := c107
                         refine wpRwI 58 (x := (!(vt100.toList == c1.Note.toList))) (v := true) kr c107 ?_
                         refine wpRwI 69 (x := (!(vt100.toList == c1.Note.toList))) (v := true) kr c107 ?_
                         refine wpRwI 70 (x := (!(vt100.toList == c1.Note.toList))) (v := true) kr c107 ?_
                         refine condT kr ?_
                         refine wp_seq_k fun K108 hK109 => rl ?_
                         refine seqL1 kr ?_
                         refine nl (hK109 _ _ ?_)
                         refine wp_ret ?_
                         refine hr13 _ _ ?_
                         refine hret _ _ ?_
                         refine ends_still (v := Value.int .i64 3) kr kr ?_
                         have HS135 := HS105.drop
                         injection h with h
                         subst h
                         exact ⟨f102, rfl, (L29.trans (L38.trans (L47.trans (L65.trans (L80.trans (L94.trans L103)))))), HS135⟩
                       · have c107 : ¬ ((!(vt100.toList == c1.Note.toList)) = true) := c107
                         refine wpRwI 58 (x := (!(vt100.toList == c1.Note.toList))) (v := false) kr (Bool.eq_false_iff.mpr c107) ?_
                         refine wpRwI 69 (x := (!(vt100.toList == c1.Note.toList))) (v := false) kr (Bool.eq_false_iff.mpr c107) ?_
                         refine wpRwI 70 (x := (!(vt100.toList == c1.Note.toList))) (v := false) kr (Bool.eq_false_iff.mpr c107) ?_
                         refine condF kr ?_
                         refine wp_seq_k fun K110 hK111 => rl ?_
                         refine seqK rfl (does_run (run_loadN (n := 4) rfl Tryz.underlying98 rfl kr (kv (.pointer (some ⟨b4, 0, none⟩))) (cs := [.string c1.Key, .string c1.Value, .string c1.Unit, .string c1.Note]) rfl (HS105.cells 0 4 _ rfl)) ?_)
                         have hq_ := bind_some h; clear h; obtain ⟨vt112, hc113, h⟩ := hq_
                         refine seqK rfl (does_call (f := 93) (args := #[.agg #[.string c1.Key, .string c1.Value, .string c1.Unit, .string c1.Note]]) kr (frame_text.calls k c1 HS105 vt112 hc113) ?_)
                         rintro _ W116 ⟨f114, rfl, L115, HS117⟩
                         refine ⟨_, rfl, ?_⟩
                         refine seqL3 kr ?_
                         refine nl (hK111 _ _ ?_)
                         have hq_ := ite_some h; clear h; rcases hq_ with ⟨c119, h⟩ | ⟨c119, h⟩
                         · have c119 : (vt112.size : Int) > 64 := c119
                           refine wpRwI 71 (x := (decide ((vt112.size : Int) > 64))) (v := true) kr (decide_eq_true c119) ?_
                           refine wpRwI 75 (x := (decide ((vt112.size : Int) > 64))) (v := true) kr (decide_eq_true c119) ?_
                           refine condT kr ?_
                           refine wp_seq_k fun K120 hK121 => rl ?_
                           refine seqL1 kr ?_
                           refine nl (hK121 _ _ ?_)
                           refine wp_ret ?_
                           refine hr13 _ _ ?_
                           refine hret _ _ ?_
                           refine ends_still (v := Value.int .i64 2) kr kr ?_
                           have HS136 := HS117.drop
                           injection h with h
                           subst h
                           exact ⟨f114, rfl, (L29.trans (L38.trans (L47.trans (L65.trans (L80.trans (L94.trans (L103.trans L115))))))), HS136⟩
                         · have c119 : ¬ ((vt112.size : Int) > 64) := c119
                           refine wpRwI 71 (x := (decide ((vt112.size : Int) > 64))) (v := false) kr (decide_eq_false c119) ?_
                           refine wpRwI 75 (x := (decide ((vt112.size : Int) > 64))) (v := false) kr (decide_eq_false c119) ?_
                           refine condF kr ?_
                           refine wp_skip ?_
                           refine hn12 _ _ ?_
                           refine hK9 _ _ ?_
                           refine wp_seq_k fun K122 hK123 => rl ?_
                           refine seqL1 kr ?_
                           refine nl (hK123 _ _ ?_)
                           refine wp_ret ?_
                           refine hret _ _ ?_
                           refine ends_still (v := Value.int .i64 0) kr kr ?_
                           have HS137 := HS117.drop
                           injection h with h
                           subst h
                           exact ⟨f114, rfl, (L29.trans (L38.trans (L47.trans (L65.trans (L80.trans (L94.trans (L103.trans L115))))))), HS137⟩

set_option maxRecDepth 100000 in
set_option maxHeartbeats 4000000 in
theorem frame_find_1.calls (k : Nat) (b1 : Nat) (v3 : ByteArray) (c4 : S_Card) {t w : World} {f : FM} {H : List Seg} (HS : St t w f ([(b1, .cells #[.string v3] 9 (0, 0))] :: H)) (rr1 : Bool) (h : frame_find_1 k v3 c4 = some rr1) :
    Calls Tryz.prog 95 #[.agg #[.string c4.Key, .string c4.Value, .string c4.Unit, .string c4.Note], .pointer (some ⟨b1, 0, none⟩)] w (fun e w' => ∃ (g : FM), e = .returned (Value.bool rr1) ∧ FM.le f g ∧ St t w' g ([(b1, .cells #[.string v3] 9 (0, 0))] :: H)) := by
 unfold frame_find_1 at h
 refine enter Tryz.func95 rfl (tm := #[(ag_Card c4), pV b1 0, uV, uV, uV, uV, uV, uV]) kr ?_
 intro B hret hnor hnp
 refine wp_seq_k fun K5 hK6 => rl ?_
 refine seqK rfl (does_box (cs := #[.string c4.Key, .string c4.Value, .string c4.Unit, .string c4.Note]) rfl (kv (.agg #[.string c4.Key, .string c4.Value, .string c4.Unit, .string c4.Note])) rfl HS ?_)
 intro b7 W8 HS9
 refine seqL1 kr ?_
 refine nl (hK6 _ _ ?_)
 refine wp_seq_k fun K11 hK12 => rl ?_
 refine seqL1 kr ?_
 refine seqK rfl (does_run (run_load rfl Tryz.underlying9 rfl (kv (.pointer (some ⟨b7, 0, none⟩))) (HS9.cell 0)) ?_)
 refine seqK rfl (does_run (run_load rfl Tryz.underlying9 rfl (kv (.pointer (some ⟨b1, 0, none⟩))) (HS9.u1.cell 0)) ?_)
 refine seqL2 kr ?_
 refine nl (hK12 _ _ ?_)
 refine wp_ret ?_
 refine hret _ _ ?_
 refine ends_still (v := Value.bool (c4.Key.toList == v3.toList)) kr kr ?_
 have HS13 := HS9.drop
 injection h with h
 subst h
 exact ⟨f, rfl, FM.le.refl _, HS13⟩

set_option maxRecDepth 100000 in
set_option maxHeartbeats 4000000 in
theorem slices_IndexFunc_Card__frame_find_1.calls (k : Nat) (b1 : Nat) (A5 : Option Addr) (c6 : Nat) (v3 : ByteArray) (s4 : List S_Card) {t w : World} {f : FM} {H : List Seg} (HS : St t w f ([(b1, .cells #[.string v3] 9 (0, 0))] :: H)) (HR7 : SlR ty_Card f A5 c6 s4) (rr1 : Int) (h : slices_IndexFunc_Card__frame_find_1 k v3 s4 = some rr1) :
    Calls Tryz.prog 94 #[.slice A5 s4.length c6, .func (.func 95) #[] #[.pointer (some ⟨b1, 0, none⟩)]] w (fun e w' => ∃ (g : FM), e = .returned (Value.int .i64 rr1) ∧ FM.le f g ∧ St t w' g ([(b1, .cells #[.string v3] 9 (0, 0))] :: H)) := by
 unfold slices_IndexFunc_Card__frame_find_1 at h
 refine enter Tryz.func94 rfl (tm := #[.slice A5 s4.length c6, .func (.func 95) #[] #[pV b1 0], uV, uV, uV, uV, uV, uV, uV, uV, uV, uV, uV, uV, uV, uV, uV, uV, uV]) kr ?_
 intro B hret hnor hnp
 refine wp_seq_k fun K8 hK9 => rl ?_
 refine seqL1 kr ?_
 refine nl (hK9 _ _ ?_)
 refine wp_seq_k (fun K10 hK11 => ?_)
 refine wp_seq_k fun K12 hK13 => rl ?_
 refine seqL3 kr ?_
 refine nl (hK13 _ _ ?_)
 refine blockK (fun B14 hx15 hn16 hr17 ho18 hp19 => ?_)
 have hq_ := bind_some h; clear h; obtain ⟨o20, hv71, h⟩ := hq_
 have JR73 : ∀ z_, some (Sum.inl z_) = some o20 → some z_ = some rr1 := by
  intro z_ e_; injection e_ with e_; subst e_; exact h
 have J72 : ∀ (f66 : FM) (j70 : Nat → Value) (W68 : World) (a_ : Act), FM.le f f66 → some (Sum.inr ()) = some o20 → St t W68 f66 ([(b1, .cells #[.string v3] 9 (0, 0))] :: H) → a_ = ⟨#[.slice A5 s4.length c6, .func (.func 95) #[] #[pV b1 0], uV, uV, (j70 0), (j70 1), .slice A5 s4.length c6, iV (s4.length : Int), (j70 2), (j70 3), (j70 4), (j70 5), (j70 6), (j70 7), (j70 8), (j70 9), (j70 10), (j70 11), (j70 12)], []⟩ → K10 a_ W68 := by
  intro f66 j70 W68 a_ L67 hj74 HS69  hfr_; subst hfr_
  injection hj74 with hj74; subst hj74; try dsimp only at h
  simp only [Sum.elim_inr] at h
  refine hK11 _ _ ?_
  refine wp_seq_k fun K75 hK76 => rl ?_
  refine seqL1 kr ?_
  refine nl (hK76 _ _ ?_)
  refine wp_ret ?_
  refine hret _ _ ?_
  refine ends_still (v := Value.int .i64 (-1)) kr kr ?_
  injection h with h
  subst h
  exact ⟨f66, rfl, L67, HS69⟩
 clear h; have h := hv71; clear hv71
 refine loopK (fun n_ a_ w_ => ∃ (f24 : FM) (x29 : Int) (j28 : Nat → Value), FM.le f f24 ∧ St t w_ f24 ([(b1, .cells #[.string v3] 9 (0, 0))] :: H) ∧ slices_IndexFunc_Card__frame_find_1.l0 k s4 v3 n_ x29 = some o20 ∧ a_ = ⟨#[.slice A5 s4.length c6, .func (.func 95) #[] #[pV b1 0], uV, uV, (j28 0), (j28 1), .slice A5 s4.length c6, iV (s4.length : Int), iV x29, (j28 2), (j28 3), (j28 4), (j28 5), (j28 6), (j28 7), (j28 8), (j28 9), (j28 10), (j28 11)], []⟩) k ⟨f, 0, (fun i_ => [Value.int .i64 0, undef, undef, undef, undef, undef, undef, undef, undef, undef, undef, undef].getD i_ undef), (FM.le.refl _), HS, h, kr⟩ ?_
 clear h
 rintro n23 _ W26 ⟨f24, x29, j28, L25, HS27, h, rfl⟩ K21 hK22
 obtain _ | n23 := n23
 · exact nomatch h
 simp only [slices_IndexFunc_Card__frame_find_1.l0] at h
 refine wp_seq_k fun K30 hK31 => rl ?_
 refine seqL1 kr ?_
 refine nl (hK31 _ _ ?_)
 refine wp_seq_k (fun K32 hK33 => ?_)
 have hq_ := ite_some h; clear h; rcases hq_ with ⟨c35, h⟩ | ⟨c35, h⟩
 · have c35 : x29 < (s4.length : Int) := c35
   refine wpRwI 9 (x := (decide (x29 < (s4.length : Int)))) (v := true) kr (decide_eq_true c35) ?_
   refine condT kr ?_
   refine wp_skip ?_
   refine hK33 _ _ ?_
   refine wp_seq_k (fun K36 hK37 => ?_)
   refine blockK (fun B38 hx39 hn40 hr41 ho42 hp43 => ?_)
   refine wp_seq_k fun K45 hK46 => rl ?_
   refine seqL2 kr ?_
   refine nl (hK46 _ _ ?_)
   refine wp_seq_k fun K47 hK48 => rl ?_
   have hq_ := guard_some h; clear h; obtain ⟨c49, h⟩ := hq_
   have c49 : 0 ≤ x29 := c49
   obtain ⟨b53, of54, cs50, hA55, hr51, hc52⟩ := (HR7.mono L25).at (i := x29) c49 c35
   obtain rfl := hr51
   refine seqL3 kr ?_
   refine seqK rfl (does_run (run_indexE hA55 (sz := 4) rfl Tryz.underlying52 kr (kv (.slice A5 s4.length c6)) (kv (.int .i64 x29)) c49 c35 W26) ?_)
   refine seqK rfl (does_run (run_loadN (n := 4) rfl Tryz.underlying98 rfl kr (kv (.pointer (some ⟨b53, of54 + (x29 : Int).toNat * 4, none⟩))) (cs := [.string ((rd s4 x29).Key), .string ((rd s4 x29).Value), .string ((rd s4 x29).Unit), .string ((rd s4 x29).Note)]) rfl (fun j_ hj_ => ((hc52 (FM.le.refl _) HS27) j_ hj_))) ?_)
   have hq_ := bind_some h; clear h; obtain ⟨vt56, hc57, h⟩ := hq_
   refine seqK rfl (does_call (f := 95) (args := #[.agg #[.string ((rd s4 x29).Key), .string ((rd s4 x29).Value), .string ((rd s4 x29).Unit), .string ((rd s4 x29).Note)], .pointer (some ⟨b1, 0, none⟩)]) kr (frame_find_1.calls k b1 v3 (rd s4 x29) HS27 vt56 hc57) ?_)
   rintro _ W60 ⟨f58, rfl, L59, HS61⟩
   refine ⟨_, rfl, ?_⟩
   refine nl (hK48 _ _ ?_)
   have hq_ := ite_some h; clear h; rcases hq_ with ⟨c63, h⟩ | ⟨c63, h⟩
   · have c63 : vt56 = true := c63
     refine wpRwI 16 (x := vt56) (v := true) kr c63 ?_
     refine condT kr ?_
     refine wp_seq_k fun K64 hK65 => rl ?_
     refine seqL2 kr ?_
     refine nl (hK65 _ _ ?_)
     refine wp_ret ?_
     refine hr41 _ _ ?_
     refine hr17 _ _ ?_
     refine hret _ _ ?_
     refine ends_still (v := Value.int .i64 x29) kr kr ?_
     replace h := JR73 _ h
     injection h with h
     subst h
     exact ⟨f58, rfl, (L25.trans L59), HS61⟩
   · have c63 : ¬ (vt56 = true) := c63
     refine wpRwI 16 (x := vt56) (v := false) kr (Bool.eq_false_iff.mpr c63) ?_
     refine condF kr ?_
     refine wp_skip ?_
     refine hn40 _ _ ?_
     refine hK37 _ _ ?_
     refine rl ?_
     refine seqL2 kr ?_
     refine nl ?_
     refine hK22 n23 _ _ (Nat.lt_succ_self _) ?_
     exact ⟨f58, (w64 (x29 + 1)), (fun i_ => [(j28 0), Value.int .i64 x29, Value.bool true, Value.int .i64 x29, Value.func (.func 95) #[] #[.pointer (some ⟨b1, 0, none⟩)], Value.slice A5 s4.length c6, Value.int .i64 x29, Value.pointer (some ⟨b53, of54 + (x29 : Int).toNat * 4, none⟩), (ag_Card (rd s4 x29)), Value.bool false, (j28 10), Value.int .i64 (w64 (x29 + 1))].getD i_ undef), (L25.trans L59), HS61, h, kr⟩
 · have c35 : ¬ (x29 < (s4.length : Int)) := c35
   refine wpRwI 9 (x := (decide (x29 < (s4.length : Int)))) (v := false) kr (decide_eq_false c35) ?_
   refine condF kr ?_
   refine wp_exit ?_
   refine hx15 _ _ ?_
   exact J72 f24 (fun i_ => [(j28 0), (j28 1), Value.int .i64 x29, Value.bool false, (j28 3), (j28 4), (j28 5), (j28 6), (j28 7), (j28 8), (j28 9), (j28 10), (j28 11)].getD i_ undef) W26 _ L25 h HS27 kr

set_option maxRecDepth 100000 in
set_option maxHeartbeats 4000000 in
theorem frame_find.calls (k : Nat) (A2 : Option Addr) (c3 : Nat) (l1 : List S_Card) (key5 : ByteArray) {t w : World} {f : FM} {H : List Seg} (HS : St t w f (H)) (HR4 : SlR ty_Card f A2 c3 l1) (rr1 : Int) (h : frame_find k l1 key5 = some rr1) :
    Calls Tryz.prog 74 #[.slice A2 l1.length c3, .string key5] w (fun e w' => ∃ (g : FM), e = .returned (Value.int .i64 rr1) ∧ FM.le f g ∧ St t w' g (H)) := by
 unfold frame_find at h
 refine enter Tryz.func74 rfl (tm := #[.slice A2 l1.length c3, .string key5, uV, uV, uV, uV, uV, uV]) kr ?_
 intro B hret hnor hnp
 refine wp_seq_k fun K6 hK7 => rl ?_
 refine seqK rfl (does_box (cs := #[.string key5]) rfl (kv (.string key5)) rfl HS ?_)
 intro b8 W9 HS10
 refine seqL1 kr ?_
 refine nl (hK7 _ _ ?_)
 refine wp_seq_k fun K12 hK13 => rl ?_
 have hq_ := bind_some h; clear h; obtain ⟨vt14, hc15, h⟩ := hq_
 refine seqL2 kr ?_
 refine seqK rfl (does_call (f := 94) (args := #[.slice A2 l1.length c3, .func (.func 95) #[] #[.pointer (some ⟨b8, 0, none⟩)]]) kr (slices_IndexFunc_Card__frame_find_1.calls k b8 A2 c3 key5 l1 HS10 HR4 vt14 hc15) ?_)
 rintro _ W18 ⟨f16, rfl, L17, HS19⟩
 refine ⟨_, rfl, ?_⟩
 refine seqL1 kr ?_
 refine nl (hK13 _ _ ?_)
 refine wp_ret ?_
 refine hret _ _ ?_
 refine ends_still (v := Value.int .i64 vt14) kr kr ?_
 have HS20 := HS19.drop
 injection h with h
 subst h
 exact ⟨f16, rfl, L17, HS20⟩

set_option maxRecDepth 100000 in
set_option maxHeartbeats 4000000 in
theorem frame_Check.calls (k : Nat) (A2 : Option Addr) (c3 : Nat) (A5 : Option Addr) (c6 : Nat) (vf1 : S_Frame) {t w : World} {f : FM} {H : List Seg} (HS : St t w f (H)) (HR4 : SlR ty_Card f A2 c3 vf1.Cards) (HR7 : SlR (tInt .i64) f A5 c6 vf1.Counts) (HA : TabF Tryz.prog "strings.asciiSpace" .u8 Go.Lib.asciiSpaceTab f) (rr1 : Int) (h : frame_Check k vf1 = some rr1) :
    Calls Tryz.prog 55 #[.agg #[.int .i64 vf1.W, .int .i64 vf1.H, .slice A2 vf1.Cards.length c3, .slice A5 vf1.Counts.length c6]] w (fun e w' => ∃ (g : FM), e = .returned (Value.int .i64 rr1) ∧ FM.le f g ∧ St t w' g (H)) := by
 unfold frame_Check at h
 refine enter Tryz.func55 rfl (tm := #[(ag_Frame vf1 A2 c3 A5 c6), uV, uV, uV, uV, uV, uV, uV, uV, uV, uV, uV, uV, uV, uV, uV, uV, uV, uV, uV, uV, uV, uV, uV, uV, uV, uV, uV, uV, uV, uV, uV, uV, uV, uV, uV, uV, uV, uV, uV, uV, uV, uV, uV, uV, uV, uV, uV, uV, uV, uV, uV, uV, uV, uV, uV, uV, uV, uV, uV, uV, uV]) kr ?_
 intro B hret hnor hnp
 refine wp_seq_k fun K8 hK9 => rl ?_
 refine seqK rfl (does_box (cs := #[.int .i64 vf1.W, .int .i64 vf1.H, .slice A2 vf1.Cards.length c3, .slice A5 vf1.Counts.length c6]) rfl (kv (.agg #[.int .i64 vf1.W, .int .i64 vf1.H, .slice A2 vf1.Cards.length c3, .slice A5 vf1.Counts.length c6])) rfl HS ?_)
 intro b10 W11 HS12
 refine seqL1 kr ?_
 refine nl (hK9 _ _ ?_)
 refine wp_seq_k (fun K14 hK15 => ?_)
 refine blockK (fun B16 hx17 hn18 hr19 ho20 hp21 => ?_)
 refine wp_seq_k fun K23 hK24 => rl ?_
 refine seqL1 kr ?_
 refine seqK rfl (does_run (run_load rfl Tryz.underlying3 rfl (kv (.pointer (some ⟨b10, 0, none⟩))) (HS12.cell 0)) ?_)
 refine seqL1 kr ?_
 refine seqK rfl (does_run (run_load rfl Tryz.underlying3 rfl (kv (.pointer (some ⟨b10, 1, none⟩))) (HS12.cell 1)) ?_)
 refine seqL3 kr ?_
 have hq_ := ite_some h; clear h; rcases hq_ with ⟨c25, h⟩ | ⟨c25, h⟩
 · have c25 : (mn vf1.W vf1.H) < 1 := c25
   refine seqRwI 12 (x := (decide ((mn vf1.W vf1.H) < 1))) (v := true) kr (decide_eq_true c25) ?_
   refine seqRwI 13 (x := (decide ((mn vf1.W vf1.H) < 1))) (v := true) kr (decide_eq_true c25) ?_
   refine seqL8 kr ?_
   refine nl (hK24 _ _ ?_)
   refine condT kr ?_
   refine wp_seq_k fun K26 hK27 => rl ?_
   refine seqL1 kr ?_
   refine nl (hK27 _ _ ?_)
   refine wp_ret ?_
   refine hr19 _ _ ?_
   refine hret _ _ ?_
   refine ends_still (v := Value.int .i64 4) kr kr ?_
   have HS151 := HS12.drop
   injection h with h
   subst h
   exact ⟨f, rfl, FM.le.refl _, HS151⟩
 · have c25 : ¬ ((mn vf1.W vf1.H) < 1) := c25
   refine seqRwI 12 (x := (decide ((mn vf1.W vf1.H) < 1))) (v := false) kr (decide_eq_false c25) ?_
   refine seqRwI 13 (x := (decide ((mn vf1.W vf1.H) < 1))) (v := false) kr (decide_eq_false c25) ?_
   refine seqL1 kr ?_
   refine seqG kr (does_run (run_load rfl Tryz.underlying3 rfl (kv (.pointer (some ⟨b10, 0, none⟩))) (HS12.cell 0)) ?_)
   refine seqL1 kr ?_
   refine seqG kr (does_run (run_load rfl Tryz.underlying3 rfl (kv (.pointer (some ⟨b10, 1, none⟩))) (HS12.cell 1)) ?_)
   refine seqL4 kr ?_
   refine nl (hK24 _ _ ?_)
   have hq_ := ite_some h; clear h; rcases hq_ with ⟨c29, h⟩ | ⟨c29, h⟩
   · have c29 : (mx vf1.W vf1.H) > 32 := c29
     refine wpRwI 6 (x := (decide ((mx vf1.W vf1.H) > 32))) (v := true) kr (decide_eq_true c29) ?_
     refine wpRwI 19 (x := (decide ((mx vf1.W vf1.H) > 32))) (v := true) kr (decide_eq_true c29) ?_
     refine wpRwI 20 (x := (decide ((mx vf1.W vf1.H) > 32))) (v := true) kr (decide_eq_true c29) ?_
     refine condT kr ?_
     refine wp_seq_k fun K30 hK31 => rl ?_
     refine seqL1 kr ?_
     refine nl (hK31 _ _ ?_)
     refine wp_ret ?_
     refine hr19 _ _ ?_
     refine hret _ _ ?_
     refine ends_still (v := Value.int .i64 4) kr kr ?_
     have HS152 := HS12.drop
     injection h with h
     subst h
     exact ⟨f, rfl, FM.le.refl _, HS152⟩
   · have c29 : ¬ ((mx vf1.W vf1.H) > 32) := c29
     refine wpRwI 6 (x := (decide ((mx vf1.W vf1.H) > 32))) (v := false) kr (decide_eq_false c29) ?_
     refine wpRwI 19 (x := (decide ((mx vf1.W vf1.H) > 32))) (v := false) kr (decide_eq_false c29) ?_
     refine wpRwI 20 (x := (decide ((mx vf1.W vf1.H) > 32))) (v := false) kr (decide_eq_false c29) ?_
     refine condF kr ?_
     refine wp_seq_k fun K32 hK33 => rl ?_
     refine seqL1 kr ?_
     refine seqK rfl (does_run (run_load rfl Tryz.underlying22 rfl (kv (.pointer (some ⟨b10, 3, none⟩))) (HS12.cell 3)) ?_)
     refine seqL2 kr ?_
     refine seqK rfl (does_run (run_load rfl Tryz.underlying3 rfl (kv (.pointer (some ⟨b10, 0, none⟩))) (HS12.cell 0)) ?_)
     refine seqL1 kr ?_
     refine seqK rfl (does_run (run_load rfl Tryz.underlying3 rfl (kv (.pointer (some ⟨b10, 1, none⟩))) (HS12.cell 1)) ?_)
     refine seqL3 kr ?_
     refine nl (hK33 _ _ ?_)
     have hq_ := ite_some h; clear h; rcases hq_ with ⟨c35, h⟩ | ⟨c35, h⟩
     · have c35 : (vf1.Counts.length : Int) ≠ (w64 (vf1.W * vf1.H)) := c35
       refine wpRwI 21 (x := ((vf1.Counts.length : Int) != (w64 (vf1.W * vf1.H)))) (v := true) kr (bne_iff_ne.mpr c35) ?_
       refine wpRwI 30 (x := ((vf1.Counts.length : Int) != (w64 (vf1.W * vf1.H)))) (v := true) kr (bne_iff_ne.mpr c35) ?_
       refine condT kr ?_
       refine wp_seq_k fun K36 hK37 => rl ?_
       refine seqL1 kr ?_
       refine nl (hK37 _ _ ?_)
       refine wp_ret ?_
       refine hr19 _ _ ?_
       refine hret _ _ ?_
       refine ends_still (v := Value.int .i64 3) kr kr ?_
       have HS153 := HS12.drop
       injection h with h
       subst h
       exact ⟨f, rfl, FM.le.refl _, HS153⟩
     · have c35 : ¬ ((vf1.Counts.length : Int) ≠ (w64 (vf1.W * vf1.H))) := c35
       refine wpRwI 21 (x := ((vf1.Counts.length : Int) != (w64 (vf1.W * vf1.H)))) (v := false) kr (bne_eq_false_iff_eq.mpr (Decidable.of_not_not c35)) ?_
       refine wpRwI 30 (x := ((vf1.Counts.length : Int) != (w64 (vf1.W * vf1.H)))) (v := false) kr (bne_eq_false_iff_eq.mpr (Decidable.of_not_not c35)) ?_
       refine condF kr ?_
       refine wp_seq_k fun K38 hK39 => rl ?_
       refine seqL1 kr ?_
       refine seqK rfl (does_run (run_load rfl Tryz.underlying22 rfl (kv (.pointer (some ⟨b10, 3, none⟩))) (HS12.cell 3)) ?_)
       have hq_ := bind_some h; clear h; obtain ⟨vt40, hc41, h⟩ := hq_
       refine seqK rfl (does_call (f := 51) (args := #[.slice A5 vf1.Counts.length c6, .func (.func 72) #[] #[]]) kr (slices_ContainsFunc_int__frame_Check_1.calls k A5 c6 vf1.Counts HS12 HR7 vt40 hc41) ?_)
       rintro _ W44 ⟨f42, rfl, L43, HS45⟩
       refine ⟨_, rfl, ?_⟩
       refine seqL1 kr ?_
       refine nl (hK39 _ _ ?_)
       have hq_ := ite_some h; clear h; rcases hq_ with ⟨c47, h⟩ | ⟨c47, h⟩
       · have c47 : vt40 = true := c47
         refine wpRwI 31 (x := vt40) (v := true) kr c47 ?_
         refine wpRwI 34 (x := vt40) (v := true) kr c47 ?_
         refine condT kr ?_
         refine wp_seq_k fun K48 hK49 => rl ?_
         refine seqL1 kr ?_
         refine nl (hK49 _ _ ?_)
         refine wp_ret ?_
         refine hr19 _ _ ?_
         refine hret _ _ ?_
         refine ends_still (v := Value.int .i64 4) kr kr ?_
         have HS154 := HS45.drop
         injection h with h
         subst h
         exact ⟨f42, rfl, L43, HS154⟩
       · have c47 : ¬ (vt40 = true) := c47
         refine wpRwI 31 (x := vt40) (v := false) kr (Bool.eq_false_iff.mpr c47) ?_
         refine wpRwI 34 (x := vt40) (v := false) kr (Bool.eq_false_iff.mpr c47) ?_
         refine condF kr ?_
         refine wp_seq_k fun K50 hK51 => rl ?_
         refine seqL1 kr ?_
         refine seqK rfl (does_run (run_load rfl Tryz.underlying52 rfl (kv (.pointer (some ⟨b10, 2, none⟩))) (HS45.cell 2)) ?_)
         refine seqL3 kr ?_
         refine nl (hK51 _ _ ?_)
         have hq_ := ite_some h; clear h; rcases hq_ with ⟨c53, h⟩ | ⟨c53, h⟩
         · have c53 : (vf1.Cards.length : Int) > 28 := c53
           refine wpRwI 35 (x := (decide ((vf1.Cards.length : Int) > 28))) (v := true) kr (decide_eq_true c53) ?_
           refine wpRwI 39 (x := (decide ((vf1.Cards.length : Int) > 28))) (v := true) kr (decide_eq_true c53) ?_
           refine condT kr ?_
           refine wp_seq_k fun K54 hK55 => rl ?_
           refine seqL1 kr ?_
           refine nl (hK55 _ _ ?_)
           refine wp_ret ?_
           refine hr19 _ _ ?_
           refine hret _ _ ?_
           refine ends_still (v := Value.int .i64 2) kr kr ?_
           have HS155 := HS45.drop
           injection h with h
           subst h
           exact ⟨f42, rfl, L43, HS155⟩
         · have c53 : ¬ ((vf1.Cards.length : Int) > 28) := c53
           refine wpRwI 35 (x := (decide ((vf1.Cards.length : Int) > 28))) (v := false) kr (decide_eq_false c53) ?_
           refine wpRwI 39 (x := (decide ((vf1.Cards.length : Int) > 28))) (v := false) kr (decide_eq_false c53) ?_
           refine condF kr ?_
           refine wp_skip ?_
           refine hn18 _ _ ?_
           refine hK15 _ _ ?_
           refine wp_seq_k (fun K56 hK57 => ?_)
           refine wp_seq_k fun K58 hK59 => rl ?_
           refine seqL1 kr ?_
           refine seqK rfl (does_run (run_load rfl Tryz.underlying52 rfl (kv (.pointer (some ⟨b10, 2, none⟩))) (HS45.cell 2)) ?_)
           refine seqL2 kr ?_
           refine nl (hK59 _ _ ?_)
           refine blockK (fun B60 hx61 hn62 hr63 ho64 hp65 => ?_)
           have hq_ := bind_some h; clear h; obtain ⟨o66, hv142, h⟩ := hq_
           have JR144 : ∀ z_, some (Sum.inl z_) = some o66 → some z_ = some rr1 := by
            intro z_ e_; injection e_ with e_; subst e_; exact h
           have J143 : ∀ (f137 : FM) (j141 : Nat → Value) (W139 : World) (a_ : Act), FM.le f42 f137 → some (Sum.inr ()) = some o66 → St t W139 f137 ([(b10, .cells #[.int .i64 vf1.W, .int .i64 vf1.H, .slice A2 vf1.Cards.length c3, .slice A5 vf1.Counts.length c6] 54 (0, 0))] :: H) → a_ = ⟨#[(ag_Frame vf1 A2 c3 A5 c6), pV b10 0, (j141 0), (j141 1), (j141 2), (j141 3), fV, pV b10 0, iV vf1.W, pV b10 1, iV vf1.H, iV (mn vf1.W vf1.H), fV, fV, pV b10 0, iV vf1.W, pV b10 1, iV vf1.H, iV (mx vf1.W vf1.H), fV, fV, fV, pV b10 3, .slice A5 vf1.Counts.length c6, iV (vf1.Counts.length : Int), pV b10 0, iV vf1.W, pV b10 1, iV vf1.H, iV (w64 (vf1.W * vf1.H)), fV, fV, pV b10 3, .slice A5 vf1.Counts.length c6, fV, fV, pV b10 2, .slice A2 vf1.Cards.length c3, iV (vf1.Cards.length : Int), fV, pV b10 2, .slice A2 vf1.Cards.length c3, iV (vf1.Cards.length : Int), (j141 4), (j141 5), (j141 6), (j141 7), (j141 8), (j141 9), (j141 10), (j141 11), (j141 12), (j141 13), (j141 14), (j141 15), (j141 16), (j141 17), (j141 18), (j141 19), (j141 20), (j141 21), (j141 22)], []⟩ → K56 a_ W139 := by
            intro f137 j141 W139 a_ L138 hj145 HS140  hfr_; subst hfr_
            injection hj145 with hj145; subst hj145; try dsimp only at h
            simp only [Sum.elim_inr] at h
            refine hK57 _ _ ?_
            refine wp_seq_k fun K149 hK150 => rl ?_
            refine seqL1 kr ?_
            refine nl (hK150 _ _ ?_)
            refine wp_ret ?_
            refine hret _ _ ?_
            refine ends_still (v := Value.int .i64 0) kr kr ?_
            have HS160 := HS140.drop
            injection h with h
            subst h
            exact ⟨f137, rfl, (L43.trans L138), HS160⟩
           clear h; have h := hv142; clear hv142
           refine loopK (fun n_ a_ w_ => ∃ (f70 : FM) (x75 : Int) (j74 : Nat → Value), FM.le f42 f70 ∧ St t w_ f70 ([(b10, .cells #[.int .i64 vf1.W, .int .i64 vf1.H, .slice A2 vf1.Cards.length c3, .slice A5 vf1.Counts.length c6] 54 (0, 0))] :: H) ∧ frame_Check.l0 k vf1 n_ x75 = some o66 ∧ a_ = ⟨#[(ag_Frame vf1 A2 c3 A5 c6), pV b10 0, (j74 0), (j74 1), (j74 2), (j74 3), fV, pV b10 0, iV vf1.W, pV b10 1, iV vf1.H, iV (mn vf1.W vf1.H), fV, fV, pV b10 0, iV vf1.W, pV b10 1, iV vf1.H, iV (mx vf1.W vf1.H), fV, fV, fV, pV b10 3, .slice A5 vf1.Counts.length c6, iV (vf1.Counts.length : Int), pV b10 0, iV vf1.W, pV b10 1, iV vf1.H, iV (w64 (vf1.W * vf1.H)), fV, fV, pV b10 3, .slice A5 vf1.Counts.length c6, fV, fV, pV b10 2, .slice A2 vf1.Cards.length c3, iV (vf1.Cards.length : Int), fV, pV b10 2, .slice A2 vf1.Cards.length c3, iV (vf1.Cards.length : Int), iV x75, (j74 4), (j74 5), (j74 6), (j74 7), (j74 8), (j74 9), (j74 10), (j74 11), (j74 12), (j74 13), (j74 14), (j74 15), (j74 16), (j74 17), (j74 18), (j74 19), (j74 20), (j74 21)], []⟩) k ⟨f42, 0, (fun i_ => [Value.int .i64 0, undef, undef, undef, undef, undef, undef, undef, undef, undef, undef, undef, undef, undef, undef, undef, undef, undef, undef, undef, undef, undef].getD i_ undef), (FM.le.refl _), HS45, h, kr⟩ ?_
           clear h
           rintro n69 _ W72 ⟨f70, x75, j74, L71, HS73, h, rfl⟩ K67 hK68
           obtain _ | n69 := n69
           · exact nomatch h
           simp only [frame_Check.l0] at h
           refine wp_seq_k fun K76 hK77 => rl ?_
           refine seqL1 kr ?_
           refine nl (hK77 _ _ ?_)
           refine wp_seq_k (fun K78 hK79 => ?_)
           have hq_ := ite_some h; clear h; rcases hq_ with ⟨c81, h⟩ | ⟨c81, h⟩
           · have c81 : x75 < (vf1.Cards.length : Int) := c81
             refine wpRwI 44 (x := (decide (x75 < (vf1.Cards.length : Int)))) (v := true) kr (decide_eq_true c81) ?_
             refine condT kr ?_
             refine wp_skip ?_
             refine hK79 _ _ ?_
             refine wp_seq_k (fun K82 hK83 => ?_)
             refine blockK (fun B84 hx85 hn86 hr87 ho88 hp89 => ?_)
             refine wp_seq_k fun K91 hK92 => rl ?_
             have hq_ := guard_some h; clear h; obtain ⟨c93, h⟩ := hq_
             have c93 : 0 ≤ x75 := c93
             obtain ⟨b97, of98, cs94, hA99, hr95, hc96⟩ := (HR4.mono (L43.trans L71)).at (i := x75) c93 c81
             obtain rfl := hr95
             refine seqL1 kr ?_
             refine seqK rfl (does_run (run_indexE hA99 (sz := 4) rfl Tryz.underlying52 kr (kv (.slice A2 vf1.Cards.length c3)) (kv (.int .i64 x75)) c93 c81 W72) ?_)
             refine seqK rfl (does_run (run_loadN (n := 4) rfl Tryz.underlying98 rfl kr (kv (.pointer (some ⟨b97, of98 + (x75 : Int).toNat * 4, none⟩))) (cs := [.string ((rd vf1.Cards x75).Key), .string ((rd vf1.Cards x75).Value), .string ((rd vf1.Cards x75).Unit), .string ((rd vf1.Cards x75).Note)]) rfl (fun j_ hj_ => ((hc96 (FM.le.refl _) HS73) j_ hj_))) ?_)
             refine seqK rfl (does_alloc (z := Value.agg #[.string ⟨#[]⟩, .string ⟨#[]⟩, .string ⟨#[]⟩, .string ⟨#[]⟩]) (cs := #[.string ⟨#[]⟩, .string ⟨#[]⟩, .string ⟨#[]⟩, .string ⟨#[]⟩]) rfl kr rfl HS73 ?_)
             intro b100 W101 HS102
             refine seqL1 kr ?_
             refine seqK rfl (does_store (n := 4) (vs := [.string ((rd vf1.Cards x75).Key), .string ((rd vf1.Cards x75).Value), .string ((rd vf1.Cards x75).Unit), .string ((rd vf1.Cards x75).Note)]) (cs' := #[.string ((rd vf1.Cards x75).Key), .string ((rd vf1.Cards x75).Value), .string ((rd vf1.Cards x75).Unit), .string ((rd vf1.Cards x75).Note)]) rfl kr (kv (.pointer (some ⟨b100, 0, none⟩))) (kv (.agg #[.string ((rd vf1.Cards x75).Key), .string ((rd vf1.Cards x75).Value), .string ((rd vf1.Cards x75).Unit), .string ((rd vf1.Cards x75).Note)])) rfl rfl (by intro u_ hu_; simp only [List.mem_cons, List.not_mem_nil, or_false] at hu_; rcases hu_ with rfl | rfl | rfl | rfl <;> rfl) HS102 (Nat.le_of_ble_eq_true rfl) kr ?_)
             intro W104 HS105
             refine nl (hK92 _ _ ?_)
             refine wp_seq_k (fun K106 hK107 => ?_)
             refine wp_seq_k fun K108 hK109 => rl ?_
             refine seqK rfl (does_run (run_loadN (n := 4) rfl Tryz.underlying98 rfl kr (kv (.pointer (some ⟨b100, 0, none⟩))) (cs := [.string ((rd vf1.Cards x75).Key), .string ((rd vf1.Cards x75).Value), .string ((rd vf1.Cards x75).Unit), .string ((rd vf1.Cards x75).Note)]) rfl (HS105.cells 0 4 _ rfl)) ?_)
             have hq_ := bind_some h; clear h; obtain ⟨vt110, hc111, h⟩ := hq_
             refine seqK rfl (does_call (f := 73) (args := #[.agg #[.string ((rd vf1.Cards x75).Key), .string ((rd vf1.Cards x75).Value), .string ((rd vf1.Cards x75).Unit), .string ((rd vf1.Cards x75).Note)]]) kr (frame_CheckCard.calls k (rd vf1.Cards x75) HS105 (HA.mono (L43.trans L71)) vt110 hc111) ?_)
             rintro _ W114 ⟨f112, rfl, L113, HS115⟩
             refine ⟨_, rfl, ?_⟩
             refine seqL1 kr ?_
             refine nl (hK109 _ _ ?_)
             refine wp_seq_k fun K116 hK117 => rl ?_
             refine seqL2 kr ?_
             refine nl (hK117 _ _ ?_)
             have hq_ := ite_some h; clear h; rcases hq_ with ⟨c119, h⟩ | ⟨c119, h⟩
             · have c119 : vt110 ≠ 0 := c119
               refine wpRwI 51 (x := (vt110 != 0)) (v := true) kr (bne_iff_ne.mpr c119) ?_
               refine condT kr ?_
               refine wp_seq_k fun K120 hK121 => rl ?_
               refine seqL2 kr ?_
               refine nl (hK121 _ _ ?_)
               refine wp_ret ?_
               refine hr87 _ _ ?_
               refine hr63 _ _ ?_
               refine hret _ _ ?_
               refine ends_still (v := Value.int .i64 vt110) kr kr ?_
               have HS156 := HS115.drop
               have HS157 := HS156.drop
               replace h := JR144 _ h
               injection h with h
               subst h
               exact ⟨f112, rfl, (L43.trans (L71.trans L113)), HS157⟩
             · have c119 : ¬ (vt110 ≠ 0) := c119
               refine wpRwI 51 (x := (vt110 != 0)) (v := false) kr (bne_eq_false_iff_eq.mpr (Decidable.of_not_not c119)) ?_
               refine condF kr ?_
               refine wp_skip ?_
               refine hK107 _ _ ?_
               refine wp_seq_k (fun K122 hK123 => ?_)
               refine heldG (S := Sg t f112 ([(b100, .cells #[.string ((rd vf1.Cards x75).Key), .string ((rd vf1.Cards x75).Value), .string ((rd vf1.Cards x75).Unit), .string ((rd vf1.Cards x75).Note)] 98 (0, 0))] :: [(b10, .cells #[.int .i64 vf1.W, .int .i64 vf1.H, .slice A2 vf1.Cards.length c3, .slice A5 vf1.Counts.length c6] 54 (0, 0))] :: H) []) (n := 8) kr rfl HS115 ?_
               intro W124 HS125
               refine takeGL [0] (n := 8) (fuel := 7) #[true, false, false, false, false, false, false, false] rfl kr kr kr (fun ch_ a_ w_ q_ => (fun ch_ a_ w_ q_ => hnp ch_ a_ w_ (hp65 ch_ a_ w_ q_)) ch_ a_ w_ (hp89 ch_ a_ w_ q_)) (Sg.g0 (Sx.of [] (FM.le.refl _) HS125)) ?_
               refine takeGQ 1 [] rfl kr kr kr kr kr kr (fun ch_ a_ w_ q_ => (fun ch_ a_ w_ q_ => hnp ch_ a_ w_ (hp65 ch_ a_ w_ q_)) ch_ a_ w_ (hp89 ch_ a_ w_ q_)) (Sg.g0 (Sx.of [] (FM.le.refl _) HS125)) (fun w_ hw_ => by obtain ⟨g_, hl_, hS_⟩ := hw_.st; exact run_load rfl Tryz.underlying52 rfl (kv (.pointer (some ⟨b10, 2, none⟩))) (hS_.u1.cell 2)) ?_
               have hq_ := guard_some h; clear h; obtain ⟨c126, h⟩ := hq_
               have c126 : x75 ≤ (vf1.Cards.length : Int) := c126
               refine takeGL [2] (n := 6) (fuel := 5) #[true, true, true, false, false, false, false, false] rfl kr kr kr (fun ch_ a_ w_ q_ => (fun ch_ a_ w_ q_ => hnp ch_ a_ w_ (hp65 ch_ a_ w_ q_)) ch_ a_ w_ (hp89 ch_ a_ w_ q_)) (Sg.g0 (Sx.of [] (FM.le.refl _) HS125)) ?_
               refine takeGQ 3 [] rfl kr kr kr kr kr kr (fun ch_ a_ w_ q_ => (fun ch_ a_ w_ q_ => hnp ch_ a_ w_ (hp65 ch_ a_ w_ q_)) ch_ a_ w_ (hp89 ch_ a_ w_ q_)) (Sg.g0 (Sx.of [] (FM.le.refl _) HS125)) (fun w_ hw_ => by obtain ⟨g_, hl_, hS_⟩ := hw_.st; exact run_cutH (e := ty_Card) (xs := vf1.Cards) rfl Tryz.underlying52 kr (kv (.slice A2 vf1.Cards.length c3)) (kv (.int .i64 x75)) c93 c126 HR4.le w_) ?_
               refine takeGL [4] (n := 4) (fuel := 3) #[true, true, true, true, true, false, false, false] rfl kr kr kr (fun ch_ a_ w_ q_ => (fun ch_ a_ w_ q_ => hnp ch_ a_ w_ (hp65 ch_ a_ w_ q_)) ch_ a_ w_ (hp89 ch_ a_ w_ q_)) (Sg.g0 (Sx.of [] (FM.le.refl _) HS125)) ?_
               refine takeGQ 5 [] rfl kr kr kr kr kr kr (fun ch_ a_ w_ q_ => (fun ch_ a_ w_ q_ => hnp ch_ a_ w_ (hp65 ch_ a_ w_ q_)) ch_ a_ w_ (hp89 ch_ a_ w_ q_)) (Sg.g0 (Sx.of [] (FM.le.refl _) HS125)) (fun w_ hw_ => by obtain ⟨g_, hl_, hS_⟩ := hw_.st; exact run_load rfl Tryz.underlying9 rfl (kv (.pointer (some ⟨b100, 0, none⟩))) (hS_.cell 0)) ?_
               have hq_ := bind_some h; clear h; obtain ⟨vt127, hc128, h⟩ := hq_
               refine takeGE 6 kr rfl kr (does_call (f := 74) (args := #[.slice A2 (vf1.Cards.take (x75).toNat).length c3, .string ((rd vf1.Cards x75).Key)]) kr (frame_find.calls k A2 c3 (vf1.Cards.take (x75).toNat) ((rd vf1.Cards x75).Key) HS125 ((HR4.take (x75).toNat).mono (L43.trans (L71.trans L113))) vt127 hc128) ?_)
               rintro _ W131 ⟨f129, rfl, L130, HS132⟩
               refine ⟨_, rfl, ?_⟩
               refine ⟨(Sg.g0 (Sx.of [] L130 HS132)), ?_⟩
               refine takeGL [7] (n := 1) (fuel := 0) #[true, true, true, true, true, true, true, true] rfl kr kr kr (fun ch_ a_ w_ q_ => (fun ch_ a_ w_ q_ => hnp ch_ a_ w_ (hp65 ch_ a_ w_ q_)) ch_ a_ w_ (hp89 ch_ a_ w_ q_)) (Sg.g0 (Sx.of [] L130 HS132)) ?_
               refine doneG kr ?_ _
               refine hK123 _ _ ?_
               have hq_ := ite_some h; clear h; rcases hq_ with ⟨c134, h⟩ | ⟨c134, h⟩
               · have c134 : vt127 ≥ 0 := c134
                 refine wpRwI 60 (x := (decide (vt127 ≥ 0))) (v := true) kr (decide_eq_true c134) ?_
                 refine condT kr ?_
                 refine wp_seq_k fun K135 hK136 => rl ?_
                 refine seqL1 kr ?_
                 refine nl (hK136 _ _ ?_)
                 refine wp_ret ?_
                 refine hr87 _ _ ?_
                 refine hr63 _ _ ?_
                 refine hret _ _ ?_
                 refine ends_still (v := Value.int .i64 7) kr kr ?_
                 have HS158 := HS132.drop
                 have HS159 := HS158.drop
                 replace h := JR144 _ h
                 injection h with h
                 subst h
                 exact ⟨f129, rfl, (L43.trans (L71.trans (L113.trans L130))), HS159⟩
               · have c134 : ¬ (vt127 ≥ 0) := c134
                 refine wpRwI 60 (x := (decide (vt127 ≥ 0))) (v := false) kr (decide_eq_false c134) ?_
                 refine condF kr ?_
                 refine wp_skip ?_
                 refine hn86 _ _ ?_
                 refine hK83 _ _ ?_
                 refine rl ?_
                 refine seqL2 kr ?_
                 refine nl ?_
                 refine hK68 n69 _ _ (Nat.lt_succ_self _) ?_
                 have HS146 := HS132.u1
                 have HS147 := HS146.u1
                 have HS148 := HS147.drop
                 exact ⟨f129, (w64 (x75 + 1)), (fun i_ => [(j74 0), Value.int .i64 x75, Value.pointer (some ⟨b100, 0, none⟩), Value.int .i64 vt110, Value.bool true, Value.int .i64 x75, Value.pointer (some ⟨b97, of98 + (x75 : Int).toNat * 4, none⟩), (ag_Card (rd vf1.Cards x75)), (ag_Card (rd vf1.Cards x75)), Value.int .i64 vt110, Value.int .i64 vt110, Value.bool false, (j74 12), Value.pointer (some ⟨b10, 2, none⟩), Value.slice A2 vf1.Cards.length c3, Value.int .i64 x75, Value.slice A2 (vf1.Cards.take (x75).toNat).length c3, Value.pointer (some ⟨b100, 0, none⟩), Value.string ((rd vf1.Cards x75).Key), Value.int .i64 vt127, Value.bool false, Value.int .i64 (w64 (x75 + 1))].getD i_ undef), (L71.trans (L113.trans L130)), HS148, h, kr⟩
           · have c81 : ¬ (x75 < (vf1.Cards.length : Int)) := c81
             refine wpRwI 44 (x := (decide (x75 < (vf1.Cards.length : Int)))) (v := false) kr (decide_eq_false c81) ?_
             refine condF kr ?_
             refine wp_exit ?_
             refine hx61 _ _ ?_
             exact J143 f70 (fun i_ => [(j74 0), (j74 1), (j74 2), (j74 3), Value.int .i64 x75, Value.bool false, (j74 5), (j74 6), (j74 7), (j74 8), (j74 9), (j74 10), (j74 11), (j74 12), (j74 13), (j74 14), (j74 15), (j74 16), (j74 17), (j74 18), (j74 19), (j74 20), (j74 21)].getD i_ undef) W72 _ L71 h HS73 kr

set_option maxRecDepth 100000 in
set_option maxHeartbeats 4000000 in
theorem frame_Get.calls (k : Nat) (A2 : Option Addr) (c3 : Nat) (A5 : Option Addr) (c6 : Nat) (vf1 : S_Frame) (key8 : ByteArray) {t w : World} {f : FM} {H : List Seg} (HS : St t w f (H)) (HR4 : SlR ty_Card f A2 c3 vf1.Cards) (HR7 : SlR (tInt .i64) f A5 c6 vf1.Counts) (rr1 : S_Card) (rr2 : Bool) (h : frame_Get k vf1 key8 = some (rr1, rr2)) :
    Calls Tryz.prog 56 #[.agg #[.int .i64 vf1.W, .int .i64 vf1.H, .slice A2 vf1.Cards.length c3, .slice A5 vf1.Counts.length c6], .string key8] w (fun e w' => ∃ (g : FM), e = .returned (Value.tuple #[.agg #[.string rr1.Key, .string rr1.Value, .string rr1.Unit, .string rr1.Note], .bool rr2]) ∧ FM.le f g ∧ St t w' g (H)) := by
 unfold frame_Get at h
 refine enter Tryz.func56 rfl (tm := #[(ag_Frame vf1 A2 c3 A5 c6), .string key8, uV, uV, uV, uV, uV, uV, uV, uV, uV, uV, uV, uV, uV, uV, uV, uV, uV]) kr ?_
 intro B hret hnor hnp
 refine wp_seq_k fun K9 hK10 => rl ?_
 refine seqK rfl (does_box (cs := #[.int .i64 vf1.W, .int .i64 vf1.H, .slice A2 vf1.Cards.length c3, .slice A5 vf1.Counts.length c6]) rfl (kv (.agg #[.int .i64 vf1.W, .int .i64 vf1.H, .slice A2 vf1.Cards.length c3, .slice A5 vf1.Counts.length c6])) rfl HS ?_)
 intro b11 W12 HS13
 refine seqK rfl (does_alloc (z := Value.agg #[.string ⟨#[]⟩, .string ⟨#[]⟩, .string ⟨#[]⟩, .string ⟨#[]⟩]) (cs := #[.string ⟨#[]⟩, .string ⟨#[]⟩, .string ⟨#[]⟩, .string ⟨#[]⟩]) rfl kr rfl HS13 ?_)
 intro b15 W16 HS17
 refine seqL1 kr ?_
 refine nl (hK10 _ _ ?_)
 refine wp_seq_k (fun K19 hK20 => ?_)
 refine wp_seq_k fun K21 hK22 => rl ?_
 refine seqL1 kr ?_
 refine seqK rfl (does_run (run_load rfl Tryz.underlying52 rfl (kv (.pointer (some ⟨b11, 2, none⟩))) (HS17.u1.cell 2)) ?_)
 have hq_ := bind_some h; clear h; obtain ⟨vt23, hc24, h⟩ := hq_
 refine seqL1 kr ?_
 refine seqK rfl (does_call (f := 74) (args := #[.slice A2 vf1.Cards.length c3, .string key8]) kr (frame_find.calls k A2 c3 vf1.Cards key8 HS17 HR4 vt23 hc24) ?_)
 rintro _ W27 ⟨f25, rfl, L26, HS28⟩
 refine ⟨_, rfl, ?_⟩
 refine seqL1 kr ?_
 refine nl (hK22 _ _ ?_)
 refine wp_seq_k fun K29 hK30 => rl ?_
 refine seqL2 kr ?_
 refine nl (hK30 _ _ ?_)
 have hq_ := ite_some h; clear h; rcases hq_ with ⟨c32, h⟩ | ⟨c32, h⟩
 · have c32 : vt23 ≥ 0 := c32
   refine wpRwI 12 (x := (decide (vt23 ≥ 0))) (v := true) kr (decide_eq_true c32) ?_
   refine condT kr ?_
   refine wp_seq_k fun K33 hK34 => rl ?_
   refine seqL1 kr ?_
   refine seqK rfl (does_run (run_load rfl Tryz.underlying52 rfl (kv (.pointer (some ⟨b11, 2, none⟩))) (HS28.u1.cell 2)) ?_)
   have hq_ := guard_some h; clear h; obtain ⟨c35, h⟩ := hq_
   have c35 : 0 ≤ vt23 := c35
   have hq_ := guard_some h; clear h; obtain ⟨c36, h⟩ := hq_
   have c36 : vt23 < (vf1.Cards.length : Int) := c36
   obtain ⟨b40, of41, cs37, hA42, hr38, hc39⟩ := (HR4.mono L26).at (i := vt23) c35 c36
   obtain rfl := hr38
   refine seqL1 kr ?_
   refine seqK rfl (does_run (run_indexE hA42 (sz := 4) rfl Tryz.underlying52 kr (kv (.slice A2 vf1.Cards.length c3)) (kv (.int .i64 vt23)) c35 c36 W27) ?_)
   refine seqK rfl (does_run (run_loadN (n := 4) rfl Tryz.underlying98 rfl kr (kv (.pointer (some ⟨b40, of41 + (vt23 : Int).toNat * 4, none⟩))) (cs := [.string ((rd vf1.Cards vt23).Key), .string ((rd vf1.Cards vt23).Value), .string ((rd vf1.Cards vt23).Unit), .string ((rd vf1.Cards vt23).Note)]) rfl (fun j_ hj_ => ((hc39 (FM.le.refl _) HS28) j_ hj_))) ?_)
   refine seqK rfl (does_store (n := 4) (vs := [.string ((rd vf1.Cards vt23).Key), .string ((rd vf1.Cards vt23).Value), .string ((rd vf1.Cards vt23).Unit), .string ((rd vf1.Cards vt23).Note)]) (cs' := #[.string ((rd vf1.Cards vt23).Key), .string ((rd vf1.Cards vt23).Value), .string ((rd vf1.Cards vt23).Unit), .string ((rd vf1.Cards vt23).Note)]) rfl kr (kv (.pointer (some ⟨b15, 0, none⟩))) (kv (.agg #[.string ((rd vf1.Cards vt23).Key), .string ((rd vf1.Cards vt23).Value), .string ((rd vf1.Cards vt23).Unit), .string ((rd vf1.Cards vt23).Note)])) rfl rfl (by intro u_ hu_; simp only [List.mem_cons, List.not_mem_nil, or_false] at hu_; rcases hu_ with rfl | rfl | rfl | rfl <;> rfl) HS28 (Nat.le_of_ble_eq_true rfl) kr ?_)
   intro W43 HS44
   refine seqL1 kr ?_
   refine nl (hK34 _ _ ?_)
   refine wp_ret ?_
   refine hret _ _ ?_
   refine ends (v := Value.tuple #[.agg #[.string ((rd vf1.Cards vt23).Key), .string ((rd vf1.Cards vt23).Value), .string ((rd vf1.Cards vt23).Unit), .string ((rd vf1.Cards vt23).Note)], .bool true]) (results2 (q1 := .cell 4 98) (q2 := .tmp 5) kr (resN (n := 4) (cs := [.string ((rd vf1.Cards vt23).Key), .string ((rd vf1.Cards vt23).Value), .string ((rd vf1.Cards vt23).Unit), .string ((rd vf1.Cards vt23).Note)]) (kv (.pointer (some ⟨b15, 0, none⟩))) Tryz.underlying98 rfl kr rfl (HS44.cells 0 4 _ rfl)) (resT (kv (.bool true)))) kr ?_
   have HS49 := HS44.drop
   have HS50 := HS49.drop
   injection h with h
   injection h with h0_ h
   subst h0_ h
   exact ⟨f25, rfl, L26, HS50⟩
 · have c32 : ¬ (vt23 ≥ 0) := c32
   refine wpRwI 12 (x := (decide (vt23 ≥ 0))) (v := false) kr (decide_eq_false c32) ?_
   refine condF kr ?_
   refine wp_skip ?_
   refine hK20 _ _ ?_
   refine wp_seq_k fun K45 hK46 => rl ?_
   refine seqL1 kr ?_
   refine seqK rfl (does_store (n := 4) (vs := [.string ⟨#[]⟩, .string ⟨#[]⟩, .string ⟨#[]⟩, .string ⟨#[]⟩]) (cs' := #[.string ⟨#[]⟩, .string ⟨#[]⟩, .string ⟨#[]⟩, .string ⟨#[]⟩]) rfl kr (kv (.pointer (some ⟨b15, 0, none⟩))) (kv (.agg #[.string ⟨#[]⟩, .string ⟨#[]⟩, .string ⟨#[]⟩, .string ⟨#[]⟩])) rfl rfl (by intro u_ hu_; simp only [List.mem_cons, List.not_mem_nil, or_false] at hu_; rcases hu_ with rfl | rfl | rfl | rfl <;> rfl) HS28 (Nat.le_of_ble_eq_true rfl) kr ?_)
   intro W47 HS48
   refine seqL1 kr ?_
   refine nl (hK46 _ _ ?_)
   refine wp_ret ?_
   refine hret _ _ ?_
   refine ends (v := Value.tuple #[.agg #[.string ⟨#[]⟩, .string ⟨#[]⟩, .string ⟨#[]⟩, .string ⟨#[]⟩], .bool false]) (results2 (q1 := .cell 4 98) (q2 := .tmp 5) kr (resN (n := 4) (cs := [.string ⟨#[]⟩, .string ⟨#[]⟩, .string ⟨#[]⟩, .string ⟨#[]⟩]) (kv (.pointer (some ⟨b15, 0, none⟩))) Tryz.underlying98 rfl kr rfl (HS48.cells 0 4 _ rfl)) (resT (kv (.bool false)))) kr ?_
   have HS51 := HS48.drop
   have HS52 := HS51.drop
   injection h with h
   injection h with h0_ h
   subst h0_ h
   exact ⟨f25, rfl, L26, HS52⟩

set_option maxRecDepth 100000 in
set_option maxHeartbeats 4000000 in
theorem expose_kinds.calls (k : Nat)   {t w : World} {f : FM} {H : List Seg} (HS : St t w f (H)) (rr1 : List ByteArray) (h : expose_kinds k = some rr1) :
    Calls Tryz.prog 57 #[] w (fun e w' => ∃ (g : FM) (A11 : Option Addr) (c12 : Nat) (s13 : Seg), e = .returned (Value.slice A11 rr1.length c12) ∧ FM.le f g ∧ St t w' g (s13 :: H) ∧ Own tStr 9 g A11 c12 s13 rr1) := by
 unfold expose_kinds at h
 refine enter Tryz.func57 rfl (tm := #[uV, uV]) kr ?_
 intro B hret hnor hnp
 refine wp_seq_k fun K1 hK2 => rl ?_
 refine seqL1 kr ?_
 refine nl (hK2 _ _ ?_)
 refine wp_seq_k fun K3 hK4 => rl ?_
 refine seqK rfl (does_lit (e := tStr) (E := 9) (vs := #[(0, Value.string ⟨#[98, 105, 97, 115]⟩), (1, Value.string ⟨#[100, 97, 114, 107]⟩), (2, Value.string ⟨#[102, 108, 97, 116]⟩), (3, Value.string ⟨#[115, 99, 105, 101, 110, 99, 101]⟩)]) (cs := #[.string ⟨#[98, 105, 97, 115]⟩, .string ⟨#[100, 97, 114, 107]⟩, .string ⟨#[102, 108, 97, 116]⟩, .string ⟨#[115, 99, 105, 101, 110, 99, 101]⟩]) (xs := ([(⟨#[98, 105, 97, 115]⟩ : ByteArray), (⟨#[100, 97, 114, 107]⟩ : ByteArray), (⟨#[102, 108, 97, 116]⟩ : ByteArray), (⟨#[115, 99, 105, 101, 110, 99, 101]⟩ : ByteArray)] : List ByteArray)) rfl Tryz.underlying101 kr kr ⟨[.string ⟨#[98, 105, 97, 115]⟩], _, rfl, rfl, ⟨[.string ⟨#[100, 97, 114, 107]⟩], _, rfl, rfl, ⟨[.string ⟨#[102, 108, 97, 116]⟩], _, rfl, rfl, ⟨[.string ⟨#[115, 99, 105, 101, 110, 99, 101]⟩], _, rfl, rfl, rfl⟩⟩⟩⟩ rfl HS ?_ (by decide))
 intro b5 W6 s7 HS8 _ HO9
 refine seqL1 kr ?_
 refine nl (hK4 _ _ ?_)
 refine wp_ret ?_
 refine hret _ _ ?_
 refine ends_still (v := Value.slice (some ⟨b5, 0, none⟩) ([(⟨#[98, 105, 97, 115]⟩ : ByteArray), (⟨#[100, 97, 114, 107]⟩ : ByteArray), (⟨#[102, 108, 97, 116]⟩ : ByteArray), (⟨#[115, 99, 105, 101, 110, 99, 101]⟩ : ByteArray)] : List ByteArray).length 4) kr kr ?_
 injection h with h
 subst h
 exact ⟨f, (some ⟨b5, 0, none⟩), 4, s7, rfl, FM.le.refl _, HS8, HO9⟩

theorem strconv_ParseInt.calls (k : Nat) (s : ByteArray) (b : Int) (n : Int) {t w : World} {f : FM} {H : List Seg} (HS : St t w f H) (r1 : Int) (h : strconv_ParseInt k s b n = some r1) :
    Calls Tryz.prog 96 #[.string s, .int .i64 b, .int .i64 n] w (fun e w' => ∃ (g : FM), e = .returned (Value.tuple #[Value.int .i64 r1, Value.nilIface]) ∧ FM.le f g ∧ St t w' g H) := by
  unfold strconv_ParseInt at h
  have hq_ := guard_some h; clear h; obtain ⟨h1, h⟩ := hq_
  have hq_ := guard_some h; clear h; obtain ⟨h2, h⟩ := hq_
  have hq_ := guard_some h; clear h; obtain ⟨h3, h⟩ := hq_
  have hv : Go.Lib.parseIntB 64 s.data.toList = .ok r1 := by
    cases hc_ : Go.Lib.parseIntB 64 s.data.toList with
    | ok v_ => rw [hc_] at h; injection h with h; rw [h]
    | _ => rw [hc_] at h; cases h
  subst h1 h2
  exact lib_calls (Tryz.strconv_ParseInt_10_at64_ok s h3 r1 hv w) q_bytes2 HS

set_option maxRecDepth 100000 in
set_option maxHeartbeats 4000000 in
theorem frame_unit.calls (k : Nat)  (s1 : ByteArray) {t w : World} {f : FM} {H : List Seg} (HS : St t w f (H)) (rr1 : ByteArray) (rr2 : Int) (h : frame_unit k s1 = some (rr1, rr2)) :
    Calls Tryz.prog 97 #[.string s1] w (fun e w' => ∃ (g : FM), e = .returned (Value.tuple #[.string rr1, .int .i64 rr2]) ∧ FM.le f g ∧ St t w' g (H)) := by
 unfold frame_unit at h
 refine enter Tryz.func97 rfl (tm := #[.string s1, uV, uV, uV, uV, uV, uV, uV, uV, uV, uV, uV, uV, uV, uV, uV, uV, uV, uV, uV, uV, uV, uV, uV]) kr ?_
 intro B hret hnor hnp
 refine wp_seq_k fun K2 hK3 => rl ?_
 refine seqL2 kr ?_
 refine nl (hK3 _ _ ?_)
 refine wp_seq_k (fun K4 hK5 => ?_)
 refine wp_seq_k fun K6 hK7 => rl ?_
 refine seqL1 kr ?_
 refine nl (hK7 _ _ ?_)
 refine blockK (fun B8 hx9 hn10 hr11 ho12 hp13 => ?_)
 refine wp_seq_k fun K15 hK16 => rl ?_
 refine seqL2 kr ?_
 refine nl (hK16 _ _ ?_)
 have hq_ := ite_some h; clear h; rcases hq_ with ⟨c18, h⟩ | ⟨c18, h⟩
 · have c18 : (s1.toList == (⟨#[116, 105, 99, 107]⟩ : ByteArray).toList) = true := c18
   refine wpRwI 5 (x := (s1.toList == (⟨#[116, 105, 99, 107]⟩ : ByteArray).toList)) (v := true) kr c18 ?_
   refine wpRwI 6 (x := (s1.toList == (⟨#[116, 105, 99, 107]⟩ : ByteArray).toList)) (v := true) kr c18 ?_
   refine condT kr ?_
   refine wp_seq_k fun K19 hK20 => rl ?_
   refine seqL2 kr ?_
   refine nl (hK20 _ _ ?_)
   refine wp_ret ?_
   refine hr11 _ _ ?_
   refine hret _ _ ?_
   refine ends_still (v := Value.tuple #[.string ⟨#[116, 105, 109, 101]⟩, .int .i64 1]) kr kr ?_
   injection h with h
   injection h with h0_ h
   subst h0_ h
   exact ⟨f, rfl, FM.le.refl _, HS⟩
 · have c18 : ¬ ((s1.toList == (⟨#[116, 105, 99, 107]⟩ : ByteArray).toList) = true) := c18
   refine wpRwI 5 (x := (s1.toList == (⟨#[116, 105, 99, 107]⟩ : ByteArray).toList)) (v := false) kr (Bool.eq_false_iff.mpr c18) ?_
   refine wpRwI 6 (x := (s1.toList == (⟨#[116, 105, 99, 107]⟩ : ByteArray).toList)) (v := false) kr (Bool.eq_false_iff.mpr c18) ?_
   refine condF kr ?_
   refine wp_seq_k (fun K21 hK22 => ?_)
   refine wp_seq_k fun K23 hK24 => rl ?_
   refine seqL2 kr ?_
   refine nl (hK24 _ _ ?_)
   have hq_ := bind_some h; clear h; obtain ⟨v25, hv33, h⟩ := hq_
   have J34 : ∀ (f27 : FM) (x32 : Bool) (j31 : Nat → Value) (W29 : World) (a_ : Act), FM.le f f27 → some (x32) = some v25 → St t W29 f27 (H) → a_ = ⟨#[.string s1, uV, .string ⟨#[]⟩, iV 0, .string s1, fV, fV, .bool x32, .bool (s1.toList == (⟨#[98, 101, 97, 116]⟩ : ByteArray).toList), (j31 0), uV, uV, uV, uV, uV, uV, uV, uV, uV, uV, uV, uV, uV, uV], []⟩ → K21 a_ W29 := by
    intro f27 x32 j31 W29 a_ L28 hj35 HS30  hfr_; subst hfr_
    injection hj35 with hj35; subst hj35; try dsimp only at h
    refine hK22 _ _ ?_
    have hq_ := ite_some h; clear h; rcases hq_ with ⟨c37, h⟩ | ⟨c37, h⟩
    · have c37 : x32 = true := c37
      refine wpRwI 7 (x := x32) (v := true) kr c37 ?_
      refine condT kr ?_
      refine wp_seq_k fun K38 hK39 => rl ?_
      refine seqL2 kr ?_
      refine nl (hK39 _ _ ?_)
      refine wp_ret ?_
      refine hr11 _ _ ?_
      refine hret _ _ ?_
      refine ends_still (v := Value.tuple #[.string ⟨#[116, 105, 109, 101]⟩, .int .i64 1000]) kr kr ?_
      injection h with h
      injection h with h0_ h
      subst h0_ h
      exact ⟨f27, rfl, L28, HS30⟩
    · have c37 : ¬ (x32 = true) := c37
      refine wpRwI 7 (x := x32) (v := false) kr (Bool.eq_false_iff.mpr c37) ?_
      refine condF kr ?_
      refine wp_seq_k fun K40 hK41 => rl ?_
      refine seqL2 kr ?_
      refine nl (hK41 _ _ ?_)
      have hq_ := ite_some h; clear h; rcases hq_ with ⟨c43, h⟩ | ⟨c43, h⟩
      · have c43 : (s1.toList == (⟨#[109, 105, 110, 117, 116, 101]⟩ : ByteArray).toList) = true := c43
        refine wpRwI 10 (x := (s1.toList == (⟨#[109, 105, 110, 117, 116, 101]⟩ : ByteArray).toList)) (v := true) kr c43 ?_
        refine wpRwI 11 (x := (s1.toList == (⟨#[109, 105, 110, 117, 116, 101]⟩ : ByteArray).toList)) (v := true) kr c43 ?_
        refine condT kr ?_
        refine wp_seq_k fun K44 hK45 => rl ?_
        refine seqL2 kr ?_
        refine nl (hK45 _ _ ?_)
        refine wp_ret ?_
        refine hr11 _ _ ?_
        refine hret _ _ ?_
        refine ends_still (v := Value.tuple #[.string ⟨#[116, 105, 109, 101]⟩, .int .i64 60000]) kr kr ?_
        injection h with h
        injection h with h0_ h
        subst h0_ h
        exact ⟨f27, rfl, L28, HS30⟩
      · have c43 : ¬ ((s1.toList == (⟨#[109, 105, 110, 117, 116, 101]⟩ : ByteArray).toList) = true) := c43
        refine wpRwI 10 (x := (s1.toList == (⟨#[109, 105, 110, 117, 116, 101]⟩ : ByteArray).toList)) (v := false) kr (Bool.eq_false_iff.mpr c43) ?_
        refine wpRwI 11 (x := (s1.toList == (⟨#[109, 105, 110, 117, 116, 101]⟩ : ByteArray).toList)) (v := false) kr (Bool.eq_false_iff.mpr c43) ?_
        refine condF kr ?_
        refine wp_seq_k fun K46 hK47 => rl ?_
        refine seqL2 kr ?_
        refine nl (hK47 _ _ ?_)
        have hq_ := ite_some h; clear h; rcases hq_ with ⟨c49, h⟩ | ⟨c49, h⟩
        · have c49 : (s1.toList == (⟨#[104, 111, 117, 114]⟩ : ByteArray).toList) = true := c49
          refine wpRwI 12 (x := (s1.toList == (⟨#[104, 111, 117, 114]⟩ : ByteArray).toList)) (v := true) kr c49 ?_
          refine wpRwI 13 (x := (s1.toList == (⟨#[104, 111, 117, 114]⟩ : ByteArray).toList)) (v := true) kr c49 ?_
          refine condT kr ?_
          refine wp_seq_k fun K50 hK51 => rl ?_
          refine seqL2 kr ?_
          refine nl (hK51 _ _ ?_)
          refine wp_ret ?_
          refine hr11 _ _ ?_
          refine hret _ _ ?_
          refine ends_still (v := Value.tuple #[.string ⟨#[116, 105, 109, 101]⟩, .int .i64 3600000]) kr kr ?_
          injection h with h
          injection h with h0_ h
          subst h0_ h
          exact ⟨f27, rfl, L28, HS30⟩
        · have c49 : ¬ ((s1.toList == (⟨#[104, 111, 117, 114]⟩ : ByteArray).toList) = true) := c49
          refine wpRwI 12 (x := (s1.toList == (⟨#[104, 111, 117, 114]⟩ : ByteArray).toList)) (v := false) kr (Bool.eq_false_iff.mpr c49) ?_
          refine wpRwI 13 (x := (s1.toList == (⟨#[104, 111, 117, 114]⟩ : ByteArray).toList)) (v := false) kr (Bool.eq_false_iff.mpr c49) ?_
          refine condF kr ?_
          refine wp_seq_k fun K52 hK53 => rl ?_
          refine seqL2 kr ?_
          refine nl (hK53 _ _ ?_)
          have hq_ := ite_some h; clear h; rcases hq_ with ⟨c55, h⟩ | ⟨c55, h⟩
          · have c55 : (s1.toList == (⟨#[100, 97, 121]⟩ : ByteArray).toList) = true := c55
            refine wpRwI 14 (x := (s1.toList == (⟨#[100, 97, 121]⟩ : ByteArray).toList)) (v := true) kr c55 ?_
            refine wpRwI 15 (x := (s1.toList == (⟨#[100, 97, 121]⟩ : ByteArray).toList)) (v := true) kr c55 ?_
            refine condT kr ?_
            refine wp_seq_k fun K56 hK57 => rl ?_
            refine seqL2 kr ?_
            refine nl (hK57 _ _ ?_)
            refine wp_ret ?_
            refine hr11 _ _ ?_
            refine hret _ _ ?_
            refine ends_still (v := Value.tuple #[.string ⟨#[116, 105, 109, 101]⟩, .int .i64 86400000]) kr kr ?_
            injection h with h
            injection h with h0_ h
            subst h0_ h
            exact ⟨f27, rfl, L28, HS30⟩
          · have c55 : ¬ ((s1.toList == (⟨#[100, 97, 121]⟩ : ByteArray).toList) = true) := c55
            refine wpRwI 14 (x := (s1.toList == (⟨#[100, 97, 121]⟩ : ByteArray).toList)) (v := false) kr (Bool.eq_false_iff.mpr c55) ?_
            refine wpRwI 15 (x := (s1.toList == (⟨#[100, 97, 121]⟩ : ByteArray).toList)) (v := false) kr (Bool.eq_false_iff.mpr c55) ?_
            refine condF kr ?_
            refine wp_seq_k fun K58 hK59 => rl ?_
            refine seqL2 kr ?_
            refine nl (hK59 _ _ ?_)
            have hq_ := ite_some h; clear h; rcases hq_ with ⟨c61, h⟩ | ⟨c61, h⟩
            · have c61 : (s1.toList == (⟨#[115, 117, 98]⟩ : ByteArray).toList) = true := c61
              refine wpRwI 16 (x := (s1.toList == (⟨#[115, 117, 98]⟩ : ByteArray).toList)) (v := true) kr c61 ?_
              refine wpRwI 17 (x := (s1.toList == (⟨#[115, 117, 98]⟩ : ByteArray).toList)) (v := true) kr c61 ?_
              refine condT kr ?_
              refine wp_seq_k fun K62 hK63 => rl ?_
              refine seqL2 kr ?_
              refine nl (hK63 _ _ ?_)
              refine wp_ret ?_
              refine hr11 _ _ ?_
              refine hret _ _ ?_
              refine ends_still (v := Value.tuple #[.string ⟨#[108, 101, 110, 103, 116, 104]⟩, .int .i64 1]) kr kr ?_
              injection h with h
              injection h with h0_ h
              subst h0_ h
              exact ⟨f27, rfl, L28, HS30⟩
            · have c61 : ¬ ((s1.toList == (⟨#[115, 117, 98]⟩ : ByteArray).toList) = true) := c61
              refine wpRwI 16 (x := (s1.toList == (⟨#[115, 117, 98]⟩ : ByteArray).toList)) (v := false) kr (Bool.eq_false_iff.mpr c61) ?_
              refine wpRwI 17 (x := (s1.toList == (⟨#[115, 117, 98]⟩ : ByteArray).toList)) (v := false) kr (Bool.eq_false_iff.mpr c61) ?_
              refine condF kr ?_
              refine wp_seq_k fun K64 hK65 => rl ?_
              refine seqL2 kr ?_
              refine nl (hK65 _ _ ?_)
              have hq_ := ite_some h; clear h; rcases hq_ with ⟨c67, h⟩ | ⟨c67, h⟩
              · have c67 : (s1.toList == (⟨#[99, 101, 108, 108]⟩ : ByteArray).toList) = true := c67
                refine wpRwI 18 (x := (s1.toList == (⟨#[99, 101, 108, 108]⟩ : ByteArray).toList)) (v := true) kr c67 ?_
                refine wpRwI 19 (x := (s1.toList == (⟨#[99, 101, 108, 108]⟩ : ByteArray).toList)) (v := true) kr c67 ?_
                refine condT kr ?_
                refine wp_seq_k fun K68 hK69 => rl ?_
                refine seqL2 kr ?_
                refine nl (hK69 _ _ ?_)
                refine wp_ret ?_
                refine hr11 _ _ ?_
                refine hret _ _ ?_
                refine ends_still (v := Value.tuple #[.string ⟨#[108, 101, 110, 103, 116, 104]⟩, .int .i64 256]) kr kr ?_
                injection h with h
                injection h with h0_ h
                subst h0_ h
                exact ⟨f27, rfl, L28, HS30⟩
              · have c67 : ¬ ((s1.toList == (⟨#[99, 101, 108, 108]⟩ : ByteArray).toList) = true) := c67
                refine wpRwI 18 (x := (s1.toList == (⟨#[99, 101, 108, 108]⟩ : ByteArray).toList)) (v := false) kr (Bool.eq_false_iff.mpr c67) ?_
                refine wpRwI 19 (x := (s1.toList == (⟨#[99, 101, 108, 108]⟩ : ByteArray).toList)) (v := false) kr (Bool.eq_false_iff.mpr c67) ?_
                refine condF kr ?_
                refine wp_seq_k fun K70 hK71 => rl ?_
                refine seqL2 kr ?_
                refine nl (hK71 _ _ ?_)
                have hq_ := ite_some h; clear h; rcases hq_ with ⟨c73, h⟩ | ⟨c73, h⟩
                · have c73 : (s1.toList == (⟨#[97, 114, 99]⟩ : ByteArray).toList) = true := c73
                  refine wpRwI 20 (x := (s1.toList == (⟨#[97, 114, 99]⟩ : ByteArray).toList)) (v := true) kr c73 ?_
                  refine wpRwI 21 (x := (s1.toList == (⟨#[97, 114, 99]⟩ : ByteArray).toList)) (v := true) kr c73 ?_
                  refine condT kr ?_
                  refine wp_seq_k fun K74 hK75 => rl ?_
                  refine seqL2 kr ?_
                  refine nl (hK75 _ _ ?_)
                  refine wp_ret ?_
                  refine hr11 _ _ ?_
                  refine hret _ _ ?_
                  refine ends_still (v := Value.tuple #[.string ⟨#[97, 110, 103, 108, 101]⟩, .int .i64 1]) kr kr ?_
                  injection h with h
                  injection h with h0_ h
                  subst h0_ h
                  exact ⟨f27, rfl, L28, HS30⟩
                · have c73 : ¬ ((s1.toList == (⟨#[97, 114, 99]⟩ : ByteArray).toList) = true) := c73
                  refine wpRwI 20 (x := (s1.toList == (⟨#[97, 114, 99]⟩ : ByteArray).toList)) (v := false) kr (Bool.eq_false_iff.mpr c73) ?_
                  refine wpRwI 21 (x := (s1.toList == (⟨#[97, 114, 99]⟩ : ByteArray).toList)) (v := false) kr (Bool.eq_false_iff.mpr c73) ?_
                  refine condF kr ?_
                  refine wp_seq_k fun K76 hK77 => rl ?_
                  refine seqL2 kr ?_
                  refine nl (hK77 _ _ ?_)
                  have hq_ := ite_some h; clear h; rcases hq_ with ⟨c79, h⟩ | ⟨c79, h⟩
                  · have c79 : (s1.toList == (⟨#[116, 117, 114, 110]⟩ : ByteArray).toList) = true := c79
                    refine wpRwI 22 (x := (s1.toList == (⟨#[116, 117, 114, 110]⟩ : ByteArray).toList)) (v := true) kr c79 ?_
                    refine wpRwI 23 (x := (s1.toList == (⟨#[116, 117, 114, 110]⟩ : ByteArray).toList)) (v := true) kr c79 ?_
                    refine condT kr ?_
                    refine wp_seq_k fun K80 hK81 => rl ?_
                    refine seqL2 kr ?_
                    refine nl (hK81 _ _ ?_)
                    refine wp_ret ?_
                    refine hr11 _ _ ?_
                    refine hret _ _ ?_
                    refine ends_still (v := Value.tuple #[.string ⟨#[97, 110, 103, 108, 101]⟩, .int .i64 4294967296]) kr kr ?_
                    injection h with h
                    injection h with h0_ h
                    subst h0_ h
                    exact ⟨f27, rfl, L28, HS30⟩
                  · have c79 : ¬ ((s1.toList == (⟨#[116, 117, 114, 110]⟩ : ByteArray).toList) = true) := c79
                    refine wpRwI 22 (x := (s1.toList == (⟨#[116, 117, 114, 110]⟩ : ByteArray).toList)) (v := false) kr (Bool.eq_false_iff.mpr c79) ?_
                    refine wpRwI 23 (x := (s1.toList == (⟨#[116, 117, 114, 110]⟩ : ByteArray).toList)) (v := false) kr (Bool.eq_false_iff.mpr c79) ?_
                    refine condF kr ?_
                    refine wp_skip ?_
                    refine hn10 _ _ ?_
                    refine hK5 _ _ ?_
                    refine wp_seq_k fun K82 hK83 => rl ?_
                    refine seqL2 kr ?_
                    refine nl (hK83 _ _ ?_)
                    refine wp_ret ?_
                    refine hret _ _ ?_
                    refine ends_still (v := Value.tuple #[.string ⟨#[]⟩, .int .i64 0]) kr kr ?_
                    injection h with h
                    injection h with h0_ h
                    subst h0_ h
                    exact ⟨f27, rfl, L28, HS30⟩
   clear h; have h := hv33; clear hv33
   have hq_ := ite_some h; clear h; rcases hq_ with ⟨c26, h⟩ | ⟨c26, h⟩
   · have c26 : (s1.toList == (⟨#[98, 101, 97, 116]⟩ : ByteArray).toList) = true := c26
     refine wpRwI 7 (x := (s1.toList == (⟨#[98, 101, 97, 116]⟩ : ByteArray).toList)) (v := true) kr c26 ?_
     refine wpRwI 8 (x := (s1.toList == (⟨#[98, 101, 97, 116]⟩ : ByteArray).toList)) (v := true) kr c26 ?_
     refine condT kr ?_
     refine wp_skip ?_
     refine fnRwI (F := K21) 8 (x := true) (v := (s1.toList == (⟨#[98, 101, 97, 116]⟩ : ByteArray).toList)) kr (Eq.symm c26) ?_
     refine fnRwI (F := K21) 7 (x := true) (v := (s1.toList == (⟨#[98, 101, 97, 116]⟩ : ByteArray).toList)) kr (Eq.symm c26) ?_
     exact J34 f (s1.toList == (⟨#[98, 101, 97, 116]⟩ : ByteArray).toList) (fun i_ => [undef].getD i_ undef) w _ (FM.le.refl _) h HS kr
   · have c26 : ¬ ((s1.toList == (⟨#[98, 101, 97, 116]⟩ : ByteArray).toList) = true) := c26
     refine wpRwI 7 (x := (s1.toList == (⟨#[98, 101, 97, 116]⟩ : ByteArray).toList)) (v := false) kr (Bool.eq_false_iff.mpr c26) ?_
     refine wpRwI 8 (x := (s1.toList == (⟨#[98, 101, 97, 116]⟩ : ByteArray).toList)) (v := false) kr (Bool.eq_false_iff.mpr c26) ?_
     refine condF kr ?_
     refine rl ?_
     refine seqL2 kr ?_
     refine nl ?_
     refine fnRwI (F := K21) 8 (x := false) (v := (s1.toList == (⟨#[98, 101, 97, 116]⟩ : ByteArray).toList)) kr (Eq.symm (Bool.eq_false_iff.mpr c26)) ?_
     exact J34 f (s1.toList == (⟨#[115, 101, 99, 111, 110, 100]⟩ : ByteArray).toList) (fun i_ => [Value.bool (s1.toList == (⟨#[115, 101, 99, 111, 110, 100]⟩ : ByteArray).toList)].getD i_ undef) w _ (FM.le.refl _) h HS kr

set_option maxRecDepth 100000 in
set_option maxHeartbeats 4000000 in
theorem num_size.calls (k : Nat)  (a1 : Int) {t w : World} {f : FM} {H : List Seg} (HS : St t w f (H)) (rr1 : Int) (h : num_size k a1 = some rr1) :
    Calls Tryz.prog 124 #[.int .i64 a1] w (fun e w' => ∃ (g : FM), e = .returned (Value.int .u64 rr1) ∧ FM.le f g ∧ St t w' g (H)) := by
 unfold num_size at h
 refine enter Tryz.func124 rfl (tm := #[iV a1, uV, uV, uV, uV, uV, uV, uV, uV, uV]) kr ?_
 intro B hret hnor hnp
 refine wp_seq_k fun K2 hK3 => rl ?_
 refine seqL1 kr ?_
 refine nl (hK3 _ _ ?_)
 refine wp_seq_k (fun K4 hK5 => ?_)
 refine wp_seq_k fun K6 hK7 => rl ?_
 refine seqL2 kr ?_
 refine nl (hK7 _ _ ?_)
 have hq_ := ite_some h; clear h; rcases hq_ with ⟨c9, h⟩ | ⟨c9, h⟩
 · have c9 : a1 < 0 := c9
   refine wpRwI 4 (x := (decide (a1 < 0))) (v := true) kr (decide_eq_true c9) ?_
   refine condT kr ?_
   refine wp_seq_k fun K10 hK11 => rl ?_
   refine seqL4 kr ?_
   refine nl (hK11 _ _ ?_)
   refine wp_ret ?_
   refine hret _ _ ?_
   refine ends_still (v := Value.int .u64 (u64 (0 - (u64 (a1))))) kr kr ?_
   injection h with h
   subst h
   exact ⟨f, rfl, FM.le.refl _, HS⟩
 · have c9 : ¬ (a1 < 0) := c9
   refine wpRwI 4 (x := (decide (a1 < 0))) (v := false) kr (decide_eq_false c9) ?_
   refine condF kr ?_
   refine wp_skip ?_
   refine hK5 _ _ ?_
   refine wp_seq_k fun K12 hK13 => rl ?_
   refine seqL3 kr ?_
   refine nl (hK13 _ _ ?_)
   refine wp_ret ?_
   refine hret _ _ ?_
   refine ends_still (v := Value.int .u64 (u64 (a1))) kr kr ?_
   injection h with h
   subst h
   exact ⟨f, rfl, FM.le.refl _, HS⟩

set_option maxRecDepth 100000 in
set_option maxHeartbeats 4000000 in
theorem num_Wide_Neg.calls (k : Nat)  (vw1 : S_Wide) {t w : World} {f : FM} {H : List Seg} (HS : St t w f (H)) (rr1 : S_Wide) (h : num_Wide_Neg k vw1 = some rr1) :
    Calls Tryz.prog 125 #[.agg #[.int .i64 vw1.Hi, .int .u64 vw1.Lo]] w (fun e w' => ∃ (g : FM), e = .returned (Value.agg #[.int .i64 rr1.Hi, .int .u64 rr1.Lo]) ∧ FM.le f g ∧ St t w' g (H)) := by
 unfold num_Wide_Neg at h
 refine enter Tryz.func125 rfl (tm := #[.agg #[iV vw1.Hi, .int .u64 vw1.Lo], uV, uV, uV, uV, uV, uV, uV, uV, uV, uV, uV, uV, uV, uV, uV, uV, uV, uV, uV, uV, uV, uV, uV, uV, uV, uV]) kr ?_
 intro B hret hnor hnp
 refine wp_seq_k fun K2 hK3 => rl ?_
 refine seqK rfl (does_box (cs := #[.int .i64 vw1.Hi, .int .u64 vw1.Lo]) rfl (kv (.agg #[.int .i64 vw1.Hi, .int .u64 vw1.Lo])) rfl HS ?_)
 intro b4 W5 HS6
 refine seqK rfl (does_alloc (z := Value.agg #[.int .i64 0, .int .u64 0]) (cs := #[.int .i64 0, .int .u64 0]) rfl kr rfl HS6 ?_)
 intro b8 W9 HS10
 refine nl (hK3 _ _ ?_)
 refine wp_seq_k fun K12 hK13 => rl ?_
 refine seqL1 kr ?_
 refine seqK rfl (does_run (run_load rfl Tryz.underlying23 rfl (kv (.pointer (some ⟨b4, 1, none⟩))) (HS10.u1.cell 1)) ?_)
 have hq_ := guard_some h; clear h; obtain ⟨c14, h⟩ := hq_
 have c14 : 0 ≤ (Go.bits .xor .u64 IntKind.u64.max vw1.Lo) := c14
 refine seqL1 kr ?_
 refine seqK rfl (does_run (run_add64op (x := Go.bits .xor .u64 IntKind.u64.max vw1.Lo) (y := 1) (c := 0) kr Tryz.func140 kr kr kr kr c14 (by decide) (by decide) (by decide) W9) ?_)
 refine seqL5 kr ?_
 refine nl (hK13 _ _ ?_)
 refine wp_seq_k fun K15 hK16 => rl ?_
 refine seqL1 kr ?_
 refine seqK rfl (does_run (run_load rfl Tryz.underlying2 rfl (kv (.pointer (some ⟨b4, 0, none⟩))) (HS10.u1.cell 0)) ?_)
 have hq_ := guard_some h; clear h; obtain ⟨c17, h⟩ := hq_
 have c17 : 0 ≤ (Go.bits .xor .u64 IntKind.u64.max (u64 (vw1.Hi))) := c17
 have hq_ := guard_some h; clear h; obtain ⟨c18, h⟩ := hq_
 have c18 : 0 ≤ (((Go.bits .xor .u64 IntKind.u64.max vw1.Lo) + 1 + 0) / 18446744073709551616) := c18
 have hq_ := guard_some h; clear h; obtain ⟨c19, h⟩ := hq_
 have c19 : (((Go.bits .xor .u64 IntKind.u64.max vw1.Lo) + 1 + 0) / 18446744073709551616) ≤ 1 := c19
 refine seqL3 kr ?_
 refine seqK rfl (does_run (run_add64op (x := Go.bits .xor .u64 IntKind.u64.max (u64 (vw1.Hi))) (y := 0) (c := ((Go.bits .xor .u64 IntKind.u64.max vw1.Lo) + 1 + 0) / 18446744073709551616) kr Tryz.func140 kr kr kr kr c17 (by decide) c18 c19 W9) ?_)
 refine seqL5 kr ?_
 refine nl (hK16 _ _ ?_)
 refine wp_seq_k fun K20 hK21 => rl ?_
 refine seqL4 kr ?_
 refine seqK rfl (does_store (n := 2) (vs := [.int .i64 (w64 (((Go.bits .xor .u64 IntKind.u64.max (u64 (vw1.Hi))) + 0 + (((Go.bits .xor .u64 IntKind.u64.max vw1.Lo) + 1 + 0) / 18446744073709551616)) % 18446744073709551616)), .int .u64 (((Go.bits .xor .u64 IntKind.u64.max vw1.Lo) + 1 + 0) % 18446744073709551616)]) (cs' := #[.int .i64 (w64 (((Go.bits .xor .u64 IntKind.u64.max (u64 (vw1.Hi))) + 0 + (((Go.bits .xor .u64 IntKind.u64.max vw1.Lo) + 1 + 0) / 18446744073709551616)) % 18446744073709551616)), .int .u64 (((Go.bits .xor .u64 IntKind.u64.max vw1.Lo) + 1 + 0) % 18446744073709551616)]) rfl kr (kv (.pointer (some ⟨b8, 0, none⟩))) (kv (.agg #[.int .i64 (w64 (((Go.bits .xor .u64 IntKind.u64.max (u64 (vw1.Hi))) + 0 + (((Go.bits .xor .u64 IntKind.u64.max vw1.Lo) + 1 + 0) / 18446744073709551616)) % 18446744073709551616)), .int .u64 (((Go.bits .xor .u64 IntKind.u64.max vw1.Lo) + 1 + 0) % 18446744073709551616)])) rfl rfl (by intro u_ hu_; simp only [List.mem_cons, List.not_mem_nil, or_false] at hu_; rcases hu_ with rfl | rfl <;> rfl) HS10 (Nat.le_of_ble_eq_true rfl) kr ?_)
 intro W22 HS23
 refine nl (hK21 _ _ ?_)
 refine wp_ret ?_
 refine hret _ _ ?_
 refine ends (v := Value.agg #[.int .i64 (w64 (((Go.bits .xor .u64 IntKind.u64.max (u64 (vw1.Hi))) + 0 + (((Go.bits .xor .u64 IntKind.u64.max vw1.Lo) + 1 + 0) / 18446744073709551616)) % 18446744073709551616)), .int .u64 (((Go.bits .xor .u64 IntKind.u64.max vw1.Lo) + 1 + 0) % 18446744073709551616)]) (results1 (q1 := .cell 2 175) kr (resN (n := 2) (cs := [.int .i64 (w64 (((Go.bits .xor .u64 IntKind.u64.max (u64 (vw1.Hi))) + 0 + (((Go.bits .xor .u64 IntKind.u64.max vw1.Lo) + 1 + 0) / 18446744073709551616)) % 18446744073709551616)), .int .u64 (((Go.bits .xor .u64 IntKind.u64.max vw1.Lo) + 1 + 0) % 18446744073709551616)]) (kv (.pointer (some ⟨b8, 0, none⟩))) Tryz.underlying175 rfl kr rfl (HS23.cells 0 2 _ rfl))) kr ?_
 have HS24 := HS23.drop
 have HS25 := HS24.drop
 injection h with h
 subst h
 exact ⟨f, rfl, FM.le.refl _, HS25⟩

set_option maxRecDepth 100000 in
set_option maxHeartbeats 4000000 in
theorem num_Product.calls (k : Nat)  (a1 : Int) (b2 : Int) {t w : World} {f : FM} {H : List Seg} (HS : St t w f (H)) (rr1 : S_Wide) (h : num_Product k a1 b2 = some rr1) :
    Calls Tryz.prog 108 #[.int .i64 a1, .int .i64 b2] w (fun e w' => ∃ (g : FM), e = .returned (Value.agg #[.int .i64 rr1.Hi, .int .u64 rr1.Lo]) ∧ FM.le f g ∧ St t w' g (H)) := by
 unfold num_Product at h
 refine enter Tryz.func108 rfl (tm := #[iV a1, iV b2, uV, uV, uV, uV, uV, uV, uV, uV, uV, uV, uV, uV, uV, uV, uV, uV, uV, uV, uV, uV, uV, uV, uV, uV, uV, uV]) kr ?_
 intro B hret hnor hnp
 refine wp_seq_k fun K3 hK4 => rl ?_
 refine seqK rfl (does_alloc (z := Value.agg #[.int .i64 0, .int .u64 0]) (cs := #[.int .i64 0, .int .u64 0]) rfl kr rfl HS ?_)
 intro b5 W6 HS7
 refine nl (hK4 _ _ ?_)
 refine wp_seq_k fun K9 hK10 => rl ?_
 have hq_ := bind_some h; clear h; obtain ⟨vt11, hc12, h⟩ := hq_
 refine seqL1 kr ?_
 refine seqK rfl (does_call (f := 124) (args := #[.int .i64 a1]) kr (num_size.calls k a1 HS7 vt11 hc12) ?_)
 rintro _ W15 ⟨f13, rfl, L14, HS16⟩
 refine ⟨_, rfl, ?_⟩
 have hq_ := bind_some h; clear h; obtain ⟨vt17, hc18, h⟩ := hq_
 refine seqL1 kr ?_
 refine seqK rfl (does_call (f := 124) (args := #[.int .i64 b2]) kr (num_size.calls k b2 HS16 vt17 hc18) ?_)
 rintro _ W21 ⟨f19, rfl, L20, HS22⟩
 refine ⟨_, rfl, ?_⟩
 have hq_ := bind_some h; clear h; obtain ⟨⟨vt23, vt24⟩, hc25, h⟩ := hq_
 refine seqK rfl (does_call (f := 35) (args := #[.int .u64 vt11, .int .u64 vt17]) kr (bits_Mul64.calls k vt11 vt17 HS22 vt23 vt24 hc25) ?_)
 rintro _ W28 ⟨f26, rfl, L27, HS29⟩
 refine ⟨_, rfl, ?_⟩
 refine seqL5 kr ?_
 refine nl (hK10 _ _ ?_)
 refine wp_seq_k fun K30 hK31 => rl ?_
 refine seqL4 kr ?_
 refine seqK rfl (does_alloc (z := Value.agg #[.int .i64 0, .int .u64 0]) (cs := #[.int .i64 0, .int .u64 0]) rfl kr rfl HS29 ?_)
 intro b32 W33 HS34
 refine seqK rfl (does_store (n := 2) (vs := [.int .i64 (w64 (vt23)), .int .u64 vt24]) (cs' := #[.int .i64 (w64 (vt23)), .int .u64 vt24]) rfl kr (kv (.pointer (some ⟨b32, 0, none⟩))) (kv (.agg #[.int .i64 (w64 (vt23)), .int .u64 vt24])) rfl rfl (by intro u_ hu_; simp only [List.mem_cons, List.not_mem_nil, or_false] at hu_; rcases hu_ with rfl | rfl <;> rfl) HS34 (Nat.le_of_ble_eq_true rfl) kr ?_)
 intro W36 HS37
 refine nl (hK31 _ _ ?_)
 refine wp_seq_k (fun K38 hK39 => ?_)
 refine wp_seq_k fun K40 hK41 => rl ?_
 refine seqL5 kr ?_
 refine nl (hK41 _ _ ?_)
 have hq_ := ite_some h; clear h; rcases hq_ with ⟨c43, h⟩ | ⟨c43, h⟩
 · have c43 : ((decide (a1 < 0)) != (decide (b2 < 0))) = true := c43
   refine wpRwI 24 (x := ((decide (a1 < 0)) != (decide (b2 < 0)))) (v := true) kr c43 ?_
   refine condT kr ?_
   refine wp_seq_k fun K44 hK45 => rl ?_
   refine seqK rfl (does_run (run_loadN (n := 2) rfl Tryz.underlying175 rfl kr (kv (.pointer (some ⟨b32, 0, none⟩))) (cs := [.int .i64 (w64 (vt23)), .int .u64 vt24]) rfl (HS37.cells 0 2 _ rfl)) ?_)
   have hq_ := bind_some h; clear h; obtain ⟨vt46, hc47, h⟩ := hq_
   refine seqK rfl (does_call (f := 125) (args := #[.agg #[.int .i64 (w64 (vt23)), .int .u64 vt24]]) kr (num_Wide_Neg.calls k (⟨w64 (vt23), vt24⟩ : S_Wide) HS37 vt46 hc47) ?_)
   rintro _ W50 ⟨f48, rfl, L49, HS51⟩
   refine ⟨_, rfl, ?_⟩
   have HS52 := HS51.u1
   refine seqK rfl (does_store (n := 2) (vs := [.int .i64 vt46.Hi, .int .u64 vt46.Lo]) (cs' := #[.int .i64 vt46.Hi, .int .u64 vt46.Lo]) rfl kr (kv (.pointer (some ⟨b5, 0, none⟩))) (kv (.agg #[.int .i64 vt46.Hi, .int .u64 vt46.Lo])) rfl rfl (by intro u_ hu_; simp only [List.mem_cons, List.not_mem_nil, or_false] at hu_; rcases hu_ with rfl | rfl <;> rfl) HS52 (Nat.le_of_ble_eq_true rfl) kr ?_)
   intro W53 HS54
   refine nl (hK45 _ _ ?_)
   refine wp_ret ?_
   refine hret _ _ ?_
   refine ends (v := Value.agg #[.int .i64 vt46.Hi, .int .u64 vt46.Lo]) (results1 (q1 := .cell 4 175) kr (resN (n := 2) (cs := [.int .i64 vt46.Hi, .int .u64 vt46.Lo]) (kv (.pointer (some ⟨b5, 0, none⟩))) Tryz.underlying175 rfl kr rfl (HS54.cells 0 2 _ rfl))) kr ?_
   have HS60 := HS54.drop
   have HS61 := HS60.drop
   injection h with h
   subst h
   exact ⟨f48, rfl, (L14.trans (L20.trans (L27.trans L49))), HS61⟩
 · have c43 : ¬ (((decide (a1 < 0)) != (decide (b2 < 0))) = true) := c43
   refine wpRwI 24 (x := ((decide (a1 < 0)) != (decide (b2 < 0)))) (v := false) kr (Bool.eq_false_iff.mpr c43) ?_
   refine condF kr ?_
   refine wp_skip ?_
   refine hK39 _ _ ?_
   refine wp_seq_k fun K55 hK56 => rl ?_
   refine seqK rfl (does_run (run_loadN (n := 2) rfl Tryz.underlying175 rfl kr (kv (.pointer (some ⟨b32, 0, none⟩))) (cs := [.int .i64 (w64 (vt23)), .int .u64 vt24]) rfl (HS37.cells 0 2 _ rfl)) ?_)
   have HS57 := HS37.u1
   refine seqK rfl (does_store (n := 2) (vs := [.int .i64 (w64 (vt23)), .int .u64 vt24]) (cs' := #[.int .i64 (w64 (vt23)), .int .u64 vt24]) rfl kr (kv (.pointer (some ⟨b5, 0, none⟩))) (kv (.agg #[.int .i64 (w64 (vt23)), .int .u64 vt24])) rfl rfl (by intro u_ hu_; simp only [List.mem_cons, List.not_mem_nil, or_false] at hu_; rcases hu_ with rfl | rfl <;> rfl) HS57 (Nat.le_of_ble_eq_true rfl) kr ?_)
   intro W58 HS59
   refine nl (hK56 _ _ ?_)
   refine wp_ret ?_
   refine hret _ _ ?_
   refine ends (v := Value.agg #[.int .i64 (w64 (vt23)), .int .u64 vt24]) (results1 (q1 := .cell 4 175) kr (resN (n := 2) (cs := [.int .i64 (w64 (vt23)), .int .u64 vt24]) (kv (.pointer (some ⟨b5, 0, none⟩))) Tryz.underlying175 rfl kr rfl (HS59.cells 0 2 _ rfl))) kr ?_
   have HS62 := HS59.drop
   have HS63 := HS62.drop
   injection h with h
   subst h
   exact ⟨f26, rfl, (L14.trans (L20.trans L27)), HS63⟩

set_option maxRecDepth 100000 in
set_option maxHeartbeats 4000000 in
theorem num_Mul.calls (k : Nat)  (a1 : Int) (b2 : Int) {t w : World} {f : FM} {H : List Seg} (HS : St t w f (H)) (rr1 : Int) (rr2 : Bool) (h : num_Mul k a1 b2 = some (rr1, rr2)) :
    Calls Tryz.prog 98 #[.int .i64 a1, .int .i64 b2] w (fun e w' => ∃ (g : FM), e = .returned (Value.tuple #[.int .i64 rr1, .bool rr2]) ∧ FM.le f g ∧ St t w' g (H)) := by
 unfold num_Mul at h
 refine enter Tryz.func98 rfl (tm := #[iV a1, iV b2, uV, uV, uV, uV, uV, uV, uV, uV, uV, uV, uV, uV, uV, uV, uV, uV, uV, uV]) kr ?_
 intro B hret hnor hnp
 refine wp_seq_k fun K3 hK4 => rl ?_
 refine seqL2 kr ?_
 refine nl (hK4 _ _ ?_)
 refine wp_seq_k fun K5 hK6 => rl ?_
 have hq_ := bind_some h; clear h; obtain ⟨vt7, hc8, h⟩ := hq_
 refine seqL2 kr ?_
 refine seqK rfl (does_call (f := 108) (args := #[.int .i64 a1, .int .i64 b2]) kr (num_Product.calls k a1 b2 HS vt7 hc8) ?_)
 rintro _ W11 ⟨f9, rfl, L10, HS12⟩
 refine ⟨_, rfl, ?_⟩
 refine seqK rfl (does_alloc (z := Value.agg #[.int .i64 0, .int .u64 0]) (cs := #[.int .i64 0, .int .u64 0]) rfl kr rfl HS12 ?_)
 intro b13 W14 HS15
 refine seqK rfl (does_store (n := 2) (vs := [.int .i64 vt7.Hi, .int .u64 vt7.Lo]) (cs' := #[.int .i64 vt7.Hi, .int .u64 vt7.Lo]) rfl kr (kv (.pointer (some ⟨b13, 0, none⟩))) (kv (.agg #[.int .i64 vt7.Hi, .int .u64 vt7.Lo])) rfl rfl (by intro u_ hu_; simp only [List.mem_cons, List.not_mem_nil, or_false] at hu_; rcases hu_ with rfl | rfl <;> rfl) HS15 (Nat.le_of_ble_eq_true rfl) kr ?_)
 intro W17 HS18
 refine nl (hK6 _ _ ?_)
 refine wp_seq_k (fun K19 hK20 => ?_)
 refine wp_seq_k fun K21 hK22 => rl ?_
 refine seqL1 kr ?_
 refine seqK rfl (does_run (run_load rfl Tryz.underlying2 rfl (kv (.pointer (some ⟨b13, 0, none⟩))) (HS18.cell 0)) ?_)
 refine seqL1 kr ?_
 refine seqK rfl (does_run (run_load rfl Tryz.underlying23 rfl (kv (.pointer (some ⟨b13, 1, none⟩))) (HS18.cell 1)) ?_)
 refine seqL3 kr ?_
 refine nl (hK22 _ _ ?_)
 have hq_ := ite_some h; clear h; rcases hq_ with ⟨c24, h⟩ | ⟨c24, h⟩
 · have c24 : vt7.Hi ≠ (shr (w64 (vt7.Lo)) 63) := c24
   refine wpRwI 16 (x := (vt7.Hi != (shr (w64 (vt7.Lo)) 63))) (v := true) kr (bne_iff_ne.mpr c24) ?_
   refine condT kr ?_
   refine wp_seq_k fun K25 hK26 => rl ?_
   refine seqL2 kr ?_
   refine nl (hK26 _ _ ?_)
   refine wp_ret ?_
   refine hret _ _ ?_
   refine ends_still (v := Value.tuple #[.int .i64 0, .bool false]) kr kr ?_
   have HS29 := HS18.drop
   injection h with h
   injection h with h0_ h
   subst h0_ h
   exact ⟨f9, rfl, L10, HS29⟩
 · have c24 : ¬ (vt7.Hi ≠ (shr (w64 (vt7.Lo)) 63)) := c24
   refine wpRwI 16 (x := (vt7.Hi != (shr (w64 (vt7.Lo)) 63))) (v := false) kr (bne_eq_false_iff_eq.mpr (Decidable.of_not_not c24)) ?_
   refine condF kr ?_
   refine wp_skip ?_
   refine hK20 _ _ ?_
   refine wp_seq_k fun K27 hK28 => rl ?_
   refine seqL1 kr ?_
   refine seqK rfl (does_run (run_load rfl Tryz.underlying23 rfl (kv (.pointer (some ⟨b13, 1, none⟩))) (HS18.cell 1)) ?_)
   refine seqL3 kr ?_
   refine nl (hK28 _ _ ?_)
   refine wp_ret ?_
   refine hret _ _ ?_
   refine ends_still (v := Value.tuple #[.int .i64 (w64 (vt7.Lo)), .bool true]) kr kr ?_
   have HS30 := HS18.drop
   injection h with h
   injection h with h0_ h
   subst h0_ h
   exact ⟨f9, rfl, L10, HS30⟩

set_option maxRecDepth 100000 in
set_option maxHeartbeats 4000000 in
theorem frame_Number.calls (k : Nat) (A2 : Option Addr) (c3 : Nat) (A5 : Option Addr) (c6 : Nat) (vf1 : S_Frame) (key8 : ByteArray) (vto9 : ByteArray) {t w : World} {f : FM} {H : List Seg} (HS : St t w f (H)) (HR4 : SlR ty_Card f A2 c3 vf1.Cards) (HR7 : SlR (tInt .i64) f A5 c6 vf1.Counts) (HT : TabF Tryz.prog "internal/strconv.uint64pow10" .u64 Go.Lib.pow10Tab f) (rr1 : Int) (rr2 : Int) (h : frame_Number k vf1 key8 vto9 = some (rr1, rr2)) :
    Calls Tryz.prog 75 #[.agg #[.int .i64 vf1.W, .int .i64 vf1.H, .slice A2 vf1.Cards.length c3, .slice A5 vf1.Counts.length c6], .string key8, .string vto9] w (fun e w' => ∃ (g : FM), e = .returned (Value.tuple #[.int .i64 rr1, .int .i64 rr2]) ∧ FM.le f g ∧ St t w' g (H)) := by
 unfold frame_Number at h
 refine enter Tryz.func75 rfl (tm := #[(ag_Frame vf1 A2 c3 A5 c6), .string key8, .string vto9, uV, uV, uV, uV, uV, uV, uV, uV, uV, uV, uV, uV, uV, uV, uV, uV, uV, uV, uV, uV, uV, uV, uV, uV, uV, uV, uV, uV, uV, uV, uV, uV, uV, uV, uV, uV, uV, uV, uV, uV, uV, uV, uV, uV, uV, uV, uV, uV, uV, uV, uV, uV, uV, uV, uV, uV, uV, uV, uV, uV, uV, uV, uV, uV, uV, uV, uV, uV, uV, uV, uV, uV, uV, uV, uV, uV, uV]) kr ?_
 intro B hret hnor hnp
 refine wp_seq_k fun K10 hK11 => rl ?_
 refine seqK rfl (does_box (cs := #[.int .i64 vf1.W, .int .i64 vf1.H, .slice A2 vf1.Cards.length c3, .slice A5 vf1.Counts.length c6]) rfl (kv (.agg #[.int .i64 vf1.W, .int .i64 vf1.H, .slice A2 vf1.Cards.length c3, .slice A5 vf1.Counts.length c6])) rfl HS ?_)
 intro b12 W13 HS14
 refine seqL2 kr ?_
 refine nl (hK11 _ _ ?_)
 refine wp_seq_k fun K16 hK17 => rl ?_
 refine seqK rfl (does_run (run_loadN (n := 4) rfl Tryz.underlying54 rfl kr (kv (.pointer (some ⟨b12, 0, none⟩))) (cs := [.int .i64 vf1.W, .int .i64 vf1.H, .slice A2 vf1.Cards.length c3, .slice A5 vf1.Counts.length c6]) rfl (HS14.cells 0 4 _ rfl)) ?_)
 have hq_ := bind_some h; clear h; obtain ⟨⟨vt18, vt19⟩, hc20, h⟩ := hq_
 refine seqL1 kr ?_
 refine seqK rfl (does_call (f := 56) (args := #[.agg #[.int .i64 vf1.W, .int .i64 vf1.H, .slice A2 vf1.Cards.length c3, .slice A5 vf1.Counts.length c6], .string key8]) kr (frame_Get.calls k A2 c3 A5 c6 vf1 key8 HS14 HR4 HR7 vt18 vt19 hc20) ?_)
 rintro _ W23 ⟨f21, rfl, L22, HS24⟩
 refine ⟨_, rfl, ?_⟩
 refine seqL3 kr ?_
 refine seqK rfl (does_alloc (z := Value.agg #[.string ⟨#[]⟩, .string ⟨#[]⟩, .string ⟨#[]⟩, .string ⟨#[]⟩]) (cs := #[.string ⟨#[]⟩, .string ⟨#[]⟩, .string ⟨#[]⟩, .string ⟨#[]⟩]) rfl kr rfl HS24 ?_)
 intro b25 W26 HS27
 refine seqK rfl (does_store (n := 4) (vs := [.string vt18.Key, .string vt18.Value, .string vt18.Unit, .string vt18.Note]) (cs' := #[.string vt18.Key, .string vt18.Value, .string vt18.Unit, .string vt18.Note]) rfl kr (kv (.pointer (some ⟨b25, 0, none⟩))) (kv (.agg #[.string vt18.Key, .string vt18.Value, .string vt18.Unit, .string vt18.Note])) rfl rfl (by intro u_ hu_; simp only [List.mem_cons, List.not_mem_nil, or_false] at hu_; rcases hu_ with rfl | rfl | rfl | rfl <;> rfl) HS27 (Nat.le_of_ble_eq_true rfl) kr ?_)
 intro W29 HS30
 refine seqL1 kr ?_
 refine nl (hK17 _ _ ?_)
 refine wp_seq_k (fun K31 hK32 => ?_)
 refine wp_seq_k fun K33 hK34 => rl ?_
 refine seqL2 kr ?_
 refine nl (hK34 _ _ ?_)
 have hq_ := ite_some h; clear h; rcases hq_ with ⟨c36, h⟩ | ⟨c36, h⟩
 · have c36 : ¬ (vt19 = true) := c36
   refine wpRwI 24 (x := (!vt19)) (v := true) kr (congrArg (fun b_ => !b_) (show vt19 = false from (Bool.eq_false_iff.mpr c36)) : (!vt19) = true) ?_
   refine condT kr ?_
   refine wp_seq_k fun K37 hK38 => rl ?_
   refine seqL2 kr ?_
   refine nl (hK38 _ _ ?_)
   refine wp_ret ?_
   refine hret _ _ ?_
   refine ends_still (v := Value.tuple #[.int .i64 0, .int .i64 8]) kr kr ?_
   have HS133 := HS30.drop
   have HS134 := HS133.drop
   injection h with h
   injection h with h0_ h
   subst h0_ h
   exact ⟨f21, rfl, L22, HS134⟩
 · have c36 : ¬ (¬ (vt19 = true)) := c36
   refine wpRwI 24 (x := (!vt19)) (v := false) kr (congrArg (fun b_ => !b_) (show vt19 = true from (Decidable.of_not_not c36)) : (!vt19) = false) ?_
   refine condF kr ?_
   refine wp_skip ?_
   refine hK32 _ _ ?_
   refine wp_seq_k fun K39 hK40 => rl ?_
   refine seqL1 kr ?_
   refine seqK rfl (does_run (run_load rfl Tryz.underlying9 rfl (kv (.pointer (some ⟨b25, 1, none⟩))) (HS30.cell 1)) ?_)
   have hq_ := bind_some h; clear h; obtain ⟨vt41, hc42, h⟩ := hq_
   refine seqK rfl (does_call (f := 96) (args := #[.string vt18.Value, .int .i64 10, .int .i64 64]) kr (strconv_ParseInt.calls k vt18.Value 10 64 HS30 vt41 hc42) ?_)
   rintro _ W45 ⟨f43, rfl, L44, HS46⟩
   refine ⟨_, rfl, ?_⟩
   refine seqL5 kr ?_
   refine nl (hK40 _ _ ?_)
   refine wp_seq_k (fun K47 hK48 => ?_)
   refine wp_seq_k (fun K49 hK50 => ?_)
   refine heldG (S := Sg t f43 ([(b25, .cells #[.string vt18.Key, .string vt18.Value, .string vt18.Unit, .string vt18.Note] 98 (0, 0))] :: [(b12, .cells #[.int .i64 vf1.W, .int .i64 vf1.H, .slice A2 vf1.Cards.length c3, .slice A5 vf1.Counts.length c6] 54 (0, 0))] :: H) []) (n := 9) kr rfl HS46 ?_
   intro W51 HS52
   refine takeGL [0, 1, 2, 3, 5] (n := 9) (fuel := 4) #[true, true, true, true, false, true, false, false, false] rfl kr kr kr hnp (Sg.g0 (Sx.of [] (FM.le.refl _) HS52)) ?_
   refine takeGQ 6 [] rfl kr kr kr kr kr kr hnp (Sg.g0 (Sx.of [] (FM.le.refl _) HS52)) (fun w_ hw_ => by obtain ⟨g_, hl_, hS_⟩ := hw_.st; exact run_load rfl Tryz.underlying9 rfl (kv (.pointer (some ⟨b25, 1, none⟩))) (hS_.cell 1)) ?_
   have hq_ := bind_some h; clear h; obtain ⟨vt53, hc54, h⟩ := hq_
   refine takeGE 4 kr rfl kr (does_call (f := 40) (args := #[.int .i64 vt41, .int .i64 10]) kr (strconv_FormatInt.calls k vt41 10 HS52 (HT.mono (L22.trans L44)) vt53 hc54) ?_)
   rintro _ W57 ⟨f55, rfl, L56, HS58⟩
   refine ⟨_, rfl, ?_⟩
   refine ⟨(Sg.g0 (Sx.of [] L56 HS58)), ?_⟩
   refine takeGL [7, 8] (n := 2) (fuel := 0) #[true, true, true, true, true, true, true, true, true] rfl kr kr kr hnp (Sg.g0 (Sx.of [] L56 HS58)) ?_
   refine doneG kr ?_ _
   refine hK50 _ _ ?_
   have hq_ := ite_some h; clear h; rcases hq_ with ⟨c60, h⟩ | ⟨c60, h⟩
   · have c60 : (!(vt53.toList == vt18.Value.toList)) = true := c60
     refine wpRwI 38 (x := (!(vt53.toList == vt18.Value.toList))) (v := true) kr c60 ?_
     refine wpRwI 39 (x := (!(vt53.toList == vt18.Value.toList))) (v := true) kr c60 ?_
     refine condT kr ?_
     refine wp_seq_k fun K61 hK62 => rl ?_
     refine seqL2 kr ?_
     refine nl (hK62 _ _ ?_)
     refine wp_ret ?_
     refine hret _ _ ?_
     refine ends_still (v := Value.tuple #[.int .i64 0, .int .i64 5]) kr kr ?_
     have HS135 := HS58.drop
     have HS136 := HS135.drop
     injection h with h
     injection h with h0_ h
     subst h0_ h
     exact ⟨f55, rfl, (L22.trans (L44.trans L56)), HS136⟩
   · have c60 : ¬ ((!(vt53.toList == vt18.Value.toList)) = true) := c60
     refine wpRwI 38 (x := (!(vt53.toList == vt18.Value.toList))) (v := false) kr (Bool.eq_false_iff.mpr c60) ?_
     refine wpRwI 39 (x := (!(vt53.toList == vt18.Value.toList))) (v := false) kr (Bool.eq_false_iff.mpr c60) ?_
     refine condF kr ?_
     refine wp_skip ?_
     refine hK48 _ _ ?_
     refine wp_seq_k (fun K63 hK64 => ?_)
     refine wp_seq_k fun K65 hK66 => rl ?_
     refine seqL1 kr ?_
     refine seqK rfl (does_run (run_load rfl Tryz.underlying9 rfl (kv (.pointer (some ⟨b25, 2, none⟩))) (HS58.cell 2)) ?_)
     refine seqL2 kr ?_
     refine nl (hK66 _ _ ?_)
     have hq_ := ite_some h; clear h; rcases hq_ with ⟨c68, h⟩ | ⟨c68, h⟩
     · have c68 : (vt18.Unit.toList == vto9.toList) = true := c68
       refine wpRwI 43 (x := (vt18.Unit.toList == vto9.toList)) (v := true) kr c68 ?_
       refine condT kr ?_
       refine wp_seq_k fun K69 hK70 => rl ?_
       refine seqL3 kr ?_
       refine nl (hK70 _ _ ?_)
       refine wp_ret ?_
       refine hret _ _ ?_
       refine ends_still (v := Value.tuple #[.int .i64 vt41, .int .i64 0]) kr kr ?_
       have HS137 := HS58.drop
       have HS138 := HS137.drop
       injection h with h
       injection h with h0_ h
       subst h0_ h
       exact ⟨f55, rfl, (L22.trans (L44.trans L56)), HS138⟩
     · have c68 : ¬ ((vt18.Unit.toList == vto9.toList) = true) := c68
       refine wpRwI 43 (x := (vt18.Unit.toList == vto9.toList)) (v := false) kr (Bool.eq_false_iff.mpr c68) ?_
       refine condF kr ?_
       refine wp_skip ?_
       refine hK64 _ _ ?_
       refine wp_seq_k fun K71 hK72 => rl ?_
       refine seqL1 kr ?_
       refine seqK rfl (does_run (run_load rfl Tryz.underlying9 rfl (kv (.pointer (some ⟨b25, 2, none⟩))) (HS58.cell 2)) ?_)
       have hq_ := bind_some h; clear h; obtain ⟨⟨vt73, vt74⟩, hc75, h⟩ := hq_
       refine seqK rfl (does_call (f := 97) (args := #[.string vt18.Unit]) kr (frame_unit.calls k vt18.Unit HS58 vt73 vt74 hc75) ?_)
       rintro _ W78 ⟨f76, rfl, L77, HS79⟩
       refine ⟨_, rfl, ?_⟩
       refine seqL5 kr ?_
       refine nl (hK72 _ _ ?_)
       refine wp_seq_k fun K80 hK81 => rl ?_
       have hq_ := bind_some h; clear h; obtain ⟨⟨vt82, vt83⟩, hc84, h⟩ := hq_
       refine seqL1 kr ?_
       refine seqK rfl (does_call (f := 97) (args := #[.string vto9]) kr (frame_unit.calls k vto9 HS79 vt82 vt83 hc84) ?_)
       rintro _ W87 ⟨f85, rfl, L86, HS88⟩
       refine ⟨_, rfl, ?_⟩
       refine seqL5 kr ?_
       refine nl (hK81 _ _ ?_)
       refine wp_seq_k (fun K89 hK90 => ?_)
       refine wp_seq_k fun K91 hK92 => rl ?_
       refine seqL3 kr ?_
       have hq_ := ite_some h; clear h; rcases hq_ with ⟨c93, h⟩ | ⟨c93, h⟩
       · have c93 : (vt73.toList == (⟨#[]⟩ : ByteArray).toList) = true := c93
         refine seqRwI 57 (x := (vt73.toList == (⟨#[]⟩ : ByteArray).toList)) (v := true) kr c93 ?_
         refine seqRwI 58 (x := (vt73.toList == (⟨#[]⟩ : ByteArray).toList)) (v := true) kr c93 ?_
         refine seqL4 kr ?_
         refine nl (hK92 _ _ ?_)
         refine condT kr ?_
         refine wp_seq_k fun K94 hK95 => rl ?_
         refine seqL2 kr ?_
         refine nl (hK95 _ _ ?_)
         refine wp_ret ?_
         refine hret _ _ ?_
         refine ends_still (v := Value.tuple #[.int .i64 0, .int .i64 12]) kr kr ?_
         have HS139 := HS88.drop
         have HS140 := HS139.drop
         injection h with h
         injection h with h0_ h
         subst h0_ h
         exact ⟨f85, rfl, (L22.trans (L44.trans (L56.trans (L77.trans L86)))), HS140⟩
       · have c93 : ¬ ((vt73.toList == (⟨#[]⟩ : ByteArray).toList) = true) := c93
         refine seqRwI 57 (x := (vt73.toList == (⟨#[]⟩ : ByteArray).toList)) (v := false) kr (Bool.eq_false_iff.mpr c93) ?_
         refine seqRwI 58 (x := (vt73.toList == (⟨#[]⟩ : ByteArray).toList)) (v := false) kr (Bool.eq_false_iff.mpr c93) ?_
         refine seqL4 kr ?_
         refine nl (hK92 _ _ ?_)
         have hq_ := ite_some h; clear h; rcases hq_ with ⟨c97, h⟩ | ⟨c97, h⟩
         · have c97 : (!(vt73.toList == vt82.toList)) = true := c97
           refine wpRwI 61 (x := (!(vt73.toList == vt82.toList))) (v := true) kr c97 ?_
           refine wpRwI 62 (x := (!(vt73.toList == vt82.toList))) (v := true) kr c97 ?_
           refine condT kr ?_
           refine wp_seq_k fun K98 hK99 => rl ?_
           refine seqL2 kr ?_
           refine nl (hK99 _ _ ?_)
           refine wp_ret ?_
           refine hret _ _ ?_
           refine ends_still (v := Value.tuple #[.int .i64 0, .int .i64 12]) kr kr ?_
           have HS141 := HS88.drop
           have HS142 := HS141.drop
           injection h with h
           injection h with h0_ h
           subst h0_ h
           exact ⟨f85, rfl, (L22.trans (L44.trans (L56.trans (L77.trans L86)))), HS142⟩
         · have c97 : ¬ ((!(vt73.toList == vt82.toList)) = true) := c97
           refine wpRwI 61 (x := (!(vt73.toList == vt82.toList))) (v := false) kr (Bool.eq_false_iff.mpr c97) ?_
           refine wpRwI 62 (x := (!(vt73.toList == vt82.toList))) (v := false) kr (Bool.eq_false_iff.mpr c97) ?_
           refine condF kr ?_
           refine wp_skip ?_
           refine hK90 _ _ ?_
           refine wp_seq_k fun K100 hK101 => rl ?_
           have hq_ := bind_some h; clear h; obtain ⟨⟨vt102, vt103⟩, hc104, h⟩ := hq_
           refine seqL2 kr ?_
           refine seqK rfl (does_call (f := 98) (args := #[.int .i64 vt41, .int .i64 vt74]) kr (num_Mul.calls k vt41 vt74 HS88 vt102 vt103 hc104) ?_)
           rintro _ W107 ⟨f105, rfl, L106, HS108⟩
           refine ⟨_, rfl, ?_⟩
           refine seqL5 kr ?_
           refine nl (hK101 _ _ ?_)
           refine wp_seq_k (fun K109 hK110 => ?_)
           refine blockK (fun B111 hx112 hn113 hr114 ho115 hp116 => ?_)
           refine wp_seq_k fun K118 hK119 => rl ?_
           refine seqL3 kr ?_
           refine nl (hK119 _ _ ?_)
           have hq_ := ite_some h; clear h; rcases hq_ with ⟨c121, h⟩ | ⟨c121, h⟩
           · have c121 : ¬ (vt103 = true) := c121
             refine wpRwI 69 (x := (!vt103)) (v := true) kr (congrArg (fun b_ => !b_) (show vt103 = false from (Bool.eq_false_iff.mpr c121)) : (!vt103) = true) ?_
             refine wpRwI 71 (x := (!vt103)) (v := true) kr (congrArg (fun b_ => !b_) (show vt103 = false from (Bool.eq_false_iff.mpr c121)) : (!vt103) = true) ?_
             refine condT kr ?_
             refine wp_seq_k fun K122 hK123 => rl ?_
             refine seqL2 kr ?_
             refine nl (hK123 _ _ ?_)
             refine wp_ret ?_
             refine hr114 _ _ ?_
             refine hret _ _ ?_
             refine ends_still (v := Value.tuple #[.int .i64 0, .int .i64 2]) kr kr ?_
             have HS143 := HS108.drop
             have HS144 := HS143.drop
             injection h with h
             injection h with h0_ h
             subst h0_ h
             exact ⟨f105, rfl, (L22.trans (L44.trans (L56.trans (L77.trans (L86.trans L106))))), HS144⟩
           · have c121 : ¬ (¬ (vt103 = true)) := c121
             refine wpRwI 69 (x := (!vt103)) (v := false) kr (congrArg (fun b_ => !b_) (show vt103 = true from (Decidable.of_not_not c121)) : (!vt103) = false) ?_
             refine wpRwI 71 (x := (!vt103)) (v := false) kr (congrArg (fun b_ => !b_) (show vt103 = true from (Decidable.of_not_not c121)) : (!vt103) = false) ?_
             refine condF kr ?_
             refine wp_seq_k fun K124 hK125 => rl ?_
             have hq_ := guard_some h; clear h; obtain ⟨c126, h⟩ := hq_
             have c126 : ¬ (vt83 = 0) := c126
             refine seqL2 kr ?_
             refine seqK rfl (does_run (run_rem rfl (kv (.int .i64 vt102)) (kv (.int .i64 vt83)) c126 W107) ?_)
             refine seqL2 kr ?_
             refine nl (hK125 _ _ ?_)
             have hq_ := ite_some h; clear h; rcases hq_ with ⟨c128, h⟩ | ⟨c128, h⟩
             · have c128 : (Int.tmod vt102 vt83) ≠ 0 := c128
               refine wpRwI 72 (x := ((Int.tmod vt102 vt83) != 0)) (v := true) kr (bne_iff_ne.mpr c128) ?_
               refine wpRwI 76 (x := ((Int.tmod vt102 vt83) != 0)) (v := true) kr (bne_iff_ne.mpr c128) ?_
               refine condT kr ?_
               refine wp_seq_k fun K129 hK130 => rl ?_
               refine seqL2 kr ?_
               refine nl (hK130 _ _ ?_)
               refine wp_ret ?_
               refine hr114 _ _ ?_
               refine hret _ _ ?_
               refine ends_still (v := Value.tuple #[.int .i64 0, .int .i64 3]) kr kr ?_
               have HS145 := HS108.drop
               have HS146 := HS145.drop
               injection h with h
               injection h with h0_ h
               subst h0_ h
               exact ⟨f105, rfl, (L22.trans (L44.trans (L56.trans (L77.trans (L86.trans L106))))), HS146⟩
             · have c128 : ¬ ((Int.tmod vt102 vt83) ≠ 0) := c128
               refine wpRwI 72 (x := ((Int.tmod vt102 vt83) != 0)) (v := false) kr (bne_eq_false_iff_eq.mpr (Decidable.of_not_not c128)) ?_
               refine wpRwI 76 (x := ((Int.tmod vt102 vt83) != 0)) (v := false) kr (bne_eq_false_iff_eq.mpr (Decidable.of_not_not c128)) ?_
               refine condF kr ?_
               refine wp_skip ?_
               refine hn113 _ _ ?_
               refine hK110 _ _ ?_
               refine wp_seq_k fun K131 hK132 => rl ?_
               refine seqL2 kr ?_
               refine seqK rfl (does_run (run_div rfl (kv (.int .i64 vt102)) (kv (.int .i64 vt83)) c126 W107) ?_)
               refine seqS2 (a' := ⟨#[(ag_Frame vf1 A2 c3 A5 c6), .string key8, .string vto9, pV b12 0, uV, uV, iV (w64 (Int.tdiv vt102 vt83)), iV 0, pV b25 0, .bool vt103, iV vt41, .nilIface, .string vt73, iV vt74, .string vt82, iV vt83, iV vt102, .tuple #[(ag_Card vt18), .bool vt19], (ag_Frame vf1 A2 c3 A5 c6), .string key8, .tuple #[(ag_Card vt18), .bool vt19], (ag_Card vt18), .bool vt19, .bool vt19, fV, .tuple #[iV vt41, .nilIface], pV b25 1, .string vt18.Value, .tuple #[iV vt41, .nilIface], iV vt41, .nilIface, .nilIface, fV, fV, iV vt41, .string vt53, pV b25 1, .string vt18.Value, fV, fV, pV b25 2, .string vt18.Unit, .string vto9, fV, uV, .tuple #[.string vt73, iV vt74], pV b25 2, .string vt18.Unit, .tuple #[.string vt73, iV vt74], .string vt73, iV vt74, .tuple #[.string vt82, iV vt83], .string vto9, .tuple #[.string vt82, iV vt83], .string vt82, iV vt83, .string vt73, fV, fV, .string vt73, .string vt82, fV, fV, .tuple #[iV vt102, .bool vt103], iV vt41, iV vt74, .tuple #[iV vt102, .bool vt103], iV vt102, .bool vt103, fV, .bool vt103, fV, fV, iV vt102, iV vt83, iV (Int.tmod vt102 vt83), fV, iV vt102, iV vt83, iV (w64 (Int.tdiv vt102 vt83))], []⟩) kr ?_
               refine nl (hK132 _ _ ?_)
               refine wp_ret ?_
               refine hret _ _ ?_
               refine ends_still (v := Value.tuple #[.int .i64 (w64 (Int.tdiv vt102 vt83)), .int .i64 0]) kr kr ?_
               have HS147 := HS108.drop
               have HS148 := HS147.drop
               injection h with h
               injection h with h0_ h
               subst h0_ h
               exact ⟨f105, rfl, (L22.trans (L44.trans (L56.trans (L77.trans (L86.trans L106))))), HS148⟩

set_option maxRecDepth 100000 in
set_option maxHeartbeats 4000000 in
theorem expose_numbers_get.calls (k : Nat) (b1 : Nat) (A4 : Option Addr) (c5 : Nat) (A7 : Option Addr) (c8 : Nat) (n3 : S_numbers) (key10 : ByteArray) (unit11 : ByteArray) {t w : World} {f : FM} {H : List Seg} (HS : St t w f ([(b1, .cells #[.int .i64 n3.f.W, .int .i64 n3.f.H, .slice A4 n3.f.Cards.length c5, .slice A7 n3.f.Counts.length c8, .int .i64 n3.e] 124 (0, 0))] :: H)) (HR6 : SlR ty_Card f A4 c5 n3.f.Cards) (HR9 : SlR (tInt .i64) f A7 c8 n3.f.Counts) (HT : TabF Tryz.prog "internal/strconv.uint64pow10" .u64 Go.Lib.pow10Tab f) (rr1 : Int) (rr2 : Int) (h : expose_numbers_get k n3 key10 unit11 = some (rr1, rr2)) :
    Calls Tryz.prog 58 #[.pointer (some ⟨b1, 0, none⟩), .string key10, .string unit11] w (fun e w' => ∃ (g : FM), e = .returned (Value.int .i64 rr1) ∧ FM.le f g ∧ St t w' g ([(b1, .cells #[.int .i64 n3.f.W, .int .i64 n3.f.H, .slice A4 n3.f.Cards.length c5, .slice A7 n3.f.Counts.length c8, .int .i64 rr2] 124 (0, 0))] :: H)) := by
 unfold expose_numbers_get at h
 refine enter Tryz.func58 rfl (tm := #[pV b1 0, .string key10, .string unit11, uV, uV, uV, uV, uV, uV, uV, uV, uV, uV, uV, uV, uV, uV, uV, uV, uV, uV, uV, uV, uV, uV, uV, uV, uV, uV]) kr ?_
 intro B hret hnor hnp
 refine wp_seq_k fun K12 hK13 => rl ?_
 refine seqL1 kr ?_
 refine nl (hK13 _ _ ?_)
 refine wp_seq_k (fun K14 hK15 => ?_)
 refine wp_seq_k fun K16 hK17 => rl ?_
 refine seqL3 kr ?_
 refine seqK rfl (does_run (run_load rfl Tryz.underlying34 rfl (kv (.pointer (some ⟨b1, 4, none⟩))) (HS.cell 4)) ?_)
 refine seqL1 kr ?_
 refine nl (hK17 _ _ ?_)
 have hq_ := ite_some h; clear h; rcases hq_ with ⟨c19, h⟩ | ⟨c19, h⟩
 · have c19 : n3.e ≠ 0 := c19
   refine wpRwI 13 (x := (n3.e != 0)) (v := true) kr (bne_iff_ne.mpr c19) ?_
   refine condT kr ?_
   refine wp_seq_k fun K20 hK21 => rl ?_
   refine seqL1 kr ?_
   refine nl (hK21 _ _ ?_)
   refine wp_ret ?_
   refine hret _ _ ?_
   refine ends_still (v := Value.int .i64 0) kr kr ?_
   injection h with h
   injection h with h0_ h
   subst h0_ h
   exact ⟨f, rfl, FM.le.refl _, HS⟩
 · have c19 : ¬ (n3.e ≠ 0) := c19
   refine wpRwI 13 (x := (n3.e != 0)) (v := false) kr (bne_eq_false_iff_eq.mpr (Decidable.of_not_not c19)) ?_
   refine condF kr ?_
   refine wp_skip ?_
   refine hK15 _ _ ?_
   refine wp_seq_k fun K22 hK23 => rl ?_
   refine seqL3 kr ?_
   refine seqK rfl (does_run (run_loadN (n := 4) rfl Tryz.underlying54 rfl kr (kv (.pointer (some ⟨b1, 0, none⟩))) (cs := [.int .i64 n3.f.W, .int .i64 n3.f.H, .slice A4 n3.f.Cards.length c5, .slice A7 n3.f.Counts.length c8]) rfl (HS.cells 0 4 _ rfl)) ?_)
   have hq_ := bind_some h; clear h; obtain ⟨⟨vt24, vt25⟩, hc26, h⟩ := hq_
   refine seqL2 kr ?_
   refine seqK rfl (does_call (f := 75) (args := #[.agg #[.int .i64 n3.f.W, .int .i64 n3.f.H, .slice A4 n3.f.Cards.length c5, .slice A7 n3.f.Counts.length c8], .string key10, .string unit11]) kr (frame_Number.calls k A4 c5 A7 c8 n3.f key10 unit11 HS HR6 HR9 HT vt24 vt25 hc26) ?_)
   rintro _ W29 ⟨f27, rfl, L28, HS30⟩
   refine ⟨_, rfl, ?_⟩
   refine seqL5 kr ?_
   refine nl (hK23 _ _ ?_)
   refine wp_seq_k fun K31 hK32 => rl ?_
   refine seqL4 kr ?_
   refine seqK rfl (does_store (n := 1) (vs := [.int .i64 vt25]) (cs' := #[.int .i64 n3.f.W, .int .i64 n3.f.H, .slice A4 n3.f.Cards.length c5, .slice A7 n3.f.Counts.length c8, .int .i64 vt25]) rfl kr (kv (.pointer (some ⟨b1, 4, none⟩))) (kv (.int .i64 vt25)) rfl rfl (by intro u_ hu_; simp only [List.mem_cons, List.not_mem_nil, or_false] at hu_; subst hu_; rfl) HS30 (Nat.le_of_ble_eq_true rfl) kr ?_)
   intro W33 HS34
   refine nl (hK32 _ _ ?_)
   refine wp_seq_k fun K35 hK36 => rl ?_
   refine seqL2 kr ?_
   refine nl (hK36 _ _ ?_)
   refine wp_ret ?_
   refine hret _ _ ?_
   refine ends_still (v := Value.int .i64 vt24) kr kr ?_
   injection h with h
   injection h with h0_ h
   subst h0_ h
   exact ⟨f27, rfl, L28, HS34⟩

set_option maxRecDepth 100000 in
set_option maxHeartbeats 4000000 in
theorem optics_Reach.calls (k : Nat)  (half1 : Int) {t w : World} {f : FM} {H : List Seg} (HS : St t w f (H)) (rr1 : Int) (h : optics_Reach k half1 = some rr1) :
    Calls Tryz.prog 76 #[.int .i64 half1] w (fun e w' => ∃ (g : FM), e = .returned (Value.int .i64 rr1) ∧ FM.le f g ∧ St t w' g (H)) := by
 unfold optics_Reach at h
 refine enter Tryz.func76 rfl (tm := #[iV half1, uV, uV, uV, uV, uV, uV, uV, uV, uV, uV, uV, uV, uV]) kr ?_
 intro B hret hnor hnp
 refine wp_seq_k fun K2 hK3 => rl ?_
 refine seqL1 kr ?_
 refine nl (hK3 _ _ ?_)
 refine wp_seq_k (fun K4 hK5 => ?_)
 refine wp_seq_k fun K6 hK7 => rl ?_
 refine seqL3 kr ?_
 have hq_ := ite_some h; clear h; rcases hq_ with ⟨c8, h⟩ | ⟨c8, h⟩
 · have c8 : half1 ≠ 1 := c8
   refine seqRwI 4 (x := (half1 != 1)) (v := true) kr (bne_iff_ne.mpr c8) ?_
   refine seqRwI 5 (x := (half1 != 1)) (v := true) kr (bne_iff_ne.mpr c8) ?_
   refine seqL4 kr ?_
   have hq_ := ite_some h; clear h; rcases hq_ with ⟨c9, h⟩ | ⟨c9, h⟩
   · have c9 : half1 ≠ 2 := c9
     refine seqRwI 7 (x := (half1 != 2)) (v := true) kr (bne_iff_ne.mpr c9) ?_
     refine seqRwI 8 (x := (half1 != 2)) (v := true) kr (bne_iff_ne.mpr c9) ?_
     refine seqRwI 9 (x := (half1 != 2)) (v := true) kr (bne_iff_ne.mpr c9) ?_
     refine seqL3 kr ?_
     refine nl (hK7 _ _ ?_)
     have hq_ := ite_some h; clear h; rcases hq_ with ⟨c11, h⟩ | ⟨c11, h⟩
     · have c11 : half1 ≠ 4 := c11
       refine wpRwI 11 (x := (half1 != 4)) (v := true) kr (bne_iff_ne.mpr c11) ?_
       refine wpRwI 12 (x := (half1 != 4)) (v := true) kr (bne_iff_ne.mpr c11) ?_
       refine condT kr ?_
       refine wp_seq_k fun K12 hK13 => rl ?_
       refine seqL1 kr ?_
       refine nl (hK13 _ _ ?_)
       refine wp_ret ?_
       refine hret _ _ ?_
       refine ends_still (v := Value.int .i64 0) kr kr ?_
       injection h with h
       subst h
       exact ⟨f, rfl, FM.le.refl _, HS⟩
     · have c11 : ¬ (half1 ≠ 4) := c11
       refine wpRwI 11 (x := (half1 != 4)) (v := false) kr (bne_eq_false_iff_eq.mpr (Decidable.of_not_not c11)) ?_
       refine wpRwI 12 (x := (half1 != 4)) (v := false) kr (bne_eq_false_iff_eq.mpr (Decidable.of_not_not c11)) ?_
       refine condF kr ?_
       refine wp_skip ?_
       refine hK5 _ _ ?_
       refine wp_seq_k fun K14 hK15 => rl ?_
       refine seqL2 kr ?_
       refine nl (hK15 _ _ ?_)
       refine wp_ret ?_
       refine hret _ _ ?_
       refine ends_still (v := Value.int .i64 half1) kr kr ?_
       injection h with h
       subst h
       exact ⟨f, rfl, FM.le.refl _, HS⟩
   · have c9 : ¬ (half1 ≠ 2) := c9
     refine seqRwI 7 (x := (half1 != 2)) (v := false) kr (bne_eq_false_iff_eq.mpr (Decidable.of_not_not c9)) ?_
     refine seqRwI 8 (x := (half1 != 2)) (v := false) kr (bne_eq_false_iff_eq.mpr (Decidable.of_not_not c9)) ?_
     refine seqRwI 9 (x := (half1 != 2)) (v := false) kr (bne_eq_false_iff_eq.mpr (Decidable.of_not_not c9)) ?_
     refine seqL3 kr ?_
     refine nl (hK7 _ _ ?_)
     refine condF kr ?_
     refine wp_skip ?_
     refine hK5 _ _ ?_
     refine wp_seq_k fun K16 hK17 => rl ?_
     refine seqL2 kr ?_
     refine nl (hK17 _ _ ?_)
     refine wp_ret ?_
     refine hret _ _ ?_
     refine ends_still (v := Value.int .i64 half1) kr kr ?_
     injection h with h
     subst h
     exact ⟨f, rfl, FM.le.refl _, HS⟩
 · have c8 : ¬ (half1 ≠ 1) := c8
   refine seqRwI 4 (x := (half1 != 1)) (v := false) kr (bne_eq_false_iff_eq.mpr (Decidable.of_not_not c8)) ?_
   refine seqRwI 5 (x := (half1 != 1)) (v := false) kr (bne_eq_false_iff_eq.mpr (Decidable.of_not_not c8)) ?_
   refine seqL7 kr ?_
   refine nl (hK7 _ _ ?_)
   refine condF kr ?_
   refine wp_skip ?_
   refine hK5 _ _ ?_
   refine wp_seq_k fun K18 hK19 => rl ?_
   refine seqL2 kr ?_
   refine nl (hK19 _ _ ?_)
   refine wp_ret ?_
   refine hret _ _ ?_
   refine ends_still (v := Value.int .i64 half1) kr kr ?_
   injection h with h
   subst h
   exact ⟨f, rfl, FM.le.refl _, HS⟩

set_option maxRecDepth 100000 in
set_option maxHeartbeats 4000000 in
theorem sphere_CheckPlate.calls (k : Nat)  (p1 : S_Plate) {t w : World} {f : FM} {H : List Seg} (HS : St t w f (H)) (rr1 : Int) (h : sphere_CheckPlate k p1 = some rr1) :
    Calls Tryz.prog 77 #[.agg #[.int .i64 p1.A, .int .i64 p1.B, .int .i64 p1.C, .int .i64 p1.D]] w (fun e w' => ∃ (g : FM), e = .returned (Value.int .i64 rr1) ∧ FM.le f g ∧ St t w' g (H)) := by
 unfold sphere_CheckPlate at h
 refine enter Tryz.func77 rfl (tm := #[(ag_Plate p1), uV, uV, uV, uV, uV, uV, uV, uV, uV, uV, uV, uV, uV, uV, uV, uV, uV, uV, uV, uV, uV, uV, uV, uV, uV, uV, uV, uV, uV]) kr ?_
 intro B hret hnor hnp
 refine wp_seq_k fun K2 hK3 => rl ?_
 refine seqK rfl (does_box (cs := #[.int .i64 p1.A, .int .i64 p1.B, .int .i64 p1.C, .int .i64 p1.D]) rfl (kv (.agg #[.int .i64 p1.A, .int .i64 p1.B, .int .i64 p1.C, .int .i64 p1.D])) rfl HS ?_)
 intro b4 W5 HS6
 refine seqL1 kr ?_
 refine nl (hK3 _ _ ?_)
 refine wp_seq_k (fun K8 hK9 => ?_)
 refine blockK (fun B10 hx11 hn12 hr13 ho14 hp15 => ?_)
 refine wp_seq_k fun K17 hK18 => rl ?_
 refine seqL1 kr ?_
 refine seqK rfl (does_run (run_load rfl Tryz.underlying2 rfl (kv (.pointer (some ⟨b4, 0, none⟩))) (HS6.cell 0)) ?_)
 refine seqL1 kr ?_
 refine seqK rfl (does_run (run_load rfl Tryz.underlying2 rfl (kv (.pointer (some ⟨b4, 1, none⟩))) (HS6.cell 1)) ?_)
 refine seqL1 kr ?_
 refine seqK rfl (does_run (run_load rfl Tryz.underlying2 rfl (kv (.pointer (some ⟨b4, 2, none⟩))) (HS6.cell 2)) ?_)
 refine seqL1 kr ?_
 refine seqK rfl (does_run (run_load rfl Tryz.underlying2 rfl (kv (.pointer (some ⟨b4, 3, none⟩))) (HS6.cell 3)) ?_)
 refine seqL3 kr ?_
 have hq_ := ite_some h; clear h; rcases hq_ with ⟨c19, h⟩ | ⟨c19, h⟩
 · have c19 : (mx (mx (mx p1.A p1.B) p1.C) p1.D) > 1024 := c19
   refine seqRwI 13 (x := (decide ((mx (mx (mx p1.A p1.B) p1.C) p1.D) > 1024))) (v := true) kr (decide_eq_true c19) ?_
   refine seqRwI 14 (x := (decide ((mx (mx (mx p1.A p1.B) p1.C) p1.D) > 1024))) (v := true) kr (decide_eq_true c19) ?_
   refine seqL12 kr ?_
   refine nl (hK18 _ _ ?_)
   refine condT kr ?_
   refine wp_seq_k fun K20 hK21 => rl ?_
   refine seqL1 kr ?_
   refine nl (hK21 _ _ ?_)
   refine wp_ret ?_
   refine hr13 _ _ ?_
   refine hret _ _ ?_
   refine ends_still (v := Value.int .i64 4) kr kr ?_
   have HS34 := HS6.drop
   injection h with h
   subst h
   exact ⟨f, rfl, FM.le.refl _, HS34⟩
 · have c19 : ¬ ((mx (mx (mx p1.A p1.B) p1.C) p1.D) > 1024) := c19
   refine seqRwI 13 (x := (decide ((mx (mx (mx p1.A p1.B) p1.C) p1.D) > 1024))) (v := false) kr (decide_eq_false c19) ?_
   refine seqRwI 14 (x := (decide ((mx (mx (mx p1.A p1.B) p1.C) p1.D) > 1024))) (v := false) kr (decide_eq_false c19) ?_
   refine seqL1 kr ?_
   refine seqG kr (does_run (run_load rfl Tryz.underlying2 rfl (kv (.pointer (some ⟨b4, 0, none⟩))) (HS6.cell 0)) ?_)
   refine seqL1 kr ?_
   refine seqG kr (does_run (run_load rfl Tryz.underlying2 rfl (kv (.pointer (some ⟨b4, 1, none⟩))) (HS6.cell 1)) ?_)
   refine seqL1 kr ?_
   refine seqG kr (does_run (run_load rfl Tryz.underlying2 rfl (kv (.pointer (some ⟨b4, 2, none⟩))) (HS6.cell 2)) ?_)
   refine seqL1 kr ?_
   refine seqG kr (does_run (run_load rfl Tryz.underlying2 rfl (kv (.pointer (some ⟨b4, 3, none⟩))) (HS6.cell 3)) ?_)
   refine seqL4 kr ?_
   refine nl (hK18 _ _ ?_)
   have hq_ := ite_some h; clear h; rcases hq_ with ⟨c23, h⟩ | ⟨c23, h⟩
   · have c23 : (mn (mn (mn p1.A p1.B) p1.C) p1.D) < (-1024) := c23
     refine wpRwI 3 (x := (decide ((mn (mn (mn p1.A p1.B) p1.C) p1.D) < (-1024)))) (v := true) kr (decide_eq_true c23) ?_
     refine wpRwI 24 (x := (decide ((mn (mn (mn p1.A p1.B) p1.C) p1.D) < (-1024)))) (v := true) kr (decide_eq_true c23) ?_
     refine wpRwI 25 (x := (decide ((mn (mn (mn p1.A p1.B) p1.C) p1.D) < (-1024)))) (v := true) kr (decide_eq_true c23) ?_
     refine condT kr ?_
     refine wp_seq_k fun K24 hK25 => rl ?_
     refine seqL1 kr ?_
     refine nl (hK25 _ _ ?_)
     refine wp_ret ?_
     refine hr13 _ _ ?_
     refine hret _ _ ?_
     refine ends_still (v := Value.int .i64 4) kr kr ?_
     have HS35 := HS6.drop
     injection h with h
     subst h
     exact ⟨f, rfl, FM.le.refl _, HS35⟩
   · have c23 : ¬ ((mn (mn (mn p1.A p1.B) p1.C) p1.D) < (-1024)) := c23
     refine wpRwI 3 (x := (decide ((mn (mn (mn p1.A p1.B) p1.C) p1.D) < (-1024)))) (v := false) kr (decide_eq_false c23) ?_
     refine wpRwI 24 (x := (decide ((mn (mn (mn p1.A p1.B) p1.C) p1.D) < (-1024)))) (v := false) kr (decide_eq_false c23) ?_
     refine wpRwI 25 (x := (decide ((mn (mn (mn p1.A p1.B) p1.C) p1.D) < (-1024)))) (v := false) kr (decide_eq_false c23) ?_
     refine condF kr ?_
     refine wp_seq_k fun K26 hK27 => rl ?_
     refine seqK rfl (does_run (run_loadN (n := 4) rfl Tryz.underlying73 rfl kr (kv (.pointer (some ⟨b4, 0, none⟩))) (cs := [.int .i64 p1.A, .int .i64 p1.B, .int .i64 p1.C, .int .i64 p1.D]) rfl (HS6.cells 0 4 _ rfl)) ?_)
     refine seqL1 kr ?_
     refine seqK rfl (does_run (run_eqS (b := ((p1.A == 0) && ((p1.B == 0) && ((p1.C == 0) && ((p1.D == 0) && true))))) rfl (kv (.agg #[.int .i64 p1.A, .int .i64 p1.B, .int .i64 p1.C, .int .i64 p1.D])) (kv (.agg #[.int .i64 0, .int .i64 0, .int .i64 0, .int .i64 0])) kr kr W5) ?_)
     refine seqL1 kr ?_
     refine nl (hK27 _ _ ?_)
     have hq_ := ite_some h; clear h; rcases hq_ with ⟨c29, h⟩ | ⟨c29, h⟩
     · have c29 : ((p1.A == 0) && ((p1.B == 0) && ((p1.C == 0) && ((p1.D == 0) && true)))) = true := c29
       refine wpRwI 26 (x := ((p1.A == 0) && ((p1.B == 0) && ((p1.C == 0) && ((p1.D == 0) && true))))) (v := true) kr c29 ?_
       refine wpRwI 29 (x := ((p1.A == 0) && ((p1.B == 0) && ((p1.C == 0) && ((p1.D == 0) && true))))) (v := true) kr c29 ?_
       refine condT kr ?_
       refine wp_seq_k fun K30 hK31 => rl ?_
       refine seqL1 kr ?_
       refine nl (hK31 _ _ ?_)
       refine wp_ret ?_
       refine hr13 _ _ ?_
       refine hret _ _ ?_
       refine ends_still (v := Value.int .i64 8) kr kr ?_
       have HS36 := HS6.drop
       injection h with h
       subst h
       exact ⟨f, rfl, FM.le.refl _, HS36⟩
     · have c29 : ¬ (((p1.A == 0) && ((p1.B == 0) && ((p1.C == 0) && ((p1.D == 0) && true)))) = true) := c29
       refine wpRwI 26 (x := ((p1.A == 0) && ((p1.B == 0) && ((p1.C == 0) && ((p1.D == 0) && true))))) (v := false) kr (Bool.eq_false_iff.mpr c29) ?_
       refine wpRwI 29 (x := ((p1.A == 0) && ((p1.B == 0) && ((p1.C == 0) && ((p1.D == 0) && true))))) (v := false) kr (Bool.eq_false_iff.mpr c29) ?_
       refine condF kr ?_
       refine wp_skip ?_
       refine hn12 _ _ ?_
       refine hK9 _ _ ?_
       refine wp_seq_k fun K32 hK33 => rl ?_
       refine seqL1 kr ?_
       refine nl (hK33 _ _ ?_)
       refine wp_ret ?_
       refine hret _ _ ?_
       refine ends_still (v := Value.int .i64 0) kr kr ?_
       have HS37 := HS6.drop
       injection h with h
       subst h
       exact ⟨f, rfl, FM.le.refl _, HS37⟩

set_option maxRecDepth 100000 in
set_option maxHeartbeats 4000000 in
theorem expose_described.calls (k : Nat) (A2 : Option Addr) (c3 : Nat) (x1 : S_Shot) {t w : World} {f : FM} {H : List Seg} (HS : St t w f (H)) (HR4 : SlR ty_Hit f A2 c3 x1.Hits) (rr1 : Int) (h : expose_described k x1 = some rr1) :
    Calls Tryz.prog 59 #[.agg #[.int .i64 x1.Kind, .int .u64 x1.Seed, .int .i64 x1.Number, .int .i64 x1.Begin, .int .i64 x1.Beats, .int .i64 x1.Plate.A, .int .i64 x1.Plate.B, .int .i64 x1.Plate.C, .int .i64 x1.Plate.D, .int .i64 x1.Seeing, .int .i64 x1.DriftX, .int .i64 x1.DriftY, .int .i64 x1.Lamp, .slice A2 x1.Hits.length c3]] w (fun e w' => ∃ (g : FM), e = .returned (Value.int .i64 rr1) ∧ FM.le f g ∧ St t w' g (H)) := by
 unfold expose_described at h
 refine enter Tryz.func59 rfl (tm := #[(ag_Shot x1 A2 c3), uV, uV, uV, uV, uV, uV, uV, uV, uV, uV, uV, uV, uV, uV, uV, uV, uV, uV, uV, uV, uV, uV, uV, uV, uV, uV, uV, uV, uV, uV, uV, uV, uV, uV, uV, uV, uV, uV, uV, uV, uV, uV, uV, uV, uV, uV, uV, uV, uV, uV, uV, uV, uV, uV, uV, uV, uV, uV, uV, uV, uV, uV, uV, uV, uV, uV, uV]) kr ?_
 intro B hret hnor hnp
 refine wp_seq_k fun K5 hK6 => rl ?_
 refine seqK rfl (does_box (cs := #[.int .i64 x1.Kind, .int .u64 x1.Seed, .int .i64 x1.Number, .int .i64 x1.Begin, .int .i64 x1.Beats, .int .i64 x1.Plate.A, .int .i64 x1.Plate.B, .int .i64 x1.Plate.C, .int .i64 x1.Plate.D, .int .i64 x1.Seeing, .int .i64 x1.DriftX, .int .i64 x1.DriftY, .int .i64 x1.Lamp, .slice A2 x1.Hits.length c3]) rfl (kv (.agg #[.int .i64 x1.Kind, .int .u64 x1.Seed, .int .i64 x1.Number, .int .i64 x1.Begin, .int .i64 x1.Beats, .int .i64 x1.Plate.A, .int .i64 x1.Plate.B, .int .i64 x1.Plate.C, .int .i64 x1.Plate.D, .int .i64 x1.Seeing, .int .i64 x1.DriftX, .int .i64 x1.DriftY, .int .i64 x1.Lamp, .slice A2 x1.Hits.length c3])) rfl HS ?_)
 intro b7 W8 HS9
 refine seqL1 kr ?_
 refine nl (hK6 _ _ ?_)
 refine wp_seq_k (fun K11 hK12 => ?_)
 refine blockK (fun B13 hx14 hn15 hr16 ho17 hp18 => ?_)
 refine wp_seq_k fun K20 hK21 => rl ?_
 refine seqL1 kr ?_
 refine seqK rfl (does_run (run_load rfl Tryz.underlying3 rfl (kv (.pointer (some ⟨b7, 2, none⟩))) (HS9.cell 2)) ?_)
 refine seqL2 kr ?_
 have hq_ := ite_some h; clear h; rcases hq_ with ⟨c22, h⟩ | ⟨c22, h⟩
 · have c22 : x1.Number < 1 := c22
   refine seqRwI 6 (x := (decide (x1.Number < 1))) (v := true) kr (decide_eq_true c22) ?_
   refine seqRwI 7 (x := (decide (x1.Number < 1))) (v := true) kr (decide_eq_true c22) ?_
   refine seqL15 kr ?_
   refine nl (hK21 _ _ ?_)
   refine condT kr ?_
   refine wp_seq_k fun K23 hK24 => rl ?_
   refine seqL1 kr ?_
   refine nl (hK24 _ _ ?_)
   refine wp_ret ?_
   refine hr16 _ _ ?_
   refine hret _ _ ?_
   refine ends_still (v := Value.int .i64 4) kr kr ?_
   have HS79 := HS9.drop
   injection h with h
   subst h
   exact ⟨f, rfl, FM.le.refl _, HS79⟩
 · have c22 : ¬ (x1.Number < 1) := c22
   refine seqRwI 6 (x := (decide (x1.Number < 1))) (v := false) kr (decide_eq_false c22) ?_
   refine seqRwI 7 (x := (decide (x1.Number < 1))) (v := false) kr (decide_eq_false c22) ?_
   refine seqL1 kr ?_
   refine seqG kr (does_run (run_load rfl Tryz.underlying3 rfl (kv (.pointer (some ⟨b7, 2, none⟩))) (HS9.cell 2)) ?_)
   refine seqL3 kr ?_
   have hq_ := ite_some h; clear h; rcases hq_ with ⟨c25, h⟩ | ⟨c25, h⟩
   · have c25 : x1.Number > 1048576 := c25
     refine seqRwI 10 (x := (decide (x1.Number > 1048576))) (v := true) kr (decide_eq_true c25) ?_
     refine seqRwI 11 (x := (decide (x1.Number > 1048576))) (v := true) kr (decide_eq_true c25) ?_
     refine seqRwI 12 (x := (decide (x1.Number > 1048576))) (v := true) kr (decide_eq_true c25) ?_
     refine seqL10 kr ?_
     refine nl (hK21 _ _ ?_)
     refine condT kr ?_
     refine wp_seq_k fun K26 hK27 => rl ?_
     refine seqL1 kr ?_
     refine nl (hK27 _ _ ?_)
     refine wp_ret ?_
     refine hr16 _ _ ?_
     refine hret _ _ ?_
     refine ends_still (v := Value.int .i64 4) kr kr ?_
     have HS80 := HS9.drop
     injection h with h
     subst h
     exact ⟨f, rfl, FM.le.refl _, HS80⟩
   · have c25 : ¬ (x1.Number > 1048576) := c25
     refine seqRwI 10 (x := (decide (x1.Number > 1048576))) (v := false) kr (decide_eq_false c25) ?_
     refine seqRwI 11 (x := (decide (x1.Number > 1048576))) (v := false) kr (decide_eq_false c25) ?_
     refine seqRwI 12 (x := (decide (x1.Number > 1048576))) (v := false) kr (decide_eq_false c25) ?_
     refine seqL1 kr ?_
     refine seqG kr (does_run (run_load rfl Tryz.underlying71 rfl (kv (.pointer (some ⟨b7, 3, none⟩))) (HS9.cell 3)) ?_)
     refine seqL3 kr ?_
     have hq_ := ite_some h; clear h; rcases hq_ with ⟨c28, h⟩ | ⟨c28, h⟩
     · have c28 : x1.Begin < (-17592186044416) := c28
       refine seqRwI 15 (x := (decide (x1.Begin < (-17592186044416)))) (v := true) kr (decide_eq_true c28) ?_
       refine seqRwI 16 (x := (decide (x1.Begin < (-17592186044416)))) (v := true) kr (decide_eq_true c28) ?_
       refine seqRwI 17 (x := (decide (x1.Begin < (-17592186044416)))) (v := true) kr (decide_eq_true c28) ?_
       refine seqL5 kr ?_
       refine nl (hK21 _ _ ?_)
       refine condT kr ?_
       refine wp_seq_k fun K29 hK30 => rl ?_
       refine seqL1 kr ?_
       refine nl (hK30 _ _ ?_)
       refine wp_ret ?_
       refine hr16 _ _ ?_
       refine hret _ _ ?_
       refine ends_still (v := Value.int .i64 4) kr kr ?_
       have HS81 := HS9.drop
       injection h with h
       subst h
       exact ⟨f, rfl, FM.le.refl _, HS81⟩
     · have c28 : ¬ (x1.Begin < (-17592186044416)) := c28
       refine seqRwI 15 (x := (decide (x1.Begin < (-17592186044416)))) (v := false) kr (decide_eq_false c28) ?_
       refine seqRwI 16 (x := (decide (x1.Begin < (-17592186044416)))) (v := false) kr (decide_eq_false c28) ?_
       refine seqRwI 17 (x := (decide (x1.Begin < (-17592186044416)))) (v := false) kr (decide_eq_false c28) ?_
       refine seqL1 kr ?_
       refine seqG kr (does_run (run_load rfl Tryz.underlying71 rfl (kv (.pointer (some ⟨b7, 3, none⟩))) (HS9.cell 3)) ?_)
       refine seqL3 kr ?_
       refine nl (hK21 _ _ ?_)
       have hq_ := ite_some h; clear h; rcases hq_ with ⟨c32, h⟩ | ⟨c32, h⟩
       · have c32 : x1.Begin > 17592186028416 := c32
         refine wpRwI 3 (x := (decide (x1.Begin > 17592186028416))) (v := true) kr (decide_eq_true c32) ?_
         refine wpRwI 20 (x := (decide (x1.Begin > 17592186028416))) (v := true) kr (decide_eq_true c32) ?_
         refine wpRwI 21 (x := (decide (x1.Begin > 17592186028416))) (v := true) kr (decide_eq_true c32) ?_
         refine condT kr ?_
         refine wp_seq_k fun K33 hK34 => rl ?_
         refine seqL1 kr ?_
         refine nl (hK34 _ _ ?_)
         refine wp_ret ?_
         refine hr16 _ _ ?_
         refine hret _ _ ?_
         refine ends_still (v := Value.int .i64 4) kr kr ?_
         have HS82 := HS9.drop
         injection h with h
         subst h
         exact ⟨f, rfl, FM.le.refl _, HS82⟩
       · have c32 : ¬ (x1.Begin > 17592186028416) := c32
         refine wpRwI 3 (x := (decide (x1.Begin > 17592186028416))) (v := false) kr (decide_eq_false c32) ?_
         refine wpRwI 20 (x := (decide (x1.Begin > 17592186028416))) (v := false) kr (decide_eq_false c32) ?_
         refine wpRwI 21 (x := (decide (x1.Begin > 17592186028416))) (v := false) kr (decide_eq_false c32) ?_
         refine condF kr ?_
         refine wp_seq_k fun K35 hK36 => rl ?_
         refine seqL1 kr ?_
         refine seqK rfl (does_run (run_load rfl Tryz.underlying3 rfl (kv (.pointer (some ⟨b7, 4, none⟩))) (HS9.cell 4)) ?_)
         refine seqL2 kr ?_
         have hq_ := ite_some h; clear h; rcases hq_ with ⟨c37, h⟩ | ⟨c37, h⟩
         · have c37 : x1.Beats < 0 := c37
           refine seqRwI 25 (x := (decide (x1.Beats < 0))) (v := true) kr (decide_eq_true c37) ?_
           refine seqRwI 26 (x := (decide (x1.Beats < 0))) (v := true) kr (decide_eq_true c37) ?_
           refine seqL14 kr ?_
           refine nl (hK36 _ _ ?_)
           refine condT kr ?_
           refine wp_seq_k fun K38 hK39 => rl ?_
           refine seqL1 kr ?_
           refine nl (hK39 _ _ ?_)
           refine wp_ret ?_
           refine hr16 _ _ ?_
           refine hret _ _ ?_
           refine ends_still (v := Value.int .i64 4) kr kr ?_
           have HS83 := HS9.drop
           injection h with h
           subst h
           exact ⟨f, rfl, FM.le.refl _, HS83⟩
         · have c37 : ¬ (x1.Beats < 0) := c37
           refine seqRwI 25 (x := (decide (x1.Beats < 0))) (v := false) kr (decide_eq_false c37) ?_
           refine seqRwI 26 (x := (decide (x1.Beats < 0))) (v := false) kr (decide_eq_false c37) ?_
           refine seqL1 kr ?_
           refine seqG kr (does_run (run_load rfl Tryz.underlying3 rfl (kv (.pointer (some ⟨b7, 4, none⟩))) (HS9.cell 4)) ?_)
           refine seqL3 kr ?_
           have hq_ := ite_some h; clear h; rcases hq_ with ⟨c40, h⟩ | ⟨c40, h⟩
           · have c40 : x1.Beats > 16 := c40
             refine seqRwI 29 (x := (decide (x1.Beats > 16))) (v := true) kr (decide_eq_true c40) ?_
             refine seqRwI 30 (x := (decide (x1.Beats > 16))) (v := true) kr (decide_eq_true c40) ?_
             refine seqRwI 31 (x := (decide (x1.Beats > 16))) (v := true) kr (decide_eq_true c40) ?_
             refine seqL9 kr ?_
             refine nl (hK36 _ _ ?_)
             refine condT kr ?_
             refine wp_seq_k fun K41 hK42 => rl ?_
             refine seqL1 kr ?_
             refine nl (hK42 _ _ ?_)
             refine wp_ret ?_
             refine hr16 _ _ ?_
             refine hret _ _ ?_
             refine ends_still (v := Value.int .i64 4) kr kr ?_
             have HS84 := HS9.drop
             injection h with h
             subst h
             exact ⟨f, rfl, FM.le.refl _, HS84⟩
           · have c40 : ¬ (x1.Beats > 16) := c40
             refine seqRwI 29 (x := (decide (x1.Beats > 16))) (v := false) kr (decide_eq_false c40) ?_
             refine seqRwI 30 (x := (decide (x1.Beats > 16))) (v := false) kr (decide_eq_false c40) ?_
             refine seqRwI 31 (x := (decide (x1.Beats > 16))) (v := false) kr (decide_eq_false c40) ?_
             refine seqL1 kr ?_
             refine seqG kr (does_run (run_load rfl Tryz.underlying3 rfl (kv (.pointer (some ⟨b7, 0, none⟩))) (HS9.cell 0)) ?_)
             refine seqL2 kr ?_
             refine seqG kr (does_run (run_load rfl Tryz.underlying3 rfl (kv (.pointer (some ⟨b7, 4, none⟩))) (HS9.cell 4)) ?_)
             refine seqL4 kr ?_
             refine nl (hK36 _ _ ?_)
             have hq_ := ite_some h; clear h; rcases hq_ with ⟨c44, h⟩ | ⟨c44, h⟩
             · have c44 : ((x1.Kind == 0) != (x1.Beats == 0)) = true := c44
               refine wpRwI 22 (x := ((x1.Kind == 0) != (x1.Beats == 0))) (v := true) kr c44 ?_
               refine wpRwI 38 (x := ((x1.Kind == 0) != (x1.Beats == 0))) (v := true) kr c44 ?_
               refine wpRwI 39 (x := ((x1.Kind == 0) != (x1.Beats == 0))) (v := true) kr c44 ?_
               refine condT kr ?_
               refine wp_seq_k fun K45 hK46 => rl ?_
               refine seqL1 kr ?_
               refine nl (hK46 _ _ ?_)
               refine wp_ret ?_
               refine hr16 _ _ ?_
               refine hret _ _ ?_
               refine ends_still (v := Value.int .i64 4) kr kr ?_
               have HS85 := HS9.drop
               injection h with h
               subst h
               exact ⟨f, rfl, FM.le.refl _, HS85⟩
             · have c44 : ¬ (((x1.Kind == 0) != (x1.Beats == 0)) = true) := c44
               refine wpRwI 22 (x := ((x1.Kind == 0) != (x1.Beats == 0))) (v := false) kr (Bool.eq_false_iff.mpr c44) ?_
               refine wpRwI 38 (x := ((x1.Kind == 0) != (x1.Beats == 0))) (v := false) kr (Bool.eq_false_iff.mpr c44) ?_
               refine wpRwI 39 (x := ((x1.Kind == 0) != (x1.Beats == 0))) (v := false) kr (Bool.eq_false_iff.mpr c44) ?_
               refine condF kr ?_
               refine wp_seq_k fun K47 hK48 => rl ?_
               refine seqL1 kr ?_
               refine seqK rfl (does_run (run_load rfl Tryz.underlying3 rfl (kv (.pointer (some ⟨b7, 0, none⟩))) (HS9.cell 0)) ?_)
               refine seqL2 kr ?_
               refine nl (hK48 _ _ ?_)
               have hq_ := ite_some h; clear h; rcases hq_ with ⟨c50, h⟩ | ⟨c50, h⟩
               · have c50 : x1.Kind ≠ 3 := c50
                 refine wpRwI 40 (x := (x1.Kind != 3)) (v := true) kr (bne_iff_ne.mpr c50) ?_
                 refine wpRwI 43 (x := (x1.Kind != 3)) (v := true) kr (bne_iff_ne.mpr c50) ?_
                 refine condT kr ?_
                 refine wp_seq_k fun K51 hK52 => rl ?_
                 refine seqL1 kr ?_
                 refine nl (hK52 _ _ ?_)
                 refine wp_ret ?_
                 refine hr16 _ _ ?_
                 refine hret _ _ ?_
                 refine ends_still (v := Value.int .i64 0) kr kr ?_
                 have HS86 := HS9.drop
                 injection h with h
                 subst h
                 exact ⟨f, rfl, FM.le.refl _, HS86⟩
               · have c50 : ¬ (x1.Kind ≠ 3) := c50
                 refine wpRwI 40 (x := (x1.Kind != 3)) (v := false) kr (bne_eq_false_iff_eq.mpr (Decidable.of_not_not c50)) ?_
                 refine wpRwI 43 (x := (x1.Kind != 3)) (v := false) kr (bne_eq_false_iff_eq.mpr (Decidable.of_not_not c50)) ?_
                 refine condF kr ?_
                 refine wp_seq_k fun K53 hK54 => rl ?_
                 refine seqL1 kr ?_
                 refine seqK rfl (does_run (run_load rfl Tryz.underlying3 rfl (kv (.pointer (some ⟨b7, 9, none⟩))) (HS9.cell 9)) ?_)
                 have hq_ := bind_some h; clear h; obtain ⟨vt55, hc56, h⟩ := hq_
                 refine seqK rfl (does_call (f := 76) (args := #[.int .i64 x1.Seeing]) kr (optics_Reach.calls k x1.Seeing HS9 vt55 hc56) ?_)
                 rintro _ W59 ⟨f57, rfl, L58, HS60⟩
                 refine ⟨_, rfl, ?_⟩
                 refine seqL2 kr ?_
                 have hq_ := ite_some h; clear h; rcases hq_ with ⟨c61, h⟩ | ⟨c61, h⟩
                 · have c61 : vt55 = 0 := c61
                   refine seqRwI 48 (x := (vt55 == 0)) (v := true) kr (beq_iff_eq.mpr c61) ?_
                   refine seqRwI 49 (x := (vt55 == 0)) (v := true) kr (beq_iff_eq.mpr c61) ?_
                   refine seqL16 kr ?_
                   refine nl (hK54 _ _ ?_)
                   refine condT kr ?_
                   refine wp_seq_k fun K62 hK63 => rl ?_
                   refine seqL1 kr ?_
                   refine nl (hK63 _ _ ?_)
                   refine wp_ret ?_
                   refine hr16 _ _ ?_
                   refine hret _ _ ?_
                   refine ends_still (v := Value.int .i64 4) kr kr ?_
                   have HS87 := HS60.drop
                   injection h with h
                   subst h
                   exact ⟨f57, rfl, L58, HS87⟩
                 · have c61 : ¬ (vt55 = 0) := c61
                   refine seqRwI 48 (x := (vt55 == 0)) (v := false) kr (beq_eq_false_iff_ne.mpr c61) ?_
                   refine seqRwI 49 (x := (vt55 == 0)) (v := false) kr (beq_eq_false_iff_ne.mpr c61) ?_
                   refine seqL1 kr ?_
                   refine seqG kr (does_run (run_load rfl Tryz.underlying74 rfl (kv (.pointer (some ⟨b7, 10, none⟩))) (HS60.cell 10)) ?_)
                   refine seqL1 kr ?_
                   refine seqG kr (does_run (run_load rfl Tryz.underlying74 rfl (kv (.pointer (some ⟨b7, 11, none⟩))) (HS60.cell 11)) ?_)
                   refine seqL4 kr ?_
                   have hq_ := ite_some h; clear h; rcases hq_ with ⟨c64, h⟩ | ⟨c64, h⟩
                   · have c64 : (mx x1.DriftX x1.DriftY) > 64 := c64
                     refine seqRwI 55 (x := (decide ((mx x1.DriftX x1.DriftY) > 64))) (v := true) kr (decide_eq_true c64) ?_
                     refine seqRwI 56 (x := (decide ((mx x1.DriftX x1.DriftY) > 64))) (v := true) kr (decide_eq_true c64) ?_
                     refine seqRwI 57 (x := (decide ((mx x1.DriftX x1.DriftY) > 64))) (v := true) kr (decide_eq_true c64) ?_
                     refine seqL8 kr ?_
                     refine nl (hK54 _ _ ?_)
                     refine condT kr ?_
                     refine wp_seq_k fun K65 hK66 => rl ?_
                     refine seqL1 kr ?_
                     refine nl (hK66 _ _ ?_)
                     refine wp_ret ?_
                     refine hr16 _ _ ?_
                     refine hret _ _ ?_
                     refine ends_still (v := Value.int .i64 4) kr kr ?_
                     have HS88 := HS60.drop
                     injection h with h
                     subst h
                     exact ⟨f57, rfl, L58, HS88⟩
                   · have c64 : ¬ ((mx x1.DriftX x1.DriftY) > 64) := c64
                     refine seqRwI 55 (x := (decide ((mx x1.DriftX x1.DriftY) > 64))) (v := false) kr (decide_eq_false c64) ?_
                     refine seqRwI 56 (x := (decide ((mx x1.DriftX x1.DriftY) > 64))) (v := false) kr (decide_eq_false c64) ?_
                     refine seqRwI 57 (x := (decide ((mx x1.DriftX x1.DriftY) > 64))) (v := false) kr (decide_eq_false c64) ?_
                     refine seqL1 kr ?_
                     refine seqG kr (does_run (run_load rfl Tryz.underlying74 rfl (kv (.pointer (some ⟨b7, 10, none⟩))) (HS60.cell 10)) ?_)
                     refine seqL1 kr ?_
                     refine seqG kr (does_run (run_load rfl Tryz.underlying74 rfl (kv (.pointer (some ⟨b7, 11, none⟩))) (HS60.cell 11)) ?_)
                     refine seqL4 kr ?_
                     refine nl (hK54 _ _ ?_)
                     have hq_ := ite_some h; clear h; rcases hq_ with ⟨c68, h⟩ | ⟨c68, h⟩
                     · have c68 : (mn x1.DriftX x1.DriftY) < (-64) := c68
                       refine wpRwI 44 (x := (decide ((mn x1.DriftX x1.DriftY) < (-64)))) (v := true) kr (decide_eq_true c68) ?_
                       refine wpRwI 63 (x := (decide ((mn x1.DriftX x1.DriftY) < (-64)))) (v := true) kr (decide_eq_true c68) ?_
                       refine wpRwI 64 (x := (decide ((mn x1.DriftX x1.DriftY) < (-64)))) (v := true) kr (decide_eq_true c68) ?_
                       refine condT kr ?_
                       refine wp_seq_k fun K69 hK70 => rl ?_
                       refine seqL1 kr ?_
                       refine nl (hK70 _ _ ?_)
                       refine wp_ret ?_
                       refine hr16 _ _ ?_
                       refine hret _ _ ?_
                       refine ends_still (v := Value.int .i64 4) kr kr ?_
                       have HS89 := HS60.drop
                       injection h with h
                       subst h
                       exact ⟨f57, rfl, L58, HS89⟩
                     · have c68 : ¬ ((mn x1.DriftX x1.DriftY) < (-64)) := c68
                       refine wpRwI 44 (x := (decide ((mn x1.DriftX x1.DriftY) < (-64)))) (v := false) kr (decide_eq_false c68) ?_
                       refine wpRwI 63 (x := (decide ((mn x1.DriftX x1.DriftY) < (-64)))) (v := false) kr (decide_eq_false c68) ?_
                       refine wpRwI 64 (x := (decide ((mn x1.DriftX x1.DriftY) < (-64)))) (v := false) kr (decide_eq_false c68) ?_
                       refine condF kr ?_
                       refine wp_skip ?_
                       refine hn15 _ _ ?_
                       refine hK12 _ _ ?_
                       refine wp_seq_k fun K71 hK72 => rl ?_
                       refine seqL1 kr ?_
                       refine seqK rfl (does_run (run_loadN (n := 4) rfl Tryz.underlying73 rfl kr (kv (.pointer (some ⟨b7, 5, none⟩))) (cs := [.int .i64 x1.Plate.A, .int .i64 x1.Plate.B, .int .i64 x1.Plate.C, .int .i64 x1.Plate.D]) rfl (HS60.cells 5 4 _ rfl)) ?_)
                       have hq_ := bind_some h; clear h; obtain ⟨vt73, hc74, h⟩ := hq_
                       refine seqK rfl (does_call (f := 77) (args := #[.agg #[.int .i64 x1.Plate.A, .int .i64 x1.Plate.B, .int .i64 x1.Plate.C, .int .i64 x1.Plate.D]]) kr (sphere_CheckPlate.calls k x1.Plate HS60 vt73 hc74) ?_)
                       rintro _ W77 ⟨f75, rfl, L76, HS78⟩
                       refine ⟨_, rfl, ?_⟩
                       refine seqL1 kr ?_
                       refine nl (hK72 _ _ ?_)
                       refine wp_ret ?_
                       refine hret _ _ ?_
                       refine ends_still (v := Value.int .i64 vt73) kr kr ?_
                       have HS90 := HS78.drop
                       injection h with h
                       subst h
                       exact ⟨f75, rfl, (L58.trans L76), HS90⟩

end Go.Sp.K3
