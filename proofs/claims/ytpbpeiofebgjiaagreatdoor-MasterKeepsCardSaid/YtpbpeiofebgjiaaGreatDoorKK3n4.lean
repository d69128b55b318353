import Derived.Test.YtpbpeiofebgjiaaGreatDoorProg
import Derived.Test.YtpbpeiofebgjiaaGreatDoorSpCopy
import Derived.Test.YtpbpeiofebgjiaaGreatDoorFK3
import Derived.Test.YtpbpeiofebgjiaaGreatDoorSpStr
import Derived.Test.YtpbpeiofebgjiaaGreatDoorSpLib
import Derived.Test.YtpbpeiofebgjiaaGreatDoorConv
import Derived.Test.YtpbpeiofebgjiaaGreatDoorLibs
import Derived.Test.YtpbpeiofebgjiaaGreatDoorKK3n0
import Derived.Test.YtpbpeiofebgjiaaGreatDoorKK3n1
import Derived.Test.YtpbpeiofebgjiaaGreatDoorKK3n2
import Derived.Test.YtpbpeiofebgjiaaGreatDoorKK3n3
namespace Go.Sp.K3
open Go Go.Sp Go.Proofs
set_option linter.unusedVariables false
attribute [local irreducible] wpList AnyL Code.wp Calls Does
set_option maxRecDepth 100000 in
set_option maxHeartbeats 4000000 in
theorem master_Held.calls (k : Nat) (A3 : Option Addr) (c4 : Nat) (A7 : Option Addr) (c8 : Nat) (A10 : Option Addr) (c11 : Nat) (vk1 : S_Camera) (bias2 : List S_Bound) (vf6 : S_Frame) {t w : World} {f : FM} {H : List Seg} (HS : St t w f (H)) (HR5 : SlR ty_Bound f A3 c4 bias2) (HR9 : SlR ty_Card f A7 c8 vf6.Cards) (HR12 : SlR (tInt .i64) f A10 c11 vf6.Counts) (rr1 : List S_Bound) (rr2 : Int) (h : master_Held k vk1 bias2 vf6 = some (rr1, rr2)) :
    Calls Tryz.prog 11 #[.agg #[.int .i64 vk1.W, .int .i64 vk1.H, .int .i64 vk1.Full, .int .i64 vk1.Gain, .int .i64 vk1.Noise], .slice A3 bias2.length c4, .agg #[.int .i64 vf6.W, .int .i64 vf6.H, .slice A7 vf6.Cards.length c8, .slice A10 vf6.Counts.length c11]] w (fun e w' => ∃ (g : FM) (A650 : Option Addr) (c651 : Nat) (s652 : Seg), e = .returned (Value.tuple #[.slice A650 rr1.length c651, .int .i64 rr2]) ∧ FM.le f g ∧ St t w' g (s652 :: H) ∧ Own ty_Bound 56 g A650 c651 s652 rr1) := by
 unfold master_Held at h
 refine enter Tryz.func11 rfl (tm := #[(ag_Camera vk1), .slice A3 bias2.length c4, (ag_Frame vf6 A7 c8 A10 c11), uV, uV, uV, uV, uV, uV, uV, uV, uV, uV, uV, uV, uV, uV, uV, uV, uV, uV, uV, uV, uV, uV, uV, uV, uV, uV, uV, uV, uV, uV, uV, uV, uV, uV, uV, uV, uV, uV, uV, uV, uV, uV, uV, uV, uV, uV, uV, uV, uV, uV, uV, uV, uV, uV, uV, uV, uV, uV, uV, uV, uV, uV, uV, uV, uV, uV, uV, uV, uV, uV, uV, uV, uV, uV, uV, uV, uV, uV, uV, uV, uV, uV, uV, uV, uV, uV, uV, uV, uV, uV, uV, uV, uV, uV, uV, uV, uV, uV, uV, uV, uV, uV, uV, uV, uV, uV, uV, uV, uV, uV, uV, uV, uV, uV, uV, uV, uV, uV, uV, uV, uV, uV, uV, uV, uV, uV, uV, uV, uV, uV, uV, uV, uV, uV, uV, uV]) kr ?_
 intro B hret hnor hnp
 refine wp_seq_k fun K13 hK14 => rl ?_
 refine seqK rfl (does_box (cs := #[.int .i64 vk1.W, .int .i64 vk1.H, .int .i64 vk1.Full, .int .i64 vk1.Gain, .int .i64 vk1.Noise]) rfl (kv (.agg #[.int .i64 vk1.W, .int .i64 vk1.H, .int .i64 vk1.Full, .int .i64 vk1.Gain, .int .i64 vk1.Noise])) rfl HS ?_)
 intro b15 W16 HS17
 refine seqK rfl (does_box (cs := #[.int .i64 vf6.W, .int .i64 vf6.H, .slice A7 vf6.Cards.length c8, .slice A10 vf6.Counts.length c11]) rfl (kv (.agg #[.int .i64 vf6.W, .int .i64 vf6.H, .slice A7 vf6.Cards.length c8, .slice A10 vf6.Counts.length c11])) rfl HS17 ?_)
 intro b19 W20 HS21
 refine seqL2 kr ?_
 refine nl (hK14 _ _ ?_)
 refine wp_seq_k (fun K23 hK24 => ?_)
 refine wp_seq_k fun K25 hK26 => rl ?_
 refine seqK rfl (does_run (run_loadN (n := 5) rfl Tryz.underlying50 rfl kr (kv (.pointer (some ⟨b15, 0, none⟩))) (cs := [.int .i64 vk1.W, .int .i64 vk1.H, .int .i64 vk1.Full, .int .i64 vk1.Gain, .int .i64 vk1.Noise]) rfl (HS21.u1.cells 0 5 _ rfl)) ?_)
 have hq_ := bind_some h; clear h; obtain ⟨vt27, hc28, h⟩ := hq_
 refine seqK rfl (does_call (f := 28) (args := #[.agg #[.int .i64 vk1.W, .int .i64 vk1.H, .int .i64 vk1.Full, .int .i64 vk1.Gain, .int .i64 vk1.Noise]]) kr (master_CheckCamera.calls k vk1 HS21 vt27 hc28) ?_)
 rintro _ W31 ⟨f29, rfl, L30, HS32⟩
 refine ⟨_, rfl, ?_⟩
 refine seqL1 kr ?_
 refine nl (hK26 _ _ ?_)
 refine wp_seq_k fun K33 hK34 => rl ?_
 refine seqL2 kr ?_
 refine nl (hK34 _ _ ?_)
 have hq_ := ite_some h; clear h; rcases hq_ with ⟨c36, h⟩ | ⟨c36, h⟩
 · have c36 : vt27 ≠ 0 := c36
   refine wpRwI 19 (x := (vt27 != 0)) (v := true) kr (bne_iff_ne.mpr c36) ?_
   refine condT kr ?_
   refine wp_seq_k fun K37 hK38 => rl ?_
   refine seqL3 kr ?_
   refine nl (hK38 _ _ ?_)
   refine wp_ret ?_
   refine hret _ _ ?_
   have HS613 := HS32.cons_nil
   refine ends_still (v := Value.tuple #[.slice none 0 0, .int .i64 vt27]) kr kr ?_
   have HS615 := HS613.u2
   have HS616 := HS615.u2
   have HS617 := HS616.drop
   have HS618 := HS617.drop
   injection h with h
   injection h with h0_ h
   subst h0_ h
   exact ⟨f29, none, 0, [], rfl, L30, HS618, (Own.nil _)⟩
 · have c36 : ¬ (vt27 ≠ 0) := c36
   refine wpRwI 19 (x := (vt27 != 0)) (v := false) kr (bne_eq_false_iff_eq.mpr (Decidable.of_not_not c36)) ?_
   refine condF kr ?_
   refine wp_skip ?_
   refine hK24 _ _ ?_
   refine wp_seq_k (fun K39 hK40 => ?_)
   refine wp_seq_k fun K41 hK42 => rl ?_
   refine seqL3 kr ?_
   refine seqK rfl (does_run (run_load rfl Tryz.underlying3 rfl (kv (.pointer (some ⟨b15, 0, none⟩))) (HS32.u1.cell 0)) ?_)
   refine seqL1 kr ?_
   refine seqK rfl (does_run (run_load rfl Tryz.underlying3 rfl (kv (.pointer (some ⟨b15, 1, none⟩))) (HS32.u1.cell 1)) ?_)
   refine seqL3 kr ?_
   have hq_ := ite_some h; clear h; rcases hq_ with ⟨c43, h⟩ | ⟨c43, h⟩
   · have c43 : (bias2.length : Int) ≠ (w64 (vk1.W * vk1.H)) := c43
     refine seqRwI 28 (x := ((bias2.length : Int) != (w64 (vk1.W * vk1.H)))) (v := true) kr (bne_iff_ne.mpr c43) ?_
     refine seqRwI 29 (x := ((bias2.length : Int) != (w64 (vk1.W * vk1.H)))) (v := true) kr (bne_iff_ne.mpr c43) ?_
     refine seqL21 kr ?_
     refine nl (hK42 _ _ ?_)
     refine condT kr ?_
     refine wp_seq_k fun K44 hK45 => rl ?_
     refine seqL2 kr ?_
     refine nl (hK45 _ _ ?_)
     refine wp_ret ?_
     refine hret _ _ ?_
     have HS619 := HS32.cons_nil
     refine ends_still (v := Value.tuple #[.slice none 0 0, .int .i64 3]) kr kr ?_
     have HS621 := HS619.u2
     have HS622 := HS621.u2
     have HS623 := HS622.drop
     have HS624 := HS623.drop
     injection h with h
     injection h with h0_ h
     subst h0_ h
     exact ⟨f29, none, 0, [], rfl, L30, HS624, (Own.nil _)⟩
   · have c43 : ¬ ((bias2.length : Int) ≠ (w64 (vk1.W * vk1.H))) := c43
     refine seqRwI 28 (x := ((bias2.length : Int) != (w64 (vk1.W * vk1.H)))) (v := false) kr (bne_eq_false_iff_eq.mpr (Decidable.of_not_not c43)) ?_
     refine seqRwI 29 (x := ((bias2.length : Int) != (w64 (vk1.W * vk1.H)))) (v := false) kr (bne_eq_false_iff_eq.mpr (Decidable.of_not_not c43)) ?_
     refine seqL1 kr ?_
     refine seqG kr (does_run (run_load rfl Tryz.underlying3 rfl (kv (.pointer (some ⟨b19, 0, none⟩))) (HS32.cell 0)) ?_)
     refine seqL1 kr ?_
     refine seqG kr (does_run (run_load rfl Tryz.underlying3 rfl (kv (.pointer (some ⟨b15, 0, none⟩))) (HS32.u1.cell 0)) ?_)
     refine seqL3 kr ?_
     have hq_ := ite_some h; clear h; rcases hq_ with ⟨c46, h⟩ | ⟨c46, h⟩
     · have c46 : vf6.W ≠ vk1.W := c46
       refine seqRwI 34 (x := (vf6.W != vk1.W)) (v := true) kr (bne_iff_ne.mpr c46) ?_
       refine seqRwI 35 (x := (vf6.W != vk1.W)) (v := true) kr (bne_iff_ne.mpr c46) ?_
       refine seqRwI 36 (x := (vf6.W != vk1.W)) (v := true) kr (bne_iff_ne.mpr c46) ?_
       refine seqL14 kr ?_
       refine nl (hK42 _ _ ?_)
       refine condT kr ?_
       refine wp_seq_k fun K47 hK48 => rl ?_
       refine seqL2 kr ?_
       refine nl (hK48 _ _ ?_)
       refine wp_ret ?_
       refine hret _ _ ?_
       have HS625 := HS32.cons_nil
       refine ends_still (v := Value.tuple #[.slice none 0 0, .int .i64 3]) kr kr ?_
       have HS627 := HS625.u2
       have HS628 := HS627.u2
       have HS629 := HS628.drop
       have HS630 := HS629.drop
       injection h with h
       injection h with h0_ h
       subst h0_ h
       exact ⟨f29, none, 0, [], rfl, L30, HS630, (Own.nil _)⟩
     · have c46 : ¬ (vf6.W ≠ vk1.W) := c46
       refine seqRwI 34 (x := (vf6.W != vk1.W)) (v := false) kr (bne_eq_false_iff_eq.mpr (Decidable.of_not_not c46)) ?_
       refine seqRwI 35 (x := (vf6.W != vk1.W)) (v := false) kr (bne_eq_false_iff_eq.mpr (Decidable.of_not_not c46)) ?_
       refine seqRwI 36 (x := (vf6.W != vk1.W)) (v := false) kr (bne_eq_false_iff_eq.mpr (Decidable.of_not_not c46)) ?_
       refine seqL1 kr ?_
       refine seqG kr (does_run (run_load rfl Tryz.underlying3 rfl (kv (.pointer (some ⟨b19, 1, none⟩))) (HS32.cell 1)) ?_)
       refine seqL1 kr ?_
       refine seqG kr (does_run (run_load rfl Tryz.underlying3 rfl (kv (.pointer (some ⟨b15, 1, none⟩))) (HS32.u1.cell 1)) ?_)
       refine seqL3 kr ?_
       have hq_ := ite_some h; clear h; rcases hq_ with ⟨c49, h⟩ | ⟨c49, h⟩
       · have c49 : vf6.H ≠ vk1.H := c49
         refine seqRwI 41 (x := (vf6.H != vk1.H)) (v := true) kr (bne_iff_ne.mpr c49) ?_
         refine seqRwI 42 (x := (vf6.H != vk1.H)) (v := true) kr (bne_iff_ne.mpr c49) ?_
         refine seqRwI 43 (x := (vf6.H != vk1.H)) (v := true) kr (bne_iff_ne.mpr c49) ?_
         refine seqL7 kr ?_
         refine nl (hK42 _ _ ?_)
         refine condT kr ?_
         refine wp_seq_k fun K50 hK51 => rl ?_
         refine seqL2 kr ?_
         refine nl (hK51 _ _ ?_)
         refine wp_ret ?_
         refine hret _ _ ?_
         have HS631 := HS32.cons_nil
         refine ends_still (v := Value.tuple #[.slice none 0 0, .int .i64 3]) kr kr ?_
         have HS633 := HS631.u2
         have HS634 := HS633.u2
         have HS635 := HS634.drop
         have HS636 := HS635.drop
         injection h with h
         injection h with h0_ h
         subst h0_ h
         exact ⟨f29, none, 0, [], rfl, L30, HS636, (Own.nil _)⟩
       · have c49 : ¬ (vf6.H ≠ vk1.H) := c49
         refine seqRwI 41 (x := (vf6.H != vk1.H)) (v := false) kr (bne_eq_false_iff_eq.mpr (Decidable.of_not_not c49)) ?_
         refine seqRwI 42 (x := (vf6.H != vk1.H)) (v := false) kr (bne_eq_false_iff_eq.mpr (Decidable.of_not_not c49)) ?_
         refine seqRwI 43 (x := (vf6.H != vk1.H)) (v := false) kr (bne_eq_false_iff_eq.mpr (Decidable.of_not_not c49)) ?_
         refine seqL1 kr ?_
         refine seqG kr (does_run (run_load rfl Tryz.underlying22 rfl (kv (.pointer (some ⟨b19, 3, none⟩))) (HS32.cell 3)) ?_)
         refine seqL5 kr ?_
         refine nl (hK42 _ _ ?_)
         have hq_ := ite_some h; clear h; rcases hq_ with ⟨c53, h⟩ | ⟨c53, h⟩
         · have c53 : (vf6.Counts.length : Int) ≠ (bias2.length : Int) := c53
           refine wpRwI 49 (x := ((vf6.Counts.length : Int) != (bias2.length : Int))) (v := true) kr (bne_iff_ne.mpr c53) ?_
           refine wpRwI 50 (x := ((vf6.Counts.length : Int) != (bias2.length : Int))) (v := true) kr (bne_iff_ne.mpr c53) ?_
           refine condT kr ?_
           refine wp_seq_k fun K54 hK55 => rl ?_
           refine seqL2 kr ?_
           refine nl (hK55 _ _ ?_)
           refine wp_ret ?_
           refine hret _ _ ?_
           have HS637 := HS32.cons_nil
           refine ends_still (v := Value.tuple #[.slice none 0 0, .int .i64 3]) kr kr ?_
           have HS639 := HS637.u2
           have HS640 := HS639.u2
           have HS641 := HS640.drop
           have HS642 := HS641.drop
           injection h with h
           injection h with h0_ h
           subst h0_ h
           exact ⟨f29, none, 0, [], rfl, L30, HS642, (Own.nil _)⟩
         · have c53 : ¬ ((vf6.Counts.length : Int) ≠ (bias2.length : Int)) := c53
           refine wpRwI 49 (x := ((vf6.Counts.length : Int) != (bias2.length : Int))) (v := false) kr (bne_eq_false_iff_eq.mpr (Decidable.of_not_not c53)) ?_
           refine wpRwI 50 (x := ((vf6.Counts.length : Int) != (bias2.length : Int))) (v := false) kr (bne_eq_false_iff_eq.mpr (Decidable.of_not_not c53)) ?_
           refine condF kr ?_
           refine wp_skip ?_
           refine hK40 _ _ ?_
           refine wp_seq_k fun K56 hK57 => rl ?_
           have hq_ := guard_some h; clear h; obtain ⟨c58, h⟩ := hq_
           have c58 : 0 ≤ (bias2.length : Int) := c58
           have hq_ := guard_some h; clear h; obtain ⟨c59, h⟩ := hq_
           have c59 : (bias2.length : Int) * 24 ≤ 140737488355328 := c59
           refine seqL2 kr ?_
           refine seqK rfl (does_make (e := ty_Bound) (E := 56) (u := (⟨0, 0, false⟩ : S_Bound)) (n := (bias2.length : Int)) rfl (kv (.int .i64 (bias2.length : Int))) (kv (.int .i64 (bias2.length : Int))) Tryz.underlying46 inf56 c58 c59 (by omega) rfl HS32 ?_)
           intro b60 W61 s62 HS63 HO64
           refine seqL1 kr ?_
           refine nl (hK57 _ _ ?_)
           refine wp_seq_k fun K66 hK67 => rl ?_
           have hq_ := guard_some h; clear h; obtain ⟨c68, h⟩ := hq_
           have c68 : (bias2.length : Int) * 1 ≤ 140737488355328 := c68
           refine seqL2 kr ?_
           refine seqK rfl (does_make (e := tBool) (E := 4) (u := false) (n := (bias2.length : Int)) rfl (kv (.int .i64 (bias2.length : Int))) (kv (.int .i64 (bias2.length : Int))) Tryz.underlying81 inf4 c58 c68 (by omega) rfl HS63 ?_)
           intro b69 W70 s71 HS72 HO73
           refine seqL1 kr ?_
           refine nl (hK67 _ _ ?_)
           refine wp_seq_k (fun K75 hK76 => ?_)
           refine wp_seq_k fun K77 hK78 => rl ?_
           refine seqL1 kr ?_
           refine seqK rfl (does_run (run_load rfl Tryz.underlying22 rfl (kv (.pointer (some ⟨b19, 3, none⟩))) (HS72.u2.cell 3)) ?_)
           refine seqL2 kr ?_
           refine nl (hK78 _ _ ?_)
           refine blockK (fun B79 hx80 hn81 hr82 ho83 hp84 => ?_)
           have hq_ := bind_some h; clear h; obtain ⟨o175, hv286, h⟩ := hq_
           have J287 : ∀ (f273 : FM) (s279 : Seg) (s283 : Seg) (out278 : List S_Bound) (full282 : List Bool) (j277 : Nat → Value) (W275 : World) (a_ : Act), FM.le f29 f273 → some ((out278, full282)) = some o175 → St t W275 f273 (s283 :: s279 :: [(b19, .cells #[.int .i64 vf6.W, .int .i64 vf6.H, .slice A7 vf6.Cards.length c8, .slice A10 vf6.Counts.length c11] 54 (0, 0))] :: [(b15, .cells #[.int .i64 vk1.W, .int .i64 vk1.H, .int .i64 vk1.Full, .int .i64 vk1.Gain, .int .i64 vk1.Noise] 50 (0, 0))] :: H) → Own ty_Bound 56 f273 (some ⟨b60, 0, none⟩) ((bias2.length : Int)).toNat s279 out278 → out278.length = (List.replicate ((bias2.length : Int)).toNat ((⟨0, 0, false⟩ : S_Bound) : S_Bound)).length → Own tBool 4 f273 (some ⟨b69, 0, none⟩) ((bias2.length : Int)).toNat s283 full282 → full282.length = (List.replicate ((bias2.length : Int)).toNat (false : Bool)).length → a_ = ⟨#[(ag_Camera vk1), .slice A3 bias2.length c4, (ag_Frame vf6 A7 c8 A10 c11), pV b15 0, uV, pV b19 0, .slice none 0 0, iV 0, iV vt27, .slice (some ⟨b60, 0, none⟩) out278.length ((bias2.length : Int)).toNat, .slice (some ⟨b69, 0, none⟩) full282.length ((bias2.length : Int)).toNat, (j277 0), (j277 1), uV, uV, uV, (ag_Camera vk1), iV vt27, iV vt27, fV, uV, .slice A3 bias2.length c4, iV (bias2.length : Int), pV b15 0, iV vk1.W, pV b15 1, iV vk1.H, iV (w64 (vk1.W * vk1.H)), fV, fV, pV b19 0, iV vf6.W, pV b15 0, iV vk1.W, fV, fV, fV, pV b19 1, iV vf6.H, pV b15 1, iV vk1.H, fV, fV, fV, pV b19 3, .slice A10 vf6.Counts.length c11, iV (vf6.Counts.length : Int), .slice A3 bias2.length c4, iV (bias2.length : Int), fV, fV, .slice A3 bias2.length c4, iV (bias2.length : Int), (j277 2), .slice A3 bias2.length c4, iV (bias2.length : Int), (j277 3), pV b19 3, .slice A10 vf6.Counts.length c11, iV (vf6.Counts.length : Int), (j277 4), (j277 5), (j277 6), (j277 7), (j277 8), (j277 9), (j277 10), (j277 11), (j277 12), (j277 13), (j277 14), (j277 15), (j277 16), (j277 17), (j277 18), (j277 19), (j277 20), (j277 21), (j277 22), (j277 23), (j277 24), (j277 25), (j277 26), (j277 27), (j277 28), (j277 29), (j277 30), (j277 31), (j277 32), (j277 33), (j277 34), (j277 35), (j277 36), (j277 37), uV, uV, uV, uV, uV, uV, uV, uV, uV, uV, uV, uV, uV, uV, uV, uV, uV, uV, uV, uV, uV, uV, uV, uV, uV, uV, uV, uV, uV, uV, uV, uV, uV, uV, uV, uV, uV, uV, uV, uV, uV, uV, uV, uV, uV], []⟩ → K75 a_ W275 := by
            intro f273 s279 s283 out278 full282 j277 W275 a_ L274 hj288 HS276 HO280 HL281 HO284 HL285 hfr_; subst hfr_
            injection hj288 with hj288; subst hj288; try dsimp only at h
            refine hK76 _ _ ?_
            refine wp_seq_k (fun K289 hK290 => ?_)
            refine wp_seq_k fun K291 hK292 => rl ?_
            refine seqL3 kr ?_
            refine nl (hK292 _ _ ?_)
            refine blockK (fun B293 hx294 hn295 hr296 ho297 hp298 => ?_)
            have hq_ := bind_some h; clear h; obtain ⟨o445, hv608, h⟩ := hq_
            have J609 : ∀ (f599 : FM) (s605 : Seg) (out604 : List S_Bound) (j603 : Nat → Value) (W601 : World) (a_ : Act), FM.le f273 f599 → some (out604) = some o445 → St t W601 f599 (s283 :: s605 :: [(b19, .cells #[.int .i64 vf6.W, .int .i64 vf6.H, .slice A7 vf6.Cards.length c8, .slice A10 vf6.Counts.length c11] 54 (0, 0))] :: [(b15, .cells #[.int .i64 vk1.W, .int .i64 vk1.H, .int .i64 vk1.Full, .int .i64 vk1.Gain, .int .i64 vk1.Noise] 50 (0, 0))] :: H) → Own ty_Bound 56 f599 (some ⟨b60, 0, none⟩) ((bias2.length : Int)).toNat s605 out604 → out604.length = out278.length → a_ = ⟨#[(ag_Camera vk1), .slice A3 bias2.length c4, (ag_Frame vf6 A7 c8 A10 c11), pV b15 0, uV, pV b19 0, .slice none 0 0, iV 0, iV vt27, .slice (some ⟨b60, 0, none⟩) out604.length ((bias2.length : Int)).toNat, .slice (some ⟨b69, 0, none⟩) full282.length ((bias2.length : Int)).toNat, (j277 0), (j277 1), (j603 0), (j603 1), (j603 2), (ag_Camera vk1), iV vt27, iV vt27, fV, uV, .slice A3 bias2.length c4, iV (bias2.length : Int), pV b15 0, iV vk1.W, pV b15 1, iV vk1.H, iV (w64 (vk1.W * vk1.H)), fV, fV, pV b19 0, iV vf6.W, pV b15 0, iV vk1.W, fV, fV, fV, pV b19 1, iV vf6.H, pV b15 1, iV vk1.H, fV, fV, fV, pV b19 3, .slice A10 vf6.Counts.length c11, iV (vf6.Counts.length : Int), .slice A3 bias2.length c4, iV (bias2.length : Int), fV, fV, .slice A3 bias2.length c4, iV (bias2.length : Int), (j277 2), .slice A3 bias2.length c4, iV (bias2.length : Int), (j277 3), pV b19 3, .slice A10 vf6.Counts.length c11, iV (vf6.Counts.length : Int), (j277 4), (j277 5), (j277 6), (j277 7), (j277 8), (j277 9), (j277 10), (j277 11), (j277 12), (j277 13), (j277 14), (j277 15), (j277 16), (j277 17), (j277 18), (j277 19), (j277 20), (j277 21), (j277 22), (j277 23), (j277 24), (j277 25), (j277 26), (j277 27), (j277 28), (j277 29), (j277 30), (j277 31), (j277 32), (j277 33), (j277 34), (j277 35), (j277 36), (j277 37), (j603 3), iV (out278.length : Int), (j603 4), (j603 5), (j603 6), (j603 7), (j603 8), (j603 9), (j603 10), (j603 11), (j603 12), (j603 13), (j603 14), (j603 15), (j603 16), (j603 17), (j603 18), (j603 19), (j603 20), (j603 21), (j603 22), (j603 23), (j603 24), (j603 25), (j603 26), (j603 27), (j603 28), (j603 29), (j603 30), (j603 31), (j603 32), (j603 33), (j603 34), (j603 35), (j603 36), (j603 37), (j603 38), (j603 39), (j603 40), (j603 41), (j603 42), (j603 43), (j603 44), (j603 45), uV], []⟩ → K289 a_ W601 := by
             intro f599 s605 out604 j603 W601 a_ L600 hj610 HS602 HO606 HL607 hfr_; subst hfr_
             injection hj610 with hj610; subst hj610; try dsimp only at h
             refine hK290 _ _ ?_
             refine wp_seq_k fun K611 hK612 => rl ?_
             refine seqL3 kr ?_
             refine nl (hK612 _ _ ?_)
             refine wp_ret ?_
             refine hret _ _ ?_
             refine ends_still (v := Value.tuple #[.slice (some ⟨b60, 0, none⟩) out604.length ((bias2.length : Int)).toNat, .int .i64 0]) kr kr ?_
             have HS643 := HS602.u1
             have HS644 := HS643.u3
             have HS645 := HS644.u3
             have HS646 := HS645.u3
             have HS647 := HS646.drop
             have HS648 := HS647.drop
             have HS649 := HS648.drop
             injection h with h
             injection h with h0_ h
             subst h0_ h
             exact ⟨f599, (some ⟨b60, 0, none⟩), (((bias2.length : Int)).toNat), s605, rfl, (L30.trans (L274.trans L600)), HS649, HO606⟩
            clear h; have h := hv608; clear hv608
            refine loopK (fun n_ a_ w_ => ∃ (f449 : FM) (s455 : Seg) (out454 : List S_Bound) (x458 : Int) (j453 : Nat → Value), FM.le f273 f449 ∧ St t w_ f449 (s283 :: s455 :: [(b19, .cells #[.int .i64 vf6.W, .int .i64 vf6.H, .slice A7 vf6.Cards.length c8, .slice A10 vf6.Counts.length c11] 54 (0, 0))] :: [(b15, .cells #[.int .i64 vk1.W, .int .i64 vk1.H, .int .i64 vk1.Full, .int .i64 vk1.Gain, .int .i64 vk1.Noise] 50 (0, 0))] :: H) ∧ Own ty_Bound 56 f449 (some ⟨b60, 0, none⟩) ((bias2.length : Int)).toNat s455 out454 ∧ out454.length = out278.length ∧ master_Held.l1 k out278 full282 vk1 n_ out454 x458 = some o445 ∧ a_ = ⟨#[(ag_Camera vk1), .slice A3 bias2.length c4, (ag_Frame vf6 A7 c8 A10 c11), pV b15 0, uV, pV b19 0, .slice none 0 0, iV 0, iV vt27, .slice (some ⟨b60, 0, none⟩) out454.length ((bias2.length : Int)).toNat, .slice (some ⟨b69, 0, none⟩) full282.length ((bias2.length : Int)).toNat, (j277 0), (j277 1), (j453 0), (j453 1), (j453 2), (ag_Camera vk1), iV vt27, iV vt27, fV, uV, .slice A3 bias2.length c4, iV (bias2.length : Int), pV b15 0, iV vk1.W, pV b15 1, iV vk1.H, iV (w64 (vk1.W * vk1.H)), fV, fV, pV b19 0, iV vf6.W, pV b15 0, iV vk1.W, fV, fV, fV, pV b19 1, iV vf6.H, pV b15 1, iV vk1.H, fV, fV, fV, pV b19 3, .slice A10 vf6.Counts.length c11, iV (vf6.Counts.length : Int), .slice A3 bias2.length c4, iV (bias2.length : Int), fV, fV, .slice A3 bias2.length c4, iV (bias2.length : Int), (j277 2), .slice A3 bias2.length c4, iV (bias2.length : Int), (j277 3), pV b19 3, .slice A10 vf6.Counts.length c11, iV (vf6.Counts.length : Int), (j277 4), (j277 5), (j277 6), (j277 7), (j277 8), (j277 9), (j277 10), (j277 11), (j277 12), (j277 13), (j277 14), (j277 15), (j277 16), (j277 17), (j277 18), (j277 19), (j277 20), (j277 21), (j277 22), (j277 23), (j277 24), (j277 25), (j277 26), (j277 27), (j277 28), (j277 29), (j277 30), (j277 31), (j277 32), (j277 33), (j277 34), (j277 35), (j277 36), (j277 37), .slice (some ⟨b60, 0, none⟩) out278.length ((bias2.length : Int)).toNat, iV (out278.length : Int), iV x458, (j453 3), (j453 4), (j453 5), (j453 6), (j453 7), (j453 8), (j453 9), (j453 10), (j453 11), (j453 12), (j453 13), (j453 14), (j453 15), (j453 16), (j453 17), (j453 18), (j453 19), (j453 20), (j453 21), (j453 22), (j453 23), (j453 24), (j453 25), (j453 26), (j453 27), (j453 28), (j453 29), (j453 30), (j453 31), (j453 32), (j453 33), (j453 34), (j453 35), (j453 36), (j453 37), (j453 38), (j453 39), (j453 40), (j453 41), (j453 42), (j453 43), uV], []⟩) k ⟨f273, s279, out278, 0, (fun i_ => [undef, undef, undef, undef, undef, undef, undef, undef, undef, undef, undef, undef, undef, undef, undef, undef, undef, undef, undef, undef, undef, undef, undef, undef, undef, undef, undef, undef, undef, undef, undef, undef, undef, undef, undef, undef, undef, undef, undef, undef, undef, undef, undef, undef].getD i_ undef), (FM.le.refl _), HS276, HO280, rfl, h, kr⟩ ?_
            clear h
            rintro n448 _ W451 ⟨f449, s455, out454, x458, j453, L450, HS452, HO456, HL457, h, rfl⟩ K446 hK447
            obtain _ | n448 := n448
            · exact nomatch h
            simp only [master_Held.l1] at h
            refine wp_seq_k fun K459 hK460 => rl ?_
            refine seqL1 kr ?_
            refine nl (hK460 _ _ ?_)
            refine wp_seq_k (fun K461 hK462 => ?_)
            have hq_ := ite_some h; clear h; rcases hq_ with ⟨c464, h⟩ | ⟨c464, h⟩
            · have c464 : x458 < (out278.length : Int) := c464
              refine wpRwI 97 (x := (decide (x458 < (out278.length : Int)))) (v := true) kr (decide_eq_true c464) ?_
              refine condT kr ?_
              refine wp_skip ?_
              refine hK462 _ _ ?_
              refine wp_seq_k (fun K465 hK466 => ?_)
              refine blockK (fun B467 hx468 hn469 hr470 ho471 hp472 => ?_)
              have hq_ := bind_some h; clear h; obtain ⟨v473, hv580, h⟩ := hq_
              have J581 : ∀ (f571 : FM) (s577 : Seg) (out576 : List S_Bound) (j575 : Nat → Value) (W573 : World) (a_ : Act), FM.le f449 f571 → some (out576) = some v473 → St t W573 f571 (s283 :: s577 :: [(b19, .cells #[.int .i64 vf6.W, .int .i64 vf6.H, .slice A7 vf6.Cards.length c8, .slice A10 vf6.Counts.length c11] 54 (0, 0))] :: [(b15, .cells #[.int .i64 vk1.W, .int .i64 vk1.H, .int .i64 vk1.Full, .int .i64 vk1.Gain, .int .i64 vk1.Noise] 50 (0, 0))] :: H) → Own ty_Bound 56 f571 (some ⟨b60, 0, none⟩) ((bias2.length : Int)).toNat s577 out576 → out576.length = out454.length → a_ = ⟨#[(ag_Camera vk1), .slice A3 bias2.length c4, (ag_Frame vf6 A7 c8 A10 c11), pV b15 0, uV, pV b19 0, .slice none 0 0, iV 0, iV vt27, .slice (some ⟨b60, 0, none⟩) out576.length ((bias2.length : Int)).toNat, .slice (some ⟨b69, 0, none⟩) full282.length ((bias2.length : Int)).toNat, (j277 0), (j277 1), (j575 0), (j575 1), (j575 2), (ag_Camera vk1), iV vt27, iV vt27, fV, uV, .slice A3 bias2.length c4, iV (bias2.length : Int), pV b15 0, iV vk1.W, pV b15 1, iV vk1.H, iV (w64 (vk1.W * vk1.H)), fV, fV, pV b19 0, iV vf6.W, pV b15 0, iV vk1.W, fV, fV, fV, pV b19 1, iV vf6.H, pV b15 1, iV vk1.H, fV, fV, fV, pV b19 3, .slice A10 vf6.Counts.length c11, iV (vf6.Counts.length : Int), .slice A3 bias2.length c4, iV (bias2.length : Int), fV, fV, .slice A3 bias2.length c4, iV (bias2.length : Int), (j277 2), .slice A3 bias2.length c4, iV (bias2.length : Int), (j277 3), pV b19 3, .slice A10 vf6.Counts.length c11, iV (vf6.Counts.length : Int), (j277 4), (j277 5), (j277 6), (j277 7), (j277 8), (j277 9), (j277 10), (j277 11), (j277 12), (j277 13), (j277 14), (j277 15), (j277 16), (j277 17), (j277 18), (j277 19), (j277 20), (j277 21), (j277 22), (j277 23), (j277 24), (j277 25), (j277 26), (j277 27), (j277 28), (j277 29), (j277 30), (j277 31), (j277 32), (j277 33), (j277 34), (j277 35), (j277 36), (j277 37), .slice (some ⟨b60, 0, none⟩) out278.length ((bias2.length : Int)).toNat, iV (out278.length : Int), iV x458, tV, (j575 3), (j575 4), (j575 5), (j575 6), (j575 7), (j575 8), (j575 9), (j575 10), (j575 11), (j575 12), (j575 13), (j575 14), (j575 15), (j575 16), (j575 17), (j575 18), (j575 19), (j575 20), (j575 21), (j575 22), (j575 23), (j575 24), (j575 25), (j575 26), (j575 27), (j575 28), (j575 29), (j575 30), (j575 31), (j575 32), (j575 33), (j575 34), (j575 35), (j575 36), (j575 37), (j575 38), (j575 39), (j575 40), (j575 41), (j453 43), uV], []⟩ → K465 a_ W573 := by
               intro f571 s577 out576 j575 W573 a_ L572 hj582 HS574 HO578 HL579 hfr_; subst hfr_
               injection hj582 with hj582; subst hj582; try dsimp only at h
               refine hK466 _ _ ?_
               refine rl ?_
               refine seqL2 kr ?_
               refine nl ?_
               refine hK447 n448 _ _ (Nat.lt_succ_self _) ?_
               exact ⟨f571, s577, out576, (w64 (x458 + 1)), (fun i_ => [(j575 0), (j575 1), (j575 2), Value.bool true, (j575 3), (j575 4), (j575 5), (j575 6), (j575 7), (j575 8), (j575 9), (j575 10), (j575 11), (j575 12), (j575 13), (j575 14), (j575 15), (j575 16), (j575 17), (j575 18), (j575 19), (j575 20), (j575 21), (j575 22), (j575 23), (j575 24), (j575 25), (j575 26), (j575 27), (j575 28), (j575 29), (j575 30), (j575 31), (j575 32), (j575 33), (j575 34), (j575 35), (j575 36), (j575 37), (j575 38), (j575 39), (j575 40), (j575 41), Value.int .i64 (w64 (x458 + 1))].getD i_ undef), (L450.trans L572), HS574, HO578, (HL579.trans HL457), h, kr⟩
              clear h; have h := hv580; clear hv580
              refine wp_seq_k fun K474 hK475 => rl ?_
              refine seqL2 kr ?_
              refine nl (hK475 _ _ ?_)
              refine wp_seq_k (fun K476 hK477 => ?_)
              refine heldG (S := Sg t f449 (s283 :: s455 :: [(b19, .cells #[.int .i64 vf6.W, .int .i64 vf6.H, .slice A7 vf6.Cards.length c8, .slice A10 vf6.Counts.length c11] 54 (0, 0))] :: [(b15, .cells #[.int .i64 vk1.W, .int .i64 vk1.H, .int .i64 vk1.Full, .int .i64 vk1.Gain, .int .i64 vk1.Noise] 50 (0, 0))] :: H) []) (n := 10) kr rfl HS452 ?_
              intro W478 HS479
              refine takeGL [0, 1] (n := 10) (fuel := 8) #[true, true, false, false, false, false, false, false, false, false] rfl kr kr kr (fun ch_ a_ w_ q_ => (fun ch_ a_ w_ q_ => hnp ch_ a_ w_ (hp298 ch_ a_ w_ q_)) ch_ a_ w_ (hp472 ch_ a_ w_ q_)) (Sg.g0 (Sx.of [] (FM.le.refl _) HS479)) ?_
              refine takeGQ 2 [] rfl kr kr kr kr kr kr (fun ch_ a_ w_ q_ => (fun ch_ a_ w_ q_ => hnp ch_ a_ w_ (hp298 ch_ a_ w_ q_)) ch_ a_ w_ (hp472 ch_ a_ w_ q_)) (Sg.g0 (Sx.of [] (FM.le.refl _) HS479)) (fun w_ hw_ => by obtain ⟨g_, hl_, hS_⟩ := hw_.st; exact run_load rfl Tryz.underlying3 rfl (kv (.pointer (some ⟨b15, 0, none⟩))) (hS_.u3.cell 0)) ?_
              refine takeGL [3, 4, 5] (n := 7) (fuel := 4) #[true, true, true, true, true, true, false, false, false, false] rfl kr kr kr (fun ch_ a_ w_ q_ => (fun ch_ a_ w_ q_ => hnp ch_ a_ w_ (hp298 ch_ a_ w_ q_)) ch_ a_ w_ (hp472 ch_ a_ w_ q_)) (Sg.g0 (Sx.of [] (FM.le.refl _) HS479)) ?_
              refine takeGQ 6 [] rfl kr kr kr kr kr kr (fun ch_ a_ w_ q_ => (fun ch_ a_ w_ q_ => hnp ch_ a_ w_ (hp298 ch_ a_ w_ q_)) ch_ a_ w_ (hp472 ch_ a_ w_ q_)) (Sg.g0 (Sx.of [] (FM.le.refl _) HS479)) (fun w_ hw_ => by obtain ⟨g_, hl_, hS_⟩ := hw_.st; exact run_load rfl Tryz.underlying3 rfl (kv (.pointer (some ⟨b15, 0, none⟩))) (hS_.u3.cell 0)) ?_
              refine takeGL [7, 8, 9] (n := 3) (fuel := 0) #[true, true, true, true, true, true, true, true, true, true] rfl kr kr kr (fun ch_ a_ w_ q_ => (fun ch_ a_ w_ q_ => hnp ch_ a_ w_ (hp298 ch_ a_ w_ q_)) ch_ a_ w_ (hp472 ch_ a_ w_ q_)) (Sg.g0 (Sx.of [] (FM.le.refl _) HS479)) ?_
              refine doneG kr ?_ _
              refine hK477 _ _ ?_
              refine wp_seq_k fun K480 hK481 => rl ?_
              have hq_ := guard_some h; clear h; obtain ⟨c482, h⟩ := hq_
              have c482 : 0 ≤ x458 := c482
              have hq_ := guard_some h; clear h; obtain ⟨c483, h⟩ := hq_
              have c483 : x458 < (full282.length : Int) := c483
              obtain ⟨cs484, hr485, hc486⟩ := (HO284.mono L450).at' (i := x458) c482 c483
              obtain rfl := hr485
              refine seqL2 kr ?_
              refine seqK rfl (does_run (run_index (sz := 1) rfl Tryz.underlying81 kr (kv (.slice (some ⟨b69, 0, none⟩) full282.length ((bias2.length : Int)).toNat)) (kv (.int .i64 x458)) c482 c483 W478) ?_)
              refine seqK rfl (does_run (run_load rfl Tryz.underlying4 rfl (kv (.pointer (some ⟨b69, 0 + (x458 : Int).toNat * 1, none⟩))) ((hc486 HS479) 0 (by decide))) ?_)
              refine seqL1 kr ?_
              have hq_ := ite_some h; clear h; rcases hq_ with ⟨c487, h⟩ | ⟨c487, h⟩
              · have c487 : (rd full282 x458) = true := c487
                refine seqRwI 110 (x := (rd full282 x458)) (v := true) kr c487 ?_
                refine seqRwI 111 (x := (rd full282 x458)) (v := true) kr c487 ?_
                refine seqL21 kr ?_
                refine nl (hK481 _ _ ?_)
                refine condT kr ?_
                refine rl ?_
                have hq_ := bind_some h; clear h; obtain ⟨vt488, hc489, h⟩ := hq_
                refine seqL2 kr ?_
                refine seqK rfl (does_call (f := 30) (args := #[]) kr (bound_None_Quanta.calls k  HS479 vt488 hc489) ?_)
                rintro _ W492 ⟨f490, rfl, L491, HS493⟩
                refine ⟨_, rfl, ?_⟩
                have hq_ := guard_some h; clear h; obtain ⟨c494, h⟩ := hq_
                have c494 : x458 < (out454.length : Int) := c494
                obtain ⟨cs495, hr496, hc497⟩ := (HO456.mono L491).at' (i := x458) c482 c494
                obtain rfl := hr496
                refine seqK rfl (does_run (run_index (sz := 3) rfl Tryz.underlying46 kr (kv (.slice (some ⟨b60, 0, none⟩) out454.length ((bias2.length : Int)).toNat)) (kv (.int .i64 x458)) c482 c494 W492) ?_)
                have HS498 := HS493.u1
                refine seqK rfl (does_put (e := ty_Bound) (E := 56) (vs := [.int .i64 vt488.Lo, .int .i64 vt488.Hi, .bool vt488.Unknown]) (u := vt488) (i := x458) rfl kr (HO456.mono L491) HS498 rfl (kv (.pointer (some ⟨b60, 0 + (x458 : Int).toNat * 3, none⟩))) (kv (.agg #[.int .i64 vt488.Lo, .int .i64 vt488.Hi, .bool vt488.Unknown])) rfl rfl c482 c494 ?_)
                intro W499 s500 HS501 HO502
                refine seqRwS 9 (A := (some ⟨b60, 0, none⟩)) (m := out454.length) (n := (out454.set (x458).toNat vt488).length) (c := ((bias2.length : Int)).toNat) kr (List.length_set).symm ?_
                refine seqRwS 133 (A := (some ⟨b60, 0, none⟩)) (m := out454.length) (n := (out454.set (x458).toNat vt488).length) (c := ((bias2.length : Int)).toNat) kr (List.length_set).symm ?_
                refine nl ?_
                refine hn469 _ _ ?_
                have HS583 := HS501.u3
                have HS584 := HS583.u3
                have HS585 := HS584.u2
                have HS586 := HS585.u3
                exact J581 f490 s500 (out454.set (x458).toNat vt488) (fun i_ => [Value.int .i64 x458, Value.int .i64 (w64 (x458 - vk1.W)), Value.int .i64 (w64 (x458 + vk1.W)), Value.int .i64 x458, Value.int .i64 x458, Value.pointer (some ⟨b15, 0, none⟩), Value.int .i64 vk1.W, Value.int .i64 (w64 (x458 - vk1.W)), Value.int .i64 x458, Value.pointer (some ⟨b15, 0, none⟩), Value.int .i64 vk1.W, Value.int .i64 (w64 (x458 + vk1.W)), Value.slice (some ⟨b69, 0, none⟩) full282.length ((bias2.length : Int)).toNat, Value.int .i64 x458, Value.pointer (some ⟨b69, 0 + (x458 : Int).toNat * 1, none⟩), Value.bool true, Value.bool true, undef, undef, undef, undef, undef, undef, undef, undef, Value.bool true, Value.bool true, undef, undef, undef, undef, undef, undef, undef, undef, undef, undef, Value.bool true, Value.slice (some ⟨b60, 0, none⟩) (out454.set (x458).toNat vt488).length ((bias2.length : Int)).toNat, Value.int .i64 x458, (ag_Bound vt488), Value.pointer (some ⟨b60, 0 + (x458 : Int).toNat * 3, none⟩)].getD i_ undef) W499 _ L491 h HS586 HO502 List.length_set kr
              · have c487 : ¬ ((rd full282 x458) = true) := c487
                refine seqRwI 110 (x := (rd full282 x458)) (v := false) kr (Bool.eq_false_iff.mpr c487) ?_
                refine seqRwI 111 (x := (rd full282 x458)) (v := false) kr (Bool.eq_false_iff.mpr c487) ?_
                refine seqL3 kr ?_
                have hq_ := ite_some h; clear h; rcases hq_ with ⟨c503, h⟩ | ⟨c503, h⟩
                · have c503 : (w64 (x458 - vk1.W)) ≥ 0 := c503
                  refine seqRwI 113 (x := (decide ((w64 (x458 - vk1.W)) ≥ 0))) (v := true) kr (decide_eq_true c503) ?_
                  refine seqRwI 114 (x := (decide ((w64 (x458 - vk1.W)) ≥ 0))) (v := true) kr (decide_eq_true c503) ?_
                  have hq_ := guard_some h; clear h; obtain ⟨c504, h⟩ := hq_
                  have c504 : 0 ≤ (w64 (x458 - vk1.W)) := c504
                  have hq_ := guard_some h; clear h; obtain ⟨c505, h⟩ := hq_
                  have c505 : (w64 (x458 - vk1.W)) < (full282.length : Int) := c505
                  obtain ⟨cs506, hr507, hc508⟩ := (HO284.mono L450).at' (i := w64 (x458 - vk1.W)) c504 c505
                  obtain rfl := hr507
                  refine seqL2 kr ?_
                  refine seqG kr (does_run (run_index (sz := 1) rfl Tryz.underlying81 kr (kv (.slice (some ⟨b69, 0, none⟩) full282.length ((bias2.length : Int)).toNat)) (kv (.int .i64 (w64 (x458 - vk1.W)))) c504 c505 W478) ?_)
                  refine seqG kr (does_run (run_load rfl Tryz.underlying4 rfl (kv (.pointer (some ⟨b69, 0 + (w64 (x458 - vk1.W) : Int).toNat * 1, none⟩))) ((hc508 HS479) 0 (by decide))) ?_)
                  refine seqL3 kr ?_
                  have hq_ := ite_some h; clear h; rcases hq_ with ⟨c509, h⟩ | ⟨c509, h⟩
                  · have c509 : (rd full282 (w64 (x458 - vk1.W))) = true := c509
                    refine seqRwI 118 (x := (rd full282 (w64 (x458 - vk1.W)))) (v := true) kr c509 ?_
                    refine seqRwI 119 (x := (rd full282 (w64 (x458 - vk1.W)))) (v := true) kr c509 ?_
                    refine seqRwI 120 (x := (rd full282 (w64 (x458 - vk1.W)))) (v := true) kr c509 ?_
                    refine seqRwI 121 (x := (rd full282 (w64 (x458 - vk1.W)))) (v := true) kr c509 ?_
                    refine seqL11 kr ?_
                    refine nl (hK481 _ _ ?_)
                    refine condT kr ?_
                    refine rl ?_
                    have hq_ := bind_some h; clear h; obtain ⟨vt510, hc511, h⟩ := hq_
                    refine seqL2 kr ?_
                    refine seqK rfl (does_call (f := 30) (args := #[]) kr (bound_None_Quanta.calls k  HS479 vt510 hc511) ?_)
                    rintro _ W514 ⟨f512, rfl, L513, HS515⟩
                    refine ⟨_, rfl, ?_⟩
                    have hq_ := guard_some h; clear h; obtain ⟨c516, h⟩ := hq_
                    have c516 : x458 < (out454.length : Int) := c516
                    obtain ⟨cs517, hr518, hc519⟩ := (HO456.mono L513).at' (i := x458) c482 c516
                    obtain rfl := hr518
                    refine seqK rfl (does_run (run_index (sz := 3) rfl Tryz.underlying46 kr (kv (.slice (some ⟨b60, 0, none⟩) out454.length ((bias2.length : Int)).toNat)) (kv (.int .i64 x458)) c482 c516 W514) ?_)
                    have HS520 := HS515.u1
                    refine seqK rfl (does_put (e := ty_Bound) (E := 56) (vs := [.int .i64 vt510.Lo, .int .i64 vt510.Hi, .bool vt510.Unknown]) (u := vt510) (i := x458) rfl kr (HO456.mono L513) HS520 rfl (kv (.pointer (some ⟨b60, 0 + (x458 : Int).toNat * 3, none⟩))) (kv (.agg #[.int .i64 vt510.Lo, .int .i64 vt510.Hi, .bool vt510.Unknown])) rfl rfl c482 c516 ?_)
                    intro W521 s522 HS523 HO524
                    refine seqRwS 9 (A := (some ⟨b60, 0, none⟩)) (m := out454.length) (n := (out454.set (x458).toNat vt510).length) (c := ((bias2.length : Int)).toNat) kr (List.length_set).symm ?_
                    refine seqRwS 133 (A := (some ⟨b60, 0, none⟩)) (m := out454.length) (n := (out454.set (x458).toNat vt510).length) (c := ((bias2.length : Int)).toNat) kr (List.length_set).symm ?_
                    refine nl ?_
                    refine hn469 _ _ ?_
                    have HS587 := HS523.u3
                    have HS588 := HS587.u3
                    have HS589 := HS588.u2
                    have HS590 := HS589.u3
                    exact J581 f512 s522 (out454.set (x458).toNat vt510) (fun i_ => [Value.int .i64 x458, Value.int .i64 (w64 (x458 - vk1.W)), Value.int .i64 (w64 (x458 + vk1.W)), Value.int .i64 x458, Value.int .i64 x458, Value.pointer (some ⟨b15, 0, none⟩), Value.int .i64 vk1.W, Value.int .i64 (w64 (x458 - vk1.W)), Value.int .i64 x458, Value.pointer (some ⟨b15, 0, none⟩), Value.int .i64 vk1.W, Value.int .i64 (w64 (x458 + vk1.W)), Value.slice (some ⟨b69, 0, none⟩) full282.length ((bias2.length : Int)).toNat, Value.int .i64 x458, Value.pointer (some ⟨b69, 0 + (x458 : Int).toNat * 1, none⟩), Value.bool false, Value.bool false, Value.int .i64 (w64 (x458 - vk1.W)), Value.bool true, Value.bool true, Value.slice (some ⟨b69, 0, none⟩) full282.length ((bias2.length : Int)).toNat, Value.int .i64 (w64 (x458 - vk1.W)), Value.pointer (some ⟨b69, 0 + (w64 (x458 - vk1.W) : Int).toNat * 1, none⟩), Value.bool true, Value.bool true, Value.bool true, Value.bool true, undef, undef, undef, undef, undef, undef, undef, undef, undef, undef, Value.bool true, Value.slice (some ⟨b60, 0, none⟩) (out454.set (x458).toNat vt510).length ((bias2.length : Int)).toNat, Value.int .i64 x458, (ag_Bound vt510), Value.pointer (some ⟨b60, 0 + (x458 : Int).toNat * 3, none⟩)].getD i_ undef) W521 _ L513 h HS590 HO524 List.length_set kr
                  · have c509 : ¬ ((rd full282 (w64 (x458 - vk1.W))) = true) := c509
                    refine seqRwI 118 (x := (rd full282 (w64 (x458 - vk1.W)))) (v := false) kr (Bool.eq_false_iff.mpr c509) ?_
                    refine seqRwI 119 (x := (rd full282 (w64 (x458 - vk1.W)))) (v := false) kr (Bool.eq_false_iff.mpr c509) ?_
                    refine seqRwI 120 (x := (rd full282 (w64 (x458 - vk1.W)))) (v := false) kr (Bool.eq_false_iff.mpr c509) ?_
                    refine seqRwI 121 (x := (rd full282 (w64 (x458 - vk1.W)))) (v := false) kr (Bool.eq_false_iff.mpr c509) ?_
                    refine seqL5 kr ?_
                    have hq_ := ite_some h; clear h; rcases hq_ with ⟨c525, h⟩ | ⟨c525, h⟩
                    · have c525 : (w64 (x458 + vk1.W)) < (out454.length : Int) := c525
                      refine seqRwI 125 (x := (decide ((w64 (x458 + vk1.W)) < (out454.length : Int)))) (v := true) kr (decide_eq_true c525) ?_
                      refine seqRwI 126 (x := (decide ((w64 (x458 + vk1.W)) < (out454.length : Int)))) (v := true) kr (decide_eq_true c525) ?_
                      have hq_ := guard_some h; clear h; obtain ⟨c526, h⟩ := hq_
                      have c526 : 0 ≤ (w64 (x458 + vk1.W)) := c526
                      have hq_ := guard_some h; clear h; obtain ⟨c527, h⟩ := hq_
                      have c527 : (w64 (x458 + vk1.W)) < (full282.length : Int) := c527
                      obtain ⟨cs528, hr529, hc530⟩ := (HO284.mono L450).at' (i := w64 (x458 + vk1.W)) c526 c527
                      obtain rfl := hr529
                      refine seqL2 kr ?_
                      refine seqG kr (does_run (run_index (sz := 1) rfl Tryz.underlying81 kr (kv (.slice (some ⟨b69, 0, none⟩) full282.length ((bias2.length : Int)).toNat)) (kv (.int .i64 (w64 (x458 + vk1.W)))) c526 c527 W478) ?_)
                      refine seqG kr (does_run (run_load rfl Tryz.underlying4 rfl (kv (.pointer (some ⟨b69, 0 + (w64 (x458 + vk1.W) : Int).toNat * 1, none⟩))) ((hc530 HS479) 0 (by decide))) ?_)
                      refine seqL2 kr ?_
                      refine nl (hK481 _ _ ?_)
                      have hq_ := ite_some h; clear h; rcases hq_ with ⟨c532, h⟩ | ⟨c532, h⟩
                      · have c532 : (rd full282 (w64 (x458 + vk1.W))) = true := c532
                        refine wpRwI 130 (x := (rd full282 (w64 (x458 + vk1.W)))) (v := true) kr c532 ?_
                        refine wpRwI 131 (x := (rd full282 (w64 (x458 + vk1.W)))) (v := true) kr c532 ?_
                        refine wpRwI 132 (x := (rd full282 (w64 (x458 + vk1.W)))) (v := true) kr c532 ?_
                        refine condT kr ?_
                        refine rl ?_
                        have hq_ := bind_some h; clear h; obtain ⟨vt533, hc534, h⟩ := hq_
                        refine seqL2 kr ?_
                        refine seqK rfl (does_call (f := 30) (args := #[]) kr (bound_None_Quanta.calls k  HS479 vt533 hc534) ?_)
                        rintro _ W537 ⟨f535, rfl, L536, HS538⟩
                        refine ⟨_, rfl, ?_⟩
                        have hq_ := guard_some h; clear h; obtain ⟨c539, h⟩ := hq_
                        have c539 : x458 < (out454.length : Int) := c539
                        obtain ⟨cs540, hr541, hc542⟩ := (HO456.mono L536).at' (i := x458) c482 c539
                        obtain rfl := hr541
                        refine seqK rfl (does_run (run_index (sz := 3) rfl Tryz.underlying46 kr (kv (.slice (some ⟨b60, 0, none⟩) out454.length ((bias2.length : Int)).toNat)) (kv (.int .i64 x458)) c482 c539 W537) ?_)
                        have HS543 := HS538.u1
                        refine seqK rfl (does_put (e := ty_Bound) (E := 56) (vs := [.int .i64 vt533.Lo, .int .i64 vt533.Hi, .bool vt533.Unknown]) (u := vt533) (i := x458) rfl kr (HO456.mono L536) HS543 rfl (kv (.pointer (some ⟨b60, 0 + (x458 : Int).toNat * 3, none⟩))) (kv (.agg #[.int .i64 vt533.Lo, .int .i64 vt533.Hi, .bool vt533.Unknown])) rfl rfl c482 c539 ?_)
                        intro W544 s545 HS546 HO547
                        refine seqRwS 9 (A := (some ⟨b60, 0, none⟩)) (m := out454.length) (n := (out454.set (x458).toNat vt533).length) (c := ((bias2.length : Int)).toNat) kr (List.length_set).symm ?_
                        refine seqRwS 123 (A := (some ⟨b60, 0, none⟩)) (m := out454.length) (n := (out454.set (x458).toNat vt533).length) (c := ((bias2.length : Int)).toNat) kr (List.length_set).symm ?_
                        refine seqRwS 133 (A := (some ⟨b60, 0, none⟩)) (m := out454.length) (n := (out454.set (x458).toNat vt533).length) (c := ((bias2.length : Int)).toNat) kr (List.length_set).symm ?_
                        refine nl ?_
                        refine hn469 _ _ ?_
                        have HS591 := HS546.u3
                        have HS592 := HS591.u3
                        have HS593 := HS592.u2
                        have HS594 := HS593.u3
                        exact J581 f535 s545 (out454.set (x458).toNat vt533) (fun i_ => [Value.int .i64 x458, Value.int .i64 (w64 (x458 - vk1.W)), Value.int .i64 (w64 (x458 + vk1.W)), Value.int .i64 x458, Value.int .i64 x458, Value.pointer (some ⟨b15, 0, none⟩), Value.int .i64 vk1.W, Value.int .i64 (w64 (x458 - vk1.W)), Value.int .i64 x458, Value.pointer (some ⟨b15, 0, none⟩), Value.int .i64 vk1.W, Value.int .i64 (w64 (x458 + vk1.W)), Value.slice (some ⟨b69, 0, none⟩) full282.length ((bias2.length : Int)).toNat, Value.int .i64 x458, Value.pointer (some ⟨b69, 0 + (x458 : Int).toNat * 1, none⟩), Value.bool false, Value.bool false, Value.int .i64 (w64 (x458 - vk1.W)), Value.bool true, Value.bool true, Value.slice (some ⟨b69, 0, none⟩) full282.length ((bias2.length : Int)).toNat, Value.int .i64 (w64 (x458 - vk1.W)), Value.pointer (some ⟨b69, 0 + (w64 (x458 - vk1.W) : Int).toNat * 1, none⟩), Value.bool false, Value.bool false, Value.bool false, Value.bool false, Value.int .i64 (w64 (x458 + vk1.W)), Value.slice (some ⟨b60, 0, none⟩) (out454.set (x458).toNat vt533).length ((bias2.length : Int)).toNat, Value.int .i64 (out454.length : Int), Value.bool true, Value.bool true, Value.slice (some ⟨b69, 0, none⟩) full282.length ((bias2.length : Int)).toNat, Value.int .i64 (w64 (x458 + vk1.W)), Value.pointer (some ⟨b69, 0 + (w64 (x458 + vk1.W) : Int).toNat * 1, none⟩), Value.bool true, Value.bool true, Value.bool true, Value.slice (some ⟨b60, 0, none⟩) (out454.set (x458).toNat vt533).length ((bias2.length : Int)).toNat, Value.int .i64 x458, (ag_Bound vt533), Value.pointer (some ⟨b60, 0 + (x458 : Int).toNat * 3, none⟩)].getD i_ undef) W544 _ L536 h HS594 HO547 List.length_set kr
                      · have c532 : ¬ ((rd full282 (w64 (x458 + vk1.W))) = true) := c532
                        refine wpRwI 130 (x := (rd full282 (w64 (x458 + vk1.W)))) (v := false) kr (Bool.eq_false_iff.mpr c532) ?_
                        refine wpRwI 131 (x := (rd full282 (w64 (x458 + vk1.W)))) (v := false) kr (Bool.eq_false_iff.mpr c532) ?_
                        refine wpRwI 132 (x := (rd full282 (w64 (x458 + vk1.W)))) (v := false) kr (Bool.eq_false_iff.mpr c532) ?_
                        refine condF kr ?_
                        refine wp_skip ?_
                        refine hn469 _ _ ?_
                        exact J581 f449 s455 out454 (fun i_ => [Value.int .i64 x458, Value.int .i64 (w64 (x458 - vk1.W)), Value.int .i64 (w64 (x458 + vk1.W)), Value.int .i64 x458, Value.int .i64 x458, Value.pointer (some ⟨b15, 0, none⟩), Value.int .i64 vk1.W, Value.int .i64 (w64 (x458 - vk1.W)), Value.int .i64 x458, Value.pointer (some ⟨b15, 0, none⟩), Value.int .i64 vk1.W, Value.int .i64 (w64 (x458 + vk1.W)), Value.slice (some ⟨b69, 0, none⟩) full282.length ((bias2.length : Int)).toNat, Value.int .i64 x458, Value.pointer (some ⟨b69, 0 + (x458 : Int).toNat * 1, none⟩), Value.bool false, Value.bool false, Value.int .i64 (w64 (x458 - vk1.W)), Value.bool true, Value.bool true, Value.slice (some ⟨b69, 0, none⟩) full282.length ((bias2.length : Int)).toNat, Value.int .i64 (w64 (x458 - vk1.W)), Value.pointer (some ⟨b69, 0 + (w64 (x458 - vk1.W) : Int).toNat * 1, none⟩), Value.bool false, Value.bool false, Value.bool false, Value.bool false, Value.int .i64 (w64 (x458 + vk1.W)), Value.slice (some ⟨b60, 0, none⟩) out454.length ((bias2.length : Int)).toNat, Value.int .i64 (out454.length : Int), Value.bool true, Value.bool true, Value.slice (some ⟨b69, 0, none⟩) full282.length ((bias2.length : Int)).toNat, Value.int .i64 (w64 (x458 + vk1.W)), Value.pointer (some ⟨b69, 0 + (w64 (x458 + vk1.W) : Int).toNat * 1, none⟩), Value.bool false, Value.bool false, Value.bool false, (j453 39), (j453 40), (j453 41), (j453 42)].getD i_ undef) W478 _ (FM.le.refl _) h HS479 HO456 rfl kr
                    · have c525 : ¬ ((w64 (x458 + vk1.W)) < (out454.length : Int)) := c525
                      refine seqRwI 125 (x := (decide ((w64 (x458 + vk1.W)) < (out454.length : Int)))) (v := false) kr (decide_eq_false c525) ?_
                      refine seqRwI 126 (x := (decide ((w64 (x458 + vk1.W)) < (out454.length : Int)))) (v := false) kr (decide_eq_false c525) ?_
                      refine seqL6 kr ?_
                      refine nl (hK481 _ _ ?_)
                      refine condF kr ?_
                      refine wp_skip ?_
                      refine hn469 _ _ ?_
                      exact J581 f449 s455 out454 (fun i_ => [Value.int .i64 x458, Value.int .i64 (w64 (x458 - vk1.W)), Value.int .i64 (w64 (x458 + vk1.W)), Value.int .i64 x458, Value.int .i64 x458, Value.pointer (some ⟨b15, 0, none⟩), Value.int .i64 vk1.W, Value.int .i64 (w64 (x458 - vk1.W)), Value.int .i64 x458, Value.pointer (some ⟨b15, 0, none⟩), Value.int .i64 vk1.W, Value.int .i64 (w64 (x458 + vk1.W)), Value.slice (some ⟨b69, 0, none⟩) full282.length ((bias2.length : Int)).toNat, Value.int .i64 x458, Value.pointer (some ⟨b69, 0 + (x458 : Int).toNat * 1, none⟩), Value.bool false, Value.bool false, Value.int .i64 (w64 (x458 - vk1.W)), Value.bool true, Value.bool true, Value.slice (some ⟨b69, 0, none⟩) full282.length ((bias2.length : Int)).toNat, Value.int .i64 (w64 (x458 - vk1.W)), Value.pointer (some ⟨b69, 0 + (w64 (x458 - vk1.W) : Int).toNat * 1, none⟩), Value.bool false, Value.bool false, Value.bool false, Value.bool false, Value.int .i64 (w64 (x458 + vk1.W)), Value.slice (some ⟨b60, 0, none⟩) out454.length ((bias2.length : Int)).toNat, Value.int .i64 (out454.length : Int), Value.bool false, Value.bool false, undef, undef, undef, undef, Value.bool false, Value.bool false, (j453 39), (j453 40), (j453 41), (j453 42)].getD i_ undef) W478 _ (FM.le.refl _) h HS479 HO456 rfl kr
                · have c503 : ¬ ((w64 (x458 - vk1.W)) ≥ 0) := c503
                  refine seqRwI 113 (x := (decide ((w64 (x458 - vk1.W)) ≥ 0))) (v := false) kr (decide_eq_false c503) ?_
                  refine seqRwI 114 (x := (decide ((w64 (x458 - vk1.W)) ≥ 0))) (v := false) kr (decide_eq_false c503) ?_
                  refine seqL12 kr ?_
                  have hq_ := ite_some h; clear h; rcases hq_ with ⟨c548, h⟩ | ⟨c548, h⟩
                  · have c548 : (w64 (x458 + vk1.W)) < (out454.length : Int) := c548
                    refine seqRwI 125 (x := (decide ((w64 (x458 + vk1.W)) < (out454.length : Int)))) (v := true) kr (decide_eq_true c548) ?_
                    refine seqRwI 126 (x := (decide ((w64 (x458 + vk1.W)) < (out454.length : Int)))) (v := true) kr (decide_eq_true c548) ?_
                    have hq_ := guard_some h; clear h; obtain ⟨c549, h⟩ := hq_
                    have c549 : 0 ≤ (w64 (x458 + vk1.W)) := c549
                    have hq_ := guard_some h; clear h; obtain ⟨c550, h⟩ := hq_
                    have c550 : (w64 (x458 + vk1.W)) < (full282.length : Int) := c550
                    obtain ⟨cs551, hr552, hc553⟩ := (HO284.mono L450).at' (i := w64 (x458 + vk1.W)) c549 c550
                    obtain rfl := hr552
                    refine seqL2 kr ?_
                    refine seqG kr (does_run (run_index (sz := 1) rfl Tryz.underlying81 kr (kv (.slice (some ⟨b69, 0, none⟩) full282.length ((bias2.length : Int)).toNat)) (kv (.int .i64 (w64 (x458 + vk1.W)))) c549 c550 W478) ?_)
                    refine seqG kr (does_run (run_load rfl Tryz.underlying4 rfl (kv (.pointer (some ⟨b69, 0 + (w64 (x458 + vk1.W) : Int).toNat * 1, none⟩))) ((hc553 HS479) 0 (by decide))) ?_)
                    refine seqL2 kr ?_
                    refine nl (hK481 _ _ ?_)
                    have hq_ := ite_some h; clear h; rcases hq_ with ⟨c555, h⟩ | ⟨c555, h⟩
                    · have c555 : (rd full282 (w64 (x458 + vk1.W))) = true := c555
                      refine wpRwI 130 (x := (rd full282 (w64 (x458 + vk1.W)))) (v := true) kr c555 ?_
                      refine wpRwI 131 (x := (rd full282 (w64 (x458 + vk1.W)))) (v := true) kr c555 ?_
                      refine wpRwI 132 (x := (rd full282 (w64 (x458 + vk1.W)))) (v := true) kr c555 ?_
                      refine condT kr ?_
                      refine rl ?_
                      have hq_ := bind_some h; clear h; obtain ⟨vt556, hc557, h⟩ := hq_
                      refine seqL2 kr ?_
                      refine seqK rfl (does_call (f := 30) (args := #[]) kr (bound_None_Quanta.calls k  HS479 vt556 hc557) ?_)
                      rintro _ W560 ⟨f558, rfl, L559, HS561⟩
                      refine ⟨_, rfl, ?_⟩
                      have hq_ := guard_some h; clear h; obtain ⟨c562, h⟩ := hq_
                      have c562 : x458 < (out454.length : Int) := c562
                      obtain ⟨cs563, hr564, hc565⟩ := (HO456.mono L559).at' (i := x458) c482 c562
                      obtain rfl := hr564
                      refine seqK rfl (does_run (run_index (sz := 3) rfl Tryz.underlying46 kr (kv (.slice (some ⟨b60, 0, none⟩) out454.length ((bias2.length : Int)).toNat)) (kv (.int .i64 x458)) c482 c562 W560) ?_)
                      have HS566 := HS561.u1
                      refine seqK rfl (does_put (e := ty_Bound) (E := 56) (vs := [.int .i64 vt556.Lo, .int .i64 vt556.Hi, .bool vt556.Unknown]) (u := vt556) (i := x458) rfl kr (HO456.mono L559) HS566 rfl (kv (.pointer (some ⟨b60, 0 + (x458 : Int).toNat * 3, none⟩))) (kv (.agg #[.int .i64 vt556.Lo, .int .i64 vt556.Hi, .bool vt556.Unknown])) rfl rfl c482 c562 ?_)
                      intro W567 s568 HS569 HO570
                      refine seqRwS 9 (A := (some ⟨b60, 0, none⟩)) (m := out454.length) (n := (out454.set (x458).toNat vt556).length) (c := ((bias2.length : Int)).toNat) kr (List.length_set).symm ?_
                      refine seqRwS 123 (A := (some ⟨b60, 0, none⟩)) (m := out454.length) (n := (out454.set (x458).toNat vt556).length) (c := ((bias2.length : Int)).toNat) kr (List.length_set).symm ?_
                      refine seqRwS 133 (A := (some ⟨b60, 0, none⟩)) (m := out454.length) (n := (out454.set (x458).toNat vt556).length) (c := ((bias2.length : Int)).toNat) kr (List.length_set).symm ?_
                      refine nl ?_
                      refine hn469 _ _ ?_
                      have HS595 := HS569.u3
                      have HS596 := HS595.u3
                      have HS597 := HS596.u2
                      have HS598 := HS597.u3
                      exact J581 f558 s568 (out454.set (x458).toNat vt556) (fun i_ => [Value.int .i64 x458, Value.int .i64 (w64 (x458 - vk1.W)), Value.int .i64 (w64 (x458 + vk1.W)), Value.int .i64 x458, Value.int .i64 x458, Value.pointer (some ⟨b15, 0, none⟩), Value.int .i64 vk1.W, Value.int .i64 (w64 (x458 - vk1.W)), Value.int .i64 x458, Value.pointer (some ⟨b15, 0, none⟩), Value.int .i64 vk1.W, Value.int .i64 (w64 (x458 + vk1.W)), Value.slice (some ⟨b69, 0, none⟩) full282.length ((bias2.length : Int)).toNat, Value.int .i64 x458, Value.pointer (some ⟨b69, 0 + (x458 : Int).toNat * 1, none⟩), Value.bool false, Value.bool false, Value.int .i64 (w64 (x458 - vk1.W)), Value.bool false, Value.bool false, undef, undef, undef, undef, Value.bool false, Value.bool false, Value.bool false, Value.int .i64 (w64 (x458 + vk1.W)), Value.slice (some ⟨b60, 0, none⟩) (out454.set (x458).toNat vt556).length ((bias2.length : Int)).toNat, Value.int .i64 (out454.length : Int), Value.bool true, Value.bool true, Value.slice (some ⟨b69, 0, none⟩) full282.length ((bias2.length : Int)).toNat, Value.int .i64 (w64 (x458 + vk1.W)), Value.pointer (some ⟨b69, 0 + (w64 (x458 + vk1.W) : Int).toNat * 1, none⟩), Value.bool true, Value.bool true, Value.bool true, Value.slice (some ⟨b60, 0, none⟩) (out454.set (x458).toNat vt556).length ((bias2.length : Int)).toNat, Value.int .i64 x458, (ag_Bound vt556), Value.pointer (some ⟨b60, 0 + (x458 : Int).toNat * 3, none⟩)].getD i_ undef) W567 _ L559 h HS598 HO570 List.length_set kr
                    · have c555 : ¬ ((rd full282 (w64 (x458 + vk1.W))) = true) := c555
                      refine wpRwI 130 (x := (rd full282 (w64 (x458 + vk1.W)))) (v := false) kr (Bool.eq_false_iff.mpr c555) ?_
                      refine wpRwI 131 (x := (rd full282 (w64 (x458 + vk1.W)))) (v := false) kr (Bool.eq_false_iff.mpr c555) ?_
                      refine wpRwI 132 (x := (rd full282 (w64 (x458 + vk1.W)))) (v := false) kr (Bool.eq_false_iff.mpr c555) ?_
                      refine condF kr ?_
                      refine wp_skip ?_
                      refine hn469 _ _ ?_
                      exact J581 f449 s455 out454 (fun i_ => [Value.int .i64 x458, Value.int .i64 (w64 (x458 - vk1.W)), Value.int .i64 (w64 (x458 + vk1.W)), Value.int .i64 x458, Value.int .i64 x458, Value.pointer (some ⟨b15, 0, none⟩), Value.int .i64 vk1.W, Value.int .i64 (w64 (x458 - vk1.W)), Value.int .i64 x458, Value.pointer (some ⟨b15, 0, none⟩), Value.int .i64 vk1.W, Value.int .i64 (w64 (x458 + vk1.W)), Value.slice (some ⟨b69, 0, none⟩) full282.length ((bias2.length : Int)).toNat, Value.int .i64 x458, Value.pointer (some ⟨b69, 0 + (x458 : Int).toNat * 1, none⟩), Value.bool false, Value.bool false, Value.int .i64 (w64 (x458 - vk1.W)), Value.bool false, Value.bool false, undef, undef, undef, undef, Value.bool false, Value.bool false, Value.bool false, Value.int .i64 (w64 (x458 + vk1.W)), Value.slice (some ⟨b60, 0, none⟩) out454.length ((bias2.length : Int)).toNat, Value.int .i64 (out454.length : Int), Value.bool true, Value.bool true, Value.slice (some ⟨b69, 0, none⟩) full282.length ((bias2.length : Int)).toNat, Value.int .i64 (w64 (x458 + vk1.W)), Value.pointer (some ⟨b69, 0 + (w64 (x458 + vk1.W) : Int).toNat * 1, none⟩), Value.bool false, Value.bool false, Value.bool false, (j453 39), (j453 40), (j453 41), (j453 42)].getD i_ undef) W478 _ (FM.le.refl _) h HS479 HO456 rfl kr
                  · have c548 : ¬ ((w64 (x458 + vk1.W)) < (out454.length : Int)) := c548
                    refine seqRwI 125 (x := (decide ((w64 (x458 + vk1.W)) < (out454.length : Int)))) (v := false) kr (decide_eq_false c548) ?_
                    refine seqRwI 126 (x := (decide ((w64 (x458 + vk1.W)) < (out454.length : Int)))) (v := false) kr (decide_eq_false c548) ?_
                    refine seqL6 kr ?_
                    refine nl (hK481 _ _ ?_)
                    refine condF kr ?_
                    refine wp_skip ?_
                    refine hn469 _ _ ?_
                    exact J581 f449 s455 out454 (fun i_ => [Value.int .i64 x458, Value.int .i64 (w64 (x458 - vk1.W)), Value.int .i64 (w64 (x458 + vk1.W)), Value.int .i64 x458, Value.int .i64 x458, Value.pointer (some ⟨b15, 0, none⟩), Value.int .i64 vk1.W, Value.int .i64 (w64 (x458 - vk1.W)), Value.int .i64 x458, Value.pointer (some ⟨b15, 0, none⟩), Value.int .i64 vk1.W, Value.int .i64 (w64 (x458 + vk1.W)), Value.slice (some ⟨b69, 0, none⟩) full282.length ((bias2.length : Int)).toNat, Value.int .i64 x458, Value.pointer (some ⟨b69, 0 + (x458 : Int).toNat * 1, none⟩), Value.bool false, Value.bool false, Value.int .i64 (w64 (x458 - vk1.W)), Value.bool false, Value.bool false, undef, undef, undef, undef, Value.bool false, Value.bool false, Value.bool false, Value.int .i64 (w64 (x458 + vk1.W)), Value.slice (some ⟨b60, 0, none⟩) out454.length ((bias2.length : Int)).toNat, Value.int .i64 (out454.length : Int), Value.bool false, Value.bool false, undef, undef, undef, undef, Value.bool false, Value.bool false, (j453 39), (j453 40), (j453 41), (j453 42)].getD i_ undef) W478 _ (FM.le.refl _) h HS479 HO456 rfl kr
            · have c464 : ¬ (x458 < (out278.length : Int)) := c464
              refine wpRwI 97 (x := (decide (x458 < (out278.length : Int)))) (v := false) kr (decide_eq_false c464) ?_
              refine condF kr ?_
              refine wp_exit ?_
              refine hx294 _ _ ?_
              exact J609 f449 s455 out454 (fun i_ => [(j453 0), (j453 1), (j453 2), Value.slice (some ⟨b60, 0, none⟩) out278.length ((bias2.length : Int)).toNat, Value.int .i64 x458, Value.bool false, (j453 4), (j453 5), (j453 6), (j453 7), (j453 8), (j453 9), (j453 10), (j453 11), (j453 12), (j453 13), (j453 14), (j453 15), (j453 16), (j453 17), (j453 18), (j453 19), (j453 20), (j453 21), (j453 22), (j453 23), (j453 24), (j453 25), (j453 26), (j453 27), (j453 28), (j453 29), (j453 30), (j453 31), (j453 32), (j453 33), (j453 34), (j453 35), (j453 36), (j453 37), (j453 38), (j453 39), (j453 40), (j453 41), (j453 42), (j453 43)].getD i_ undef) W451 _ L450 h HS452 HO456 HL457 kr
           clear h; have h := hv286; clear hv286
           refine loopK (fun n_ a_ w_ => ∃ (f179 : FM) (s185 : Seg) (s189 : Seg) (out184 : List S_Bound) (full188 : List Bool) (x192 : Int) (j183 : Nat → Value), FM.le f29 f179 ∧ St t w_ f179 (s189 :: s185 :: [(b19, .cells #[.int .i64 vf6.W, .int .i64 vf6.H, .slice A7 vf6.Cards.length c8, .slice A10 vf6.Counts.length c11] 54 (0, 0))] :: [(b15, .cells #[.int .i64 vk1.W, .int .i64 vk1.H, .int .i64 vk1.Full, .int .i64 vk1.Gain, .int .i64 vk1.Noise] 50 (0, 0))] :: H) ∧ Own ty_Bound 56 f179 (some ⟨b60, 0, none⟩) ((bias2.length : Int)).toNat s185 out184 ∧ out184.length = (List.replicate ((bias2.length : Int)).toNat ((⟨0, 0, false⟩ : S_Bound) : S_Bound)).length ∧ Own tBool 4 f179 (some ⟨b69, 0, none⟩) ((bias2.length : Int)).toNat s189 full188 ∧ full188.length = (List.replicate ((bias2.length : Int)).toNat (false : Bool)).length ∧ master_Held.l0 k vf6 bias2 vk1 n_ out184 full188 x192 = some o175 ∧ a_ = ⟨#[(ag_Camera vk1), .slice A3 bias2.length c4, (ag_Frame vf6 A7 c8 A10 c11), pV b15 0, uV, pV b19 0, .slice none 0 0, iV 0, iV vt27, .slice (some ⟨b60, 0, none⟩) out184.length ((bias2.length : Int)).toNat, .slice (some ⟨b69, 0, none⟩) full188.length ((bias2.length : Int)).toNat, (j183 0), (j183 1), uV, uV, uV, (ag_Camera vk1), iV vt27, iV vt27, fV, uV, .slice A3 bias2.length c4, iV (bias2.length : Int), pV b15 0, iV vk1.W, pV b15 1, iV vk1.H, iV (w64 (vk1.W * vk1.H)), fV, fV, pV b19 0, iV vf6.W, pV b15 0, iV vk1.W, fV, fV, fV, pV b19 1, iV vf6.H, pV b15 1, iV vk1.H, fV, fV, fV, pV b19 3, .slice A10 vf6.Counts.length c11, iV (vf6.Counts.length : Int), .slice A3 bias2.length c4, iV (bias2.length : Int), fV, fV, .slice A3 bias2.length c4, iV (bias2.length : Int), .slice (some ⟨b60, 0, none⟩) (List.replicate ((bias2.length : Int)).toNat ((⟨0, 0, false⟩ : S_Bound) : S_Bound)).length ((bias2.length : Int)).toNat, .slice A3 bias2.length c4, iV (bias2.length : Int), .slice (some ⟨b69, 0, none⟩) (List.replicate ((bias2.length : Int)).toNat (false : Bool)).length ((bias2.length : Int)).toNat, pV b19 3, .slice A10 vf6.Counts.length c11, iV (vf6.Counts.length : Int), iV x192, (j183 2), (j183 3), (j183 4), (j183 5), (j183 6), (j183 7), (j183 8), (j183 9), (j183 10), (j183 11), (j183 12), (j183 13), (j183 14), (j183 15), (j183 16), (j183 17), (j183 18), (j183 19), (j183 20), (j183 21), (j183 22), (j183 23), (j183 24), (j183 25), (j183 26), (j183 27), (j183 28), (j183 29), (j183 30), (j183 31), (j183 32), (j183 33), (j183 34), uV, uV, uV, uV, uV, uV, uV, uV, uV, uV, uV, uV, uV, uV, uV, uV, uV, uV, uV, uV, uV, uV, uV, uV, uV, uV, uV, uV, uV, uV, uV, uV, uV, uV, uV, uV, uV, uV, uV, uV, uV, uV, uV, uV, uV], []⟩) k ⟨f29, s62, s71, (List.replicate ((bias2.length : Int)).toNat ((⟨0, 0, false⟩ : S_Bound) : S_Bound)), (List.replicate ((bias2.length : Int)).toNat (false : Bool)), 0, (fun i_ => [undef, undef, undef, undef, undef, undef, undef, undef, undef, undef, undef, undef, undef, undef, undef, undef, undef, undef, undef, undef, undef, undef, undef, undef, undef, undef, undef, undef, undef, undef, undef, undef, undef, undef, undef].getD i_ undef), (FM.le.refl _), HS72, HO64, rfl, HO73, rfl, h, kr⟩ ?_
           clear h
           rintro n178 _ W181 ⟨f179, s185, s189, out184, full188, x192, j183, L180, HS182, HO186, HL187, HO190, HL191, h, rfl⟩ K176 hK177
           obtain _ | n178 := n178
           · exact nomatch h
           simp only [master_Held.l0] at h
           refine wp_seq_k fun K193 hK194 => rl ?_
           refine seqL1 kr ?_
           refine nl (hK194 _ _ ?_)
           refine wp_seq_k (fun K195 hK196 => ?_)
           have hq_ := ite_some h; clear h; rcases hq_ with ⟨c198, h⟩ | ⟨c198, h⟩
           · have c198 : x192 < (vf6.Counts.length : Int) := c198
             refine wpRwI 61 (x := (decide (x192 < (vf6.Counts.length : Int)))) (v := true) kr (decide_eq_true c198) ?_
             refine condT kr ?_
             refine wp_skip ?_
             refine hK196 _ _ ?_
             refine wp_seq_k (fun K199 hK200 => ?_)
             refine blockK (fun B201 hx202 hn203 hr204 ho205 hp206 => ?_)
             refine wp_seq_k fun K208 hK209 => rl ?_
             have hq_ := guard_some h; clear h; obtain ⟨c210, h⟩ := hq_
             have c210 : 0 ≤ x192 := c210
             obtain ⟨b214, of215, cs211, hA216, hr212, hc213⟩ := (HR12.mono (L30.trans L180)).at (i := x192) c210 c198
             obtain rfl := hr212
             refine seqL1 kr ?_
             refine seqK rfl (does_run (run_indexE hA216 (sz := 1) rfl Tryz.underlying22 kr (kv (.slice A10 vf6.Counts.length c11)) (kv (.int .i64 x192)) c210 c198 W181) ?_)
             refine seqK rfl (does_run (run_load rfl Tryz.underlying3 rfl (kv (.pointer (some ⟨b214, of215 + (x192 : Int).toNat * 1, none⟩))) ((hc213 (FM.le.refl _) HS182) 0 (by decide))) ?_)
             refine seqL2 kr ?_
             refine nl (hK209 _ _ ?_)
             refine wp_seq_k (fun K217 hK218 => ?_)
             have HS219 := HS182.u3
             have HS220 := HS219.u3
             have HS221 := HS220.u2
             have HS222 := HS221.u3
             refine heldG (S := Sg t f179 (s189 :: [(b19, .cells #[.int .i64 vf6.W, .int .i64 vf6.H, .slice A7 vf6.Cards.length c8, .slice A10 vf6.Counts.length c11] 54 (0, 0))] :: [(b15, .cells #[.int .i64 vk1.W, .int .i64 vk1.H, .int .i64 vk1.Full, .int .i64 vk1.Gain, .int .i64 vk1.Noise] 50 (0, 0))] :: H) [(10, s185)]) (n := 11) kr rfl HS222 ?_
             intro W223 HS224
             refine takeGL [0, 1] (n := 11) (fuel := 9) #[true, true, false, false, false, false, false, false, false, false, false] rfl kr kr kr (fun ch_ a_ w_ q_ => (fun ch_ a_ w_ q_ => hnp ch_ a_ w_ (hp84 ch_ a_ w_ q_)) ch_ a_ w_ (hp206 ch_ a_ w_ q_)) (Sg.g1 (Sx.of [s185] (FM.le.refl _) HS224) (fun _ => St.only [] HS224 (FM.le.refl _))) ?_
             refine takeGQ 2 [] rfl kr kr kr kr kr kr (fun ch_ a_ w_ q_ => (fun ch_ a_ w_ q_ => hnp ch_ a_ w_ (hp84 ch_ a_ w_ q_)) ch_ a_ w_ (hp206 ch_ a_ w_ q_)) (Sg.g1 (Sx.of [s185] (FM.le.refl _) HS224) (fun _ => St.only [] HS224 (FM.le.refl _))) (fun w_ hw_ => by obtain ⟨g_, hl_, hS_⟩ := hw_.st; exact run_loadN (n := 5) rfl Tryz.underlying50 rfl kr (kv (.pointer (some ⟨b15, 0, none⟩))) (cs := [.int .i64 vk1.W, .int .i64 vk1.H, .int .i64 vk1.Full, .int .i64 vk1.Gain, .int .i64 vk1.Noise]) rfl (hS_.u2.cells 0 5 _ rfl)) ?_
             have hq_ := guard_some h; clear h; obtain ⟨c225, h⟩ := hq_
             have c225 : x192 < (bias2.length : Int) := c225
             obtain ⟨b229, of230, cs226, hA231, hr227, hc228⟩ := (HR5.mono (L30.trans L180)).at (i := x192) c210 c225
             obtain rfl := hr227
             refine takeGL [3, 4] (n := 8) (fuel := 6) #[true, true, true, true, true, false, false, false, false, false, false] rfl kr kr kr (fun ch_ a_ w_ q_ => (fun ch_ a_ w_ q_ => hnp ch_ a_ w_ (hp84 ch_ a_ w_ q_)) ch_ a_ w_ (hp206 ch_ a_ w_ q_)) (Sg.g1 (Sx.of [s185] (FM.le.refl _) HS224) (fun _ => St.only [] HS224 (FM.le.refl _))) ?_
             refine takeGQ 5 [] rfl kr kr kr kr kr kr (fun ch_ a_ w_ q_ => (fun ch_ a_ w_ q_ => hnp ch_ a_ w_ (hp84 ch_ a_ w_ q_)) ch_ a_ w_ (hp206 ch_ a_ w_ q_)) (Sg.g1 (Sx.of [s185] (FM.le.refl _) HS224) (fun _ => St.only [] HS224 (FM.le.refl _))) (fun w_ hw_ => by obtain ⟨g_, hl_, hS_⟩ := hw_.st; exact run_indexE hA231 (sz := 3) rfl Tryz.underlying40 kr (kv (.slice A3 bias2.length c4)) (kv (.int .i64 x192)) c210 c225 w_) ?_
             refine takeGQ 6 [] rfl kr kr kr kr kr kr (fun ch_ a_ w_ q_ => (fun ch_ a_ w_ q_ => hnp ch_ a_ w_ (hp84 ch_ a_ w_ q_)) ch_ a_ w_ (hp206 ch_ a_ w_ q_)) (Sg.g1 (Sx.of [s185] (FM.le.refl _) HS224) (fun _ => St.only [] HS224 (FM.le.refl _))) (fun w_ hw_ => by obtain ⟨g_, hl_, hS_⟩ := hw_.st; exact run_loadN (n := 3) rfl Tryz.underlying43 rfl kr (kv (.pointer (some ⟨b229, of230 + (x192 : Int).toNat * 3, none⟩))) (cs := [.int .i64 ((rd bias2 x192).Lo), .int .i64 ((rd bias2 x192).Hi), .bool ((rd bias2 x192).Unknown)]) rfl (fun j_ hj_ => ((hc228 hl_ hS_) j_ hj_))) ?_
             refine takeGL [7] (n := 4) (fuel := 3) #[true, true, true, true, true, true, true, true, false, false, false] rfl kr kr kr (fun ch_ a_ w_ q_ => (fun ch_ a_ w_ q_ => hnp ch_ a_ w_ (hp84 ch_ a_ w_ q_)) ch_ a_ w_ (hp206 ch_ a_ w_ q_)) (Sg.g1 (Sx.of [s185] (FM.le.refl _) HS224) (fun _ => St.only [] HS224 (FM.le.refl _))) ?_
             have hq_ := bind_some h; clear h; obtain ⟨vt232, hc233, h⟩ := hq_
             refine takeGE 8 kr rfl kr (does_call (f := 29) (args := #[.agg #[.int .i64 vk1.W, .int .i64 vk1.H, .int .i64 vk1.Full, .int .i64 vk1.Gain, .int .i64 vk1.Noise], .agg #[.int .i64 ((rd bias2 x192).Lo), .int .i64 ((rd bias2 x192).Hi), .bool ((rd bias2 x192).Unknown)], .int .i64 (rd vf6.Counts x192)]) kr (master_Counted.calls k vk1 (rd bias2 x192) (rd vf6.Counts x192) HS224 vt232 hc233) ?_)
             rintro _ W236 ⟨f234, rfl, L235, HS237⟩
             refine ⟨_, rfl, ?_⟩
             refine ⟨(Sg.g1 (Sx.of [s185] L235 HS237) (fun _ => St.only [] HS237 L235)), ?_⟩
             have hq_ := guard_some h; clear h; obtain ⟨c238, h⟩ := hq_
             have c238 : x192 < (out184.length : Int) := c238
             obtain ⟨cs239, hr240, hc241⟩ := (HO186.mono L235).at' (i := x192) c210 c238
             obtain rfl := hr240
             refine takeGQ 9 [] rfl kr kr kr kr kr kr (fun ch_ a_ w_ q_ => (fun ch_ a_ w_ q_ => hnp ch_ a_ w_ (hp84 ch_ a_ w_ q_)) ch_ a_ w_ (hp206 ch_ a_ w_ q_)) (Sg.g1 (Sx.of [s185] L235 HS237) (fun _ => St.only [] HS237 L235)) (fun w_ hw_ => by obtain ⟨g_, hl_, hS_⟩ := hw_.st; exact run_index (sz := 3) rfl Tryz.underlying46 kr (kv (.slice (some ⟨b60, 0, none⟩) out184.length ((bias2.length : Int)).toNat)) (kv (.int .i64 x192)) c210 c238 w_) ?_
             refine takeGE 10 kr rfl kr (does_put (e := ty_Bound) (E := 56) (vs := [.int .i64 vt232.Lo, .int .i64 vt232.Hi, .bool vt232.Unknown]) (u := vt232) (i := x192) rfl kr (HO186.mono L235) HS237 rfl (kv (.pointer (some ⟨b60, 0 + (x192 : Int).toNat * 3, none⟩))) (kv (.agg #[.int .i64 vt232.Lo, .int .i64 vt232.Hi, .bool vt232.Unknown])) rfl rfl c210 c238 ?_)
             intro W242 s243 HS244 HO245
             refine ⟨(Sg.g1 (Sx.of [s243] L235 HS244) (fun hl_ => Bool.noConfusion (show true = false from hl_))), ?_⟩
             refine gateRwS 9 (A := (some ⟨b60, 0, none⟩)) (m := out184.length) (n := (out184.set (x192).toNat vt232).length) (c := ((bias2.length : Int)).toNat) kr (List.length_set).symm ?_
             refine gateRwS 65 (A := (some ⟨b60, 0, none⟩)) (m := out184.length) (n := (out184.set (x192).toNat vt232).length) (c := ((bias2.length : Int)).toNat) kr (List.length_set).symm ?_
             refine doneG kr ?_ _
             refine hK218 _ _ ?_
             have HS246 := HS244.u3
             have HS247 := HS246.u3
             have HS248 := HS247.u2
             have HS249 := HS248.u3
             refine heldG (S := Sg t f234 (s243 :: [(b19, .cells #[.int .i64 vf6.W, .int .i64 vf6.H, .slice A7 vf6.Cards.length c8, .slice A10 vf6.Counts.length c11] 54 (0, 0))] :: [(b15, .cells #[.int .i64 vk1.W, .int .i64 vk1.H, .int .i64 vk1.Full, .int .i64 vk1.Gain, .int .i64 vk1.Noise] 50 (0, 0))] :: H) [(18, s189)]) (n := 19) kr rfl HS249 ?_
             intro W250 HS251
             have hq_ := guard_some h; clear h; obtain ⟨c252, h⟩ := hq_
             have c252 : x192 < ((out184.set (x192).toNat vt232).length : Int) := c252
             obtain ⟨cs253, hr254, hc255⟩ := HO245.at' (i := x192) c210 c252
             obtain rfl := hr254
             refine takeGL [0, 1, 2, 3] (n := 19) (fuel := 15) #[true, true, true, true, false, false, false, false, false, false, false, false, false, false, false, false, false, false, false] rfl kr kr kr (fun ch_ a_ w_ q_ => (fun ch_ a_ w_ q_ => hnp ch_ a_ w_ (hp84 ch_ a_ w_ q_)) ch_ a_ w_ (hp206 ch_ a_ w_ q_)) (Sg.g1 (Sx.of [s189] (FM.le.refl _) HS251) (fun _ => St.only [] HS251 (FM.le.refl _))) ?_
             refine takeGQ 4 [] rfl kr kr kr kr kr kr (fun ch_ a_ w_ q_ => (fun ch_ a_ w_ q_ => hnp ch_ a_ w_ (hp84 ch_ a_ w_ q_)) ch_ a_ w_ (hp206 ch_ a_ w_ q_)) (Sg.g1 (Sx.of [s189] (FM.le.refl _) HS251) (fun _ => St.only [] HS251 (FM.le.refl _))) (fun w_ hw_ => by obtain ⟨g_, hl_, hS_⟩ := hw_.st; exact run_index (sz := 3) rfl Tryz.underlying46 kr (kv (.slice (some ⟨b60, 0, none⟩) (out184.set (x192).toNat vt232).length ((bias2.length : Int)).toNat)) (kv (.int .i64 x192)) c210 c252 w_) ?_
             refine takeGL [5] (n := 14) (fuel := 13) #[true, true, true, true, true, true, false, false, false, false, false, false, false, false, false, false, false, false, false] rfl kr kr kr (fun ch_ a_ w_ q_ => (fun ch_ a_ w_ q_ => hnp ch_ a_ w_ (hp84 ch_ a_ w_ q_)) ch_ a_ w_ (hp206 ch_ a_ w_ q_)) (Sg.g1 (Sx.of [s189] (FM.le.refl _) HS251) (fun _ => St.only [] HS251 (FM.le.refl _))) ?_
             refine takeGQ 6 [] rfl kr kr kr kr kr kr (fun ch_ a_ w_ q_ => (fun ch_ a_ w_ q_ => hnp ch_ a_ w_ (hp84 ch_ a_ w_ q_)) ch_ a_ w_ (hp206 ch_ a_ w_ q_)) (Sg.g1 (Sx.of [s189] (FM.le.refl _) HS251) (fun _ => St.only [] HS251 (FM.le.refl _))) (fun w_ hw_ => by obtain ⟨g_, hl_, hS_⟩ := hw_.st; exact run_load rfl Tryz.underlying4 rfl (kv (.pointer (some ⟨b60, 0 + (x192 : Int).toNat * 3 + 2, none⟩))) ((hc255 hS_) 2 (by decide))) ?_
             refine takeGL [7] (n := 12) (fuel := 11) #[true, true, true, true, true, true, true, true, false, false, false, false, false, false, false, false, false, false, false] rfl kr kr kr (fun ch_ a_ w_ q_ => (fun ch_ a_ w_ q_ => hnp ch_ a_ w_ (hp84 ch_ a_ w_ q_)) ch_ a_ w_ (hp206 ch_ a_ w_ q_)) (Sg.g1 (Sx.of [s189] (FM.le.refl _) HS251) (fun _ => St.only [] HS251 (FM.le.refl _))) ?_
             have hq_ := ite_some h; clear h; rcases hq_ with ⟨c256, h⟩ | ⟨c256, h⟩
             · have c256 : ((rd (out184.set (x192).toNat vt232) x192).Unknown) = true := c256
               refine gateRwI 81 (x := (rd (out184.set (x192).toNat vt232) x192).Unknown) (v := true) kr c256 ?_
               refine gateRwI 82 (x := (rd (out184.set (x192).toNat vt232) x192).Unknown) (v := true) kr c256 ?_
               have hq_ := guard_some h; clear h; obtain ⟨c257, h⟩ := hq_
               have c257 : x192 < (full188.length : Int) := c257
               obtain ⟨cs258, hr259, hc260⟩ := (HO190.mono L235).at' (i := x192) c210 c257
               obtain rfl := hr259
               refine takeGL [8, 9, 10, 11, 12, 13, 14, 15, 16] (n := 11) (fuel := 2) #[true, true, true, true, true, true, true, true, true, true, true, true, true, true, true, true, true, false, false] rfl kr kr kr (fun ch_ a_ w_ q_ => (fun ch_ a_ w_ q_ => hnp ch_ a_ w_ (hp84 ch_ a_ w_ q_)) ch_ a_ w_ (hp206 ch_ a_ w_ q_)) (Sg.g1 (Sx.of [s189] (FM.le.refl _) HS251) (fun _ => St.only [] HS251 (FM.le.refl _))) ?_
               refine takeGQ 17 [] rfl kr kr kr kr kr kr (fun ch_ a_ w_ q_ => (fun ch_ a_ w_ q_ => hnp ch_ a_ w_ (hp84 ch_ a_ w_ q_)) ch_ a_ w_ (hp206 ch_ a_ w_ q_)) (Sg.g1 (Sx.of [s189] (FM.le.refl _) HS251) (fun _ => St.only [] HS251 (FM.le.refl _))) (fun w_ hw_ => by obtain ⟨g_, hl_, hS_⟩ := hw_.st; exact run_index (sz := 1) rfl Tryz.underlying81 kr (kv (.slice (some ⟨b69, 0, none⟩) full188.length ((bias2.length : Int)).toNat)) (kv (.int .i64 x192)) c210 c257 w_) ?_
               refine takeGE 18 kr rfl kr (does_put (e := tBool) (E := 4) (vs := [.bool true]) (u := true) (i := x192) rfl kr (HO190.mono L235) HS251 rfl (kv (.pointer (some ⟨b69, 0 + (x192 : Int).toNat * 1, none⟩))) (kv (.bool true)) rfl rfl c210 c257 ?_)
               intro W261 s262 HS263 HO264
               refine ⟨(Sg.g1 (Sx.of [s262] (FM.le.refl _) HS263) (fun hl_ => Bool.noConfusion (show true = false from hl_))), ?_⟩
               refine gateRwS 10 (A := (some ⟨b69, 0, none⟩)) (m := full188.length) (n := (full188.set (x192).toNat true).length) (c := ((bias2.length : Int)).toNat) kr (List.length_set).symm ?_
               refine gateRwS 75 (A := (some ⟨b69, 0, none⟩)) (m := full188.length) (n := (full188.set (x192).toNat true).length) (c := ((bias2.length : Int)).toNat) kr (List.length_set).symm ?_
               refine doneG kr ?_ _
               refine hn203 _ _ ?_
               refine hK200 _ _ ?_
               refine rl ?_
               refine seqL2 kr ?_
               refine nl ?_
               refine hK177 n178 _ _ (Nat.lt_succ_self _) ?_
               exact ⟨f234, s243, s262, (out184.set (x192).toNat vt232), (full188.set (x192).toNat true), (w64 (x192 + 1)), (fun i_ => [Value.int .i64 x192, Value.int .i64 (rd vf6.Counts x192), Value.bool true, Value.int .i64 x192, Value.pointer (some ⟨b214, of215 + (x192 : Int).toNat * 1, none⟩), Value.int .i64 (rd vf6.Counts x192), Value.slice (some ⟨b60, 0, none⟩) (out184.set (x192).toNat vt232).length ((bias2.length : Int)).toNat, Value.int .i64 x192, (ag_Camera vk1), Value.slice A3 bias2.length c4, Value.int .i64 x192, Value.pointer (some ⟨b229, of230 + (x192 : Int).toNat * 3, none⟩), (ag_Bound (rd bias2 x192)), Value.int .i64 (rd vf6.Counts x192), (ag_Bound vt232), Value.pointer (some ⟨b60, 0 + (x192 : Int).toNat * 3, none⟩), Value.slice (some ⟨b69, 0, none⟩) (full188.set (x192).toNat true).length ((bias2.length : Int)).toNat, Value.int .i64 x192, Value.slice (some ⟨b60, 0, none⟩) (out184.set (x192).toNat vt232).length ((bias2.length : Int)).toNat, Value.int .i64 x192, Value.pointer (some ⟨b60, 0 + (x192 : Int).toNat * 3, none⟩), Value.pointer (some ⟨b60, 0 + (x192 : Int).toNat * 3 + 2, none⟩), Value.bool true, Value.bool true, undef, undef, undef, undef, undef, undef, undef, undef, Value.bool true, Value.pointer (some ⟨b69, 0 + (x192 : Int).toNat * 1, none⟩), Value.int .i64 (w64 (x192 + 1))].getD i_ undef), (L180.trans L235), HS263, HO245, (List.length_set.trans HL187), HO264, (List.length_set.trans HL191), h, kr⟩
             · have c256 : ¬ (((rd (out184.set (x192).toNat vt232) x192).Unknown) = true) := c256
               refine gateRwI 81 (x := (rd (out184.set (x192).toNat vt232) x192).Unknown) (v := false) kr (Bool.eq_false_iff.mpr c256) ?_
               refine gateRwI 82 (x := (rd (out184.set (x192).toNat vt232) x192).Unknown) (v := false) kr (Bool.eq_false_iff.mpr c256) ?_
               refine takeGL [8, 9] (n := 11) (fuel := 9) #[true, true, true, true, true, true, true, true, true, true, false, false, false, false, false, false, false, false, false] rfl kr kr kr (fun ch_ a_ w_ q_ => (fun ch_ a_ w_ q_ => hnp ch_ a_ w_ (hp84 ch_ a_ w_ q_)) ch_ a_ w_ (hp206 ch_ a_ w_ q_)) (Sg.g1 (Sx.of [s189] (FM.le.refl _) HS251) (fun _ => St.only [] HS251 (FM.le.refl _))) ?_
               refine takeGQ 10 [] rfl kr kr kr kr kr kr (fun ch_ a_ w_ q_ => (fun ch_ a_ w_ q_ => hnp ch_ a_ w_ (hp84 ch_ a_ w_ q_)) ch_ a_ w_ (hp206 ch_ a_ w_ q_)) (Sg.g1 (Sx.of [s189] (FM.le.refl _) HS251) (fun _ => St.only [] HS251 (FM.le.refl _))) (fun w_ hw_ => by obtain ⟨g_, hl_, hS_⟩ := hw_.st; exact run_index (sz := 3) rfl Tryz.underlying46 kr (kv (.slice (some ⟨b60, 0, none⟩) (out184.set (x192).toNat vt232).length ((bias2.length : Int)).toNat)) (kv (.int .i64 x192)) c210 c252 w_) ?_
               refine takeGL [11] (n := 8) (fuel := 7) #[true, true, true, true, true, true, true, true, true, true, true, true, false, false, false, false, false, false, false] rfl kr kr kr (fun ch_ a_ w_ q_ => (fun ch_ a_ w_ q_ => hnp ch_ a_ w_ (hp84 ch_ a_ w_ q_)) ch_ a_ w_ (hp206 ch_ a_ w_ q_)) (Sg.g1 (Sx.of [s189] (FM.le.refl _) HS251) (fun _ => St.only [] HS251 (FM.le.refl _))) ?_
               refine takeGQ 12 [] rfl kr kr kr kr kr kr (fun ch_ a_ w_ q_ => (fun ch_ a_ w_ q_ => hnp ch_ a_ w_ (hp84 ch_ a_ w_ q_)) ch_ a_ w_ (hp206 ch_ a_ w_ q_)) (Sg.g1 (Sx.of [s189] (FM.le.refl _) HS251) (fun _ => St.only [] HS251 (FM.le.refl _))) (fun w_ hw_ => by obtain ⟨g_, hl_, hS_⟩ := hw_.st; exact run_load rfl Tryz.underlying28 rfl (kv (.pointer (some ⟨b60, 0 + (x192 : Int).toNat * 3 + 1, none⟩))) ((hc255 hS_) 1 (by decide))) ?_
               refine takeGL [13] (n := 6) (fuel := 5) #[true, true, true, true, true, true, true, true, true, true, true, true, true, true, false, false, false, false, false] rfl kr kr kr (fun ch_ a_ w_ q_ => (fun ch_ a_ w_ q_ => hnp ch_ a_ w_ (hp84 ch_ a_ w_ q_)) ch_ a_ w_ (hp206 ch_ a_ w_ q_)) (Sg.g1 (Sx.of [s189] (FM.le.refl _) HS251) (fun _ => St.only [] HS251 (FM.le.refl _))) ?_
               refine takeGQ 14 [] rfl kr kr kr kr kr kr (fun ch_ a_ w_ q_ => (fun ch_ a_ w_ q_ => hnp ch_ a_ w_ (hp84 ch_ a_ w_ q_)) ch_ a_ w_ (hp206 ch_ a_ w_ q_)) (Sg.g1 (Sx.of [s189] (FM.le.refl _) HS251) (fun _ => St.only [] HS251 (FM.le.refl _))) (fun w_ hw_ => by obtain ⟨g_, hl_, hS_⟩ := hw_.st; exact run_load rfl Tryz.underlying28 rfl (kv (.pointer (some ⟨b15, 2, none⟩))) (hS_.u2.cell 2)) ?_
               have hq_ := guard_some h; clear h; obtain ⟨c265, h⟩ := hq_
               have c265 : x192 < (full188.length : Int) := c265
               obtain ⟨cs266, hr267, hc268⟩ := (HO190.mono L235).at' (i := x192) c210 c265
               obtain rfl := hr267
               refine takeGL [15, 16] (n := 4) (fuel := 2) #[true, true, true, true, true, true, true, true, true, true, true, true, true, true, true, true, true, false, false] rfl kr kr kr (fun ch_ a_ w_ q_ => (fun ch_ a_ w_ q_ => hnp ch_ a_ w_ (hp84 ch_ a_ w_ q_)) ch_ a_ w_ (hp206 ch_ a_ w_ q_)) (Sg.g1 (Sx.of [s189] (FM.le.refl _) HS251) (fun _ => St.only [] HS251 (FM.le.refl _))) ?_
               refine takeGQ 17 [] rfl kr kr kr kr kr kr (fun ch_ a_ w_ q_ => (fun ch_ a_ w_ q_ => hnp ch_ a_ w_ (hp84 ch_ a_ w_ q_)) ch_ a_ w_ (hp206 ch_ a_ w_ q_)) (Sg.g1 (Sx.of [s189] (FM.le.refl _) HS251) (fun _ => St.only [] HS251 (FM.le.refl _))) (fun w_ hw_ => by obtain ⟨g_, hl_, hS_⟩ := hw_.st; exact run_index (sz := 1) rfl Tryz.underlying81 kr (kv (.slice (some ⟨b69, 0, none⟩) full188.length ((bias2.length : Int)).toNat)) (kv (.int .i64 x192)) c210 c265 w_) ?_
               refine takeGE 18 kr rfl kr (does_put (e := tBool) (E := 4) (vs := [.bool (decide (((rd (out184.set (x192).toNat vt232) x192).Hi) ≥ vk1.Full))]) (u := (decide (((rd (out184.set (x192).toNat vt232) x192).Hi) ≥ vk1.Full))) (i := x192) rfl kr (HO190.mono L235) HS251 rfl (kv (.pointer (some ⟨b69, 0 + (x192 : Int).toNat * 1, none⟩))) (kv (.bool (decide (((rd (out184.set (x192).toNat vt232) x192).Hi) ≥ vk1.Full)))) rfl rfl c210 c265 ?_)
               intro W269 s270 HS271 HO272
               refine ⟨(Sg.g1 (Sx.of [s270] (FM.le.refl _) HS271) (fun hl_ => Bool.noConfusion (show true = false from hl_))), ?_⟩
               refine gateRwS 10 (A := (some ⟨b69, 0, none⟩)) (m := full188.length) (n := (full188.set (x192).toNat (decide (((rd (out184.set (x192).toNat vt232) x192).Hi) ≥ vk1.Full))).length) (c := ((bias2.length : Int)).toNat) kr (List.length_set).symm ?_
               refine gateRwS 75 (A := (some ⟨b69, 0, none⟩)) (m := full188.length) (n := (full188.set (x192).toNat (decide (((rd (out184.set (x192).toNat vt232) x192).Hi) ≥ vk1.Full))).length) (c := ((bias2.length : Int)).toNat) kr (List.length_set).symm ?_
               refine doneG kr ?_ _
               refine hn203 _ _ ?_
               refine hK200 _ _ ?_
               refine rl ?_
               refine seqL2 kr ?_
               refine nl ?_
               refine hK177 n178 _ _ (Nat.lt_succ_self _) ?_
               exact ⟨f234, s243, s270, (out184.set (x192).toNat vt232), (full188.set (x192).toNat (decide (((rd (out184.set (x192).toNat vt232) x192).Hi) ≥ vk1.Full))), (w64 (x192 + 1)), (fun i_ => [Value.int .i64 x192, Value.int .i64 (rd vf6.Counts x192), Value.bool true, Value.int .i64 x192, Value.pointer (some ⟨b214, of215 + (x192 : Int).toNat * 1, none⟩), Value.int .i64 (rd vf6.Counts x192), Value.slice (some ⟨b60, 0, none⟩) (out184.set (x192).toNat vt232).length ((bias2.length : Int)).toNat, Value.int .i64 x192, (ag_Camera vk1), Value.slice A3 bias2.length c4, Value.int .i64 x192, Value.pointer (some ⟨b229, of230 + (x192 : Int).toNat * 3, none⟩), (ag_Bound (rd bias2 x192)), Value.int .i64 (rd vf6.Counts x192), (ag_Bound vt232), Value.pointer (some ⟨b60, 0 + (x192 : Int).toNat * 3, none⟩), Value.slice (some ⟨b69, 0, none⟩) (full188.set (x192).toNat (decide (((rd (out184.set (x192).toNat vt232) x192).Hi) ≥ vk1.Full))).length ((bias2.length : Int)).toNat, Value.int .i64 x192, Value.slice (some ⟨b60, 0, none⟩) (out184.set (x192).toNat vt232).length ((bias2.length : Int)).toNat, Value.int .i64 x192, Value.pointer (some ⟨b60, 0 + (x192 : Int).toNat * 3, none⟩), Value.pointer (some ⟨b60, 0 + (x192 : Int).toNat * 3 + 2, none⟩), Value.bool false, Value.bool false, Value.slice (some ⟨b60, 0, none⟩) (out184.set (x192).toNat vt232).length ((bias2.length : Int)).toNat, Value.int .i64 x192, Value.pointer (some ⟨b60, 0 + (x192 : Int).toNat * 3, none⟩), Value.pointer (some ⟨b60, 0 + (x192 : Int).toNat * 3 + 1, none⟩), Value.int .i64 ((rd (out184.set (x192).toNat vt232) x192).Hi), Value.pointer (some ⟨b15, 2, none⟩), Value.int .i64 vk1.Full, Value.bool (decide (((rd (out184.set (x192).toNat vt232) x192).Hi) ≥ vk1.Full)), Value.bool (decide (((rd (out184.set (x192).toNat vt232) x192).Hi) ≥ vk1.Full)), Value.pointer (some ⟨b69, 0 + (x192 : Int).toNat * 1, none⟩), Value.int .i64 (w64 (x192 + 1))].getD i_ undef), (L180.trans L235), HS271, HO245, (List.length_set.trans HL187), HO272, (List.length_set.trans HL191), h, kr⟩
           · have c198 : ¬ (x192 < (vf6.Counts.length : Int)) := c198
             refine wpRwI 61 (x := (decide (x192 < (vf6.Counts.length : Int)))) (v := false) kr (decide_eq_false c198) ?_
             refine condF kr ?_
             refine wp_exit ?_
             refine hx80 _ _ ?_
             exact J287 f179 s185 s189 out184 full188 (fun i_ => [(j183 0), (j183 1), Value.slice (some ⟨b60, 0, none⟩) (List.replicate ((bias2.length : Int)).toNat ((⟨0, 0, false⟩ : S_Bound) : S_Bound)).length ((bias2.length : Int)).toNat, Value.slice (some ⟨b69, 0, none⟩) (List.replicate ((bias2.length : Int)).toNat (false : Bool)).length ((bias2.length : Int)).toNat, Value.int .i64 x192, Value.bool false, (j183 3), (j183 4), (j183 5), (j183 6), (j183 7), (j183 8), (j183 9), (j183 10), (j183 11), (j183 12), (j183 13), (j183 14), (j183 15), (j183 16), (j183 17), (j183 18), (j183 19), (j183 20), (j183 21), (j183 22), (j183 23), (j183 24), (j183 25), (j183 26), (j183 27), (j183 28), (j183 29), (j183 30), (j183 31), (j183 32), (j183 33), (j183 34)].getD i_ undef) W181 _ L180 h HS182 HO186 HL187 HO190 HL191 kr

set_option maxRecDepth 100000 in
set_option maxHeartbeats 4000000 in
theorem bound_vague_Count.calls (k : Nat)  (a1 : S_Bound) (b2 : S_Bound) {t w : World} {f : FM} {H : List Seg} (HS : St t w f (H)) (rr1 : Bool) (h : bound_vague_Count k a1 b2 = some rr1) :
    Calls Tryz.prog 60 #[.agg #[.int .i64 a1.Lo, .int .i64 a1.Hi, .bool a1.Unknown], .agg #[.int .i64 b2.Lo, .int .i64 b2.Hi, .bool b2.Unknown]] w (fun e w' => ∃ (g : FM), e = .returned (Value.bool rr1) ∧ FM.le f g ∧ St t w' g (H)) := by
 unfold bound_vague_Count at h
 refine enter Tryz.func60 rfl (tm := #[(ag_Bound a1), (ag_Bound b2), uV, uV, uV, uV, uV, uV, uV, uV, uV, uV, uV]) kr ?_
 intro B hret hnor hnp
 refine wp_seq_k fun K3 hK4 => rl ?_
 refine seqK rfl (does_box (cs := #[.int .i64 a1.Lo, .int .i64 a1.Hi, .bool a1.Unknown]) rfl (kv (.agg #[.int .i64 a1.Lo, .int .i64 a1.Hi, .bool a1.Unknown])) rfl HS ?_)
 intro b5 W6 HS7
 refine seqK rfl (does_box (cs := #[.int .i64 b2.Lo, .int .i64 b2.Hi, .bool b2.Unknown]) rfl (kv (.agg #[.int .i64 b2.Lo, .int .i64 b2.Hi, .bool b2.Unknown])) rfl HS7 ?_)
 intro b9 W10 HS11
 refine seqL1 kr ?_
 refine nl (hK4 _ _ ?_)
 refine wp_seq_k fun K13 hK14 => rl ?_
 refine seqK rfl (does_run (run_loadN (n := 3) rfl Tryz.underlying43 rfl kr (kv (.pointer (some ⟨b5, 0, none⟩))) (cs := [.int .i64 a1.Lo, .int .i64 a1.Hi, .bool a1.Unknown]) rfl (HS11.u1.cells 0 3 _ rfl)) ?_)
 have hq_ := bind_some h; clear h; obtain ⟨vt15, hc16, h⟩ := hq_
 refine seqK rfl (does_call (f := 26) (args := #[.agg #[.int .i64 a1.Lo, .int .i64 a1.Hi, .bool a1.Unknown]]) kr (bound_Norm_Count.calls k a1 HS11 vt15 hc16) ?_)
 rintro _ W19 ⟨f17, rfl, L18, HS20⟩
 refine ⟨_, rfl, ?_⟩
 refine seqL2 kr ?_
 have hq_ := ite_some h; clear h; rcases hq_ with ⟨c21, h⟩ | ⟨c21, h⟩
 · have c21 : vt15.Unknown = true := c21
   refine seqRwI 7 (x := vt15.Unknown) (v := true) kr c21 ?_
   refine seqRwI 8 (x := vt15.Unknown) (v := true) kr c21 ?_
   refine seqL5 kr ?_
   refine nl (hK14 _ _ ?_)
   refine wp_ret ?_
   refine hret _ _ ?_
   refine ends_still (v := Value.bool true) kr kr ?_
   have HS28 := HS20.drop
   have HS29 := HS28.drop
   injection h with h
   subst h
   exact ⟨f17, rfl, L18, HS29⟩
 · have c21 : ¬ (vt15.Unknown = true) := c21
   refine seqRwI 7 (x := vt15.Unknown) (v := false) kr (Bool.eq_false_iff.mpr c21) ?_
   refine seqRwI 8 (x := vt15.Unknown) (v := false) kr (Bool.eq_false_iff.mpr c21) ?_
   refine seqG kr (does_run (run_loadN (n := 3) rfl Tryz.underlying43 rfl kr (kv (.pointer (some ⟨b9, 0, none⟩))) (cs := [.int .i64 b2.Lo, .int .i64 b2.Hi, .bool b2.Unknown]) rfl (HS20.cells 0 3 _ rfl)) ?_)
   have hq_ := bind_some h; clear h; obtain ⟨vt22, hc23, h⟩ := hq_
   refine seqG kr (does_call (f := 26) (args := #[.agg #[.int .i64 b2.Lo, .int .i64 b2.Hi, .bool b2.Unknown]]) kr (bound_Norm_Count.calls k b2 HS20 vt22 hc23) ?_)
   rintro _ W26 ⟨f24, rfl, L25, HS27⟩
   refine ⟨_, rfl, ?_⟩
   refine seqL3 kr ?_
   refine nl (hK14 _ _ ?_)
   refine wp_ret ?_
   refine hret _ _ ?_
   refine ends_still (v := Value.bool vt22.Unknown) kr kr ?_
   have HS30 := HS27.drop
   have HS31 := HS30.drop
   injection h with h
   subst h
   exact ⟨f24, rfl, (L18.trans L25), HS31⟩

set_option maxRecDepth 100000 in
set_option maxHeartbeats 4000000 in
theorem bound_Has_Count.calls (k : Nat)  (b1 : S_Bound) (v2 : Int) {t w : World} {f : FM} {H : List Seg} (HS : St t w f (H)) (rr1 : Bool) (h : bound_Has_Count k b1 v2 = some rr1) :
    Calls Tryz.prog 78 #[.agg #[.int .i64 b1.Lo, .int .i64 b1.Hi, .bool b1.Unknown], .int .i64 v2] w (fun e w' => ∃ (g : FM), e = .returned (Value.bool rr1) ∧ FM.le f g ∧ St t w' g (H)) := by
 unfold bound_Has_Count at h
 refine enter Tryz.func78 rfl (tm := #[(ag_Bound b1), iV v2, uV, uV, uV, uV, uV, uV, uV, uV, uV, uV, uV, uV, uV, uV, uV, uV, uV, uV]) kr ?_
 intro B hret hnor hnp
 refine wp_seq_k fun K3 hK4 => rl ?_
 refine seqK rfl (does_box (cs := #[.int .i64 b1.Lo, .int .i64 b1.Hi, .bool b1.Unknown]) rfl (kv (.agg #[.int .i64 b1.Lo, .int .i64 b1.Hi, .bool b1.Unknown])) rfl HS ?_)
 intro b5 W6 HS7
 refine seqL1 kr ?_
 refine nl (hK4 _ _ ?_)
 refine wp_seq_k fun K9 hK10 => rl ?_
 refine seqK rfl (does_run (run_loadN (n := 3) rfl Tryz.underlying43 rfl kr (kv (.pointer (some ⟨b5, 0, none⟩))) (cs := [.int .i64 b1.Lo, .int .i64 b1.Hi, .bool b1.Unknown]) rfl (HS7.cells 0 3 _ rfl)) ?_)
 refine seqK rfl (does_run (run_loadN (n := 3) rfl Tryz.underlying43 rfl kr (kv (.pointer (some ⟨b5, 0, none⟩))) (cs := [.int .i64 b1.Lo, .int .i64 b1.Hi, .bool b1.Unknown]) rfl (HS7.cells 0 3 _ rfl)) ?_)
 have hq_ := bind_some h; clear h; obtain ⟨vt11, hc12, h⟩ := hq_
 refine seqK rfl (does_call (f := 60) (args := #[.agg #[.int .i64 b1.Lo, .int .i64 b1.Hi, .bool b1.Unknown], .agg #[.int .i64 b1.Lo, .int .i64 b1.Hi, .bool b1.Unknown]]) kr (bound_vague_Count.calls k b1 b1 HS7 vt11 hc12) ?_)
 rintro _ W15 ⟨f13, rfl, L14, HS16⟩
 refine ⟨_, rfl, ?_⟩
 refine seqL1 kr ?_
 have hq_ := ite_some h; clear h; rcases hq_ with ⟨c17, h⟩ | ⟨c17, h⟩
 · have c17 : vt11 = true := c17
   refine seqRwI 7 (x := vt11) (v := true) kr c17 ?_
   refine seqRwI 8 (x := vt11) (v := true) kr c17 ?_
   refine seqL12 kr ?_
   refine nl (hK10 _ _ ?_)
   refine wp_ret ?_
   refine hret _ _ ?_
   refine ends_still (v := Value.bool true) kr kr ?_
   have HS19 := HS16.drop
   injection h with h
   subst h
   exact ⟨f13, rfl, L14, HS19⟩
 · have c17 : ¬ (vt11 = true) := c17
   refine seqRwI 7 (x := vt11) (v := false) kr (Bool.eq_false_iff.mpr c17) ?_
   refine seqRwI 8 (x := vt11) (v := false) kr (Bool.eq_false_iff.mpr c17) ?_
   refine seqL1 kr ?_
   refine seqG kr (does_run (run_load rfl Tryz.underlying41 rfl (kv (.pointer (some ⟨b5, 0, none⟩))) (HS16.cell 0)) ?_)
   refine seqL3 kr ?_
   have hq_ := ite_some h; clear h; rcases hq_ with ⟨c18, h⟩ | ⟨c18, h⟩
   · have c18 : b1.Lo ≤ v2 := c18
     refine seqRwI 12 (x := (decide (b1.Lo ≤ v2))) (v := true) kr (decide_eq_true c18) ?_
     refine seqRwI 13 (x := (decide (b1.Lo ≤ v2))) (v := true) kr (decide_eq_true c18) ?_
     refine seqL2 kr ?_
     refine seqG kr (does_run (run_load rfl Tryz.underlying41 rfl (kv (.pointer (some ⟨b5, 1, none⟩))) (HS16.cell 1)) ?_)
     refine seqL4 kr ?_
     refine nl (hK10 _ _ ?_)
     refine wp_ret ?_
     refine hret _ _ ?_
     refine ends_still (v := Value.bool (decide (v2 ≤ b1.Hi))) kr kr ?_
     have HS20 := HS16.drop
     injection h with h
     subst h
     exact ⟨f13, rfl, L14, HS20⟩
   · have c18 : ¬ (b1.Lo ≤ v2) := c18
     refine seqRwI 12 (x := (decide (b1.Lo ≤ v2))) (v := false) kr (decide_eq_false c18) ?_
     refine seqRwI 13 (x := (decide (b1.Lo ≤ v2))) (v := false) kr (decide_eq_false c18) ?_
     refine seqL7 kr ?_
     refine nl (hK10 _ _ ?_)
     refine wp_ret ?_
     refine hret _ _ ?_
     refine ends_still (v := Value.bool false) kr kr ?_
     have HS21 := HS16.drop
     injection h with h
     subst h
     exact ⟨f13, rfl, L14, HS21⟩

set_option maxRecDepth 100000 in
set_option maxHeartbeats 4000000 in
theorem bound_Votes_Count.calls (k : Nat) (A2 : Option Addr) (c3 : Nat) (l1 : List S_Bound) (v5 : Int) {t w : World} {f : FM} {H : List Seg} (HS : St t w f (H)) (HR4 : SlR ty_Bound f A2 c3 l1) (rr1 : Int) (h : bound_Votes_Count k l1 v5 = some rr1) :
    Calls Tryz.prog 62 #[.slice A2 l1.length c3, .int .i64 v5] w (fun e w' => ∃ (g : FM), e = .returned (Value.int .i64 rr1) ∧ FM.le f g ∧ St t w' g (H)) := by
 unfold bound_Votes_Count at h
 refine enter Tryz.func62 rfl (tm := #[.slice A2 l1.length c3, iV v5, uV, uV, uV, uV, uV, uV, uV, uV, uV, uV, uV, uV, uV, uV, uV, uV, uV, uV, uV, uV, uV, uV, uV, uV, uV]) kr ?_
 intro B hret hnor hnp
 refine wp_seq_k fun K6 hK7 => rl ?_
 refine seqL1 kr ?_
 refine nl (hK7 _ _ ?_)
 refine wp_seq_k fun K8 hK9 => rl ?_
 refine seqL1 kr ?_
 refine nl (hK9 _ _ ?_)
 refine wp_seq_k (fun K10 hK11 => ?_)
 refine wp_seq_k fun K12 hK13 => rl ?_
 refine seqL3 kr ?_
 refine nl (hK13 _ _ ?_)
 refine blockK (fun B14 hx15 hn16 hr17 ho18 hp19 => ?_)
 have hq_ := bind_some h; clear h; obtain ⟨o20, hv84, h⟩ := hq_
 have J85 : ∀ (f78 : FM) (n83 : Int) (j82 : Nat → Value) (W80 : World) (a_ : Act), FM.le f f78 → some (n83) = some o20 → St t W80 f78 (H) → a_ = ⟨#[.slice A2 l1.length c3, iV v5, uV, uV, iV 0, iV n83, uV, (j82 0), .slice A2 l1.length c3, iV (l1.length : Int), (j82 1), (j82 2), (j82 3), (j82 4), (j82 5), (j82 6), (j82 7), (j82 8), (j82 9), (j82 10), (j82 11), (j82 12), (j82 13), (j82 14), (j82 15), (j82 16), uV], []⟩ → K10 a_ W80 := by
  intro f78 n83 j82 W80 a_ L79 hj86 HS81  hfr_; subst hfr_
  injection hj86 with hj86; subst hj86; try dsimp only at h
  refine hK11 _ _ ?_
  refine wp_seq_k fun K90 hK91 => rl ?_
  refine seqL2 kr ?_
  refine nl (hK91 _ _ ?_)
  refine wp_ret ?_
  refine hret _ _ ?_
  refine ends_still (v := Value.int .i64 n83) kr kr ?_
  injection h with h
  subst h
  exact ⟨f78, rfl, L79, HS81⟩
 clear h; have h := hv84; clear hv84
 refine loopK (fun n_ a_ w_ => ∃ (f24 : FM) (n29 : Int) (x30 : Int) (j28 : Nat → Value), FM.le f f24 ∧ St t w_ f24 (H) ∧ bound_Votes_Count.l0 k l1 v5 n_ n29 x30 = some o20 ∧ a_ = ⟨#[.slice A2 l1.length c3, iV v5, uV, uV, iV 0, iV n29, uV, (j28 0), .slice A2 l1.length c3, iV (l1.length : Int), iV x30, (j28 1), (j28 2), (j28 3), (j28 4), (j28 5), (j28 6), (j28 7), (j28 8), (j28 9), (j28 10), (j28 11), (j28 12), (j28 13), (j28 14), (j28 15), uV], []⟩) k ⟨f, 0, 0, (fun i_ => [undef, undef, undef, undef, undef, undef, undef, undef, undef, undef, undef, undef, undef, undef, undef, undef].getD i_ undef), (FM.le.refl _), HS, h, kr⟩ ?_
 clear h
 rintro n23 _ W26 ⟨f24, n29, x30, j28, L25, HS27, h, rfl⟩ K21 hK22
 obtain _ | n23 := n23
 · exact nomatch h
 simp only [bound_Votes_Count.l0] at h
 refine wp_seq_k fun K31 hK32 => rl ?_
 refine seqL1 kr ?_
 refine nl (hK32 _ _ ?_)
 refine wp_seq_k (fun K33 hK34 => ?_)
 have hq_ := ite_some h; clear h; rcases hq_ with ⟨c36, h⟩ | ⟨c36, h⟩
 · have c36 : x30 < (l1.length : Int) := c36
   refine wpRwI 11 (x := (decide (x30 < (l1.length : Int)))) (v := true) kr (decide_eq_true c36) ?_
   refine condT kr ?_
   refine wp_skip ?_
   refine hK34 _ _ ?_
   refine wp_seq_k (fun K37 hK38 => ?_)
   refine blockK (fun B39 hx40 hn41 hr42 ho43 hp44 => ?_)
   refine wp_seq_k fun K46 hK47 => rl ?_
   have hq_ := guard_some h; clear h; obtain ⟨c48, h⟩ := hq_
   have c48 : 0 ≤ x30 := c48
   obtain ⟨b52, of53, cs49, hA54, hr50, hc51⟩ := (HR4.mono L25).at (i := x30) c48 c36
   obtain rfl := hr50
   refine seqK rfl (does_run (run_indexE hA54 (sz := 3) rfl Tryz.underlying40 kr (kv (.slice A2 l1.length c3)) (kv (.int .i64 x30)) c48 c36 W26) ?_)
   refine seqK rfl (does_run (run_loadN (n := 3) rfl Tryz.underlying43 rfl kr (kv (.pointer (some ⟨b52, of53 + (x30 : Int).toNat * 3, none⟩))) (cs := [.int .i64 ((rd l1 x30).Lo), .int .i64 ((rd l1 x30).Hi), .bool ((rd l1 x30).Unknown)]) rfl (fun j_ hj_ => ((hc51 (FM.le.refl _) HS27) j_ hj_))) ?_)
   refine seqK rfl (does_alloc (z := Value.agg #[.int .i64 0, .int .i64 0, .bool false]) (cs := #[.int .i64 0, .int .i64 0, .bool false]) rfl kr rfl HS27 ?_)
   intro b55 W56 HS57
   refine seqK rfl (does_store (n := 3) (vs := [.int .i64 ((rd l1 x30).Lo), .int .i64 ((rd l1 x30).Hi), .bool ((rd l1 x30).Unknown)]) (cs' := #[.int .i64 ((rd l1 x30).Lo), .int .i64 ((rd l1 x30).Hi), .bool ((rd l1 x30).Unknown)]) rfl kr (kv (.pointer (some ⟨b55, 0, none⟩))) (kv (.agg #[.int .i64 ((rd l1 x30).Lo), .int .i64 ((rd l1 x30).Hi), .bool ((rd l1 x30).Unknown)])) rfl rfl (by intro u_ hu_; simp only [List.mem_cons, List.not_mem_nil, or_false] at hu_; rcases hu_ with rfl | rfl | rfl <;> rfl) HS57 (Nat.le_of_ble_eq_true rfl) kr ?_)
   intro W59 HS60
   refine nl (hK47 _ _ ?_)
   refine wp_seq_k fun K61 hK62 => rl ?_
   refine seqK rfl (does_run (run_loadN (n := 3) rfl Tryz.underlying43 rfl kr (kv (.pointer (some ⟨b55, 0, none⟩))) (cs := [.int .i64 ((rd l1 x30).Lo), .int .i64 ((rd l1 x30).Hi), .bool ((rd l1 x30).Unknown)]) rfl (HS60.cells 0 3 _ rfl)) ?_)
   refine seqK rfl (does_run (run_loadN (n := 3) rfl Tryz.underlying43 rfl kr (kv (.pointer (some ⟨b55, 0, none⟩))) (cs := [.int .i64 ((rd l1 x30).Lo), .int .i64 ((rd l1 x30).Hi), .bool ((rd l1 x30).Unknown)]) rfl (HS60.cells 0 3 _ rfl)) ?_)
   have hq_ := bind_some h; clear h; obtain ⟨vt63, hc64, h⟩ := hq_
   refine seqK rfl (does_call (f := 60) (args := #[.agg #[.int .i64 ((rd l1 x30).Lo), .int .i64 ((rd l1 x30).Hi), .bool ((rd l1 x30).Unknown)], .agg #[.int .i64 ((rd l1 x30).Lo), .int .i64 ((rd l1 x30).Hi), .bool ((rd l1 x30).Unknown)]]) kr (bound_vague_Count.calls k (rd l1 x30) (rd l1 x30) HS60 vt63 hc64) ?_)
   rintro _ W67 ⟨f65, rfl, L66, HS68⟩
   refine ⟨_, rfl, ?_⟩
   refine seqL2 kr ?_
   have hq_ := ite_some h; clear h; rcases hq_ with ⟨c69, h⟩ | ⟨c69, h⟩
   · have c69 : ¬ (vt63 = true) := c69
     refine seqRwI 17 (x := (!vt63)) (v := true) kr (congrArg (fun b_ => !b_) (show vt63 = false from (Bool.eq_false_iff.mpr c69)) : (!vt63) = true) ?_
     refine seqRwI 18 (x := (!vt63)) (v := true) kr (congrArg (fun b_ => !b_) (show vt63 = false from (Bool.eq_false_iff.mpr c69)) : (!vt63) = true) ?_
     refine seqG kr (does_run (run_loadN (n := 3) rfl Tryz.underlying43 rfl kr (kv (.pointer (some ⟨b55, 0, none⟩))) (cs := [.int .i64 ((rd l1 x30).Lo), .int .i64 ((rd l1 x30).Hi), .bool ((rd l1 x30).Unknown)]) rfl (HS68.cells 0 3 _ rfl)) ?_)
     have hq_ := bind_some h; clear h; obtain ⟨vt70, hc71, h⟩ := hq_
     refine seqL1 kr ?_
     refine seqG kr (does_call (f := 78) (args := #[.agg #[.int .i64 ((rd l1 x30).Lo), .int .i64 ((rd l1 x30).Hi), .bool ((rd l1 x30).Unknown)], .int .i64 v5]) kr (bound_Has_Count.calls k (rd l1 x30) v5 HS68 vt70 hc71) ?_)
     rintro _ W74 ⟨f72, rfl, L73, HS75⟩
     refine ⟨_, rfl, ?_⟩
     refine seqL1 kr ?_
     refine nl (hK62 _ _ ?_)
     have hq_ := ite_some h; clear h; rcases hq_ with ⟨c77, h⟩ | ⟨c77, h⟩
     · have c77 : vt70 = true := c77
       refine wpRwI 21 (x := vt70) (v := true) kr c77 ?_
       refine wpRwI 22 (x := vt70) (v := true) kr c77 ?_
       refine condT kr ?_
       refine rl ?_
       refine seqL3 kr ?_
       refine nl ?_
       refine hn41 _ _ ?_
       refine hK38 _ _ ?_
       refine rl ?_
       refine seqL2 kr ?_
       refine nl ?_
       refine hK22 n23 _ _ (Nat.lt_succ_self _) ?_
       have HS87 := HS75.drop
       exact ⟨f72, (w64 (n29 + 1)), (w64 (x30 + 1)), (fun i_ => [Value.pointer (some ⟨b55, 0, none⟩), Value.bool true, Value.pointer (some ⟨b52, of53 + (x30 : Int).toNat * 3, none⟩), (ag_Bound (rd l1 x30)), (ag_Bound (rd l1 x30)), (ag_Bound (rd l1 x30)), Value.bool vt63, Value.bool true, Value.bool true, (ag_Bound (rd l1 x30)), Value.int .i64 v5, Value.bool true, Value.bool true, Value.int .i64 n29, Value.int .i64 (w64 (n29 + 1)), Value.int .i64 (w64 (x30 + 1))].getD i_ undef), (L25.trans (L66.trans L73)), HS87, h, kr⟩
     · have c77 : ¬ (vt70 = true) := c77
       refine wpRwI 21 (x := vt70) (v := false) kr (Bool.eq_false_iff.mpr c77) ?_
       refine wpRwI 22 (x := vt70) (v := false) kr (Bool.eq_false_iff.mpr c77) ?_
       refine condF kr ?_
       refine wp_skip ?_
       refine hn41 _ _ ?_
       refine hK38 _ _ ?_
       refine rl ?_
       refine seqL2 kr ?_
       refine nl ?_
       refine hK22 n23 _ _ (Nat.lt_succ_self _) ?_
       have HS88 := HS75.drop
       exact ⟨f72, n29, (w64 (x30 + 1)), (fun i_ => [Value.pointer (some ⟨b55, 0, none⟩), Value.bool true, Value.pointer (some ⟨b52, of53 + (x30 : Int).toNat * 3, none⟩), (ag_Bound (rd l1 x30)), (ag_Bound (rd l1 x30)), (ag_Bound (rd l1 x30)), Value.bool vt63, Value.bool true, Value.bool true, (ag_Bound (rd l1 x30)), Value.int .i64 v5, Value.bool false, Value.bool false, (j28 13), (j28 14), Value.int .i64 (w64 (x30 + 1))].getD i_ undef), (L25.trans (L66.trans L73)), HS88, h, kr⟩
   · have c69 : ¬ (¬ (vt63 = true)) := c69
     refine seqRwI 17 (x := (!vt63)) (v := false) kr (congrArg (fun b_ => !b_) (show vt63 = true from (Decidable.of_not_not c69)) : (!vt63) = false) ?_
     refine seqRwI 18 (x := (!vt63)) (v := false) kr (congrArg (fun b_ => !b_) (show vt63 = true from (Decidable.of_not_not c69)) : (!vt63) = false) ?_
     refine seqL4 kr ?_
     refine nl (hK62 _ _ ?_)
     refine condF kr ?_
     refine wp_skip ?_
     refine hn41 _ _ ?_
     refine hK38 _ _ ?_
     refine rl ?_
     refine seqL2 kr ?_
     refine nl ?_
     refine hK22 n23 _ _ (Nat.lt_succ_self _) ?_
     have HS89 := HS68.drop
     exact ⟨f65, n29, (w64 (x30 + 1)), (fun i_ => [Value.pointer (some ⟨b55, 0, none⟩), Value.bool true, Value.pointer (some ⟨b52, of53 + (x30 : Int).toNat * 3, none⟩), (ag_Bound (rd l1 x30)), (ag_Bound (rd l1 x30)), (ag_Bound (rd l1 x30)), Value.bool vt63, Value.bool false, Value.bool false, undef, undef, undef, Value.bool false, (j28 13), (j28 14), Value.int .i64 (w64 (x30 + 1))].getD i_ undef), (L25.trans L66), HS89, h, kr⟩
 · have c36 : ¬ (x30 < (l1.length : Int)) := c36
   refine wpRwI 11 (x := (decide (x30 < (l1.length : Int)))) (v := false) kr (decide_eq_false c36) ?_
   refine condF kr ?_
   refine wp_exit ?_
   refine hx15 _ _ ?_
   exact J85 f24 n29 (fun i_ => [(j28 0), Value.int .i64 x30, Value.bool false, (j28 2), (j28 3), (j28 4), (j28 5), (j28 6), (j28 7), (j28 8), (j28 9), (j28 10), (j28 11), (j28 12), (j28 13), (j28 14), (j28 15)].getD i_ undef) W26 _ L25 h HS27 kr

set_option maxRecDepth 100000 in
set_option maxHeartbeats 4000000 in
theorem bound_Fuse_Count_1.calls (k : Nat) (b1 : Nat) (A6 : Option Addr) (c7 : Nat) (b3 : Nat) (v5 : List S_Bound) (v9 : Int) (v10 : Int) {t w : World} {f : FM} {H : List Seg} (HS : St t w f ([(b1, .cells #[.slice A6 v5.length c7] 40 (0, 0))] :: [(b3, .cells #[.int .i64 v9] 3 (0, 0))] :: H)) (HR8 : SlR ty_Bound f A6 c7 v5) (rr1 : Bool) (h : bound_Fuse_Count_1 k v5 v9 v10 = some rr1) :
    Calls Tryz.prog 61 #[.int .i64 v10, .pointer (some ⟨b1, 0, none⟩), .pointer (some ⟨b3, 0, none⟩)] w (fun e w' => ∃ (g : FM), e = .returned (Value.bool rr1) ∧ FM.le f g ∧ St t w' g ([(b1, .cells #[.slice A6 v5.length c7] 40 (0, 0))] :: [(b3, .cells #[.int .i64 v9] 3 (0, 0))] :: H)) := by
 unfold bound_Fuse_Count_1 at h
 refine enter Tryz.func61 rfl (tm := #[iV v10, pV b1 0, pV b3 0, uV, uV, uV, uV, uV, uV, uV]) kr ?_
 intro B hret hnor hnp
 refine wp_seq_k fun K11 hK12 => rl ?_
 refine seqL1 kr ?_
 refine nl (hK12 _ _ ?_)
 refine wp_seq_k (fun K13 hK14 => ?_)
 refine heldG (S := Sg t f ([(b1, .cells #[.slice A6 v5.length c7] 40 (0, 0))] :: [(b3, .cells #[.int .i64 v9] 3 (0, 0))] :: H) []) (n := 6) kr rfl HS ?_
 intro W15 HS16
 refine takeGQ 0 [] rfl kr kr kr kr kr kr hnp (Sg.g0 (Sx.of [] (FM.le.refl _) HS16)) (fun w_ hw_ => by obtain ⟨g_, hl_, hS_⟩ := hw_.st; exact run_load rfl Tryz.underlying40 rfl (kv (.pointer (some ⟨b1, 0, none⟩))) (hS_.cell 0)) ?_
 refine takeGL [1] (n := 5) (fuel := 4) #[true, true, false, false, false, false] rfl kr kr kr hnp (Sg.g0 (Sx.of [] (FM.le.refl _) HS16)) ?_
 refine takeGQ 3 [] rfl kr kr kr kr kr kr hnp (Sg.g0 (Sx.of [] (FM.le.refl _) HS16)) (fun w_ hw_ => by obtain ⟨g_, hl_, hS_⟩ := hw_.st; exact run_load rfl Tryz.underlying3 rfl (kv (.pointer (some ⟨b3, 0, none⟩))) (hS_.u1.cell 0)) ?_
 have hq_ := bind_some h; clear h; obtain ⟨vt17, hc18, h⟩ := hq_
 refine takeGE 2 kr rfl kr (does_call (f := 62) (args := #[.slice A6 v5.length c7, .int .i64 v10]) kr (bound_Votes_Count.calls k A6 c7 v5 v10 HS16 HR8 vt17 hc18) ?_)
 rintro _ W21 ⟨f19, rfl, L20, HS22⟩
 refine ⟨_, rfl, ?_⟩
 refine ⟨(Sg.g0 (Sx.of [] L20 HS22)), ?_⟩
 refine takeGL [4, 5] (n := 2) (fuel := 0) #[true, true, true, true, true, true] rfl kr kr kr hnp (Sg.g0 (Sx.of [] L20 HS22)) ?_
 refine doneG kr ?_ _
 refine hK14 _ _ ?_
 refine wp_ret ?_
 refine hret _ _ ?_
 refine ends_still (v := Value.bool (decide (vt17 < v9))) kr kr ?_
 injection h with h
 subst h
 exact ⟨f19, rfl, L20, HS22⟩

set_option maxRecDepth 100000 in
set_option maxHeartbeats 4000000 in
theorem slices_IndexFunc_Count__bound_Fuse_Count_1.calls (k : Nat) (b1 : Nat) (A6 : Option Addr) (c7 : Nat) (b3 : Nat) (A11 : Option Addr) (c12 : Nat) (v5 : List S_Bound) (v9 : Int) (s10 : List Int) {t w : World} {f : FM} {H : List Seg} (HS : St t w f ([(b1, .cells #[.slice A6 v5.length c7] 40 (0, 0))] :: [(b3, .cells #[.int .i64 v9] 3 (0, 0))] :: H)) (HR8 : SlR ty_Bound f A6 c7 v5) (HR13 : SlR (tInt .i64) f A11 c12 s10) (rr1 : Int) (h : slices_IndexFunc_Count__bound_Fuse_Count_1 k v5 v9 s10 = some rr1) :
    Calls Tryz.prog 79 #[.slice A11 s10.length c12, .func (.func 61) #[] #[.pointer (some ⟨b1, 0, none⟩), .pointer (some ⟨b3, 0, none⟩)]] w (fun e w' => ∃ (g : FM), e = .returned (Value.int .i64 rr1) ∧ FM.le f g ∧ St t w' g ([(b1, .cells #[.slice A6 v5.length c7] 40 (0, 0))] :: [(b3, .cells #[.int .i64 v9] 3 (0, 0))] :: H)) := by
 unfold slices_IndexFunc_Count__bound_Fuse_Count_1 at h
 refine enter Tryz.func79 rfl (tm := #[.slice A11 s10.length c12, .func (.func 61) #[] #[pV b1 0, pV b3 0], uV, uV, uV, uV, uV, uV, uV, uV, uV, uV, uV, uV, uV, uV, uV, uV, uV]) kr ?_
 intro B hret hnor hnp
 refine wp_seq_k fun K14 hK15 => rl ?_
 refine seqL1 kr ?_
 refine nl (hK15 _ _ ?_)
 refine wp_seq_k (fun K16 hK17 => ?_)
 refine wp_seq_k fun K18 hK19 => rl ?_
 refine seqL3 kr ?_
 refine nl (hK19 _ _ ?_)
 refine blockK (fun B20 hx21 hn22 hr23 ho24 hp25 => ?_)
 have hq_ := bind_some h; clear h; obtain ⟨o26, hv79, h⟩ := hq_
 have JR81 : ∀ z_, some (Sum.inl z_) = some o26 → some z_ = some rr1 := by
  intro z_ e_; injection e_ with e_; subst e_; exact h
 have J80 : ∀ (f74 : FM) (j78 : Nat → Value) (W76 : World) (a_ : Act), FM.le f f74 → some (Sum.inr ()) = some o26 → St t W76 f74 ([(b1, .cells #[.slice A6 v5.length c7] 40 (0, 0))] :: [(b3, .cells #[.int .i64 v9] 3 (0, 0))] :: H) → a_ = ⟨#[.slice A11 s10.length c12, .func (.func 61) #[] #[pV b1 0, pV b3 0], uV, uV, (j78 0), (j78 1), .slice A11 s10.length c12, iV (s10.length : Int), (j78 2), (j78 3), (j78 4), (j78 5), (j78 6), (j78 7), (j78 8), (j78 9), (j78 10), (j78 11), (j78 12)], []⟩ → K16 a_ W76 := by
  intro f74 j78 W76 a_ L75 hj82 HS77  hfr_; subst hfr_
  injection hj82 with hj82; subst hj82; try dsimp only at h
  simp only [Sum.elim_inr] at h
  refine hK17 _ _ ?_
  refine wp_seq_k fun K83 hK84 => rl ?_
  refine seqL1 kr ?_
  refine nl (hK84 _ _ ?_)
  refine wp_ret ?_
  refine hret _ _ ?_
  refine ends_still (v := Value.int .i64 (-1)) kr kr ?_
  injection h with h
  subst h
  exact ⟨f74, rfl, L75, HS77⟩
 clear h; have h := hv79; clear hv79
 refine loopK (fun n_ a_ w_ => ∃ (f30 : FM) (x35 : Int) (j34 : Nat → Value), FM.le f f30 ∧ St t w_ f30 ([(b1, .cells #[.slice A6 v5.length c7] 40 (0, 0))] :: [(b3, .cells #[.int .i64 v9] 3 (0, 0))] :: H) ∧ slices_IndexFunc_Count__bound_Fuse_Count_1.l0 k s10 v5 v9 n_ x35 = some o26 ∧ a_ = ⟨#[.slice A11 s10.length c12, .func (.func 61) #[] #[pV b1 0, pV b3 0], uV, uV, (j34 0), (j34 1), .slice A11 s10.length c12, iV (s10.length : Int), iV x35, (j34 2), (j34 3), (j34 4), (j34 5), (j34 6), (j34 7), (j34 8), (j34 9), (j34 10), (j34 11)], []⟩) k ⟨f, 0, (fun i_ => [Value.int .i64 0, undef, undef, undef, undef, undef, undef, undef, undef, undef, undef, undef].getD i_ undef), (FM.le.refl _), HS, h, kr⟩ ?_
 clear h
 rintro n29 _ W32 ⟨f30, x35, j34, L31, HS33, h, rfl⟩ K27 hK28
 obtain _ | n29 := n29
 · exact nomatch h
 simp only [slices_IndexFunc_Count__bound_Fuse_Count_1.l0] at h
 refine wp_seq_k fun K36 hK37 => rl ?_
 refine seqL1 kr ?_
 refine nl (hK37 _ _ ?_)
 refine wp_seq_k (fun K38 hK39 => ?_)
 have hq_ := ite_some h; clear h; rcases hq_ with ⟨c41, h⟩ | ⟨c41, h⟩
 · have c41 : x35 < (s10.length : Int) := c41
   refine wpRwI 9 (x := (decide (x35 < (s10.length : Int)))) (v := true) kr (decide_eq_true c41) ?_
   refine condT kr ?_
   refine wp_skip ?_
   refine hK39 _ _ ?_
   refine wp_seq_k (fun K42 hK43 => ?_)
   refine blockK (fun B44 hx45 hn46 hr47 ho48 hp49 => ?_)
   refine wp_seq_k fun K51 hK52 => rl ?_
   refine seqL2 kr ?_
   refine nl (hK52 _ _ ?_)
   refine wp_seq_k fun K53 hK54 => rl ?_
   have hq_ := guard_some h; clear h; obtain ⟨c55, h⟩ := hq_
   have c55 : 0 ≤ x35 := c55
   obtain ⟨b59, of60, cs56, hA61, hr57, hc58⟩ := (HR13.mono L31).at (i := x35) c55 c41
   obtain rfl := hr57
   refine seqL3 kr ?_
   refine seqK rfl (does_run (run_indexE hA61 (sz := 1) rfl Tryz.underlying127 kr (kv (.slice A11 s10.length c12)) (kv (.int .i64 x35)) c55 c41 W32) ?_)
   refine seqK rfl (does_run (run_load rfl Tryz.underlying41 rfl (kv (.pointer (some ⟨b59, of60 + (x35 : Int).toNat * 1, none⟩))) ((hc58 (FM.le.refl _) HS33) 0 (by decide))) ?_)
   have HS62 := HS33.u1
   have HS63 := HS62.u1
   have hq_ := bind_some h; clear h; obtain ⟨vt64, hc65, h⟩ := hq_
   refine seqK rfl (does_call (f := 61) (args := #[.int .i64 (rd s10 x35), .pointer (some ⟨b1, 0, none⟩), .pointer (some ⟨b3, 0, none⟩)]) kr (bound_Fuse_Count_1.calls k b1 A6 c7 b3 v5 v9 (rd s10 x35) HS63 (HR8.mono L31) vt64 hc65) ?_)
   rintro _ W68 ⟨f66, rfl, L67, HS69⟩
   refine ⟨_, rfl, ?_⟩
   refine nl (hK54 _ _ ?_)
   have hq_ := ite_some h; clear h; rcases hq_ with ⟨c71, h⟩ | ⟨c71, h⟩
   · have c71 : vt64 = true := c71
     refine wpRwI 16 (x := vt64) (v := true) kr c71 ?_
     refine condT kr ?_
     refine wp_seq_k fun K72 hK73 => rl ?_
     refine seqL2 kr ?_
     refine nl (hK73 _ _ ?_)
     refine wp_ret ?_
     refine hr47 _ _ ?_
     refine hr23 _ _ ?_
     refine hret _ _ ?_
     refine ends_still (v := Value.int .i64 x35) kr kr ?_
     replace h := JR81 _ h
     injection h with h
     subst h
     exact ⟨f66, rfl, (L31.trans L67), HS69⟩
   · have c71 : ¬ (vt64 = true) := c71
     refine wpRwI 16 (x := vt64) (v := false) kr (Bool.eq_false_iff.mpr c71) ?_
     refine condF kr ?_
     refine wp_skip ?_
     refine hn46 _ _ ?_
     refine hK43 _ _ ?_
     refine rl ?_
     refine seqL2 kr ?_
     refine nl ?_
     refine hK28 n29 _ _ (Nat.lt_succ_self _) ?_
     exact ⟨f66, (w64 (x35 + 1)), (fun i_ => [(j34 0), Value.int .i64 x35, Value.bool true, Value.int .i64 x35, Value.func (.func 61) #[] #[.pointer (some ⟨b1, 0, none⟩), .pointer (some ⟨b3, 0, none⟩)], Value.slice A11 s10.length c12, Value.int .i64 x35, Value.pointer (some ⟨b59, of60 + (x35 : Int).toNat * 1, none⟩), Value.int .i64 (rd s10 x35), Value.bool false, (j34 10), Value.int .i64 (w64 (x35 + 1))].getD i_ undef), (L31.trans L67), HS69, h, kr⟩
 · have c41 : ¬ (x35 < (s10.length : Int)) := c41
   refine wpRwI 9 (x := (decide (x35 < (s10.length : Int)))) (v := false) kr (decide_eq_false c41) ?_
   refine condF kr ?_
   refine wp_exit ?_
   refine hx21 _ _ ?_
   exact J80 f30 (fun i_ => [(j34 0), (j34 1), Value.int .i64 x35, Value.bool false, (j34 3), (j34 4), (j34 5), (j34 6), (j34 7), (j34 8), (j34 9), (j34 10), (j34 11)].getD i_ undef) W32 _ L31 h HS33 kr

set_option maxRecDepth 100000 in
set_option maxHeartbeats 4000000 in
theorem slices_DeleteFunc_Count__bound_Fuse_Count_1.calls (k : Nat) (b1 : Nat) (A6 : Option Addr) (c7 : Nat) (b3 : Nat) (A10 : Option Addr) (c11 : Nat) (s12 : Seg) (v5 : List S_Bound) (v9 : Int) (s14 : List Int) {t w : World} {f : FM} {H : List Seg} (HS : St t w f ([(b1, .cells #[.slice A6 v5.length c7] 40 (0, 0))] :: [(b3, .cells #[.int .i64 v9] 3 (0, 0))] :: s12 :: H)) (HR8 : SlR ty_Bound f A6 c7 v5) (HO13 : Own (tInt .i64) 41 f A10 c11 s12 s14) (rr1 : List Int) (h : slices_DeleteFunc_Count__bound_Fuse_Count_1 k v5 v9 s14 = some rr1) :
    Calls Tryz.prog 63 #[.slice A10 s14.length c11, .func (.func 61) #[] #[.pointer (some ⟨b1, 0, none⟩), .pointer (some ⟨b3, 0, none⟩)]] w (fun e w' => ∃ (g : FM) (A210 : Option Addr) (c211 : Nat) (s212 : Seg), e = .returned (Value.slice A210 rr1.length c211) ∧ FM.le f g ∧ St t w' g (s212 :: [(b1, .cells #[.slice A6 v5.length c7] 40 (0, 0))] :: [(b3, .cells #[.int .i64 v9] 3 (0, 0))] :: H) ∧ Own (tInt .i64) 41 g A210 c211 s212 rr1) := by
 unfold slices_DeleteFunc_Count__bound_Fuse_Count_1 at h
 refine enter Tryz.func63 rfl (tm := #[.slice A10 s14.length c11, .func (.func 61) #[] #[pV b1 0, pV b3 0], uV, uV, uV, uV, uV, uV, uV, uV, uV, uV, uV, uV, uV, uV, uV, uV, uV, uV, uV, uV, uV, uV, uV, uV, uV, uV, uV, uV, uV, uV, uV, uV, uV, uV, uV, uV, uV, uV, uV, uV]) kr ?_
 intro B hret hnor hnp
 refine wp_seq_k fun K16 hK17 => rl ?_
 refine seqL1 kr ?_
 refine nl (hK17 _ _ ?_)
 refine wp_seq_k fun K18 hK19 => rl ?_
 have HS20 := HS.u2
 obtain ⟨f21, L22, HS23, HR24, th25⟩ := HO13.lend HS20
 have HS26 := HS23.u1
 have HS27 := HS26.u1
 have hq_ := bind_some h; clear h; obtain ⟨vt28, hc29, h⟩ := hq_
 refine seqL2 kr ?_
 refine seqK rfl (does_call (f := 79) (args := #[.slice A10 s14.length c11, .func (.func 61) #[] #[.pointer (some ⟨b1, 0, none⟩), .pointer (some ⟨b3, 0, none⟩)]]) kr (slices_IndexFunc_Count__bound_Fuse_Count_1.calls k b1 A6 c7 b3 A10 c11 v5 v9 s14 HS27 (HR8.mono L22) HR24 vt28 hc29) ?_)
 rintro _ W32 ⟨f30, rfl, L31, HS33⟩
 refine ⟨_, rfl, ?_⟩
 obtain ⟨f34, L35, HS36⟩ := th25 L31 HS33
 refine seqL1 kr ?_
 refine nl (hK19 _ _ ?_)
 refine wp_seq_k (fun K37 hK38 => ?_)
 refine wp_seq_k fun K39 hK40 => rl ?_
 refine seqL2 kr ?_
 refine nl (hK40 _ _ ?_)
 have hq_ := ite_some h; clear h; rcases hq_ with ⟨c42, h⟩ | ⟨c42, h⟩
 · have c42 : vt28 = (-1) := c42
   refine wpRwI 12 (x := (vt28 == (-1))) (v := true) kr (beq_iff_eq.mpr c42) ?_
   refine condT kr ?_
   refine wp_seq_k fun K43 hK44 => rl ?_
   refine seqL2 kr ?_
   refine nl (hK44 _ _ ?_)
   refine wp_ret ?_
   refine hret _ _ ?_
   refine ends_still (v := Value.slice A10 s14.length c11) kr kr ?_
   injection h with h
   subst h
   exact ⟨f34, A10, c11, s12, rfl, L35, HS36, (HO13.mono L35)⟩
 · have c42 : ¬ (vt28 = (-1)) := c42
   refine wpRwI 12 (x := (vt28 == (-1))) (v := false) kr (beq_eq_false_iff_ne.mpr c42) ?_
   refine condF kr ?_
   refine wp_skip ?_
   refine hK38 _ _ ?_
   refine wp_seq_k (fun K45 hK46 => ?_)
   refine wp_seq_k fun K47 hK48 => rl ?_
   refine seqL3 kr ?_
   refine nl (hK48 _ _ ?_)
   refine blockK (fun B49 hx50 hn51 hr52 ho53 hp54 => ?_)
   have hq_ := bind_some h; clear h; obtain ⟨o117, hv193, h⟩ := hq_
   have J194 : ∀ (f183 : FM) (s189 : Seg) (s188 : List Int) (i192 : Int) (j187 : Nat → Value) (W185 : World) (a_ : Act), FM.le f34 f183 → some ((s188, i192)) = some o117 → St t W185 f183 (s189 :: [(b1, .cells #[.slice A6 v5.length c7] 40 (0, 0))] :: [(b3, .cells #[.int .i64 v9] 3 (0, 0))] :: H) → Own (tInt .i64) 41 f183 A10 c11 s189 s188 → s188.length = s14.length → a_ = ⟨#[.slice A10 s188.length c11, .func (.func 61) #[] #[pV b1 0, pV b3 0], uV, uV, .slice none 0 0, iV i192, (j187 0), (j187 1), (j187 2), .func (.func 61) #[] #[pV b1 0, pV b3 0], iV vt28, iV vt28, fV, uV, iV vt28, iV (w64 (vt28 + 1)), (j187 3), (j187 4), (j187 5), (j187 6), (j187 7), (j187 8), (j187 9), (j187 10), (j187 11), (j187 12), (j187 13), (j187 14), (j187 15), (j187 16), (j187 17), (j187 18), (j187 19), (j187 20), (j187 21), (j187 22), uV, uV, uV, uV, uV, uV], []⟩ → K45 a_ W185 := by
    intro f183 s189 s188 i192 j187 W185 a_ L184 hj195 HS186 HO190 HL191 hfr_; subst hfr_
    injection hj195 with hj195; subst hj195; try dsimp only at h
    refine hK46 _ _ ?_
    refine wp_seq_k fun K199 hK200 => rl ?_
    have hq_ := guard_some h; clear h; obtain ⟨c201, h⟩ := hq_
    have c201 : 0 ≤ i192 := c201
    have hq_ := guard_some h; clear h; obtain ⟨c202, h⟩ := hq_
    have c202 : i192 ≤ (s188.length : Int) := c202
    refine seqL2 kr ?_
    refine seqK rfl (does_run (run_cutV (e := (tInt .i64)) (xs := s188) rfl Tryz.underlying127 kr (kv (.slice A10 s188.length c11)) (kv (.int .i64 i192)) c201 c202 HO190.le W185) ?_)
    refine seqK rfl (does_clear (e := (tInt .i64)) (E := 41) (A := A10) (c := c11) (n := (i192).toNat) (xs := s188) (u := 0) rfl Tryz.underlying127 inf41 (kv (.slice (cutA A10 c11 (i192).toNat 1) (s188.drop (i192).toNat).length (c11 - (i192).toNat))) rfl (by omega) rfl HO190 HS186 ?_)
    intro W203 s204 HS205 HO206
    refine seqRwS 0 (A := A10) (m := s188.length) (n := (clr s188 (i192).toNat 0).length) (c := c11) kr ((clr_lenI c201 c202)).symm ?_
    refine seqRwS 36 (A := A10) (m := s188.length) (n := (clr s188 (i192).toNat 0).length) (c := c11) kr ((clr_lenI c201 c202)).symm ?_
    refine nl (hK200 _ _ ?_)
    refine wp_seq_k fun K207 hK208 => rl ?_
    have hq_ := guard_some h; clear h; obtain ⟨c209, h⟩ := hq_
    have c209 : i192 ≤ ((clr s188 (i192).toNat 0).length : Int) := c209
    refine seqL2 kr ?_
    refine seqK rfl (does_run (run_cutH (e := (tInt .i64)) (xs := (clr s188 (i192).toNat 0)) rfl Tryz.underlying127 kr (kv (.slice A10 (clr s188 (i192).toNat 0).length c11)) (kv (.int .i64 i192)) c201 c209 HO206.le W203) ?_)
    refine seqL1 kr ?_
    refine nl (hK208 _ _ ?_)
    refine wp_ret ?_
    refine hret _ _ ?_
    refine ends_still (v := Value.slice A10 ((clr s188 (i192).toNat 0).take (i192).toNat).length c11) kr kr ?_
    injection h with h
    subst h
    exact ⟨f183, A10, c11, s204, rfl, (L35.trans L184), HS205, (HO206.take (i192).toNat)⟩
   clear h; have h := hv193; clear hv193
   refine loopK (fun n_ a_ w_ => ∃ (f121 : FM) (s127 : Seg) (s126 : List Int) (i130 : Int) (j131 : Int) (j125 : Nat → Value), FM.le f34 f121 ∧ St t w_ f121 (s127 :: [(b1, .cells #[.slice A6 v5.length c7] 40 (0, 0))] :: [(b3, .cells #[.int .i64 v9] 3 (0, 0))] :: H) ∧ Own (tInt .i64) 41 f121 A10 c11 s127 s126 ∧ s126.length = s14.length ∧ slices_DeleteFunc_Count__bound_Fuse_Count_1.l0 k v5 v9 n_ s126 i130 j131 = some o117 ∧ a_ = ⟨#[.slice A10 s126.length c11, .func (.func 61) #[] #[pV b1 0, pV b3 0], uV, uV, .slice none 0 0, iV i130, iV j131, (j125 0), .slice A10 s14.length c11, .func (.func 61) #[] #[pV b1 0, pV b3 0], iV vt28, iV vt28, fV, uV, iV vt28, iV (w64 (vt28 + 1)), (j125 1), (j125 2), (j125 3), (j125 4), (j125 5), (j125 6), (j125 7), (j125 8), (j125 9), (j125 10), (j125 11), (j125 12), (j125 13), (j125 14), (j125 15), (j125 16), (j125 17), (j125 18), (j125 19), (j125 20), uV, uV, uV, uV, uV, uV], []⟩) k ⟨f34, s12, s14, vt28, (w64 (vt28 + 1)), (fun i_ => [undef, undef, undef, undef, undef, undef, undef, undef, undef, undef, undef, undef, undef, undef, undef, undef, undef, undef, undef, undef, undef].getD i_ undef), (FM.le.refl _), HS36, (HO13.mono L35), rfl, h, kr⟩ ?_
   clear h
   rintro n120 _ W123 ⟨f121, s127, s126, i130, j131, j125, L122, HS124, HO128, HL129, h, rfl⟩ K118 hK119
   obtain _ | n120 := n120
   · exact nomatch h
   simp only [slices_DeleteFunc_Count__bound_Fuse_Count_1.l0] at h
   refine wp_seq_k (fun K132 hK133 => ?_)
   refine wp_seq_k fun K134 hK135 => rl ?_
   refine seqL4 kr ?_
   refine nl (hK135 _ _ ?_)
   have hq_ := ite_some h; clear h; rcases hq_ with ⟨c137, h⟩ | ⟨c137, h⟩
   · have c137 : j131 < (s126.length : Int) := c137
     refine wpRwI 19 (x := (decide (j131 < (s126.length : Int)))) (v := true) kr (decide_eq_true c137) ?_
     refine condT kr ?_
     refine wp_skip ?_
     refine hK133 _ _ ?_
     refine wp_seq_k (fun K138 hK139 => ?_)
     refine blockK (fun B140 hx141 hn142 hr143 ho144 hp145 => ?_)
     refine wp_seq_k fun K147 hK148 => rl ?_
     have hq_ := guard_some h; clear h; obtain ⟨c149, h⟩ := hq_
     have c149 : 0 ≤ j131 := c149
     obtain ⟨b153, of154, cs150, hA155, hr151, hc152⟩ := HO128.at (i := j131) c149 c137
     obtain rfl := hr151
     refine seqL2 kr ?_
     refine seqK rfl (does_run (run_indexE hA155 (sz := 1) rfl Tryz.underlying127 kr (kv (.slice A10 s126.length c11)) (kv (.int .i64 j131)) c149 c137 W123) ?_)
     refine seqK rfl (does_run (run_load rfl Tryz.underlying41 rfl (kv (.pointer (some ⟨b153, of154 + (j131 : Int).toNat * 1, none⟩))) ((hc152 HS124) 0 (by decide))) ?_)
     refine seqL1 kr ?_
     refine nl (hK148 _ _ ?_)
     refine wp_seq_k fun K156 hK157 => rl ?_
     have HS158 := HS124.u2
     have HS159 := HS158.u2
     have hq_ := bind_some h; clear h; obtain ⟨vt160, hc161, h⟩ := hq_
     refine seqL2 kr ?_
     refine seqK rfl (does_call (f := 61) (args := #[.int .i64 (rd s126 j131), .pointer (some ⟨b1, 0, none⟩), .pointer (some ⟨b3, 0, none⟩)]) kr (bound_Fuse_Count_1.calls k b1 A6 c7 b3 v5 v9 (rd s126 j131) HS159 (HR8.mono (L35.trans L122)) vt160 hc161) ?_)
     rintro _ W164 ⟨f162, rfl, L163, HS165⟩
     refine ⟨_, rfl, ?_⟩
     refine seqL1 kr ?_
     refine nl (hK157 _ _ ?_)
     have hq_ := ite_some h; clear h; rcases hq_ with ⟨c167, h⟩ | ⟨c167, h⟩
     · have c167 : ¬ (vt160 = true) := c167
       refine wpRwI 29 (x := (!vt160)) (v := true) kr (congrArg (fun b_ => !b_) (show vt160 = false from (Bool.eq_false_iff.mpr c167)) : (!vt160) = true) ?_
       refine condT kr ?_
       refine wp_seq_k fun K168 hK169 => rl ?_
       have hq_ := guard_some h; clear h; obtain ⟨c170, h⟩ := hq_
       have c170 : 0 ≤ i130 := c170
       have hq_ := guard_some h; clear h; obtain ⟨c171, h⟩ := hq_
       have c171 : i130 < (s126.length : Int) := c171
       obtain ⟨b175, of176, cs172, hA177, hr173, hc174⟩ := (HO128.mono L163).at (i := i130) c170 c171
       obtain rfl := hr173
       refine seqL3 kr ?_
       refine seqK rfl (does_run (run_indexE hA177 (sz := 1) rfl Tryz.underlying127 kr (kv (.slice A10 s126.length c11)) (kv (.int .i64 i130)) c170 c171 W164) ?_)
       have HS178 := HS165.u2
       refine seqK rfl (does_put (e := (tInt .i64)) (E := 41) (vs := [.int .i64 (rd s126 j131)]) (u := (rd s126 j131)) (i := i130) rfl kr (HO128.mono L163) HS178 hA177 (kv (.pointer (some ⟨b175, of176 + (i130 : Int).toNat * 1, none⟩))) (kv (.int .i64 (rd s126 j131))) rfl rfl c170 c171 ?_)
       intro W179 s180 HS181 HO182
       refine seqRwS 0 (A := A10) (m := s126.length) (n := (s126.set (i130).toNat (rd s126 j131)).length) (c := c11) kr (List.length_set).symm ?_
       refine seqRwS 17 (A := A10) (m := s126.length) (n := (s126.set (i130).toNat (rd s126 j131)).length) (c := c11) kr (List.length_set).symm ?_
       refine seqRwS 22 (A := A10) (m := s126.length) (n := (s126.set (i130).toNat (rd s126 j131)).length) (c := c11) kr (List.length_set).symm ?_
       refine seqRwS 30 (A := A10) (m := s126.length) (n := (s126.set (i130).toNat (rd s126 j131)).length) (c := c11) kr (List.length_set).symm ?_
       refine nl (hK169 _ _ ?_)
       refine rl ?_
       refine seqL3 kr ?_
       refine nl ?_
       refine hn142 _ _ ?_
       refine hK139 _ _ ?_
       refine rl ?_
       refine seqL3 kr ?_
       refine nl ?_
       refine hK119 n120 _ _ (Nat.lt_succ_self _) ?_
       exact ⟨f162, s180, (s126.set (i130).toNat (rd s126 j131)), (w64 (i130 + 1)), (w64 (j131 + 1)), (fun i_ => [Value.int .i64 (rd s126 j131), Value.int .i64 j131, Value.slice A10 (s126.set (i130).toNat (rd s126 j131)).length c11, Value.int .i64 (s126.length : Int), Value.bool true, Value.int .i64 j131, Value.int .i64 (w64 (j131 + 1)), Value.slice A10 (s126.set (i130).toNat (rd s126 j131)).length c11, Value.int .i64 j131, Value.pointer (some ⟨b153, of154 + (j131 : Int).toNat * 1, none⟩), Value.int .i64 (rd s126 j131), Value.func (.func 61) #[] #[.pointer (some ⟨b1, 0, none⟩), .pointer (some ⟨b3, 0, none⟩)], Value.int .i64 (rd s126 j131), Value.bool vt160, Value.bool true, Value.slice A10 (s126.set (i130).toNat (rd s126 j131)).length c11, Value.int .i64 i130, Value.int .i64 (rd s126 j131), Value.pointer (some ⟨b175, of176 + (i130 : Int).toNat * 1, none⟩), Value.int .i64 i130, Value.int .i64 (w64 (i130 + 1))].getD i_ undef), (L122.trans L163), HS181, HO182, (List.length_set.trans HL129), h, kr⟩
     · have c167 : ¬ (¬ (vt160 = true)) := c167
       refine wpRwI 29 (x := (!vt160)) (v := false) kr (congrArg (fun b_ => !b_) (show vt160 = true from (Decidable.of_not_not c167)) : (!vt160) = false) ?_
       refine condF kr ?_
       refine wp_skip ?_
       refine hn142 _ _ ?_
       refine hK139 _ _ ?_
       refine rl ?_
       refine seqL3 kr ?_
       refine nl ?_
       refine hK119 n120 _ _ (Nat.lt_succ_self _) ?_
       have HS196 := HS165.u1
       have HS197 := HS196.u1
       have HS198 := HS197.u2
       exact ⟨f162, s127, s126, i130, (w64 (j131 + 1)), (fun i_ => [Value.int .i64 (rd s126 j131), Value.int .i64 j131, Value.slice A10 s126.length c11, Value.int .i64 (s126.length : Int), Value.bool true, Value.int .i64 j131, Value.int .i64 (w64 (j131 + 1)), Value.slice A10 s126.length c11, Value.int .i64 j131, Value.pointer (some ⟨b153, of154 + (j131 : Int).toNat * 1, none⟩), Value.int .i64 (rd s126 j131), Value.func (.func 61) #[] #[.pointer (some ⟨b1, 0, none⟩), .pointer (some ⟨b3, 0, none⟩)], Value.int .i64 (rd s126 j131), Value.bool vt160, Value.bool false, (j125 15), (j125 16), (j125 17), (j125 18), (j125 19), (j125 20)].getD i_ undef), (L122.trans L163), HS198, (HO128.mono L163), HL129, h, kr⟩
   · have c137 : ¬ (j131 < (s126.length : Int)) := c137
     refine wpRwI 19 (x := (decide (j131 < (s126.length : Int)))) (v := false) kr (decide_eq_false c137) ?_
     refine condF kr ?_
     refine wp_exit ?_
     refine hx50 _ _ ?_
     exact J194 f121 s127 s126 i130 (fun i_ => [Value.int .i64 j131, (j125 0), Value.slice A10 s14.length c11, Value.int .i64 j131, Value.slice A10 s126.length c11, Value.int .i64 (s126.length : Int), Value.bool false, (j125 5), (j125 6), (j125 7), (j125 8), (j125 9), (j125 10), (j125 11), (j125 12), (j125 13), (j125 14), (j125 15), (j125 16), (j125 17), (j125 18), (j125 19), (j125 20)].getD i_ undef) W123 _ L122 h HS124 HO128 HL129 kr

set_option maxRecDepth 100000 in
set_option maxHeartbeats 4000000 in
theorem slices_Min_Count.calls (k : Nat) (A2 : Option Addr) (c3 : Nat) (x1 : List Int) {t w : World} {f : FM} {H : List Seg} (HS : St t w f (H)) (HR4 : SlR (tInt .i64) f A2 c3 x1) (rr1 : Int) (h : slices_Min_Count k x1 = some rr1) :
    Calls Tryz.prog 64 #[.slice A2 x1.length c3] w (fun e w' => ∃ (g : FM), e = .returned (Value.int .i64 rr1) ∧ FM.le f g ∧ St t w' g (H)) := by
 unfold slices_Min_Count at h
 refine enter Tryz.func64 rfl (tm := #[.slice A2 x1.length c3, uV, uV, uV, uV, uV, uV, uV, uV, uV, uV, uV, uV, uV, uV, uV, uV, uV, uV, uV, uV, uV, uV, uV, uV]) kr ?_
 intro B hret hnor hnp
 refine wp_seq_k fun K5 hK6 => rl ?_
 refine seqL1 kr ?_
 refine nl (hK6 _ _ ?_)
 refine wp_seq_k (fun K7 hK8 => ?_)
 refine wp_seq_k fun K9 hK10 => rl ?_
 refine seqL3 kr ?_
 refine nl (hK10 _ _ ?_)
 have hq_ := ite_some h; clear h; rcases hq_ with ⟨c12, h⟩ | ⟨c12, h⟩
 · have c12 : (x1.length : Int) < 1 := c12
   refine wpRwI 7 (x := (decide ((x1.length : Int) < 1))) (v := true) kr (decide_eq_true c12) ?_
   refine condT kr ?_
   exact nomatch h
 · have c12 : ¬ ((x1.length : Int) < 1) := c12
   refine wpRwI 7 (x := (decide ((x1.length : Int) < 1))) (v := false) kr (decide_eq_false c12) ?_
   refine condF kr ?_
   refine wp_skip ?_
   refine hK8 _ _ ?_
   refine wp_seq_k fun K13 hK14 => rl ?_
   have hq_ := guard_some h; clear h; obtain ⟨c15, h⟩ := hq_
   have c15 : 0 < (x1.length : Int) := c15
   obtain ⟨b19, of20, cs16, hA21, hr17, hc18⟩ := HR4.at (i := 0) (by decide) c15
   obtain rfl := hr17
   refine seqL1 kr ?_
   refine seqK rfl (does_run (run_indexE hA21 (sz := 1) rfl Tryz.underlying127 kr (kv (.slice A2 x1.length c3)) (kv (.int .i64 0)) (by decide) c15 w) ?_)
   refine seqK rfl (does_run (run_load rfl Tryz.underlying41 rfl (kv (.pointer (some ⟨b19, of20 + (0 : Int).toNat * 1, none⟩))) ((hc18 (FM.le.refl _) HS) 0 (by decide))) ?_)
   refine seqL1 kr ?_
   refine nl (hK14 _ _ ?_)
   refine wp_seq_k (fun K22 hK23 => ?_)
   refine wp_seq_k fun K24 hK25 => rl ?_
   refine seqL1 kr ?_
   refine nl (hK25 _ _ ?_)
   refine blockK (fun B26 hx27 hn28 hr29 ho30 hp31 => ?_)
   have hq_ := bind_some h; clear h; obtain ⟨o32, hv71, h⟩ := hq_
   have J72 : ∀ (f65 : FM) (m70 : Int) (j69 : Nat → Value) (W67 : World) (a_ : Act), FM.le f f65 → some (m70) = some o32 → St t W67 f65 (H) → a_ = ⟨#[.slice A2 x1.length c3, uV, iV 0, iV m70, (j69 0), .slice A2 x1.length c3, iV (x1.length : Int), fV, uV, .slice A2 x1.length c3, pV b19 (of20 + (0 : Int).toNat * 1), iV (rd x1 0), (j69 1), (j69 2), (j69 3), (j69 4), (j69 5), (j69 6), (j69 7), (j69 8), (j69 9), (j69 10), (j69 11), (j69 12), uV], []⟩ → K22 a_ W67 := by
    intro f65 m70 j69 W67 a_ L66 hj73 HS68  hfr_; subst hfr_
    injection hj73 with hj73; subst hj73; try dsimp only at h
    refine hK23 _ _ ?_
    refine wp_seq_k fun K74 hK75 => rl ?_
    refine seqL2 kr ?_
    refine nl (hK75 _ _ ?_)
    refine wp_ret ?_
    refine hret _ _ ?_
    refine ends_still (v := Value.int .i64 m70) kr kr ?_
    injection h with h
    subst h
    exact ⟨f65, rfl, L66, HS68⟩
   clear h; have h := hv71; clear hv71
   refine loopK (fun n_ a_ w_ => ∃ (f36 : FM) (m41 : Int) (i42 : Int) (j40 : Nat → Value), FM.le f f36 ∧ St t w_ f36 (H) ∧ slices_Min_Count.l0 k x1 n_ m41 i42 = some o32 ∧ a_ = ⟨#[.slice A2 x1.length c3, uV, iV 0, iV m41, iV i42, .slice A2 x1.length c3, iV (x1.length : Int), fV, uV, .slice A2 x1.length c3, pV b19 (of20 + (0 : Int).toNat * 1), iV (rd x1 0), (j40 0), (j40 1), (j40 2), (j40 3), (j40 4), (j40 5), (j40 6), (j40 7), (j40 8), (j40 9), (j40 10), (j40 11), uV], []⟩) k ⟨f, (rd x1 0), 1, (fun i_ => [undef, undef, undef, undef, undef, undef, undef, undef, undef, undef, undef, undef].getD i_ undef), (FM.le.refl _), HS, h, kr⟩ ?_
   clear h
   rintro n35 _ W38 ⟨f36, m41, i42, j40, L37, HS39, h, rfl⟩ K33 hK34
   obtain _ | n35 := n35
   · exact nomatch h
   simp only [slices_Min_Count.l0] at h
   refine wp_seq_k (fun K43 hK44 => ?_)
   refine wp_seq_k fun K45 hK46 => rl ?_
   refine seqL4 kr ?_
   refine nl (hK46 _ _ ?_)
   have hq_ := ite_some h; clear h; rcases hq_ with ⟨c48, h⟩ | ⟨c48, h⟩
   · have c48 : i42 < (x1.length : Int) := c48
     refine wpRwI 15 (x := (decide (i42 < (x1.length : Int)))) (v := true) kr (decide_eq_true c48) ?_
     refine condT kr ?_
     refine wp_skip ?_
     refine hK44 _ _ ?_
     refine wp_seq_k (fun K49 hK50 => ?_)
     refine blockK (fun B51 hx52 hn53 hr54 ho55 hp56 => ?_)
     refine rl ?_
     have hq_ := guard_some h; clear h; obtain ⟨c58, h⟩ := hq_
     have c58 : 0 ≤ i42 := c58
     obtain ⟨b62, of63, cs59, hA64, hr60, hc61⟩ := (HR4.mono L37).at (i := i42) c58 c48
     obtain rfl := hr60
     refine seqL3 kr ?_
     refine seqK rfl (does_run (run_indexE hA64 (sz := 1) rfl Tryz.underlying127 kr (kv (.slice A2 x1.length c3)) (kv (.int .i64 i42)) c58 c48 W38) ?_)
     refine seqK rfl (does_run (run_load rfl Tryz.underlying41 rfl (kv (.pointer (some ⟨b62, of63 + (i42 : Int).toNat * 1, none⟩))) ((hc61 (FM.le.refl _) HS39) 0 (by decide))) ?_)
     refine seqL2 kr ?_
     refine nl ?_
     refine hn53 _ _ ?_
     refine hK50 _ _ ?_
     refine rl ?_
     refine seqL3 kr ?_
     refine nl ?_
     refine hK34 n35 _ _ (Nat.lt_succ_self _) ?_
     exact ⟨f36, (mn m41 (rd x1 i42)), (w64 (i42 + 1)), (fun i_ => [Value.int .i64 i42, Value.slice A2 x1.length c3, Value.int .i64 (x1.length : Int), Value.bool true, Value.int .i64 i42, Value.int .i64 (w64 (i42 + 1)), Value.int .i64 m41, Value.slice A2 x1.length c3, Value.int .i64 i42, Value.pointer (some ⟨b62, of63 + (i42 : Int).toNat * 1, none⟩), Value.int .i64 (rd x1 i42), Value.int .i64 (mn m41 (rd x1 i42))].getD i_ undef), L37, HS39, h, kr⟩
   · have c48 : ¬ (i42 < (x1.length : Int)) := c48
     refine wpRwI 15 (x := (decide (i42 < (x1.length : Int)))) (v := false) kr (decide_eq_false c48) ?_
     refine condF kr ?_
     refine wp_exit ?_
     refine hx27 _ _ ?_
     exact J72 f36 m41 (fun i_ => [Value.int .i64 i42, Value.int .i64 i42, Value.slice A2 x1.length c3, Value.int .i64 (x1.length : Int), Value.bool false, (j40 4), (j40 5), (j40 6), (j40 7), (j40 8), (j40 9), (j40 10), (j40 11)].getD i_ undef) W38 _ L37 h HS39 kr

set_option maxRecDepth 100000 in
set_option maxHeartbeats 4000000 in
theorem slices_Max_Count.calls (k : Nat) (A2 : Option Addr) (c3 : Nat) (x1 : List Int) {t w : World} {f : FM} {H : List Seg} (HS : St t w f (H)) (HR4 : SlR (tInt .i64) f A2 c3 x1) (rr1 : Int) (h : slices_Max_Count k x1 = some rr1) :
    Calls Tryz.prog 65 #[.slice A2 x1.length c3] w (fun e w' => ∃ (g : FM), e = .returned (Value.int .i64 rr1) ∧ FM.le f g ∧ St t w' g (H)) := by
 unfold slices_Max_Count at h
 refine enter Tryz.func65 rfl (tm := #[.slice A2 x1.length c3, uV, uV, uV, uV, uV, uV, uV, uV, uV, uV, uV, uV, uV, uV, uV, uV, uV, uV, uV, uV, uV, uV, uV, uV]) kr ?_
 intro B hret hnor hnp
 refine wp_seq_k fun K5 hK6 => rl ?_
 refine seqL1 kr ?_
 refine nl (hK6 _ _ ?_)
 refine wp_seq_k (fun K7 hK8 => ?_)
 refine wp_seq_k fun K9 hK10 => rl ?_
 refine seqL3 kr ?_
 refine nl (hK10 _ _ ?_)
 have hq_ := ite_some h; clear h; rcases hq_ with ⟨c12, h⟩ | ⟨c12, h⟩
 · have c12 : (x1.length : Int) < 1 := c12
   refine wpRwI 7 (x := (decide ((x1.length : Int) < 1))) (v := true) kr (decide_eq_true c12) ?_
   refine condT kr ?_
   exact nomatch h
 · have c12 : ¬ ((x1.length : Int) < 1) := c12
   refine wpRwI 7 (x := (decide ((x1.length : Int) < 1))) (v := false) kr (decide_eq_false c12) ?_
   refine condF kr ?_
   refine wp_skip ?_
   refine hK8 _ _ ?_
   refine wp_seq_k fun K13 hK14 => rl ?_
   have hq_ := guard_some h; clear h; obtain ⟨c15, h⟩ := hq_
   have c15 : 0 < (x1.length : Int) := c15
   obtain ⟨b19, of20, cs16, hA21, hr17, hc18⟩ := HR4.at (i := 0) (by decide) c15
   obtain rfl := hr17
   refine seqL1 kr ?_
   refine seqK rfl (does_run (run_indexE hA21 (sz := 1) rfl Tryz.underlying127 kr (kv (.slice A2 x1.length c3)) (kv (.int .i64 0)) (by decide) c15 w) ?_)
   refine seqK rfl (does_run (run_load rfl Tryz.underlying41 rfl (kv (.pointer (some ⟨b19, of20 + (0 : Int).toNat * 1, none⟩))) ((hc18 (FM.le.refl _) HS) 0 (by decide))) ?_)
   refine seqL1 kr ?_
   refine nl (hK14 _ _ ?_)
   refine wp_seq_k (fun K22 hK23 => ?_)
   refine wp_seq_k fun K24 hK25 => rl ?_
   refine seqL1 kr ?_
   refine nl (hK25 _ _ ?_)
   refine blockK (fun B26 hx27 hn28 hr29 ho30 hp31 => ?_)
   have hq_ := bind_some h; clear h; obtain ⟨o32, hv71, h⟩ := hq_
   have J72 : ∀ (f65 : FM) (m70 : Int) (j69 : Nat → Value) (W67 : World) (a_ : Act), FM.le f f65 → some (m70) = some o32 → St t W67 f65 (H) → a_ = ⟨#[.slice A2 x1.length c3, uV, iV 0, iV m70, (j69 0), .slice A2 x1.length c3, iV (x1.length : Int), fV, uV, .slice A2 x1.length c3, pV b19 (of20 + (0 : Int).toNat * 1), iV (rd x1 0), (j69 1), (j69 2), (j69 3), (j69 4), (j69 5), (j69 6), (j69 7), (j69 8), (j69 9), (j69 10), (j69 11), (j69 12), uV], []⟩ → K22 a_ W67 := by
    intro f65 m70 j69 W67 a_ L66 hj73 HS68  hfr_; subst hfr_
    injection hj73 with hj73; subst hj73; try dsimp only at h
    refine hK23 _ _ ?_
    refine wp_seq_k fun K74 hK75 => rl ?_
    refine seqL2 kr ?_
    refine nl (hK75 _ _ ?_)
    refine wp_ret ?_
    refine hret _ _ ?_
    refine ends_still (v := Value.int .i64 m70) kr kr ?_
    injection h with h
    subst h
    exact ⟨f65, rfl, L66, HS68⟩
   clear h; have h := hv71; clear hv71
   refine loopK (fun n_ a_ w_ => ∃ (f36 : FM) (m41 : Int) (i42 : Int) (j40 : Nat → Value), FM.le f f36 ∧ St t w_ f36 (H) ∧ slices_Max_Count.l0 k x1 n_ m41 i42 = some o32 ∧ a_ = ⟨#[.slice A2 x1.length c3, uV, iV 0, iV m41, iV i42, .slice A2 x1.length c3, iV (x1.length : Int), fV, uV, .slice A2 x1.length c3, pV b19 (of20 + (0 : Int).toNat * 1), iV (rd x1 0), (j40 0), (j40 1), (j40 2), (j40 3), (j40 4), (j40 5), (j40 6), (j40 7), (j40 8), (j40 9), (j40 10), (j40 11), uV], []⟩) k ⟨f, (rd x1 0), 1, (fun i_ => [undef, undef, undef, undef, undef, undef, undef, undef, undef, undef, undef, undef].getD i_ undef), (FM.le.refl _), HS, h, kr⟩ ?_
   clear h
   rintro n35 _ W38 ⟨f36, m41, i42, j40, L37, HS39, h, rfl⟩ K33 hK34
   obtain _ | n35 := n35
   · exact nomatch h
   simp only [slices_Max_Count.l0] at h
   refine wp_seq_k (fun K43 hK44 => ?_)
   refine wp_seq_k fun K45 hK46 => rl ?_
   refine seqL4 kr ?_
   refine nl (hK46 _ _ ?_)
   have hq_ := ite_some h; clear h; rcases hq_ with ⟨c48, h⟩ | ⟨c48, h⟩
   · have c48 : i42 < (x1.length : Int) := c48
     refine wpRwI 15 (x := (decide (i42 < (x1.length : Int)))) (v := true) kr (decide_eq_true c48) ?_
     refine condT kr ?_
     refine wp_skip ?_
     refine hK44 _ _ ?_
     refine wp_seq_k (fun K49 hK50 => ?_)
     refine blockK (fun B51 hx52 hn53 hr54 ho55 hp56 => ?_)
     refine rl ?_
     have hq_ := guard_some h; clear h; obtain ⟨c58, h⟩ := hq_
     have c58 : 0 ≤ i42 := c58
     obtain ⟨b62, of63, cs59, hA64, hr60, hc61⟩ := (HR4.mono L37).at (i := i42) c58 c48
     obtain rfl := hr60
     refine seqL3 kr ?_
     refine seqK rfl (does_run (run_indexE hA64 (sz := 1) rfl Tryz.underlying127 kr (kv (.slice A2 x1.length c3)) (kv (.int .i64 i42)) c58 c48 W38) ?_)
     refine seqK rfl (does_run (run_load rfl Tryz.underlying41 rfl (kv (.pointer (some ⟨b62, of63 + (i42 : Int).toNat * 1, none⟩))) ((hc61 (FM.le.refl _) HS39) 0 (by decide))) ?_)
     refine seqL2 kr ?_
     refine nl ?_
     refine hn53 _ _ ?_
     refine hK50 _ _ ?_
     refine rl ?_
     refine seqL3 kr ?_
     refine nl ?_
     refine hK34 n35 _ _ (Nat.lt_succ_self _) ?_
     exact ⟨f36, (mx m41 (rd x1 i42)), (w64 (i42 + 1)), (fun i_ => [Value.int .i64 i42, Value.slice A2 x1.length c3, Value.int .i64 (x1.length : Int), Value.bool true, Value.int .i64 i42, Value.int .i64 (w64 (i42 + 1)), Value.int .i64 m41, Value.slice A2 x1.length c3, Value.int .i64 i42, Value.pointer (some ⟨b62, of63 + (i42 : Int).toNat * 1, none⟩), Value.int .i64 (rd x1 i42), Value.int .i64 (mx m41 (rd x1 i42))].getD i_ undef), L37, HS39, h, kr⟩
   · have c48 : ¬ (i42 < (x1.length : Int)) := c48
     refine wpRwI 15 (x := (decide (i42 < (x1.length : Int)))) (v := false) kr (decide_eq_false c48) ?_
     refine condF kr ?_
     refine wp_exit ?_
     refine hx27 _ _ ?_
     exact J72 f36 m41 (fun i_ => [Value.int .i64 i42, Value.int .i64 i42, Value.slice A2 x1.length c3, Value.int .i64 (x1.length : Int), Value.bool false, (j40 4), (j40 5), (j40 6), (j40 7), (j40 8), (j40 9), (j40 10), (j40 11)].getD i_ undef) W38 _ L37 h HS39 kr

set_option maxRecDepth 100000 in
set_option maxHeartbeats 4000000 in
theorem bound_Fuse_Count.calls (k : Nat) (A2 : Option Addr) (c3 : Nat) (l1 : List S_Bound) (vf5 : Int) {t w : World} {f : FM} {H : List Seg} (HS : St t w f (H)) (HR4 : SlR ty_Bound f A2 c3 l1) (rr1 : S_Bound) (h : bound_Fuse_Count k l1 vf5 = some rr1) :
    Calls Tryz.prog 48 #[.slice A2 l1.length c3, .int .i64 vf5] w (fun e w' => ∃ (g : FM), e = .returned (Value.agg #[.int .i64 rr1.Lo, .int .i64 rr1.Hi, .bool rr1.Unknown]) ∧ FM.le f g ∧ St t w' g (H)) := by
 unfold bound_Fuse_Count at h
 refine enter Tryz.func48 rfl (tm := #[.slice A2 l1.length c3, iV vf5, uV, uV, uV, uV, uV, uV, uV, uV, uV, uV, uV, uV, uV, uV, uV, uV, uV, uV, uV, uV, uV, uV, uV, uV, uV, uV, uV, uV, uV, uV, uV, uV, uV, uV, uV, uV, uV, uV, uV, uV, uV, uV, uV, uV, uV, uV, uV, uV, uV, uV, uV]) kr ?_
 intro B hret hnor hnp
 refine wp_seq_k fun K6 hK7 => rl ?_
 refine seqK rfl (does_box (cs := #[.slice A2 l1.length c3]) rfl (kv (.slice A2 l1.length c3)) rfl HS ?_)
 intro b8 W9 HS10
 refine seqK rfl (does_alloc (z := Value.agg #[.int .i64 0, .int .i64 0, .bool false]) (cs := #[.int .i64 0, .int .i64 0, .bool false]) rfl kr rfl HS10 ?_)
 intro b12 W13 HS14
 refine nl (hK7 _ _ ?_)
 refine wp_seq_k fun K16 hK17 => rl ?_
 refine seqL1 kr ?_
 refine nl (hK17 _ _ ?_)
 refine wp_seq_k (fun K18 hK19 => ?_)
 refine wp_seq_k fun K20 hK21 => rl ?_
 refine seqK rfl (does_run (run_load rfl Tryz.underlying40 rfl (kv (.pointer (some ⟨b8, 0, none⟩))) (HS14.u1.cell 0)) ?_)
 refine seqL2 kr ?_
 refine nl (hK21 _ _ ?_)
 refine blockK (fun B22 hx23 hn24 hr25 ho26 hp27 => ?_)
 have hq_ := bind_some h; clear h; obtain ⟨o28, hv110, h⟩ := hq_
 have J111 : ∀ (f99 : FM) (A105 : Option Addr) (c106 : Nat) (s107 : Seg) (ends104 : List Int) (j103 : Nat → Value) (W101 : World) (a_ : Act), FM.le f f99 → some (ends104) = some o28 → St t W101 f99 (s107 :: [(b12, .cells #[.int .i64 0, .int .i64 0, .bool false] 43 (0, 0))] :: [(b8, .cells #[.slice A2 l1.length c3] 40 (0, 0))] :: H) → Own (tInt .i64) 41 f99 A105 c106 s107 ends104 → a_ = ⟨#[.slice A2 l1.length c3, iV vf5, pV b8 0, uV, pV b12 0, .slice A105 ends104.length c106, uV, (j103 0), uV, uV, .slice A2 l1.length c3, iV (l1.length : Int), (j103 1), (j103 2), (j103 3), (j103 4), (j103 5), (j103 6), (j103 7), (j103 8), (j103 9), (j103 10), (j103 11), (j103 12), (j103 13), (j103 14), (j103 15), (j103 16), uV, uV, uV, uV, uV, uV, uV, uV, uV, uV, uV, uV, uV, uV, uV, uV, uV, uV, uV, uV, uV, uV, uV, uV, uV], []⟩ → K18 a_ W101 := by
  intro f99 A105 c106 s107 ends104 j103 W101 a_ L100 hj112 HS102 HO108 hfr_; subst hfr_
  injection hj112 with hj112; subst hj112; try dsimp only at h
  refine hK19 _ _ ?_
  refine wp_seq_k fun K125 hK126 => rl ?_
  refine seqL5 kr ?_
  refine seqK rfl (does_alloc (z := Value.int .i64 0) (cs := #[.int .i64 0]) rfl kr rfl HS102 ?_)
  intro b127 W128 HS129
  refine seqK rfl (does_store (n := 1) (vs := [.int .i64 (w64 ((w64 (Int.tdiv (ends104.length : Int) 2)) - vf5))]) (cs' := #[.int .i64 (w64 ((w64 (Int.tdiv (ends104.length : Int) 2)) - vf5))]) rfl kr (kv (.pointer (some ⟨b127, 0, none⟩))) (kv (.int .i64 (w64 ((w64 (Int.tdiv (ends104.length : Int) 2)) - vf5)))) rfl rfl (by intro u_ hu_; simp only [List.mem_cons, List.not_mem_nil, or_false] at hu_; subst hu_; rfl) HS129 (Nat.le_of_ble_eq_true rfl) kr ?_)
  intro W131 HS132
  refine nl (hK126 _ _ ?_)
  refine wp_seq_k (fun K133 hK134 => ?_)
  refine wp_seq_k fun K135 hK136 => rl ?_
  refine seqL3 kr ?_
  have hq_ := ite_some h; clear h; rcases hq_ with ⟨c137, h⟩ | ⟨c137, h⟩
  · have c137 : vf5 < 0 := c137
    refine seqRwI 34 (x := (decide (vf5 < 0))) (v := true) kr (decide_eq_true c137) ?_
    refine seqRwI 35 (x := (decide (vf5 < 0))) (v := true) kr (decide_eq_true c137) ?_
    refine seqL3 kr ?_
    refine nl (hK136 _ _ ?_)
    refine condT kr ?_
    refine wp_seq_k fun K138 hK139 => rl ?_
    have hq_ := bind_some h; clear h; obtain ⟨vt140, hc141, h⟩ := hq_
    refine seqK rfl (does_call (f := 37) (args := #[]) kr (bound_None_Count.calls k  HS132 vt140 hc141) ?_)
    rintro _ W144 ⟨f142, rfl, L143, HS145⟩
    refine ⟨_, rfl, ?_⟩
    have HS146 := HS145.u2
    refine seqK rfl (does_store (n := 3) (vs := [.int .i64 vt140.Lo, .int .i64 vt140.Hi, .bool vt140.Unknown]) (cs' := #[.int .i64 vt140.Lo, .int .i64 vt140.Hi, .bool vt140.Unknown]) rfl kr (kv (.pointer (some ⟨b12, 0, none⟩))) (kv (.agg #[.int .i64 vt140.Lo, .int .i64 vt140.Hi, .bool vt140.Unknown])) rfl rfl (by intro u_ hu_; simp only [List.mem_cons, List.not_mem_nil, or_false] at hu_; rcases hu_ with rfl | rfl | rfl <;> rfl) HS146 (Nat.le_of_ble_eq_true rfl) kr ?_)
    intro W147 HS148
    refine nl (hK139 _ _ ?_)
    refine wp_ret ?_
    refine hret _ _ ?_
    refine ends (v := Value.agg #[.int .i64 vt140.Lo, .int .i64 vt140.Hi, .bool vt140.Unknown]) (results1 (q1 := .cell 4 43) kr (resN (n := 3) (cs := [.int .i64 vt140.Lo, .int .i64 vt140.Hi, .bool vt140.Unknown]) (kv (.pointer (some ⟨b12, 0, none⟩))) Tryz.underlying43 rfl kr rfl (HS148.cells 0 3 _ rfl))) kr ?_
    have HS236 := HS148.drop
    have HS237 := HS236.drop
    have HS238 := HS237.drop
    have HS239 := HS238.drop
    injection h with h
    subst h
    exact ⟨f142, rfl, (L100.trans L143), HS239⟩
  · have c137 : ¬ (vf5 < 0) := c137
    refine seqRwI 34 (x := (decide (vf5 < 0))) (v := false) kr (decide_eq_false c137) ?_
    refine seqRwI 35 (x := (decide (vf5 < 0))) (v := false) kr (decide_eq_false c137) ?_
    refine seqG kr (does_run (run_load rfl Tryz.underlying3 rfl (kv (.pointer (some ⟨b127, 0, none⟩))) (HS132.cell 0)) ?_)
    refine seqL2 kr ?_
    refine nl (hK136 _ _ ?_)
    have hq_ := ite_some h; clear h; rcases hq_ with ⟨c150, h⟩ | ⟨c150, h⟩
    · have c150 : (w64 ((w64 (Int.tdiv (ends104.length : Int) 2)) - vf5)) ≤ 0 := c150
      refine wpRwI 37 (x := (decide ((w64 ((w64 (Int.tdiv (ends104.length : Int) 2)) - vf5)) ≤ 0))) (v := true) kr (decide_eq_true c150) ?_
      refine wpRwI 38 (x := (decide ((w64 ((w64 (Int.tdiv (ends104.length : Int) 2)) - vf5)) ≤ 0))) (v := true) kr (decide_eq_true c150) ?_
      refine condT kr ?_
      refine wp_seq_k fun K151 hK152 => rl ?_
      have hq_ := bind_some h; clear h; obtain ⟨vt153, hc154, h⟩ := hq_
      refine seqK rfl (does_call (f := 37) (args := #[]) kr (bound_None_Count.calls k  HS132 vt153 hc154) ?_)
      rintro _ W157 ⟨f155, rfl, L156, HS158⟩
      refine ⟨_, rfl, ?_⟩
      have HS159 := HS158.u2
      refine seqK rfl (does_store (n := 3) (vs := [.int .i64 vt153.Lo, .int .i64 vt153.Hi, .bool vt153.Unknown]) (cs' := #[.int .i64 vt153.Lo, .int .i64 vt153.Hi, .bool vt153.Unknown]) rfl kr (kv (.pointer (some ⟨b12, 0, none⟩))) (kv (.agg #[.int .i64 vt153.Lo, .int .i64 vt153.Hi, .bool vt153.Unknown])) rfl rfl (by intro u_ hu_; simp only [List.mem_cons, List.not_mem_nil, or_false] at hu_; rcases hu_ with rfl | rfl | rfl <;> rfl) HS159 (Nat.le_of_ble_eq_true rfl) kr ?_)
      intro W160 HS161
      refine nl (hK152 _ _ ?_)
      refine wp_ret ?_
      refine hret _ _ ?_
      refine ends (v := Value.agg #[.int .i64 vt153.Lo, .int .i64 vt153.Hi, .bool vt153.Unknown]) (results1 (q1 := .cell 4 43) kr (resN (n := 3) (cs := [.int .i64 vt153.Lo, .int .i64 vt153.Hi, .bool vt153.Unknown]) (kv (.pointer (some ⟨b12, 0, none⟩))) Tryz.underlying43 rfl kr rfl (HS161.cells 0 3 _ rfl))) kr ?_
      have HS240 := HS161.drop
      have HS241 := HS240.drop
      have HS242 := HS241.drop
      have HS243 := HS242.drop
      injection h with h
      subst h
      exact ⟨f155, rfl, (L100.trans L156), HS243⟩
    · have c150 : ¬ ((w64 ((w64 (Int.tdiv (ends104.length : Int) 2)) - vf5)) ≤ 0) := c150
      refine wpRwI 37 (x := (decide ((w64 ((w64 (Int.tdiv (ends104.length : Int) 2)) - vf5)) ≤ 0))) (v := false) kr (decide_eq_false c150) ?_
      refine wpRwI 38 (x := (decide ((w64 ((w64 (Int.tdiv (ends104.length : Int) 2)) - vf5)) ≤ 0))) (v := false) kr (decide_eq_false c150) ?_
      refine condF kr ?_
      refine wp_skip ?_
      refine hK134 _ _ ?_
      refine wp_seq_k fun K162 hK163 => rl ?_
      refine seqL2 kr ?_
      refine nl (hK163 _ _ ?_)
      refine wp_seq_k (fun K164 hK165 => ?_)
      refine wp_seq_k fun K166 hK167 => rl ?_
      have HS168 := HS132.u1
      have HS169 := HS168.u1
      have HS170 := HS169.u3
      have hq_ := bind_some h; clear h; obtain ⟨vt171, hc172, h⟩ := hq_
      refine seqL2 kr ?_
      refine seqK rfl (does_call (f := 63) (args := #[.slice A105 ends104.length c106, .func (.func 61) #[] #[.pointer (some ⟨b8, 0, none⟩), .pointer (some ⟨b127, 0, none⟩)]]) kr (slices_DeleteFunc_Count__bound_Fuse_Count_1.calls k b8 A2 c3 b127 A105 c106 s107 l1 (w64 ((w64 (Int.tdiv (ends104.length : Int) 2)) - vf5)) ends104 HS170 (HR4.mono L100) HO108 vt171 hc172) ?_)
      rintro _ W175 ⟨f173, A177, c178, s179, rfl, L174, HS176, HO180⟩
      refine ⟨_, rfl, ?_⟩
      refine seqL1 kr ?_
      refine nl (hK167 _ _ ?_)
      refine wp_seq_k fun K182 hK183 => rl ?_
      refine seqL3 kr ?_
      refine nl (hK183 _ _ ?_)
      have hq_ := ite_some h; clear h; rcases hq_ with ⟨c185, h⟩ | ⟨c185, h⟩
      · have c185 : (vt171.length : Int) = 0 := c185
        refine wpRwI 46 (x := ((vt171.length : Int) == 0)) (v := true) kr (beq_iff_eq.mpr c185) ?_
        refine condT kr ?_
        refine wp_seq_k fun K186 hK187 => rl ?_
        have hq_ := bind_some h; clear h; obtain ⟨vt188, hc189, h⟩ := hq_
        refine seqK rfl (does_call (f := 37) (args := #[]) kr (bound_None_Count.calls k  HS176 vt188 hc189) ?_)
        rintro _ W192 ⟨f190, rfl, L191, HS193⟩
        refine ⟨_, rfl, ?_⟩
        have HS194 := HS193.u3
        refine seqK rfl (does_store (n := 3) (vs := [.int .i64 vt188.Lo, .int .i64 vt188.Hi, .bool vt188.Unknown]) (cs' := #[.int .i64 vt188.Lo, .int .i64 vt188.Hi, .bool vt188.Unknown]) rfl kr (kv (.pointer (some ⟨b12, 0, none⟩))) (kv (.agg #[.int .i64 vt188.Lo, .int .i64 vt188.Hi, .bool vt188.Unknown])) rfl rfl (by intro u_ hu_; simp only [List.mem_cons, List.not_mem_nil, or_false] at hu_; rcases hu_ with rfl | rfl | rfl <;> rfl) HS194 (Nat.le_of_ble_eq_true rfl) kr ?_)
        intro W195 HS196
        refine nl (hK187 _ _ ?_)
        refine wp_ret ?_
        refine hret _ _ ?_
        refine ends (v := Value.agg #[.int .i64 vt188.Lo, .int .i64 vt188.Hi, .bool vt188.Unknown]) (results1 (q1 := .cell 4 43) kr (resN (n := 3) (cs := [.int .i64 vt188.Lo, .int .i64 vt188.Hi, .bool vt188.Unknown]) (kv (.pointer (some ⟨b12, 0, none⟩))) Tryz.underlying43 rfl kr rfl (HS196.cells 0 3 _ rfl))) kr ?_
        have HS244 := HS196.drop
        have HS245 := HS244.drop
        have HS246 := HS245.drop
        have HS247 := HS246.drop
        injection h with h
        subst h
        exact ⟨f190, rfl, (L100.trans (L174.trans L191)), HS247⟩
      · have c185 : ¬ ((vt171.length : Int) = 0) := c185
        refine wpRwI 46 (x := ((vt171.length : Int) == 0)) (v := false) kr (beq_eq_false_iff_ne.mpr c185) ?_
        refine condF kr ?_
        refine wp_skip ?_
        refine hK165 _ _ ?_
        refine wp_seq_k fun K197 hK198 => rl ?_
        obtain ⟨f199, L200, HS201, HR202, th203⟩ := HO180.lend HS176
        have hq_ := bind_some h; clear h; obtain ⟨vt204, hc205, h⟩ := hq_
        refine seqL1 kr ?_
        refine seqK rfl (does_call (f := 64) (args := #[.slice A177 vt171.length c178]) kr (slices_Min_Count.calls k A177 c178 vt171 HS201 HR202 vt204 hc205) ?_)
        rintro _ W208 ⟨f206, rfl, L207, HS209⟩
        refine ⟨_, rfl, ?_⟩
        obtain ⟨f210, L211, HS212⟩ := th203 L207 HS209
        obtain ⟨f213, L214, HS215, HR216, th217⟩ := (HO180.mono L211).lend HS212
        have hq_ := bind_some h; clear h; obtain ⟨vt218, hc219, h⟩ := hq_
        refine seqL1 kr ?_
        refine seqK rfl (does_call (f := 65) (args := #[.slice A177 vt171.length c178]) kr (slices_Max_Count.calls k A177 c178 vt171 HS215 HR216 vt218 hc219) ?_)
        rintro _ W222 ⟨f220, rfl, L221, HS223⟩
        refine ⟨_, rfl, ?_⟩
        obtain ⟨f224, L225, HS226⟩ := th217 L221 HS223
        have hq_ := bind_some h; clear h; obtain ⟨vt227, hc228, h⟩ := hq_
        refine seqK rfl (does_call (f := 9) (args := #[.int .i64 vt204, .int .i64 vt218]) kr (bound_Of_Count.calls k vt204 vt218 HS226 vt227 hc228) ?_)
        rintro _ W231 ⟨f229, rfl, L230, HS232⟩
        refine ⟨_, rfl, ?_⟩
        have HS233 := HS232.u3
        refine seqK rfl (does_store (n := 3) (vs := [.int .i64 vt227.Lo, .int .i64 vt227.Hi, .bool vt227.Unknown]) (cs' := #[.int .i64 vt227.Lo, .int .i64 vt227.Hi, .bool vt227.Unknown]) rfl kr (kv (.pointer (some ⟨b12, 0, none⟩))) (kv (.agg #[.int .i64 vt227.Lo, .int .i64 vt227.Hi, .bool vt227.Unknown])) rfl rfl (by intro u_ hu_; simp only [List.mem_cons, List.not_mem_nil, or_false] at hu_; rcases hu_ with rfl | rfl | rfl <;> rfl) HS233 (Nat.le_of_ble_eq_true rfl) kr ?_)
        intro W234 HS235
        refine nl (hK198 _ _ ?_)
        refine wp_ret ?_
        refine hret _ _ ?_
        refine ends (v := Value.agg #[.int .i64 vt227.Lo, .int .i64 vt227.Hi, .bool vt227.Unknown]) (results1 (q1 := .cell 4 43) kr (resN (n := 3) (cs := [.int .i64 vt227.Lo, .int .i64 vt227.Hi, .bool vt227.Unknown]) (kv (.pointer (some ⟨b12, 0, none⟩))) Tryz.underlying43 rfl kr rfl (HS235.cells 0 3 _ rfl))) kr ?_
        have HS248 := HS235.drop
        have HS249 := HS248.drop
        have HS250 := HS249.drop
        have HS251 := HS250.drop
        injection h with h
        subst h
        exact ⟨f229, rfl, (L100.trans (L174.trans (L211.trans (L225.trans L230)))), HS251⟩
 clear h; have h := hv110; clear hv110
 have HS113 := HS14.cons_nil
 refine loopK (fun n_ a_ w_ => ∃ (f32 : FM) (A38 : Option Addr) (c39 : Nat) (s40 : Seg) (ends37 : List Int) (x43 : Int) (j36 : Nat → Value), FM.le f f32 ∧ St t w_ f32 (s40 :: [(b12, .cells #[.int .i64 0, .int .i64 0, .bool false] 43 (0, 0))] :: [(b8, .cells #[.slice A2 l1.length c3] 40 (0, 0))] :: H) ∧ Own (tInt .i64) 41 f32 A38 c39 s40 ends37 ∧ bound_Fuse_Count.l0 k l1 n_ ends37 x43 = some o28 ∧ a_ = ⟨#[.slice A2 l1.length c3, iV vf5, pV b8 0, uV, pV b12 0, .slice A38 ends37.length c39, uV, (j36 0), uV, uV, .slice A2 l1.length c3, iV (l1.length : Int), iV x43, (j36 1), (j36 2), (j36 3), (j36 4), (j36 5), (j36 6), (j36 7), (j36 8), (j36 9), (j36 10), (j36 11), (j36 12), (j36 13), (j36 14), (j36 15), uV, uV, uV, uV, uV, uV, uV, uV, uV, uV, uV, uV, uV, uV, uV, uV, uV, uV, uV, uV, uV, uV, uV, uV, uV], []⟩) k ⟨f, none, 0, [], ([] : List Int), 0, (fun i_ => [undef, undef, undef, undef, undef, undef, undef, undef, undef, undef, undef, undef, undef, undef, undef, undef].getD i_ undef), (FM.le.refl _), HS113, (Own.nil _), h, kr⟩ ?_
 clear h
 rintro n31 _ W34 ⟨f32, A38, c39, s40, ends37, x43, j36, L33, HS35, HO41, h, rfl⟩ K29 hK30
 obtain _ | n31 := n31
 · exact nomatch h
 simp only [bound_Fuse_Count.l0] at h
 refine wp_seq_k fun K44 hK45 => rl ?_
 refine seqL1 kr ?_
 refine nl (hK45 _ _ ?_)
 refine wp_seq_k (fun K46 hK47 => ?_)
 have hq_ := ite_some h; clear h; rcases hq_ with ⟨c49, h⟩ | ⟨c49, h⟩
 · have c49 : x43 < (l1.length : Int) := c49
   refine wpRwI 13 (x := (decide (x43 < (l1.length : Int)))) (v := true) kr (decide_eq_true c49) ?_
   refine condT kr ?_
   refine wp_skip ?_
   refine hK47 _ _ ?_
   refine wp_seq_k (fun K50 hK51 => ?_)
   refine blockK (fun B52 hx53 hn54 hr55 ho56 hp57 => ?_)
   refine wp_seq_k fun K59 hK60 => rl ?_
   have hq_ := guard_some h; clear h; obtain ⟨c61, h⟩ := hq_
   have c61 : 0 ≤ x43 := c61
   obtain ⟨b65, of66, cs62, hA67, hr63, hc64⟩ := (HR4.mono L33).at (i := x43) c61 c49
   obtain rfl := hr63
   refine seqK rfl (does_run (run_indexE hA67 (sz := 3) rfl Tryz.underlying40 kr (kv (.slice A2 l1.length c3)) (kv (.int .i64 x43)) c61 c49 W34) ?_)
   refine seqK rfl (does_run (run_loadN (n := 3) rfl Tryz.underlying43 rfl kr (kv (.pointer (some ⟨b65, of66 + (x43 : Int).toNat * 3, none⟩))) (cs := [.int .i64 ((rd l1 x43).Lo), .int .i64 ((rd l1 x43).Hi), .bool ((rd l1 x43).Unknown)]) rfl (fun j_ hj_ => ((hc64 (FM.le.refl _) HS35) j_ hj_))) ?_)
   refine seqK rfl (does_alloc (z := Value.agg #[.int .i64 0, .int .i64 0, .bool false]) (cs := #[.int .i64 0, .int .i64 0, .bool false]) rfl kr rfl HS35 ?_)
   intro b68 W69 HS70
   refine seqK rfl (does_store (n := 3) (vs := [.int .i64 ((rd l1 x43).Lo), .int .i64 ((rd l1 x43).Hi), .bool ((rd l1 x43).Unknown)]) (cs' := #[.int .i64 ((rd l1 x43).Lo), .int .i64 ((rd l1 x43).Hi), .bool ((rd l1 x43).Unknown)]) rfl kr (kv (.pointer (some ⟨b68, 0, none⟩))) (kv (.agg #[.int .i64 ((rd l1 x43).Lo), .int .i64 ((rd l1 x43).Hi), .bool ((rd l1 x43).Unknown)])) rfl rfl (by intro u_ hu_; simp only [List.mem_cons, List.not_mem_nil, or_false] at hu_; rcases hu_ with rfl | rfl | rfl <;> rfl) HS70 (Nat.le_of_ble_eq_true rfl) kr ?_)
   intro W72 HS73
   refine nl (hK60 _ _ ?_)
   refine wp_seq_k fun K74 hK75 => rl ?_
   refine seqK rfl (does_run (run_loadN (n := 3) rfl Tryz.underlying43 rfl kr (kv (.pointer (some ⟨b68, 0, none⟩))) (cs := [.int .i64 ((rd l1 x43).Lo), .int .i64 ((rd l1 x43).Hi), .bool ((rd l1 x43).Unknown)]) rfl (HS73.cells 0 3 _ rfl)) ?_)
   refine seqK rfl (does_run (run_loadN (n := 3) rfl Tryz.underlying43 rfl kr (kv (.pointer (some ⟨b68, 0, none⟩))) (cs := [.int .i64 ((rd l1 x43).Lo), .int .i64 ((rd l1 x43).Hi), .bool ((rd l1 x43).Unknown)]) rfl (HS73.cells 0 3 _ rfl)) ?_)
   have hq_ := bind_some h; clear h; obtain ⟨vt76, hc77, h⟩ := hq_
   refine seqK rfl (does_call (f := 60) (args := #[.agg #[.int .i64 ((rd l1 x43).Lo), .int .i64 ((rd l1 x43).Hi), .bool ((rd l1 x43).Unknown)], .agg #[.int .i64 ((rd l1 x43).Lo), .int .i64 ((rd l1 x43).Hi), .bool ((rd l1 x43).Unknown)]]) kr (bound_vague_Count.calls k (rd l1 x43) (rd l1 x43) HS73 vt76 hc77) ?_)
   rintro _ W80 ⟨f78, rfl, L79, HS81⟩
   refine ⟨_, rfl, ?_⟩
   refine seqL1 kr ?_
   refine nl (hK75 _ _ ?_)
   have hq_ := ite_some h; clear h; rcases hq_ with ⟨c83, h⟩ | ⟨c83, h⟩
   · have c83 : ¬ (vt76 = true) := c83
     refine wpRwI 19 (x := (!vt76)) (v := true) kr (congrArg (fun b_ => !b_) (show vt76 = false from (Bool.eq_false_iff.mpr c83)) : (!vt76) = true) ?_
     refine condT kr ?_
     refine rl ?_
     refine seqL2 kr ?_
     refine seqK rfl (does_run (run_load rfl Tryz.underlying41 rfl (kv (.pointer (some ⟨b68, 0, none⟩))) (HS81.cell 0)) ?_)
     refine seqL1 kr ?_
     refine seqK rfl (does_run (run_load rfl Tryz.underlying41 rfl (kv (.pointer (some ⟨b68, 1, none⟩))) (HS81.cell 1)) ?_)
     refine seqK rfl (does_lit (e := (tInt .i64)) (E := 41) (vs := #[(0, Value.int .i64 ((rd l1 x43).Lo)), (1, Value.int .i64 ((rd l1 x43).Hi))]) (cs := #[.int .i64 ((rd l1 x43).Lo), .int .i64 ((rd l1 x43).Hi)]) (xs := ([(rd l1 x43).Lo, (rd l1 x43).Hi] : List Int)) rfl Tryz.underlying127 kr kr ⟨[.int .i64 ((rd l1 x43).Lo)], _, rfl, rfl, ⟨[.int .i64 ((rd l1 x43).Hi)], _, rfl, rfl, rfl⟩⟩ rfl HS81 ?_ (by decide))
     intro b84 W85 s86 HS87 _ HO88
     have hq_ := guard_some h; clear h; obtain ⟨c90, h⟩ := hq_
     have c90 : (ends37.length + 2) * 8 ≤ 140737488355328 := c90
     have HS91 := HS87.u2
     have HS92 := HS91.u1
     refine seqK rfl (does_append1 (e := (tInt .i64)) (E := 41) (xs := ends37) (ys := ([(rd l1 x43).Lo, (rd l1 x43).Hi] : List Int)) rfl (kv (.slice A38 ends37.length c39)) (kv (.slice (some ⟨b84, 0, none⟩) ([(rd l1 x43).Lo, (rd l1 x43).Hi] : List Int).length 2)) Tryz.underlying127 inf41 (HO41.mono L79) HO88 HS92 c90 (lim63 c90 (by decide)) ?_)
     intro A93 c94 s95 W96 HS97 HO98
     refine seqL1 kr ?_
     refine nl ?_
     refine hn54 _ _ ?_
     refine hK51 _ _ ?_
     refine rl ?_
     refine seqL2 kr ?_
     refine nl ?_
     refine hK30 n31 _ _ (Nat.lt_succ_self _) ?_
     have HS115 := HS97.u3
     have HS116 := HS115.u3
     have HS117 := HS116.u2
     have HS118 := HS117.u3
     have HS119 := HS118.drop
     exact ⟨f78, A93, c94, s95, (ends37 ++ ([(rd l1 x43).Lo, (rd l1 x43).Hi] : List Int)), (w64 (x43 + 1)), (fun i_ => [Value.pointer (some ⟨b68, 0, none⟩), Value.bool true, Value.pointer (some ⟨b65, of66 + (x43 : Int).toNat * 3, none⟩), (ag_Bound (rd l1 x43)), (ag_Bound (rd l1 x43)), (ag_Bound (rd l1 x43)), Value.bool vt76, Value.bool true, Value.slice A38 ends37.length c39, Value.pointer (some ⟨b68, 0, none⟩), Value.int .i64 ((rd l1 x43).Lo), Value.pointer (some ⟨b68, 1, none⟩), Value.int .i64 ((rd l1 x43).Hi), Value.slice (some ⟨b84, 0, none⟩) ([(rd l1 x43).Lo, (rd l1 x43).Hi] : List Int).length 2, Value.slice A93 (ends37 ++ ([(rd l1 x43).Lo, (rd l1 x43).Hi] : List Int)).length c94, Value.int .i64 (w64 (x43 + 1))].getD i_ undef), (L33.trans L79), HS119, HO98, h, kr⟩
   · have c83 : ¬ (¬ (vt76 = true)) := c83
     refine wpRwI 19 (x := (!vt76)) (v := false) kr (congrArg (fun b_ => !b_) (show vt76 = true from (Decidable.of_not_not c83)) : (!vt76) = false) ?_
     refine condF kr ?_
     refine wp_skip ?_
     refine hn54 _ _ ?_
     refine hK51 _ _ ?_
     refine rl ?_
     refine seqL2 kr ?_
     refine nl ?_
     refine hK30 n31 _ _ (Nat.lt_succ_self _) ?_
     have HS120 := HS81.u3
     have HS121 := HS120.u3
     have HS122 := HS121.u3
     have HS123 := HS122.u3
     have HS124 := HS123.drop
     exact ⟨f78, A38, c39, s40, ends37, (w64 (x43 + 1)), (fun i_ => [Value.pointer (some ⟨b68, 0, none⟩), Value.bool true, Value.pointer (some ⟨b65, of66 + (x43 : Int).toNat * 3, none⟩), (ag_Bound (rd l1 x43)), (ag_Bound (rd l1 x43)), (ag_Bound (rd l1 x43)), Value.bool vt76, Value.bool false, (j36 8), (j36 9), (j36 10), (j36 11), (j36 12), (j36 13), (j36 14), Value.int .i64 (w64 (x43 + 1))].getD i_ undef), (L33.trans L79), HS124, (HO41.mono L79), h, kr⟩
 · have c49 : ¬ (x43 < (l1.length : Int)) := c49
   refine wpRwI 13 (x := (decide (x43 < (l1.length : Int)))) (v := false) kr (decide_eq_false c49) ?_
   refine condF kr ?_
   refine wp_exit ?_
   refine hx23 _ _ ?_
   exact J111 f32 A38 c39 s40 ends37 (fun i_ => [(j36 0), Value.int .i64 x43, Value.bool false, (j36 2), (j36 3), (j36 4), (j36 5), (j36 6), (j36 7), (j36 8), (j36 9), (j36 10), (j36 11), (j36 12), (j36 13), (j36 14), (j36 15)].getD i_ undef) W34 _ L33 h HS35 HO41 kr

set_option maxRecDepth 100000 in
set_option maxHeartbeats 4000000 in
theorem master_fuse_Count.calls (k : Nat) (A2 : Option Addr) (c3 : Nat) (l1 : List (List S_Bound)) (n5 : Int) (vf6 : Int) {t w : World} {f : FM} {H : List Seg} (HS : St t w f (H)) (HR4 : SlR (tSl ty_Bound) f A2 c3 l1) (rr1 : List S_Bound) (h : master_fuse_Count k l1 n5 vf6 = some rr1) :
    Calls Tryz.prog 38 #[.slice A2 l1.length c3, .int .i64 n5, .int .i64 vf6] w (fun e w' => ∃ (g : FM) (A334 : Option Addr) (c335 : Nat) (s336 : Seg), e = .returned (Value.slice A334 rr1.length c335) ∧ FM.le f g ∧ St t w' g (s336 :: H) ∧ Own ty_Bound 43 g A334 c335 s336 rr1) := by
 unfold master_fuse_Count at h
 refine enter Tryz.func38 rfl (tm := #[.slice A2 l1.length c3, iV n5, iV vf6, uV, uV, uV, uV, uV, uV, uV, uV, uV, uV, uV, uV, uV, uV, uV, uV, uV, uV, uV, uV, uV, uV, uV, uV, uV, uV, uV, uV, uV, uV, uV, uV, uV, uV, uV, uV, uV, uV]) kr ?_
 intro B hret hnor hnp
 refine wp_seq_k fun K7 hK8 => rl ?_
 refine seqL1 kr ?_
 refine nl (hK8 _ _ ?_)
 refine wp_seq_k fun K9 hK10 => rl ?_
 have hq_ := guard_some h; clear h; obtain ⟨c11, h⟩ := hq_
 have c11 : 0 ≤ n5 := c11
 have hq_ := guard_some h; clear h; obtain ⟨c12, h⟩ := hq_
 have c12 : n5 * 24 ≤ 140737488355328 := c12
 refine seqL1 kr ?_
 refine seqK rfl (does_make (e := ty_Bound) (E := 43) (u := (⟨0, 0, false⟩ : S_Bound)) (n := n5) rfl (kv (.int .i64 n5)) (kv (.int .i64 n5)) Tryz.underlying40 inf43 c11 c12 (by omega) rfl HS ?_)
 intro b13 W14 s15 HS16 HO17
 refine seqL1 kr ?_
 refine nl (hK10 _ _ ?_)
 refine wp_seq_k (fun K19 hK20 => ?_)
 refine wp_seq_k fun K21 hK22 => rl ?_
 refine seqL3 kr ?_
 refine nl (hK22 _ _ ?_)
 refine blockK (fun B23 hx24 hn25 hr26 ho27 hp28 => ?_)
 have hq_ := bind_some h; clear h; obtain ⟨o171, hv327, h⟩ := hq_
 have J328 : ∀ (f318 : FM) (s324 : Seg) (out323 : List S_Bound) (j322 : Nat → Value) (W320 : World) (a_ : Act), FM.le f f318 → some (out323) = some o171 → St t W320 f318 (s324 :: H) → Own ty_Bound 43 f318 (some ⟨b13, 0, none⟩) (n5).toNat s324 out323 → out323.length = (List.replicate (n5).toNat ((⟨0, 0, false⟩ : S_Bound) : S_Bound)).length → a_ = ⟨#[.slice A2 l1.length c3, iV n5, iV vf6, uV, uV, uV, .slice none 0 0, .slice (some ⟨b13, 0, none⟩) out323.length (n5).toNat, (j322 0), (j322 1), uV, (j322 2), iV n5, (j322 3), (j322 4), iV ((List.replicate (n5).toNat ((⟨0, 0, false⟩ : S_Bound) : S_Bound)).length : Int), (j322 5), (j322 6), (j322 7), (j322 8), (j322 9), (j322 10), (j322 11), (j322 12), (j322 13), (j322 14), (j322 15), (j322 16), (j322 17), (j322 18), (j322 19), (j322 20), (j322 21), (j322 22), (j322 23), (j322 24), (j322 25), (j322 26), (j322 27), (j322 28), uV], []⟩ → K19 a_ W320 := by
  intro f318 s324 out323 j322 W320 a_ L319 hj329 HS321 HO325 HL326 hfr_; subst hfr_
  injection hj329 with hj329; subst hj329; try dsimp only at h
  refine hK20 _ _ ?_
  refine wp_seq_k fun K332 hK333 => rl ?_
  refine seqL2 kr ?_
  refine nl (hK333 _ _ ?_)
  refine wp_ret ?_
  refine hret _ _ ?_
  refine ends_still (v := Value.slice (some ⟨b13, 0, none⟩) out323.length (n5).toNat) kr kr ?_
  injection h with h
  subst h
  exact ⟨f318, (some ⟨b13, 0, none⟩), ((n5).toNat), s324, rfl, L319, HS321, HO325⟩
 clear h; have h := hv327; clear hv327
 refine loopK (fun n_ a_ w_ => ∃ (f175 : FM) (s181 : Seg) (out180 : List S_Bound) (x184 : Int) (j179 : Nat → Value), FM.le f f175 ∧ St t w_ f175 (s181 :: H) ∧ Own ty_Bound 43 f175 (some ⟨b13, 0, none⟩) (n5).toNat s181 out180 ∧ out180.length = (List.replicate (n5).toNat ((⟨0, 0, false⟩ : S_Bound) : S_Bound)).length ∧ master_fuse_Count.l0 k n5 l1 vf6 n_ out180 x184 = some o171 ∧ a_ = ⟨#[.slice A2 l1.length c3, iV n5, iV vf6, uV, uV, uV, .slice none 0 0, .slice (some ⟨b13, 0, none⟩) out180.length (n5).toNat, (j179 0), (j179 1), uV, (j179 2), iV n5, .slice (some ⟨b13, 0, none⟩) (List.replicate (n5).toNat ((⟨0, 0, false⟩ : S_Bound) : S_Bound)).length (n5).toNat, .slice (some ⟨b13, 0, none⟩) (List.replicate (n5).toNat ((⟨0, 0, false⟩ : S_Bound) : S_Bound)).length (n5).toNat, iV ((List.replicate (n5).toNat ((⟨0, 0, false⟩ : S_Bound) : S_Bound)).length : Int), iV x184, (j179 3), (j179 4), (j179 5), (j179 6), (j179 7), (j179 8), (j179 9), (j179 10), (j179 11), (j179 12), (j179 13), (j179 14), (j179 15), (j179 16), (j179 17), (j179 18), (j179 19), (j179 20), (j179 21), (j179 22), (j179 23), (j179 24), (j179 25), uV], []⟩) k ⟨f, s15, (List.replicate (n5).toNat ((⟨0, 0, false⟩ : S_Bound) : S_Bound)), 0, (fun i_ => [undef, undef, undef, undef, undef, undef, undef, undef, undef, undef, undef, undef, undef, undef, undef, undef, undef, undef, undef, undef, undef, undef, undef, undef, undef, undef].getD i_ undef), (FM.le.refl _), HS16, HO17, rfl, h, kr⟩ ?_
 clear h
 rintro n174 _ W177 ⟨f175, s181, out180, x184, j179, L176, HS178, HO182, HL183, h, rfl⟩ K172 hK173
 obtain _ | n174 := n174
 · exact nomatch h
 simp only [master_fuse_Count.l0] at h
 refine wp_seq_k fun K185 hK186 => rl ?_
 refine seqL1 kr ?_
 refine nl (hK186 _ _ ?_)
 refine wp_seq_k (fun K187 hK188 => ?_)
 have hq_ := ite_some h; clear h; rcases hq_ with ⟨c190, h⟩ | ⟨c190, h⟩
 · have c190 : x184 < ((List.replicate (n5).toNat ((⟨0, 0, false⟩ : S_Bound) : S_Bound)).length : Int) := c190
   refine wpRwI 17 (x := (decide (x184 < ((List.replicate (n5).toNat ((⟨0, 0, false⟩ : S_Bound) : S_Bound)).length : Int)))) (v := true) kr (decide_eq_true c190) ?_
   refine condT kr ?_
   refine wp_skip ?_
   refine hK188 _ _ ?_
   refine wp_seq_k (fun K191 hK192 => ?_)
   refine blockK (fun B193 hx194 hn195 hr196 ho197 hp198 => ?_)
   refine wp_seq_k fun K200 hK201 => rl ?_
   refine seqL2 kr ?_
   refine nl (hK201 _ _ ?_)
   refine wp_seq_k fun K202 hK203 => rl ?_
   refine seqL1 kr ?_
   refine nl (hK203 _ _ ?_)
   refine wp_seq_k (fun K204 hK205 => ?_)
   refine wp_seq_k fun K206 hK207 => rl ?_
   refine seqL3 kr ?_
   refine nl (hK207 _ _ ?_)
   refine blockK (fun B208 hx209 hn210 hr211 ho212 hp213 => ?_)
   have hq_ := bind_some h; clear h; obtain ⟨o214, hv289, h⟩ := hq_
   have J290 : ∀ (f278 : FM) (A284 : Option Addr) (c285 : Nat) (s286 : Seg) (cell283 : List S_Bound) (j282 : Nat → Value) (W280 : World) (a_ : Act), FM.le f175 f278 → some (cell283) = some o214 → St t W280 f278 (s286 :: s181 :: H) → Own ty_Bound 43 f278 A284 c285 s286 cell283 → a_ = ⟨#[.slice A2 l1.length c3, iV n5, iV vf6, uV, uV, uV, .slice none 0 0, .slice (some ⟨b13, 0, none⟩) out180.length (n5).toNat, iV x184, .slice A284 cell283.length c285, uV, (j282 0), iV n5, .slice (some ⟨b13, 0, none⟩) (List.replicate (n5).toNat ((⟨0, 0, false⟩ : S_Bound) : S_Bound)).length (n5).toNat, .slice (some ⟨b13, 0, none⟩) (List.replicate (n5).toNat ((⟨0, 0, false⟩ : S_Bound) : S_Bound)).length (n5).toNat, iV ((List.replicate (n5).toNat ((⟨0, 0, false⟩ : S_Bound) : S_Bound)).length : Int), iV x184, tV, iV x184, .slice A2 l1.length c3, iV (l1.length : Int), (j282 1), (j282 2), (j282 3), (j282 4), (j282 5), (j282 6), (j282 7), (j282 8), (j282 9), (j282 10), (j282 11), (j282 12), (j179 19), (j179 20), (j179 21), (j179 22), (j179 23), (j179 24), (j179 25), uV], []⟩ → K204 a_ W280 := by
    intro f278 A284 c285 s286 cell283 j282 W280 a_ L279 hj291 HS281 HO287 hfr_; subst hfr_
    injection hj291 with hj291; subst hj291; try dsimp only at h
    refine hK205 _ _ ?_
    refine rl ?_
    obtain ⟨f294, L295, HS296, HR297, th298⟩ := HO287.lend HS281
    have hq_ := bind_some h; clear h; obtain ⟨vt299, hc300, h⟩ := hq_
    refine seqL4 kr ?_
    refine seqK rfl (does_call (f := 48) (args := #[.slice A284 cell283.length c285, .int .i64 vf6]) kr (bound_Fuse_Count.calls k A284 c285 cell283 vf6 HS296 HR297 vt299 hc300) ?_)
    rintro _ W303 ⟨f301, rfl, L302, HS304⟩
    refine ⟨_, rfl, ?_⟩
    obtain ⟨f305, L306, HS307⟩ := th298 L302 HS304
    have hq_ := guard_some h; clear h; obtain ⟨c308, h⟩ := hq_
    have c308 : 0 ≤ x184 := c308
    have hq_ := guard_some h; clear h; obtain ⟨c309, h⟩ := hq_
    have c309 : x184 < (out180.length : Int) := c309
    obtain ⟨cs310, hr311, hc312⟩ := (HO182.mono (L279.trans L306)).at' (i := x184) c308 c309
    obtain rfl := hr311
    refine seqK rfl (does_run (run_index (sz := 3) rfl Tryz.underlying40 kr (kv (.slice (some ⟨b13, 0, none⟩) out180.length (n5).toNat)) (kv (.int .i64 x184)) c308 c309 W303) ?_)
    have HS313 := HS307.u1
    refine seqK rfl (does_put (e := ty_Bound) (E := 43) (vs := [.int .i64 vt299.Lo, .int .i64 vt299.Hi, .bool vt299.Unknown]) (u := vt299) (i := x184) rfl kr (HO182.mono (L279.trans L306)) HS313 rfl (kv (.pointer (some ⟨b13, 0 + (x184 : Int).toNat * 3, none⟩))) (kv (.agg #[.int .i64 vt299.Lo, .int .i64 vt299.Hi, .bool vt299.Unknown])) rfl rfl c308 c309 ?_)
    intro W314 s315 HS316 HO317
    refine seqRwS 7 (A := (some ⟨b13, 0, none⟩)) (m := out180.length) (n := (out180.set (x184).toNat vt299).length) (c := (n5).toNat) kr (List.length_set).symm ?_
    refine seqRwS 33 (A := (some ⟨b13, 0, none⟩)) (m := out180.length) (n := (out180.set (x184).toNat vt299).length) (c := (n5).toNat) kr (List.length_set).symm ?_
    refine nl ?_
    refine hn195 _ _ ?_
    refine hK192 _ _ ?_
    refine rl ?_
    refine seqL2 kr ?_
    refine nl ?_
    refine hK173 n174 _ _ (Nat.lt_succ_self _) ?_
    have HS330 := HS316.u1
    have HS331 := HS330.drop
    exact ⟨f305, s315, (out180.set (x184).toNat vt299), (w64 (x184 + 1)), (fun i_ => [Value.int .i64 x184, Value.slice A284 cell283.length c285, (j282 0), Value.bool true, Value.int .i64 x184, Value.slice A2 l1.length c3, Value.int .i64 (l1.length : Int), (j282 1), (j282 2), (j282 3), (j282 4), (j282 5), (j282 6), (j282 7), (j282 8), (j282 9), (j282 10), (j282 11), (j282 12), Value.slice (some ⟨b13, 0, none⟩) (out180.set (x184).toNat vt299).length (n5).toNat, Value.int .i64 x184, Value.slice A284 cell283.length c285, Value.int .i64 vf6, (ag_Bound vt299), Value.pointer (some ⟨b13, 0 + (x184 : Int).toNat * 3, none⟩), Value.int .i64 (w64 (x184 + 1))].getD i_ undef), (L176.trans (L279.trans L306)), HS331, HO317, (List.length_set.trans HL183), h, kr⟩
   clear h; have h := hv289; clear hv289
   have HS292 := HS178.cons_nil
   refine loopK (fun n_ a_ w_ => ∃ (f218 : FM) (A224 : Option Addr) (c225 : Nat) (s226 : Seg) (cell223 : List S_Bound) (x229 : Int) (j222 : Nat → Value), FM.le f175 f218 ∧ St t w_ f218 (s226 :: s181 :: H) ∧ Own ty_Bound 43 f218 A224 c225 s226 cell223 ∧ master_fuse_Count.l1 k l1 x184 n_ cell223 x229 = some o214 ∧ a_ = ⟨#[.slice A2 l1.length c3, iV n5, iV vf6, uV, uV, uV, .slice none 0 0, .slice (some ⟨b13, 0, none⟩) out180.length (n5).toNat, iV x184, .slice A224 cell223.length c225, uV, (j222 0), iV n5, .slice (some ⟨b13, 0, none⟩) (List.replicate (n5).toNat ((⟨0, 0, false⟩ : S_Bound) : S_Bound)).length (n5).toNat, .slice (some ⟨b13, 0, none⟩) (List.replicate (n5).toNat ((⟨0, 0, false⟩ : S_Bound) : S_Bound)).length (n5).toNat, iV ((List.replicate (n5).toNat ((⟨0, 0, false⟩ : S_Bound) : S_Bound)).length : Int), iV x184, tV, iV x184, .slice A2 l1.length c3, iV (l1.length : Int), iV x229, (j222 1), (j222 2), (j222 3), (j222 4), (j222 5), (j222 6), (j222 7), (j222 8), (j222 9), (j222 10), (j222 11), (j179 19), (j179 20), (j179 21), (j179 22), (j179 23), (j179 24), (j179 25), uV], []⟩) k ⟨f175, none, 0, [], ([] : List S_Bound), 0, (fun i_ => [(j179 2), (j179 8), (j179 9), (j179 10), (j179 11), (j179 12), (j179 13), (j179 14), (j179 15), (j179 16), (j179 17), (j179 18)].getD i_ undef), (FM.le.refl _), HS292, (Own.nil _), h, kr⟩ ?_
   clear h
   rintro n217 _ W220 ⟨f218, A224, c225, s226, cell223, x229, j222, L219, HS221, HO227, h, rfl⟩ K215 hK216
   obtain _ | n217 := n217
   · exact nomatch h
   simp only [master_fuse_Count.l1] at h
   refine wp_seq_k fun K230 hK231 => rl ?_
   refine seqL1 kr ?_
   refine nl (hK231 _ _ ?_)
   refine wp_seq_k (fun K232 hK233 => ?_)
   have hq_ := ite_some h; clear h; rcases hq_ with ⟨c235, h⟩ | ⟨c235, h⟩
   · have c235 : x229 < (l1.length : Int) := c235
     refine wpRwI 22 (x := (decide (x229 < (l1.length : Int)))) (v := true) kr (decide_eq_true c235) ?_
     refine condT kr ?_
     refine wp_skip ?_
     refine hK233 _ _ ?_
     refine wp_seq_k (fun K236 hK237 => ?_)
     refine blockK (fun B238 hx239 hn240 hr241 ho242 hp243 => ?_)
     refine wp_seq_k fun K245 hK246 => rl ?_
     have hq_ := guard_some h; clear h; obtain ⟨c247, h⟩ := hq_
     have c247 : 0 ≤ x229 := c247
     obtain ⟨b251, of252, cs248, hA253, hr249, hc250⟩ := (HR4.mono (L176.trans L219)).at (i := x229) c247 c235
     obtain ⟨A254, c254, rfl, HR254⟩ := hr249
     refine seqK rfl (does_run (run_indexE hA253 (sz := 1) rfl Tryz.underlying94 kr (kv (.slice A2 l1.length c3)) (kv (.int .i64 x229)) c247 c235 W220) ?_)
     refine seqK rfl (does_run (run_load rfl Tryz.underlying40 rfl (kv (.pointer (some ⟨b251, of252 + (x229 : Int).toNat * 1, none⟩))) ((hc250 (FM.le.refl _) HS221) 0 (by decide))) ?_)
     refine seqL1 kr ?_
     refine nl (hK246 _ _ ?_)
     refine rl ?_
     have hq_ := guard_some h; clear h; obtain ⟨c255, h⟩ := hq_
     have c255 : 0 ≤ x184 := c255
     have hq_ := guard_some h; clear h; obtain ⟨c256, h⟩ := hq_
     have c256 : x184 < ((rd l1 x229).length : Int) := c256
     obtain ⟨b260, of261, cs257, hA262, hr258, hc259⟩ := HR254.at (i := x184) c255 c256
     obtain rfl := hr258
     refine seqL3 kr ?_
     refine seqK rfl (does_run (run_indexE hA262 (sz := 3) rfl Tryz.underlying40 kr (kv (.slice A254 (rd l1 x229).length c254)) (kv (.int .i64 x184)) c255 c256 W220) ?_)
     refine seqK rfl (does_run (run_loadN (n := 3) rfl Tryz.underlying43 rfl kr (kv (.pointer (some ⟨b260, of261 + (x184 : Int).toNat * 3, none⟩))) (cs := [.int .i64 ((rd (rd l1 x229) x184).Lo), .int .i64 ((rd (rd l1 x229) x184).Hi), .bool ((rd (rd l1 x229) x184).Unknown)]) rfl (fun j_ hj_ => ((hc259 (FM.le.refl _) HS221) j_ hj_))) ?_)
     refine seqK rfl (does_lit (e := ty_Bound) (E := 43) (vs := #[(0, Value.agg #[.int .i64 ((rd (rd l1 x229) x184).Lo), .int .i64 ((rd (rd l1 x229) x184).Hi), .bool ((rd (rd l1 x229) x184).Unknown)])]) (cs := #[.int .i64 ((rd (rd l1 x229) x184).Lo), .int .i64 ((rd (rd l1 x229) x184).Hi), .bool ((rd (rd l1 x229) x184).Unknown)]) (xs := ([(rd (rd l1 x229) x184)] : List S_Bound)) rfl Tryz.underlying40 kr kr ⟨[.int .i64 ((rd (rd l1 x229) x184).Lo), .int .i64 ((rd (rd l1 x229) x184).Hi), .bool ((rd (rd l1 x229) x184).Unknown)], _, rfl, rfl, rfl⟩ rfl HS221 ?_ (by decide))
     intro b263 W264 s265 HS266 _ HO267
     have hq_ := guard_some h; clear h; obtain ⟨c269, h⟩ := hq_
     have c269 : (cell223.length + 1) * 24 ≤ 140737488355328 := c269
     have HS270 := HS266.u1
     have HS271 := HS270.u1
     refine seqK rfl (does_append1 (e := ty_Bound) (E := 43) (xs := cell223) (ys := ([(rd (rd l1 x229) x184)] : List S_Bound)) rfl (kv (.slice A224 cell223.length c225)) (kv (.slice (some ⟨b263, 0, none⟩) ([(rd (rd l1 x229) x184)] : List S_Bound).length 1)) Tryz.underlying40 inf43 HO227 HO267 HS271 c269 (lim63 c269 (by decide)) ?_)
     intro A272 c273 s274 W275 HS276 HO277
     refine seqL1 kr ?_
     refine nl ?_
     refine hn240 _ _ ?_
     refine hK237 _ _ ?_
     refine rl ?_
     refine seqL2 kr ?_
     refine nl ?_
     refine hK216 n217 _ _ (Nat.lt_succ_self _) ?_
     exact ⟨f218, A272, c273, s274, (cell223 ++ ([(rd (rd l1 x229) x184)] : List S_Bound)), (w64 (x229 + 1)), (fun i_ => [Value.slice A254 (rd l1 x229).length c254, Value.bool true, Value.pointer (some ⟨b251, of252 + (x229 : Int).toNat * 1, none⟩), Value.slice A254 (rd l1 x229).length c254, Value.slice A224 cell223.length c225, Value.slice A254 (rd l1 x229).length c254, Value.int .i64 x184, Value.pointer (some ⟨b260, of261 + (x184 : Int).toNat * 3, none⟩), (ag_Bound (rd (rd l1 x229) x184)), Value.slice (some ⟨b263, 0, none⟩) ([(rd (rd l1 x229) x184)] : List S_Bound).length 1, Value.slice A272 (cell223 ++ ([(rd (rd l1 x229) x184)] : List S_Bound)).length c273, Value.int .i64 (w64 (x229 + 1))].getD i_ undef), L219, HS276, HO277, h, kr⟩
   · have c235 : ¬ (x229 < (l1.length : Int)) := c235
     refine wpRwI 22 (x := (decide (x229 < (l1.length : Int)))) (v := false) kr (decide_eq_false c235) ?_
     refine condF kr ?_
     refine wp_exit ?_
     refine hx209 _ _ ?_
     exact J290 f218 A224 c225 s226 cell223 (fun i_ => [(j222 0), Value.int .i64 x229, Value.bool false, (j222 2), (j222 3), (j222 4), (j222 5), (j222 6), (j222 7), (j222 8), (j222 9), (j222 10), (j222 11)].getD i_ undef) W220 _ L219 h HS221 HO227 kr
 · have c190 : ¬ (x184 < ((List.replicate (n5).toNat ((⟨0, 0, false⟩ : S_Bound) : S_Bound)).length : Int)) := c190
   refine wpRwI 17 (x := (decide (x184 < ((List.replicate (n5).toNat ((⟨0, 0, false⟩ : S_Bound) : S_Bound)).length : Int)))) (v := false) kr (decide_eq_false c190) ?_
   refine condF kr ?_
   refine wp_exit ?_
   refine hx24 _ _ ?_
   exact J328 f175 s181 out180 (fun i_ => [(j179 0), (j179 1), (j179 2), Value.slice (some ⟨b13, 0, none⟩) (List.replicate (n5).toNat ((⟨0, 0, false⟩ : S_Bound) : S_Bound)).length (n5).toNat, Value.slice (some ⟨b13, 0, none⟩) (List.replicate (n5).toNat ((⟨0, 0, false⟩ : S_Bound) : S_Bound)).length (n5).toNat, Value.int .i64 x184, Value.bool false, (j179 4), (j179 5), (j179 6), (j179 7), (j179 8), (j179 9), (j179 10), (j179 11), (j179 12), (j179 13), (j179 14), (j179 15), (j179 16), (j179 17), (j179 18), (j179 19), (j179 20), (j179 21), (j179 22), (j179 23), (j179 24), (j179 25)].getD i_ undef) W177 _ L176 h HS178 HO182 HL183 kr

end Go.Sp.K3
