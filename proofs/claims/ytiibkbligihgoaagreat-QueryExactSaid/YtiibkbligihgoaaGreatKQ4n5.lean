import Derived.Test.YtiibkbligihgoaaGreatProg
import Derived.Test.YtiibkbligihgoaaGreatSpCopy
import Derived.Test.YtiibkbligihgoaaGreatFQ4
import Derived.Test.YtiibkbligihgoaaGreatShelf
import Derived.Test.YtiibkbligihgoaaGreatSpMapR
import Derived.Test.YtiibkbligihgoaaGreatSpKeys
import Derived.Test.YtiibkbligihgoaaGreatSpRound
import Derived.Test.YtiibkbligihgoaaGreatKQ4n0
import Derived.Test.YtiibkbligihgoaaGreatKQ4n1
import Derived.Test.YtiibkbligihgoaaGreatKQ4n2
import Derived.Test.YtiibkbligihgoaaGreatKQ4n3
import Derived.Test.YtiibkbligihgoaaGreatKQ4n4
namespace Go.Sp.Q4
open Go Go.Sp Go.Proofs
set_option linter.unusedVariables false
attribute [local irreducible] wpList AnyL Code.wp Calls Does Code.wpIn wpListIn CallsIn bodyPostM LeavesInM
set_option maxRecDepth 100000 in
set_option maxHeartbeats 4000000 in
theorem spykeep3_asked.calls (k : Nat)   {t w : World} {f : FM} {H : List Seg} (HS : St t w f (H)) (rr1 : Bool) (h : spykeep3_asked k = some rr1) :
    Calls Tryz.prog 12 #[] w (fun e w' => ∃ (g : FM), e = .returned (Value.bool rr1) ∧ FM.le f g ∧ St t w' g (H)) := by
 unfold spykeep3_asked at h
 refine enter Tryz.func12 rfl (tm := #[uV, uV, uV, uV, uV, uV, uV, uV, uV, uV, uV, uV, uV, uV, uV, uV, uV, uV, uV, uV, uV, uV, uV, uV, uV, uV, uV, uV, uV, uV, uV, uV, uV, uV, uV, uV, uV, uV, uV, uV, uV, uV, uV]) kr ?_
 intro B hret hnor hnp
 refine wp_seq_k fun K1 hK2 => rl ?_
 refine seqL1 kr ?_
 refine nl (hK2 _ _ ?_)
 refine wp_seq_k fun K3 hK4 => rl ?_
 have hq_ := bind_some h; clear h; obtain ⟨vt5, hc6, h⟩ := hq_
 refine seqK rfl (does_call (f := 38) (args := #[.int .i64 1]) kr (spykeep3_single.calls k 1 HS vt5 hc6) ?_)
 rintro _ W9 ⟨f7, A11, c12, s13, rfl, L8, HS10, HO14⟩
 refine ⟨_, rfl, ?_⟩
 obtain ⟨f16, L17, HS18, HR19⟩ := HO14.freeze HS10
 refine seqK rfl (does_lit (e := ty_Row) (E := 99) (vs := #[(0, Value.agg #[.int .i64 vt5.ID, .int .i64 vt5.Box.X.Lo, .int .i64 vt5.Box.X.Hi, .bool vt5.Box.X.Unknown, .int .i64 vt5.Box.Y.Lo, .int .i64 vt5.Box.Y.Hi, .bool vt5.Box.Y.Unknown, .int .i64 vt5.Box.Z.Lo, .int .i64 vt5.Box.Z.Hi, .bool vt5.Box.Z.Unknown, .int .i64 vt5.Flux.Lo, .int .i64 vt5.Flux.Hi, .bool vt5.Flux.Unknown, .int .i64 vt5.When.Lo, .int .i64 vt5.When.Hi, .bool vt5.When.Unknown, .slice A11 vt5.Frames.length c12, .int .i64 vt5.Marks])]) (cs := #[.int .i64 vt5.ID, .int .i64 vt5.Box.X.Lo, .int .i64 vt5.Box.X.Hi, .bool vt5.Box.X.Unknown, .int .i64 vt5.Box.Y.Lo, .int .i64 vt5.Box.Y.Hi, .bool vt5.Box.Y.Unknown, .int .i64 vt5.Box.Z.Lo, .int .i64 vt5.Box.Z.Hi, .bool vt5.Box.Z.Unknown, .int .i64 vt5.Flux.Lo, .int .i64 vt5.Flux.Hi, .bool vt5.Flux.Unknown, .int .i64 vt5.When.Lo, .int .i64 vt5.When.Hi, .bool vt5.When.Unknown, .slice A11 vt5.Frames.length c12, .int .i64 vt5.Marks]) (xs := ([vt5] : List S_Row)) rfl Tryz.underlying45 kr kr ⟨[.int .i64 vt5.ID, .int .i64 vt5.Box.X.Lo, .int .i64 vt5.Box.X.Hi, .bool vt5.Box.X.Unknown, .int .i64 vt5.Box.Y.Lo, .int .i64 vt5.Box.Y.Hi, .bool vt5.Box.Y.Unknown, .int .i64 vt5.Box.Z.Lo, .int .i64 vt5.Box.Z.Hi, .bool vt5.Box.Z.Unknown, .int .i64 vt5.Flux.Lo, .int .i64 vt5.Flux.Hi, .bool vt5.Flux.Unknown, .int .i64 vt5.When.Lo, .int .i64 vt5.When.Hi, .bool vt5.When.Unknown, .slice A11 vt5.Frames.length c12, .int .i64 vt5.Marks], _, rfl, ⟨A11, c12, rfl, HR19⟩, rfl⟩ rfl HS18 ?_ (by decide))
 intro b20 W21 s22 HS23 _ HO24
 obtain ⟨f26, L27, HS28, HR29⟩ := HO24.freeze HS23
 have hq_ := bind_some h; clear h; obtain ⟨⟨vt30, vt31⟩, hc32, h⟩ := hq_
 refine seqK rfl (does_call (f := 24) (args := #[.slice (some ⟨b20, 0, none⟩) ([vt5] : List S_Row).length 1, .int .i64 2]) kr (query_New.calls k (some ⟨b20, 0, none⟩) 1 ([vt5] : List S_Row) 2 HS28 HR29 vt30 vt31 hc32) ?_)
 rintro _ W35 ⟨f33, A37, c38, A40, c41, A43, c44, b46, rfl, L34, HS36, HR39, HR42, HR45⟩
 refine ⟨_, rfl, ?_⟩
 refine seqL5 kr ?_
 refine nl (hK4 _ _ ?_)
 refine wp_seq_k (fun K48 hK49 => ?_)
 refine wp_seq_k fun K50 hK51 => rl ?_
 refine seqL3 kr ?_
 have hq_ := ite_some h; clear h; rcases hq_ with ⟨c52, h⟩ | ⟨c52, h⟩
 · have c52 : vt31 ≠ 0 := c52
   refine seqRwI 13 kr (bne_iff_ne.mpr c52) ?_
   refine seqRwI 14 kr (bne_iff_ne.mpr c52) ?_
   refine seqL3 kr ?_
   refine nl (hK51 _ _ ?_)
   refine condT kr ?_
   refine wp_seq_k fun K53 hK54 => rl ?_
   refine seqL1 kr ?_
   refine nl (hK54 _ _ ?_)
   refine wp_ret ?_
   refine hret _ _ ?_
   refine ends_still (v := Value.bool false) kr kr ?_
   have HS82 := HS36.drop
   injection h with h
   subst h
   exact ⟨f33, rfl, (L8.trans (L17.trans (L27.trans L34))), HS82⟩
 · have c52 : ¬ (vt31 ≠ 0) := c52
   refine seqRwI 13 (x := (vt31 != 0)) (v := false) kr (bne_eq_false_iff_eq.mpr (Decidable.of_not_not c52)) ?_
   refine seqRwI 14 (x := (vt31 != 0)) (v := false) kr (bne_eq_false_iff_eq.mpr (Decidable.of_not_not c52)) ?_
   refine seqL3 kr ?_
   refine nl (hK51 _ _ ?_)
   refine condF kr ?_
   refine wp_skip ?_
   refine hK49 _ _ ?_
   refine wp_seq_k fun K55 hK56 => rl ?_
   have hq_ := bind_some h; clear h; obtain ⟨⟨vt57, vt58, vt59⟩, hc60, h⟩ := hq_
   refine seqL2 kr ?_
   refine seqK rfl (does_call (f := 25) (args := #[.pointer (some ⟨b46, 0, none⟩), .agg #[.slice none 0 0, .int .i64 0, .int .i64 0, .int .i64 0, .int .i64 0]]) kr (query_Index_Run.calls k b46 A37 c38 A40 c41 A43 c44 none 0 vt30 (⟨([] : List S_Cone), 0, 0, 0, 0⟩ : S_Ask) HS36 HR39 HR42 HR45 (SlR.nil _ _) vt57 vt58 vt59 hc60) ?_)
   rintro _ W63 ⟨f61, A65, c66, s67, rfl, L62, HS64, HO68⟩
   refine ⟨_, rfl, ?_⟩
   refine seqL7 kr ?_
   refine nl (hK56 _ _ ?_)
   refine wp_seq_k fun K70 hK71 => rl ?_
   refine seqL3 kr ?_
   have hq_ := ite_some h; clear h; rcases hq_ with ⟨c72, h⟩ | ⟨c72, h⟩
   · have c72 : vt59 = 0 := c72
     refine seqRwI 26 kr (beq_iff_eq.mpr c72) ?_
     refine seqRwI 27 kr (beq_iff_eq.mpr c72) ?_
     refine seqL4 kr ?_
     have hq_ := ite_some h; clear h; rcases hq_ with ⟨c73, h⟩ | ⟨c73, h⟩
     · have c73 : vt58 > 0 := c73
       refine seqRwI 29 kr (decide_eq_true c73) ?_
       refine seqRwI 30 kr (decide_eq_true c73) ?_
       refine seqRwI 31 kr (decide_eq_true c73) ?_
       refine seqL5 kr ?_
       have hq_ := ite_some h; clear h; rcases hq_ with ⟨c74, h⟩ | ⟨c74, h⟩
       · have c74 : (vt57.length : Int) = 1 := c74
         refine seqRwI 34 kr (beq_iff_eq.mpr c74) ?_
         refine seqRwI 35 kr (beq_iff_eq.mpr c74) ?_
         refine seqRwI 36 kr (beq_iff_eq.mpr c74) ?_
         have hq_ := guard_some h; clear h; obtain ⟨c75, h⟩ := hq_
         have c75 : 0 < (vt57.length : Int) := c75
         obtain ⟨b79, of80, cs76, hA81, hr77, hc78⟩ := HO68.at (i := 0) (by decide) c75
         obtain rfl := hr77
         refine seqL1 kr ?_
         refine seqG kr (does_run (run_indexE hA81 (sz := 2) rfl Tryz.underlying57 kr (kv (.slice A65 vt57.length c66)) (kv (.int .i64 0)) (by decide) c75 W63) ?_)
         refine seqL1 kr ?_
         refine seqG kr (does_run (run_load rfl Tryz.underlying3 rfl (kv (.pointer (some ⟨b79, of80 + (0 : Int).toNat * 2, none⟩))) ((hc78 HS64) 0 (by decide))) ?_)
         refine seqL3 kr ?_
         refine nl (hK71 _ _ ?_)
         refine wp_ret ?_
         refine hret _ _ ?_
         refine ends_still (v := Value.bool (((rd vt57 0).ID) == 1)) kr kr ?_
         have HS83 := HS64.drop
         have HS84 := HS83.drop
         injection h with h
         subst h
         exact ⟨f61, rfl, (L8.trans (L17.trans (L27.trans (L34.trans L62)))), HS84⟩
       · have c74 : ¬ ((vt57.length : Int) = 1) := c74
         refine seqRwI 34 kr (beq_eq_false_iff_ne.mpr c74) ?_
         refine seqRwI 35 kr (beq_eq_false_iff_ne.mpr c74) ?_
         refine seqRwI 36 kr (beq_eq_false_iff_ne.mpr c74) ?_
         refine seqL7 kr ?_
         refine nl (hK71 _ _ ?_)
         refine wp_ret ?_
         refine hret _ _ ?_
         refine ends_still (v := Value.bool false) kr kr ?_
         have HS85 := HS64.drop
         have HS86 := HS85.drop
         injection h with h
         subst h
         exact ⟨f61, rfl, (L8.trans (L17.trans (L27.trans (L34.trans L62)))), HS86⟩
     · have c73 : ¬ (vt58 > 0) := c73
       refine seqRwI 29 kr (decide_eq_false c73) ?_
       refine seqRwI 30 kr (decide_eq_false c73) ?_
       refine seqRwI 31 kr (decide_eq_false c73) ?_
       refine seqL12 kr ?_
       refine nl (hK71 _ _ ?_)
       refine wp_ret ?_
       refine hret _ _ ?_
       refine ends_still (v := Value.bool false) kr kr ?_
       have HS87 := HS64.drop
       have HS88 := HS87.drop
       injection h with h
       subst h
       exact ⟨f61, rfl, (L8.trans (L17.trans (L27.trans (L34.trans L62)))), HS88⟩
   · have c72 : ¬ (vt59 = 0) := c72
     refine seqRwI 26 kr (beq_eq_false_iff_ne.mpr c72) ?_
     refine seqRwI 27 kr (beq_eq_false_iff_ne.mpr c72) ?_
     refine seqL16 kr ?_
     refine nl (hK71 _ _ ?_)
     refine wp_ret ?_
     refine hret _ _ ?_
     refine ends_still (v := Value.bool false) kr kr ?_
     have HS89 := HS64.drop
     have HS90 := HS89.drop
     injection h with h
     subst h
     exact ⟨f61, rfl, (L8.trans (L17.trans (L27.trans (L34.trans L62)))), HS90⟩

end Go.Sp.Q4
