import Derived.Test.YtiibkbligihgoaaGreatProg
import Derived.Test.YtiibkbligihgoaaGreatSpCopy
import Derived.Test.YtiibkbligihgoaaGreatFR6
import Derived.Test.YtiibkbligihgoaaGreatShelf
import Derived.Test.YtiibkbligihgoaaGreatSpMapR
import Derived.Test.YtiibkbligihgoaaGreatSpKeys
import Derived.Test.YtiibkbligihgoaaGreatSpNode
import Derived.Test.YtiibkbligihgoaaGreatSpKeyP
import Derived.Test.YtiibkbligihgoaaGreatSpArr
import Derived.Test.YtiibkbligihgoaaGreatSpRound
import Derived.Test.YtiibkbligihgoaaGreatKR6n0
import Derived.Test.YtiibkbligihgoaaGreatKR6n1
import Derived.Test.YtiibkbligihgoaaGreatKR6n2
import Derived.Test.YtiibkbligihgoaaGreatKR6n3
import Derived.Test.YtiibkbligihgoaaGreatKR6n4
import Derived.Test.YtiibkbligihgoaaGreatKR6n5
import Derived.Test.YtiibkbligihgoaaGreatKR6n6
import Derived.Test.YtiibkbligihgoaaGreatKR6n7
namespace Go.Sp.R6
open Go Go.Sp Go.Proofs
set_option linter.unusedVariables false
attribute [local irreducible] wpList AnyL Code.wp Calls Does Code.wpIn wpListIn CallsIn bodyPostM LeavesInM
set_option maxRecDepth 100000 in
set_option maxHeartbeats 4000000 in
theorem query_Index_Run.calls (k : Nat) (b1 : Nat) (A4 : Option Addr) (c5 : Nat) (A7 : Option Addr) (c8 : Nat) (A10 : Option Addr) (c11 : Nat) (A14 : Option Addr) (c15 : Nat) (x3 : S_Index) (q13 : S_Ask) {t w : World} {f : FM} {H : List Seg} (HS : St t w f ([(b1, .cells #[.slice A4 x3.rows.length c5, .int .i64 x3.level, .slice A7 x3.roots.length c8, .slice A10 x3.loose.length c11] 109 (0, 0))] :: H)) (HR6 : SlR ty_Row f A4 c5 x3.rows) (HR9 : SlR fx_node.t f A7 c8 x3.roots) (HR12 : SlR (tInt .i64) f A10 c11 x3.loose) (HR16 : SlR ty_Cone f A14 c15 q13.Cones) (rr1 : List S_Answer) (rr2 : Int) (rr3 : Int) (h : query_Index_Run k x3 q13 = some (rr1, rr2, rr3)) :
    Calls Tryz.prog 25 #[.pointer (some ⟨b1, 0, none⟩), .agg #[.slice A14 q13.Cones.length c15, .int .i64 q13.From, .int .i64 q13.To, .int .i64 q13.Least, .int .i64 q13.Ban]] w (fun e w' => ∃ (g : FM) (A381 : Option Addr) (c382 : Nat) (s383 : Seg), e = .returned (Value.tuple #[.slice A381 rr1.length c382, .int .i64 rr2, .int .i64 rr3]) ∧ FM.le f g ∧ St t w' g (s383 :: [(b1, .cells #[.slice A4 x3.rows.length c5, .int .i64 x3.level, .slice A7 x3.roots.length c8, .slice A10 x3.loose.length c11] 109 (0, 0))] :: H) ∧ Own ty_Answer 62 g A381 c382 s383 rr1) := by
 unfold query_Index_Run at h
 refine enter Tryz.func25 rfl (tm := #[pV b1 0, (ag_Ask q13 A14 c15), uV, uV, uV, uV, uV, uV, uV, uV, uV, uV, uV, uV, uV, uV, uV, uV, uV, uV, uV, uV, uV, uV, uV, uV, uV, uV, uV, uV, uV, uV, uV, uV, uV, uV, uV, uV, uV, uV, uV, uV, uV, uV, uV, uV, uV, uV, uV]) kr ?_
 intro B hret hnor hnp
 refine wp_seq_k fun K17 hK18 => rl ?_
 refine seqK rfl (does_box (cs := #[.pointer (some ⟨b1, 0, none⟩)]) rfl (kv (.pointer (some ⟨b1, 0, none⟩))) rfl HS ?_)
 intro b19 W20 HS21
 refine seqK rfl (does_box (cs := #[.slice A14 q13.Cones.length c15, .int .i64 q13.From, .int .i64 q13.To, .int .i64 q13.Least, .int .i64 q13.Ban]) rfl (kv (.agg #[.slice A14 q13.Cones.length c15, .int .i64 q13.From, .int .i64 q13.To, .int .i64 q13.Least, .int .i64 q13.Ban])) rfl HS21 ?_)
 intro b23 W24 HS25
 refine seqL3 kr ?_
 refine nl (hK18 _ _ ?_)
 refine wp_seq_k (fun K27 hK28 => ?_)
 refine wp_seq_k fun K29 hK30 => rl ?_
 refine seqK rfl (does_run (run_loadN (n := 5) rfl Tryz.underlying51 rfl kr (kv (.pointer (some ⟨b23, 0, none⟩))) (cs := [.slice A14 q13.Cones.length c15, .int .i64 q13.From, .int .i64 q13.To, .int .i64 q13.Least, .int .i64 q13.Ban]) rfl (HS25.cells 0 5 _ rfl)) ?_)
 have hq_ := bind_some h; clear h; obtain ⟨vt31, hc32, h⟩ := hq_
 refine seqK rfl (does_call (f := 43) (args := #[.agg #[.slice A14 q13.Cones.length c15, .int .i64 q13.From, .int .i64 q13.To, .int .i64 q13.Least, .int .i64 q13.Ban]]) kr (query_CheckAsk.calls k A14 c15 q13 HS25 HR16 vt31 hc32) ?_)
 rintro _ W35 ⟨f33, rfl, L34, HS36⟩
 refine ⟨_, rfl, ?_⟩
 refine seqL1 kr ?_
 refine nl (hK30 _ _ ?_)
 refine wp_seq_k fun K37 hK38 => rl ?_
 refine seqL2 kr ?_
 refine nl (hK38 _ _ ?_)
 have hq_ := ite_some h; clear h; rcases hq_ with ⟨c40, h⟩ | ⟨c40, h⟩
 · have c40 : vt31 ≠ 0 := c40
   refine wpRwI 16 kr (bne_iff_ne.mpr c40) ?_
   refine condT kr ?_
   refine wp_seq_k fun K41 hK42 => rl ?_
   refine seqL4 kr ?_
   refine nl (hK42 _ _ ?_)
   refine wp_ret ?_
   refine hret _ _ ?_
   have HS365 := HS36.cons_nil
   refine ends_still (v := Value.tuple #[.slice none 0 0, .int .i64 0, .int .i64 vt31]) kr kr ?_
   have HS370 := HS365.u3.u1.u3.u3
   have HS371 := HS370.drop
   have HS372 := HS371.drop
   injection h with h
   injection h with h0_ h
   injection h with h1_ h
   subst h0_ h1_ h
   exact ⟨f33, none, 0, [], rfl, L34, HS372, (Own.nil _)⟩
 · have c40 : ¬ (vt31 ≠ 0) := c40
   refine wpRwI 16 (x := (vt31 != 0)) (v := false) kr (bne_eq_false_iff_eq.mpr (Decidable.of_not_not c40)) ?_
   refine condF kr ?_
   refine wp_skip ?_
   refine hK28 _ _ ?_
   refine wp_seq_k fun K43 hK44 => rl ?_
   refine seqK rfl (does_alloc (z := Value.slice none 0 0) (cs := #[.slice none 0 0]) rfl kr rfl HS36 ?_)
   intro b45 W46 HS47
   refine nl (hK44 _ _ ?_)
   refine wp_seq_k fun K49 hK50 => rl ?_
   refine seqL2 kr ?_
   refine nl (hK50 _ _ ?_)
   refine wp_seq_k (fun K51 hK52 => ?_)
   refine wp_seq_k fun K53 hK54 => rl ?_
   refine seqK rfl (does_run (run_load rfl Tryz.underlying66 rfl (kv (.pointer (some ⟨b19, 0, none⟩))) (HS47.u2.cell 0)) ?_)
   refine seqL2 kr ?_
   refine seqK rfl (does_run (run_load rfl Tryz.underlying22 rfl (kv (.pointer (some ⟨b1, 3, none⟩))) (HS47.u3.cell 3)) ?_)
   refine seqL2 kr ?_
   refine nl (hK54 _ _ ?_)
   refine blockK (fun B55 hx56 hn57 hr58 ho59 hp60 => ?_)
   have hq_ := bind_some h; clear h; obtain ⟨o114, hv180, h⟩ := hq_
   have J181 : ∀ (f169 : FM) (A175 : Option Addr) (c176 : Nat) (s177 : Seg) (x174 : List S_Answer) (j173 : Nat → Value) (W171 : World) (a_ : Act), FM.le f33 f169 → some (x174) = some o114 → St t W171 f169 (s177 :: [(b45, .cells #[.slice A175 x174.length c176] 57 (0, 0))] :: [(b23, .cells #[.slice A14 q13.Cones.length c15, .int .i64 q13.From, .int .i64 q13.To, .int .i64 q13.Least, .int .i64 q13.Ban] 51 (0, 0))] :: [(b19, .cells #[.pointer (some ⟨b1, 0, none⟩)] 66 (0, 0))] :: [(b1, .cells #[.slice A4 x3.rows.length c5, .int .i64 x3.level, .slice A7 x3.roots.length c8, .slice A10 x3.loose.length c11] 109 (0, 0))] :: H) → Own ty_Answer 62 f169 A175 c176 s177 x174 → a_ = ⟨#[pV b1 0, (ag_Ask q13 A14 c15), pV b19 0, pV b23 0, .slice none 0 0, iV 0, iV 0, iV vt31, pV b45 0, .func (.func 51) #[] #[pV b19 0, pV b23 0, pV b45 0], uV, (j173 0), uV, (ag_Ask q13 A14 c15), iV vt31, iV vt31, fV, uV, .func (.func 51) #[] #[pV b19 0, pV b23 0, pV b45 0], pV b1 0, pV b1 0, pV b1 3, .slice A10 x3.loose.length c11, iV (x3.loose.length : Int), (j173 1), (j173 2), (j173 3), (j173 4), (j173 5), (j173 6), (j173 7), (j173 8), uV, uV, uV, uV, uV, uV, uV, uV, uV, uV, uV, uV, uV, uV, uV, uV, uV], []⟩ → K51 a_ W171 := by
    intro f169 A175 c176 s177 x174 j173 W171 a_ L170 hj182 HS172 HO178 hfr_; subst hfr_
    injection hj182 with hj182; subst hj182; try dsimp only at h
    refine hK52 _ _ ?_
    refine wp_seq_k (fun K190 hK191 => ?_)
    have HS196 := HS172.u4.u4.u4.u4.u4
    refine heldG (S := Sg t f169 (H) [(11, s177), (11, [(b45, .cells #[.slice A175 x174.length c176] 57 (0, 0))]), (11, [(b23, .cells #[.slice A14 q13.Cones.length c15, .int .i64 q13.From, .int .i64 q13.To, .int .i64 q13.Least, .int .i64 q13.Ban] 51 (0, 0))])]) (n := 14) kr rfl HS196 ?_
    intro W197 HS198
    have hq_ := bind_some h; clear h; obtain ⟨⟨vt203, vt204⟩, hc205, h⟩ := hq_
    refine takeGL [9, 10] (n := 14) (fuel := 12) #[false, false, false, false, false, false, false, false, false, true, true, false, false, false] rfl kr kr kr hnp (Sg.g3 (Sx.of [s177, [(b45, .cells #[.slice A175 x174.length c176] 57 (0, 0))], [(b23, .cells #[.slice A14 q13.Cones.length c15, .int .i64 q13.From, .int .i64 q13.To, .int .i64 q13.Least, .int .i64 q13.Ban] 51 (0, 0))], [(b19, .cells #[.pointer (some ⟨b1, 0, none⟩)] 66 (0, 0))], [(b1, .cells #[.slice A4 x3.rows.length c5, .int .i64 x3.level, .slice A7 x3.roots.length c8, .slice A10 x3.loose.length c11] 109 (0, 0))]] fL HS198) (fun _ => St.only [] HS198 fL) (fun _ => St.only [s177] HS198 fL) (fun _ => St.only [s177, [(b45, .cells #[.slice A175 x174.length c176] 57 (0, 0))]] HS198 fL)) ?_
    refine withR #[true, true, true, true, true, true, true, true, true, true, true, true, true, true] ?_
    intro R215 hR216 hR217
    have J218 : ∀ (f206 : FM) (A210 : Option Addr) (c211 : Nat) (s212 : Seg) (W219 : World) (a_ : Act), FM.le f169 f206 → Own ty_Answer 62 f206 A210 c211 s212 vt204 → St t W219 f206 (s212 :: [(b23, .cells #[.slice A14 q13.Cones.length c15, .int .i64 q13.From, .int .i64 q13.To, .int .i64 q13.Least, .int .i64 q13.Ban] 51 (0, 0))] :: [(b19, .cells #[.pointer (some ⟨b1, 0, none⟩)] 66 (0, 0))] :: [(b1, .cells #[.slice A4 x3.rows.length c5, .int .i64 x3.level, .slice A7 x3.roots.length c8, .slice A10 x3.loose.length c11] 109 (0, 0))] :: [(b45, .cells #[.slice A210 vt204.length c211] 57 (0, 0))] :: H) → a_ = ⟨#[pV b1 0, (ag_Ask q13 A14 c15), pV b19 0, pV b23 0, .slice none 0 0, iV 0, iV 0, iV vt31, pV b45 0, .func (.func 51) #[] #[pV b19 0, pV b23 0, pV b45 0], uV, (j173 0), iV (w64 ((x3.loose.length : Int) + vt203)), (ag_Ask q13 A14 c15), iV vt31, iV vt31, fV, uV, .func (.func 51) #[] #[pV b19 0, pV b23 0, pV b45 0], pV b1 0, pV b1 0, pV b1 3, .slice A10 x3.loose.length c11, iV (x3.loose.length : Int), (j173 1), (j173 2), (j173 3), (j173 4), (j173 5), (j173 6), (j173 7), (j173 8), pV b1 0, pV b1 0, pV b1 3, .slice A10 x3.loose.length c11, iV (x3.loose.length : Int), pV b1 0, pV b1 0, pV b1 2, .slice A7 x3.roots.length c8, .func (.func 53) #[] #[pV b23 0], .func (.func 51) #[] #[pV b19 0, pV b23 0, pV b45 0], iV vt203, iV (w64 ((x3.loose.length : Int) + vt203)), uV, uV, uV, uV], []⟩ → R215 a_ W219 := by
     intro f206 A210 c211 s212 W219 a_ L207 HO213 HS220 hfr_; subst hfr_
     refine hR216 _ _ ?_
     refine doneG kr ?_ _
     refine hK191 _ _ ?_
     refine wp_seq_k fun K351 hK352 => rl ?_
     refine seqK rfl (does_run (run_load rfl Tryz.underlying57 rfl (kv (.pointer (some ⟨b45, 0, none⟩))) (HS220.u4.cell 0)) ?_)
     have hq_ := bind_some h; clear h; obtain ⟨vt353, hc354, h⟩ := hq_
     refine seqK rfl (does_call (f := 56) (args := #[.slice A210 vt204.length c211, .func (.func 57) #[] #[]]) kr (slices_SortFunc_Answer__query_Index_Run_3.calls k A210 c211 s212 vt204 HS220 HO213 vt353 hc354) ?_)
     rintro _ W357 ⟨f355, s359, rfl, L356, HS358, HO360, HL361⟩
     refine ⟨_, rfl, ?_⟩
     have HS362 : St t W357 f355 (s359 :: [(b23, .cells #[.slice A14 q13.Cones.length c15, .int .i64 q13.From, .int .i64 q13.To, .int .i64 q13.Least, .int .i64 q13.Ban] 51 (0, 0))] :: [(b19, .cells #[.pointer (some ⟨b1, 0, none⟩)] 66 (0, 0))] :: [(b1, .cells #[.slice A4 x3.rows.length c5, .int .i64 x3.level, .slice A7 x3.roots.length c8, .slice A10 x3.loose.length c11] 109 (0, 0))] :: [(b45, .cells #[.slice A210 vt353.length c211] 57 (0, 0))] :: H) := by rw [show vt353.length = vt204.length from HL361]; exact HS358
     refine seqRwS 45 (A := A210) (m := vt204.length) (n := vt353.length) (c := c211) kr (HL361).symm ?_
     refine nl (hK352 _ _ ?_)
     refine wp_seq_k fun K363 hK364 => rl ?_
     refine seqK rfl (does_run (run_load rfl Tryz.underlying57 rfl (kv (.pointer (some ⟨b45, 0, none⟩))) (HS362.u4.cell 0)) ?_)
     refine seqL4 kr ?_
     refine nl (hK364 _ _ ?_)
     refine wp_ret ?_
     refine hret _ _ ?_
     refine ends_still (v := Value.tuple #[.slice A210 vt353.length c211, .int .i64 (w64 ((x3.loose.length : Int) + vt203)), .int .i64 0]) kr kr ?_
     have HS377 := HS362.u3.u1.u4.u4.u4
     have HS378 := HS377.drop
     have HS379 := HS378.drop
     have HS380 := HS379.drop
     injection h with h
     injection h with h0_ h
     injection h with h1_ h
     subst h0_ h1_ h
     exact ⟨f355, A210, c211, s359, rfl, (L34.trans (L170.trans (L207.trans L356))), HS380, HO360⟩
    refine takeEither 0 5 kr rfl rfl rfl rfl ?_ ?_
    · refine does_run (run_load rfl Tryz.underlying66 rfl (kv (.pointer (some ⟨b19, 0, none⟩))) (HS198.u3.cell 0)) ?_
      refine ⟨(Sg.g3 (Sx.of [s177, [(b45, .cells #[.slice A175 x174.length c176] 57 (0, 0))], [(b23, .cells #[.slice A14 q13.Cones.length c15, .int .i64 q13.From, .int .i64 q13.To, .int .i64 q13.Least, .int .i64 q13.Ban] 51 (0, 0))], [(b19, .cells #[.pointer (some ⟨b1, 0, none⟩)] 66 (0, 0))], [(b1, .cells #[.slice A4 x3.rows.length c5, .int .i64 x3.level, .slice A7 x3.roots.length c8, .slice A10 x3.loose.length c11] 109 (0, 0))]] fL HS198) (fun _ => St.only [] HS198 fL) (fun _ => St.only [s177] HS198 fL) (fun _ => St.only [s177, [(b45, .cells #[.slice A175 x174.length c176] 57 (0, 0))]] HS198 fL)), ?_⟩
      refine takeGL [1, 2] (n := 11) (fuel := 9) #[true, true, true, false, false, false, false, false, false, true, true, false, false, false] rfl kr kr kr hnp (Sg.g3 (Sx.of [s177, [(b45, .cells #[.slice A175 x174.length c176] 57 (0, 0))], [(b23, .cells #[.slice A14 q13.Cones.length c15, .int .i64 q13.From, .int .i64 q13.To, .int .i64 q13.Least, .int .i64 q13.Ban] 51 (0, 0))], [(b19, .cells #[.pointer (some ⟨b1, 0, none⟩)] 66 (0, 0))], [(b1, .cells #[.slice A4 x3.rows.length c5, .int .i64 x3.level, .slice A7 x3.roots.length c8, .slice A10 x3.loose.length c11] 109 (0, 0))]] fL HS198) (fun _ => St.only [] HS198 fL) (fun _ => St.only [s177] HS198 fL) (fun _ => St.only [s177, [(b45, .cells #[.slice A175 x174.length c176] 57 (0, 0))]] HS198 fL)) ?_
      refine takeEither 3 5 kr rfl rfl rfl rfl ?_ ?_
      · refine does_run (run_load rfl Tryz.underlying22 rfl (kv (.pointer (some ⟨b1, 3, none⟩))) (HS198.u4.cell 3)) ?_
        refine ⟨(Sg.g3 (Sx.of [s177, [(b45, .cells #[.slice A175 x174.length c176] 57 (0, 0))], [(b23, .cells #[.slice A14 q13.Cones.length c15, .int .i64 q13.From, .int .i64 q13.To, .int .i64 q13.Least, .int .i64 q13.Ban] 51 (0, 0))], [(b19, .cells #[.pointer (some ⟨b1, 0, none⟩)] 66 (0, 0))], [(b1, .cells #[.slice A4 x3.rows.length c5, .int .i64 x3.level, .slice A7 x3.roots.length c8, .slice A10 x3.loose.length c11] 109 (0, 0))]] fL HS198) (fun _ => St.only [] HS198 fL) (fun _ => St.only [s177] HS198 fL) (fun _ => St.only [s177, [(b45, .cells #[.slice A175 x174.length c176] 57 (0, 0))]] HS198 fL)), ?_⟩
        refine takeGL [4] (n := 8) (fuel := 7) #[true, true, true, true, true, false, false, false, false, true, true, false, false, false] rfl kr kr kr hnp (Sg.g3 (Sx.of [s177, [(b45, .cells #[.slice A175 x174.length c176] 57 (0, 0))], [(b23, .cells #[.slice A14 q13.Cones.length c15, .int .i64 q13.From, .int .i64 q13.To, .int .i64 q13.Least, .int .i64 q13.Ban] 51 (0, 0))], [(b19, .cells #[.pointer (some ⟨b1, 0, none⟩)] 66 (0, 0))], [(b1, .cells #[.slice A4 x3.rows.length c5, .int .i64 x3.level, .slice A7 x3.roots.length c8, .slice A10 x3.loose.length c11] 109 (0, 0))]] fL HS198) (fun _ => St.only [] HS198 fL) (fun _ => St.only [s177] HS198 fL) (fun _ => St.only [s177, [(b45, .cells #[.slice A175 x174.length c176] 57 (0, 0))]] HS198 fL)) ?_
        refine takeGE 5 kr rfl kr (does_run (run_load rfl Tryz.underlying66 rfl (kv (.pointer (some ⟨b19, 0, none⟩))) (HS198.u3.cell 0)) ?_)
        refine ⟨(Sg.g3 (Sx.of [s177, [(b45, .cells #[.slice A175 x174.length c176] 57 (0, 0))], [(b23, .cells #[.slice A14 q13.Cones.length c15, .int .i64 q13.From, .int .i64 q13.To, .int .i64 q13.Least, .int .i64 q13.Ban] 51 (0, 0))], [(b19, .cells #[.pointer (some ⟨b1, 0, none⟩)] 66 (0, 0))], [(b1, .cells #[.slice A4 x3.rows.length c5, .int .i64 x3.level, .slice A7 x3.roots.length c8, .slice A10 x3.loose.length c11] 109 (0, 0))]] fL HS198) (fun _ => St.only [] HS198 fL) (fun _ => St.only [s177] HS198 fL) (fun _ => St.only [s177, [(b45, .cells #[.slice A175 x174.length c176] 57 (0, 0))]] HS198 fL)), ?_⟩
        refine takeGL [6, 7] (n := 6) (fuel := 4) #[true, true, true, true, true, true, true, true, false, true, true, false, false, false] rfl kr kr kr hnp (Sg.g3 (Sx.of [s177, [(b45, .cells #[.slice A175 x174.length c176] 57 (0, 0))], [(b23, .cells #[.slice A14 q13.Cones.length c15, .int .i64 q13.From, .int .i64 q13.To, .int .i64 q13.Least, .int .i64 q13.Ban] 51 (0, 0))], [(b19, .cells #[.pointer (some ⟨b1, 0, none⟩)] 66 (0, 0))], [(b1, .cells #[.slice A4 x3.rows.length c5, .int .i64 x3.level, .slice A7 x3.roots.length c8, .slice A10 x3.loose.length c11] 109 (0, 0))]] fL HS198) (fun _ => St.only [] HS198 fL) (fun _ => St.only [s177] HS198 fL) (fun _ => St.only [s177, [(b45, .cells #[.slice A175 x174.length c176] 57 (0, 0))]] HS198 fL)) ?_
        refine takeGE 8 kr rfl kr (does_run (run_load rfl Tryz.underlying107 rfl (kv (.pointer (some ⟨b1, 2, none⟩))) (HS198.u4.cell 2)) ?_)
        refine ⟨(Sg.g3 (Sx.of [s177, [(b45, .cells #[.slice A175 x174.length c176] 57 (0, 0))], [(b23, .cells #[.slice A14 q13.Cones.length c15, .int .i64 q13.From, .int .i64 q13.To, .int .i64 q13.Least, .int .i64 q13.Ban] 51 (0, 0))], [(b19, .cells #[.pointer (some ⟨b1, 0, none⟩)] 66 (0, 0))], [(b1, .cells #[.slice A4 x3.rows.length c5, .int .i64 x3.level, .slice A7 x3.roots.length c8, .slice A10 x3.loose.length c11] 109 (0, 0))]] fL HS198) (fun _ => St.only [] HS198 fL) (fun _ => St.only [s177] HS198 fL) (fun _ => St.only [s177, [(b45, .cells #[.slice A175 x174.length c176] 57 (0, 0))]] HS198 fL)), ?_⟩
        have HS224 := HS198.u1.u4.u4.u4
        refine takeGE 11 kr rfl kr (does_call (f := 52) (args := #[.slice A7 x3.roots.length c8, .func (.func 53) #[] #[.pointer (some ⟨b23, 0, none⟩)], .func (.func 51) #[] #[.pointer (some ⟨b19, 0, none⟩), .pointer (some ⟨b23, 0, none⟩), .pointer (some ⟨b45, 0, none⟩)]]) kr (query_walk__query_Index_Run_2__query_Index_Run_1.calls k b23 A14 c15 b19 b1 A4 c5 A7 c8 A10 c11 b45 A175 c176 s177 A7 c8 q13 x3 x174 x3.roots HS224 (HR16.mono (L34.trans L170)) (HR6.mono (L34.trans L170)) (HR9.mono (L34.trans L170)) (HR12.mono (L34.trans L170)) HO178 (HR9.mono (L34.trans L170)) vt203 vt204 hc205) ?_)
        rintro _ W227 ⟨f225, A229, c230, s231, rfl, L226, HS228, HO232⟩
        refine ⟨_, rfl, ?_⟩
        refine ⟨(Sg.g3 (Sx.of [s231, [(b23, .cells #[.slice A14 q13.Cones.length c15, .int .i64 q13.From, .int .i64 q13.To, .int .i64 q13.Least, .int .i64 q13.Ban] 51 (0, 0))], [(b19, .cells #[.pointer (some ⟨b1, 0, none⟩)] 66 (0, 0))], [(b1, .cells #[.slice A4 x3.rows.length c5, .int .i64 x3.level, .slice A7 x3.roots.length c8, .slice A10 x3.loose.length c11] 109 (0, 0))], [(b45, .cells #[.slice A229 vt204.length c230] 57 (0, 0))]] L226 HS228) (fun hl_ => Bool.noConfusion (show true = false from hl_)) (fun hl_ => Bool.noConfusion (show true = false from hl_)) (fun hl_ => Bool.noConfusion (show true = false from hl_))), ?_⟩
        refine takeGL [12, 13] (n := 2) (fuel := 0) #[true, true, true, true, true, true, true, true, true, true, true, true, true, true] rfl kr kr kr hnp (Sg.g3 (Sx.of [s231, [(b23, .cells #[.slice A14 q13.Cones.length c15, .int .i64 q13.From, .int .i64 q13.To, .int .i64 q13.Least, .int .i64 q13.Ban] 51 (0, 0))], [(b19, .cells #[.pointer (some ⟨b1, 0, none⟩)] 66 (0, 0))], [(b1, .cells #[.slice A4 x3.rows.length c5, .int .i64 x3.level, .slice A7 x3.roots.length c8, .slice A10 x3.loose.length c11] 109 (0, 0))], [(b45, .cells #[.slice A229 vt204.length c230] 57 (0, 0))]] L226 HS228) (fun hl_ => Bool.noConfusion (show true = false from hl_)) (fun hl_ => Bool.noConfusion (show true = false from hl_)) (fun hl_ => Bool.noConfusion (show true = false from hl_))) ?_
        refine hR217 _ _ ?_
        exact J218 f225 A229 c230 s231 W227 _ L226 HO232 HS228 kr
      · refine does_run (run_load rfl Tryz.underlying66 rfl (kv (.pointer (some ⟨b19, 0, none⟩))) (HS198.u3.cell 0)) ?_
        refine ⟨(Sg.g3 (Sx.of [s177, [(b45, .cells #[.slice A175 x174.length c176] 57 (0, 0))], [(b23, .cells #[.slice A14 q13.Cones.length c15, .int .i64 q13.From, .int .i64 q13.To, .int .i64 q13.Least, .int .i64 q13.Ban] 51 (0, 0))], [(b19, .cells #[.pointer (some ⟨b1, 0, none⟩)] 66 (0, 0))], [(b1, .cells #[.slice A4 x3.rows.length c5, .int .i64 x3.level, .slice A7 x3.roots.length c8, .slice A10 x3.loose.length c11] 109 (0, 0))]] fL HS198) (fun _ => St.only [] HS198 fL) (fun _ => St.only [s177] HS198 fL) (fun _ => St.only [s177, [(b45, .cells #[.slice A175 x174.length c176] 57 (0, 0))]] HS198 fL)), ?_⟩
        refine takeGL [6, 7] (n := 8) (fuel := 6) #[true, true, true, false, false, true, true, true, false, true, true, false, false, false] rfl kr kr kr hnp (Sg.g3 (Sx.of [s177, [(b45, .cells #[.slice A175 x174.length c176] 57 (0, 0))], [(b23, .cells #[.slice A14 q13.Cones.length c15, .int .i64 q13.From, .int .i64 q13.To, .int .i64 q13.Least, .int .i64 q13.Ban] 51 (0, 0))], [(b19, .cells #[.pointer (some ⟨b1, 0, none⟩)] 66 (0, 0))], [(b1, .cells #[.slice A4 x3.rows.length c5, .int .i64 x3.level, .slice A7 x3.roots.length c8, .slice A10 x3.loose.length c11] 109 (0, 0))]] fL HS198) (fun _ => St.only [] HS198 fL) (fun _ => St.only [s177] HS198 fL) (fun _ => St.only [s177, [(b45, .cells #[.slice A175 x174.length c176] 57 (0, 0))]] HS198 fL)) ?_
        refine takeEither 3 8 kr rfl rfl rfl rfl ?_ ?_
        · refine does_run (run_load rfl Tryz.underlying22 rfl (kv (.pointer (some ⟨b1, 3, none⟩))) (HS198.u4.cell 3)) ?_
          refine ⟨(Sg.g3 (Sx.of [s177, [(b45, .cells #[.slice A175 x174.length c176] 57 (0, 0))], [(b23, .cells #[.slice A14 q13.Cones.length c15, .int .i64 q13.From, .int .i64 q13.To, .int .i64 q13.Least, .int .i64 q13.Ban] 51 (0, 0))], [(b19, .cells #[.pointer (some ⟨b1, 0, none⟩)] 66 (0, 0))], [(b1, .cells #[.slice A4 x3.rows.length c5, .int .i64 x3.level, .slice A7 x3.roots.length c8, .slice A10 x3.loose.length c11] 109 (0, 0))]] fL HS198) (fun _ => St.only [] HS198 fL) (fun _ => St.only [s177] HS198 fL) (fun _ => St.only [s177, [(b45, .cells #[.slice A175 x174.length c176] 57 (0, 0))]] HS198 fL)), ?_⟩
          refine takeGL [4] (n := 5) (fuel := 4) #[true, true, true, true, true, true, true, true, false, true, true, false, false, false] rfl kr kr kr hnp (Sg.g3 (Sx.of [s177, [(b45, .cells #[.slice A175 x174.length c176] 57 (0, 0))], [(b23, .cells #[.slice A14 q13.Cones.length c15, .int .i64 q13.From, .int .i64 q13.To, .int .i64 q13.Least, .int .i64 q13.Ban] 51 (0, 0))], [(b19, .cells #[.pointer (some ⟨b1, 0, none⟩)] 66 (0, 0))], [(b1, .cells #[.slice A4 x3.rows.length c5, .int .i64 x3.level, .slice A7 x3.roots.length c8, .slice A10 x3.loose.length c11] 109 (0, 0))]] fL HS198) (fun _ => St.only [] HS198 fL) (fun _ => St.only [s177] HS198 fL) (fun _ => St.only [s177, [(b45, .cells #[.slice A175 x174.length c176] 57 (0, 0))]] HS198 fL)) ?_
          refine takeGE 8 kr rfl kr (does_run (run_load rfl Tryz.underlying107 rfl (kv (.pointer (some ⟨b1, 2, none⟩))) (HS198.u4.cell 2)) ?_)
          refine ⟨(Sg.g3 (Sx.of [s177, [(b45, .cells #[.slice A175 x174.length c176] 57 (0, 0))], [(b23, .cells #[.slice A14 q13.Cones.length c15, .int .i64 q13.From, .int .i64 q13.To, .int .i64 q13.Least, .int .i64 q13.Ban] 51 (0, 0))], [(b19, .cells #[.pointer (some ⟨b1, 0, none⟩)] 66 (0, 0))], [(b1, .cells #[.slice A4 x3.rows.length c5, .int .i64 x3.level, .slice A7 x3.roots.length c8, .slice A10 x3.loose.length c11] 109 (0, 0))]] fL HS198) (fun _ => St.only [] HS198 fL) (fun _ => St.only [s177] HS198 fL) (fun _ => St.only [s177, [(b45, .cells #[.slice A175 x174.length c176] 57 (0, 0))]] HS198 fL)), ?_⟩
          have HS237 := HS198.u1.u4.u4.u4
          refine takeGE 11 kr rfl kr (does_call (f := 52) (args := #[.slice A7 x3.roots.length c8, .func (.func 53) #[] #[.pointer (some ⟨b23, 0, none⟩)], .func (.func 51) #[] #[.pointer (some ⟨b19, 0, none⟩), .pointer (some ⟨b23, 0, none⟩), .pointer (some ⟨b45, 0, none⟩)]]) kr (query_walk__query_Index_Run_2__query_Index_Run_1.calls k b23 A14 c15 b19 b1 A4 c5 A7 c8 A10 c11 b45 A175 c176 s177 A7 c8 q13 x3 x174 x3.roots HS237 (HR16.mono (L34.trans L170)) (HR6.mono (L34.trans L170)) (HR9.mono (L34.trans L170)) (HR12.mono (L34.trans L170)) HO178 (HR9.mono (L34.trans L170)) vt203 vt204 hc205) ?_)
          rintro _ W240 ⟨f238, A242, c243, s244, rfl, L239, HS241, HO245⟩
          refine ⟨_, rfl, ?_⟩
          refine ⟨(Sg.g3 (Sx.of [s244, [(b23, .cells #[.slice A14 q13.Cones.length c15, .int .i64 q13.From, .int .i64 q13.To, .int .i64 q13.Least, .int .i64 q13.Ban] 51 (0, 0))], [(b19, .cells #[.pointer (some ⟨b1, 0, none⟩)] 66 (0, 0))], [(b1, .cells #[.slice A4 x3.rows.length c5, .int .i64 x3.level, .slice A7 x3.roots.length c8, .slice A10 x3.loose.length c11] 109 (0, 0))], [(b45, .cells #[.slice A242 vt204.length c243] 57 (0, 0))]] L239 HS241) (fun hl_ => Bool.noConfusion (show true = false from hl_)) (fun hl_ => Bool.noConfusion (show true = false from hl_)) (fun hl_ => Bool.noConfusion (show true = false from hl_))), ?_⟩
          refine takeGL [12, 13] (n := 2) (fuel := 0) #[true, true, true, true, true, true, true, true, true, true, true, true, true, true] rfl kr kr kr hnp (Sg.g3 (Sx.of [s244, [(b23, .cells #[.slice A14 q13.Cones.length c15, .int .i64 q13.From, .int .i64 q13.To, .int .i64 q13.Least, .int .i64 q13.Ban] 51 (0, 0))], [(b19, .cells #[.pointer (some ⟨b1, 0, none⟩)] 66 (0, 0))], [(b1, .cells #[.slice A4 x3.rows.length c5, .int .i64 x3.level, .slice A7 x3.roots.length c8, .slice A10 x3.loose.length c11] 109 (0, 0))], [(b45, .cells #[.slice A242 vt204.length c243] 57 (0, 0))]] L239 HS241) (fun hl_ => Bool.noConfusion (show true = false from hl_)) (fun hl_ => Bool.noConfusion (show true = false from hl_)) (fun hl_ => Bool.noConfusion (show true = false from hl_))) ?_
          refine hR217 _ _ ?_
          exact J218 f238 A242 c243 s244 W240 _ L239 HO245 HS241 kr
        · refine does_run (run_load rfl Tryz.underlying107 rfl (kv (.pointer (some ⟨b1, 2, none⟩))) (HS198.u4.cell 2)) ?_
          refine ⟨(Sg.g3 (Sx.of [s177, [(b45, .cells #[.slice A175 x174.length c176] 57 (0, 0))], [(b23, .cells #[.slice A14 q13.Cones.length c15, .int .i64 q13.From, .int .i64 q13.To, .int .i64 q13.Least, .int .i64 q13.Ban] 51 (0, 0))], [(b19, .cells #[.pointer (some ⟨b1, 0, none⟩)] 66 (0, 0))], [(b1, .cells #[.slice A4 x3.rows.length c5, .int .i64 x3.level, .slice A7 x3.roots.length c8, .slice A10 x3.loose.length c11] 109 (0, 0))]] fL HS198) (fun _ => St.only [] HS198 fL) (fun _ => St.only [s177] HS198 fL) (fun _ => St.only [s177, [(b45, .cells #[.slice A175 x174.length c176] 57 (0, 0))]] HS198 fL)), ?_⟩
          refine takeEither 3 11 kr rfl rfl rfl rfl ?_ ?_
          · refine does_run (run_load rfl Tryz.underlying22 rfl (kv (.pointer (some ⟨b1, 3, none⟩))) (HS198.u4.cell 3)) ?_
            refine ⟨(Sg.g3 (Sx.of [s177, [(b45, .cells #[.slice A175 x174.length c176] 57 (0, 0))], [(b23, .cells #[.slice A14 q13.Cones.length c15, .int .i64 q13.From, .int .i64 q13.To, .int .i64 q13.Least, .int .i64 q13.Ban] 51 (0, 0))], [(b19, .cells #[.pointer (some ⟨b1, 0, none⟩)] 66 (0, 0))], [(b1, .cells #[.slice A4 x3.rows.length c5, .int .i64 x3.level, .slice A7 x3.roots.length c8, .slice A10 x3.loose.length c11] 109 (0, 0))]] fL HS198) (fun _ => St.only [] HS198 fL) (fun _ => St.only [s177] HS198 fL) (fun _ => St.only [s177, [(b45, .cells #[.slice A175 x174.length c176] 57 (0, 0))]] HS198 fL)), ?_⟩
            refine takeGL [4] (n := 4) (fuel := 3) #[true, true, true, true, true, true, true, true, true, true, true, false, false, false] rfl kr kr kr hnp (Sg.g3 (Sx.of [s177, [(b45, .cells #[.slice A175 x174.length c176] 57 (0, 0))], [(b23, .cells #[.slice A14 q13.Cones.length c15, .int .i64 q13.From, .int .i64 q13.To, .int .i64 q13.Least, .int .i64 q13.Ban] 51 (0, 0))], [(b19, .cells #[.pointer (some ⟨b1, 0, none⟩)] 66 (0, 0))], [(b1, .cells #[.slice A4 x3.rows.length c5, .int .i64 x3.level, .slice A7 x3.roots.length c8, .slice A10 x3.loose.length c11] 109 (0, 0))]] fL HS198) (fun _ => St.only [] HS198 fL) (fun _ => St.only [s177] HS198 fL) (fun _ => St.only [s177, [(b45, .cells #[.slice A175 x174.length c176] 57 (0, 0))]] HS198 fL)) ?_
            have HS250 := HS198.u1.u4.u4.u4
            refine takeGE 11 kr rfl kr (does_call (f := 52) (args := #[.slice A7 x3.roots.length c8, .func (.func 53) #[] #[.pointer (some ⟨b23, 0, none⟩)], .func (.func 51) #[] #[.pointer (some ⟨b19, 0, none⟩), .pointer (some ⟨b23, 0, none⟩), .pointer (some ⟨b45, 0, none⟩)]]) kr (query_walk__query_Index_Run_2__query_Index_Run_1.calls k b23 A14 c15 b19 b1 A4 c5 A7 c8 A10 c11 b45 A175 c176 s177 A7 c8 q13 x3 x174 x3.roots HS250 (HR16.mono (L34.trans L170)) (HR6.mono (L34.trans L170)) (HR9.mono (L34.trans L170)) (HR12.mono (L34.trans L170)) HO178 (HR9.mono (L34.trans L170)) vt203 vt204 hc205) ?_)
            rintro _ W253 ⟨f251, A255, c256, s257, rfl, L252, HS254, HO258⟩
            refine ⟨_, rfl, ?_⟩
            refine ⟨(Sg.g3 (Sx.of [s257, [(b23, .cells #[.slice A14 q13.Cones.length c15, .int .i64 q13.From, .int .i64 q13.To, .int .i64 q13.Least, .int .i64 q13.Ban] 51 (0, 0))], [(b19, .cells #[.pointer (some ⟨b1, 0, none⟩)] 66 (0, 0))], [(b1, .cells #[.slice A4 x3.rows.length c5, .int .i64 x3.level, .slice A7 x3.roots.length c8, .slice A10 x3.loose.length c11] 109 (0, 0))], [(b45, .cells #[.slice A255 vt204.length c256] 57 (0, 0))]] L252 HS254) (fun hl_ => Bool.noConfusion (show true = false from hl_)) (fun hl_ => Bool.noConfusion (show true = false from hl_)) (fun hl_ => Bool.noConfusion (show true = false from hl_))), ?_⟩
            refine takeGL [12, 13] (n := 2) (fuel := 0) #[true, true, true, true, true, true, true, true, true, true, true, true, true, true] rfl kr kr kr hnp (Sg.g3 (Sx.of [s257, [(b23, .cells #[.slice A14 q13.Cones.length c15, .int .i64 q13.From, .int .i64 q13.To, .int .i64 q13.Least, .int .i64 q13.Ban] 51 (0, 0))], [(b19, .cells #[.pointer (some ⟨b1, 0, none⟩)] 66 (0, 0))], [(b1, .cells #[.slice A4 x3.rows.length c5, .int .i64 x3.level, .slice A7 x3.roots.length c8, .slice A10 x3.loose.length c11] 109 (0, 0))], [(b45, .cells #[.slice A255 vt204.length c256] 57 (0, 0))]] L252 HS254) (fun hl_ => Bool.noConfusion (show true = false from hl_)) (fun hl_ => Bool.noConfusion (show true = false from hl_)) (fun hl_ => Bool.noConfusion (show true = false from hl_))) ?_
            refine hR217 _ _ ?_
            exact J218 f251 A255 c256 s257 W253 _ L252 HO258 HS254 kr
          · have HS260 := HS198.u1
            have HS263 := HS260.u4.u4.u4
            refine does_call (f := 52) (args := #[.slice A7 x3.roots.length c8, .func (.func 53) #[] #[.pointer (some ⟨b23, 0, none⟩)], .func (.func 51) #[] #[.pointer (some ⟨b19, 0, none⟩), .pointer (some ⟨b23, 0, none⟩), .pointer (some ⟨b45, 0, none⟩)]]) kr (query_walk__query_Index_Run_2__query_Index_Run_1.calls k b23 A14 c15 b19 b1 A4 c5 A7 c8 A10 c11 b45 A175 c176 s177 A7 c8 q13 x3 x174 x3.roots HS263 (HR16.mono (L34.trans L170)) (HR6.mono (L34.trans L170)) (HR9.mono (L34.trans L170)) (HR12.mono (L34.trans L170)) HO178 (HR9.mono (L34.trans L170)) vt203 vt204 hc205) ?_
            rintro _ W266 ⟨f264, A268, c269, s270, rfl, L265, HS267, HO271⟩
            refine ⟨_, rfl, ?_⟩
            refine ⟨(Sg.g3 (Sx.of [s270, [(b23, .cells #[.slice A14 q13.Cones.length c15, .int .i64 q13.From, .int .i64 q13.To, .int .i64 q13.Least, .int .i64 q13.Ban] 51 (0, 0))], [(b19, .cells #[.pointer (some ⟨b1, 0, none⟩)] 66 (0, 0))], [(b1, .cells #[.slice A4 x3.rows.length c5, .int .i64 x3.level, .slice A7 x3.roots.length c8, .slice A10 x3.loose.length c11] 109 (0, 0))], [(b45, .cells #[.slice A268 vt204.length c269] 57 (0, 0))]] L265 HS267) (fun hl_ => Bool.noConfusion (show true = false from hl_)) (fun hl_ => Bool.noConfusion (show true = false from hl_)) (fun hl_ => Bool.noConfusion (show true = false from hl_))), ?_⟩
            refine takeGE 3 kr rfl kr (does_run (run_load rfl Tryz.underlying22 rfl (kv (.pointer (some ⟨b1, 3, none⟩))) (HS267.u3.cell 3)) ?_)
            refine ⟨(Sg.g3 (Sx.of [s270, [(b23, .cells #[.slice A14 q13.Cones.length c15, .int .i64 q13.From, .int .i64 q13.To, .int .i64 q13.Least, .int .i64 q13.Ban] 51 (0, 0))], [(b19, .cells #[.pointer (some ⟨b1, 0, none⟩)] 66 (0, 0))], [(b1, .cells #[.slice A4 x3.rows.length c5, .int .i64 x3.level, .slice A7 x3.roots.length c8, .slice A10 x3.loose.length c11] 109 (0, 0))], [(b45, .cells #[.slice A268 vt204.length c269] 57 (0, 0))]] L265 HS267) (fun hl_ => Bool.noConfusion (show true = false from hl_)) (fun hl_ => Bool.noConfusion (show true = false from hl_)) (fun hl_ => Bool.noConfusion (show true = false from hl_))), ?_⟩
            refine takeGL [4, 12, 13] (n := 3) (fuel := 0) #[true, true, true, true, true, true, true, true, true, true, true, true, true, true] rfl kr kr kr hnp (Sg.g3 (Sx.of [s270, [(b23, .cells #[.slice A14 q13.Cones.length c15, .int .i64 q13.From, .int .i64 q13.To, .int .i64 q13.Least, .int .i64 q13.Ban] 51 (0, 0))], [(b19, .cells #[.pointer (some ⟨b1, 0, none⟩)] 66 (0, 0))], [(b1, .cells #[.slice A4 x3.rows.length c5, .int .i64 x3.level, .slice A7 x3.roots.length c8, .slice A10 x3.loose.length c11] 109 (0, 0))], [(b45, .cells #[.slice A268 vt204.length c269] 57 (0, 0))]] L265 HS267) (fun hl_ => Bool.noConfusion (show true = false from hl_)) (fun hl_ => Bool.noConfusion (show true = false from hl_)) (fun hl_ => Bool.noConfusion (show true = false from hl_))) ?_
            refine hR217 _ _ ?_
            exact J218 f264 A268 c269 s270 W266 _ L265 HO271 HS267 kr
    · refine does_run (run_load rfl Tryz.underlying66 rfl (kv (.pointer (some ⟨b19, 0, none⟩))) (HS198.u3.cell 0)) ?_
      refine ⟨(Sg.g3 (Sx.of [s177, [(b45, .cells #[.slice A175 x174.length c176] 57 (0, 0))], [(b23, .cells #[.slice A14 q13.Cones.length c15, .int .i64 q13.From, .int .i64 q13.To, .int .i64 q13.Least, .int .i64 q13.Ban] 51 (0, 0))], [(b19, .cells #[.pointer (some ⟨b1, 0, none⟩)] 66 (0, 0))], [(b1, .cells #[.slice A4 x3.rows.length c5, .int .i64 x3.level, .slice A7 x3.roots.length c8, .slice A10 x3.loose.length c11] 109 (0, 0))]] fL HS198) (fun _ => St.only [] HS198 fL) (fun _ => St.only [s177] HS198 fL) (fun _ => St.only [s177, [(b45, .cells #[.slice A175 x174.length c176] 57 (0, 0))]] HS198 fL)), ?_⟩
      refine takeGL [6, 7] (n := 11) (fuel := 9) #[false, false, false, false, false, true, true, true, false, true, true, false, false, false] rfl kr kr kr hnp (Sg.g3 (Sx.of [s177, [(b45, .cells #[.slice A175 x174.length c176] 57 (0, 0))], [(b23, .cells #[.slice A14 q13.Cones.length c15, .int .i64 q13.From, .int .i64 q13.To, .int .i64 q13.Least, .int .i64 q13.Ban] 51 (0, 0))], [(b19, .cells #[.pointer (some ⟨b1, 0, none⟩)] 66 (0, 0))], [(b1, .cells #[.slice A4 x3.rows.length c5, .int .i64 x3.level, .slice A7 x3.roots.length c8, .slice A10 x3.loose.length c11] 109 (0, 0))]] fL HS198) (fun _ => St.only [] HS198 fL) (fun _ => St.only [s177] HS198 fL) (fun _ => St.only [s177, [(b45, .cells #[.slice A175 x174.length c176] 57 (0, 0))]] HS198 fL)) ?_
      refine takeEither 0 8 kr rfl rfl rfl rfl ?_ ?_
      · refine does_run (run_load rfl Tryz.underlying66 rfl (kv (.pointer (some ⟨b19, 0, none⟩))) (HS198.u3.cell 0)) ?_
        refine ⟨(Sg.g3 (Sx.of [s177, [(b45, .cells #[.slice A175 x174.length c176] 57 (0, 0))], [(b23, .cells #[.slice A14 q13.Cones.length c15, .int .i64 q13.From, .int .i64 q13.To, .int .i64 q13.Least, .int .i64 q13.Ban] 51 (0, 0))], [(b19, .cells #[.pointer (some ⟨b1, 0, none⟩)] 66 (0, 0))], [(b1, .cells #[.slice A4 x3.rows.length c5, .int .i64 x3.level, .slice A7 x3.roots.length c8, .slice A10 x3.loose.length c11] 109 (0, 0))]] fL HS198) (fun _ => St.only [] HS198 fL) (fun _ => St.only [s177] HS198 fL) (fun _ => St.only [s177, [(b45, .cells #[.slice A175 x174.length c176] 57 (0, 0))]] HS198 fL)), ?_⟩
        refine takeGL [1, 2] (n := 8) (fuel := 6) #[true, true, true, false, false, true, true, true, false, true, true, false, false, false] rfl kr kr kr hnp (Sg.g3 (Sx.of [s177, [(b45, .cells #[.slice A175 x174.length c176] 57 (0, 0))], [(b23, .cells #[.slice A14 q13.Cones.length c15, .int .i64 q13.From, .int .i64 q13.To, .int .i64 q13.Least, .int .i64 q13.Ban] 51 (0, 0))], [(b19, .cells #[.pointer (some ⟨b1, 0, none⟩)] 66 (0, 0))], [(b1, .cells #[.slice A4 x3.rows.length c5, .int .i64 x3.level, .slice A7 x3.roots.length c8, .slice A10 x3.loose.length c11] 109 (0, 0))]] fL HS198) (fun _ => St.only [] HS198 fL) (fun _ => St.only [s177] HS198 fL) (fun _ => St.only [s177, [(b45, .cells #[.slice A175 x174.length c176] 57 (0, 0))]] HS198 fL)) ?_
        refine takeEither 3 8 kr rfl rfl rfl rfl ?_ ?_
        · refine does_run (run_load rfl Tryz.underlying22 rfl (kv (.pointer (some ⟨b1, 3, none⟩))) (HS198.u4.cell 3)) ?_
          refine ⟨(Sg.g3 (Sx.of [s177, [(b45, .cells #[.slice A175 x174.length c176] 57 (0, 0))], [(b23, .cells #[.slice A14 q13.Cones.length c15, .int .i64 q13.From, .int .i64 q13.To, .int .i64 q13.Least, .int .i64 q13.Ban] 51 (0, 0))], [(b19, .cells #[.pointer (some ⟨b1, 0, none⟩)] 66 (0, 0))], [(b1, .cells #[.slice A4 x3.rows.length c5, .int .i64 x3.level, .slice A7 x3.roots.length c8, .slice A10 x3.loose.length c11] 109 (0, 0))]] fL HS198) (fun _ => St.only [] HS198 fL) (fun _ => St.only [s177] HS198 fL) (fun _ => St.only [s177, [(b45, .cells #[.slice A175 x174.length c176] 57 (0, 0))]] HS198 fL)), ?_⟩
          refine takeGL [4] (n := 5) (fuel := 4) #[true, true, true, true, true, true, true, true, false, true, true, false, false, false] rfl kr kr kr hnp (Sg.g3 (Sx.of [s177, [(b45, .cells #[.slice A175 x174.length c176] 57 (0, 0))], [(b23, .cells #[.slice A14 q13.Cones.length c15, .int .i64 q13.From, .int .i64 q13.To, .int .i64 q13.Least, .int .i64 q13.Ban] 51 (0, 0))], [(b19, .cells #[.pointer (some ⟨b1, 0, none⟩)] 66 (0, 0))], [(b1, .cells #[.slice A4 x3.rows.length c5, .int .i64 x3.level, .slice A7 x3.roots.length c8, .slice A10 x3.loose.length c11] 109 (0, 0))]] fL HS198) (fun _ => St.only [] HS198 fL) (fun _ => St.only [s177] HS198 fL) (fun _ => St.only [s177, [(b45, .cells #[.slice A175 x174.length c176] 57 (0, 0))]] HS198 fL)) ?_
          refine takeGE 8 kr rfl kr (does_run (run_load rfl Tryz.underlying107 rfl (kv (.pointer (some ⟨b1, 2, none⟩))) (HS198.u4.cell 2)) ?_)
          refine ⟨(Sg.g3 (Sx.of [s177, [(b45, .cells #[.slice A175 x174.length c176] 57 (0, 0))], [(b23, .cells #[.slice A14 q13.Cones.length c15, .int .i64 q13.From, .int .i64 q13.To, .int .i64 q13.Least, .int .i64 q13.Ban] 51 (0, 0))], [(b19, .cells #[.pointer (some ⟨b1, 0, none⟩)] 66 (0, 0))], [(b1, .cells #[.slice A4 x3.rows.length c5, .int .i64 x3.level, .slice A7 x3.roots.length c8, .slice A10 x3.loose.length c11] 109 (0, 0))]] fL HS198) (fun _ => St.only [] HS198 fL) (fun _ => St.only [s177] HS198 fL) (fun _ => St.only [s177, [(b45, .cells #[.slice A175 x174.length c176] 57 (0, 0))]] HS198 fL)), ?_⟩
          have HS276 := HS198.u1.u4.u4.u4
          refine takeGE 11 kr rfl kr (does_call (f := 52) (args := #[.slice A7 x3.roots.length c8, .func (.func 53) #[] #[.pointer (some ⟨b23, 0, none⟩)], .func (.func 51) #[] #[.pointer (some ⟨b19, 0, none⟩), .pointer (some ⟨b23, 0, none⟩), .pointer (some ⟨b45, 0, none⟩)]]) kr (query_walk__query_Index_Run_2__query_Index_Run_1.calls k b23 A14 c15 b19 b1 A4 c5 A7 c8 A10 c11 b45 A175 c176 s177 A7 c8 q13 x3 x174 x3.roots HS276 (HR16.mono (L34.trans L170)) (HR6.mono (L34.trans L170)) (HR9.mono (L34.trans L170)) (HR12.mono (L34.trans L170)) HO178 (HR9.mono (L34.trans L170)) vt203 vt204 hc205) ?_)
          rintro _ W279 ⟨f277, A281, c282, s283, rfl, L278, HS280, HO284⟩
          refine ⟨_, rfl, ?_⟩
          refine ⟨(Sg.g3 (Sx.of [s283, [(b23, .cells #[.slice A14 q13.Cones.length c15, .int .i64 q13.From, .int .i64 q13.To, .int .i64 q13.Least, .int .i64 q13.Ban] 51 (0, 0))], [(b19, .cells #[.pointer (some ⟨b1, 0, none⟩)] 66 (0, 0))], [(b1, .cells #[.slice A4 x3.rows.length c5, .int .i64 x3.level, .slice A7 x3.roots.length c8, .slice A10 x3.loose.length c11] 109 (0, 0))], [(b45, .cells #[.slice A281 vt204.length c282] 57 (0, 0))]] L278 HS280) (fun hl_ => Bool.noConfusion (show true = false from hl_)) (fun hl_ => Bool.noConfusion (show true = false from hl_)) (fun hl_ => Bool.noConfusion (show true = false from hl_))), ?_⟩
          refine takeGL [12, 13] (n := 2) (fuel := 0) #[true, true, true, true, true, true, true, true, true, true, true, true, true, true] rfl kr kr kr hnp (Sg.g3 (Sx.of [s283, [(b23, .cells #[.slice A14 q13.Cones.length c15, .int .i64 q13.From, .int .i64 q13.To, .int .i64 q13.Least, .int .i64 q13.Ban] 51 (0, 0))], [(b19, .cells #[.pointer (some ⟨b1, 0, none⟩)] 66 (0, 0))], [(b1, .cells #[.slice A4 x3.rows.length c5, .int .i64 x3.level, .slice A7 x3.roots.length c8, .slice A10 x3.loose.length c11] 109 (0, 0))], [(b45, .cells #[.slice A281 vt204.length c282] 57 (0, 0))]] L278 HS280) (fun hl_ => Bool.noConfusion (show true = false from hl_)) (fun hl_ => Bool.noConfusion (show true = false from hl_)) (fun hl_ => Bool.noConfusion (show true = false from hl_))) ?_
          refine hR217 _ _ ?_
          exact J218 f277 A281 c282 s283 W279 _ L278 HO284 HS280 kr
        · refine does_run (run_load rfl Tryz.underlying107 rfl (kv (.pointer (some ⟨b1, 2, none⟩))) (HS198.u4.cell 2)) ?_
          refine ⟨(Sg.g3 (Sx.of [s177, [(b45, .cells #[.slice A175 x174.length c176] 57 (0, 0))], [(b23, .cells #[.slice A14 q13.Cones.length c15, .int .i64 q13.From, .int .i64 q13.To, .int .i64 q13.Least, .int .i64 q13.Ban] 51 (0, 0))], [(b19, .cells #[.pointer (some ⟨b1, 0, none⟩)] 66 (0, 0))], [(b1, .cells #[.slice A4 x3.rows.length c5, .int .i64 x3.level, .slice A7 x3.roots.length c8, .slice A10 x3.loose.length c11] 109 (0, 0))]] fL HS198) (fun _ => St.only [] HS198 fL) (fun _ => St.only [s177] HS198 fL) (fun _ => St.only [s177, [(b45, .cells #[.slice A175 x174.length c176] 57 (0, 0))]] HS198 fL)), ?_⟩
          refine takeEither 3 11 kr rfl rfl rfl rfl ?_ ?_
          · refine does_run (run_load rfl Tryz.underlying22 rfl (kv (.pointer (some ⟨b1, 3, none⟩))) (HS198.u4.cell 3)) ?_
            refine ⟨(Sg.g3 (Sx.of [s177, [(b45, .cells #[.slice A175 x174.length c176] 57 (0, 0))], [(b23, .cells #[.slice A14 q13.Cones.length c15, .int .i64 q13.From, .int .i64 q13.To, .int .i64 q13.Least, .int .i64 q13.Ban] 51 (0, 0))], [(b19, .cells #[.pointer (some ⟨b1, 0, none⟩)] 66 (0, 0))], [(b1, .cells #[.slice A4 x3.rows.length c5, .int .i64 x3.level, .slice A7 x3.roots.length c8, .slice A10 x3.loose.length c11] 109 (0, 0))]] fL HS198) (fun _ => St.only [] HS198 fL) (fun _ => St.only [s177] HS198 fL) (fun _ => St.only [s177, [(b45, .cells #[.slice A175 x174.length c176] 57 (0, 0))]] HS198 fL)), ?_⟩
            refine takeGL [4] (n := 4) (fuel := 3) #[true, true, true, true, true, true, true, true, true, true, true, false, false, false] rfl kr kr kr hnp (Sg.g3 (Sx.of [s177, [(b45, .cells #[.slice A175 x174.length c176] 57 (0, 0))], [(b23, .cells #[.slice A14 q13.Cones.length c15, .int .i64 q13.From, .int .i64 q13.To, .int .i64 q13.Least, .int .i64 q13.Ban] 51 (0, 0))], [(b19, .cells #[.pointer (some ⟨b1, 0, none⟩)] 66 (0, 0))], [(b1, .cells #[.slice A4 x3.rows.length c5, .int .i64 x3.level, .slice A7 x3.roots.length c8, .slice A10 x3.loose.length c11] 109 (0, 0))]] fL HS198) (fun _ => St.only [] HS198 fL) (fun _ => St.only [s177] HS198 fL) (fun _ => St.only [s177, [(b45, .cells #[.slice A175 x174.length c176] 57 (0, 0))]] HS198 fL)) ?_
            have HS289 := HS198.u1.u4.u4.u4
            refine takeGE 11 kr rfl kr (does_call (f := 52) (args := #[.slice A7 x3.roots.length c8, .func (.func 53) #[] #[.pointer (some ⟨b23, 0, none⟩)], .func (.func 51) #[] #[.pointer (some ⟨b19, 0, none⟩), .pointer (some ⟨b23, 0, none⟩), .pointer (some ⟨b45, 0, none⟩)]]) kr (query_walk__query_Index_Run_2__query_Index_Run_1.calls k b23 A14 c15 b19 b1 A4 c5 A7 c8 A10 c11 b45 A175 c176 s177 A7 c8 q13 x3 x174 x3.roots HS289 (HR16.mono (L34.trans L170)) (HR6.mono (L34.trans L170)) (HR9.mono (L34.trans L170)) (HR12.mono (L34.trans L170)) HO178 (HR9.mono (L34.trans L170)) vt203 vt204 hc205) ?_)
            rintro _ W292 ⟨f290, A294, c295, s296, rfl, L291, HS293, HO297⟩
            refine ⟨_, rfl, ?_⟩
            refine ⟨(Sg.g3 (Sx.of [s296, [(b23, .cells #[.slice A14 q13.Cones.length c15, .int .i64 q13.From, .int .i64 q13.To, .int .i64 q13.Least, .int .i64 q13.Ban] 51 (0, 0))], [(b19, .cells #[.pointer (some ⟨b1, 0, none⟩)] 66 (0, 0))], [(b1, .cells #[.slice A4 x3.rows.length c5, .int .i64 x3.level, .slice A7 x3.roots.length c8, .slice A10 x3.loose.length c11] 109 (0, 0))], [(b45, .cells #[.slice A294 vt204.length c295] 57 (0, 0))]] L291 HS293) (fun hl_ => Bool.noConfusion (show true = false from hl_)) (fun hl_ => Bool.noConfusion (show true = false from hl_)) (fun hl_ => Bool.noConfusion (show true = false from hl_))), ?_⟩
            refine takeGL [12, 13] (n := 2) (fuel := 0) #[true, true, true, true, true, true, true, true, true, true, true, true, true, true] rfl kr kr kr hnp (Sg.g3 (Sx.of [s296, [(b23, .cells #[.slice A14 q13.Cones.length c15, .int .i64 q13.From, .int .i64 q13.To, .int .i64 q13.Least, .int .i64 q13.Ban] 51 (0, 0))], [(b19, .cells #[.pointer (some ⟨b1, 0, none⟩)] 66 (0, 0))], [(b1, .cells #[.slice A4 x3.rows.length c5, .int .i64 x3.level, .slice A7 x3.roots.length c8, .slice A10 x3.loose.length c11] 109 (0, 0))], [(b45, .cells #[.slice A294 vt204.length c295] 57 (0, 0))]] L291 HS293) (fun hl_ => Bool.noConfusion (show true = false from hl_)) (fun hl_ => Bool.noConfusion (show true = false from hl_)) (fun hl_ => Bool.noConfusion (show true = false from hl_))) ?_
            refine hR217 _ _ ?_
            exact J218 f290 A294 c295 s296 W292 _ L291 HO297 HS293 kr
          · have HS299 := HS198.u1
            have HS302 := HS299.u4.u4.u4
            refine does_call (f := 52) (args := #[.slice A7 x3.roots.length c8, .func (.func 53) #[] #[.pointer (some ⟨b23, 0, none⟩)], .func (.func 51) #[] #[.pointer (some ⟨b19, 0, none⟩), .pointer (some ⟨b23, 0, none⟩), .pointer (some ⟨b45, 0, none⟩)]]) kr (query_walk__query_Index_Run_2__query_Index_Run_1.calls k b23 A14 c15 b19 b1 A4 c5 A7 c8 A10 c11 b45 A175 c176 s177 A7 c8 q13 x3 x174 x3.roots HS302 (HR16.mono (L34.trans L170)) (HR6.mono (L34.trans L170)) (HR9.mono (L34.trans L170)) (HR12.mono (L34.trans L170)) HO178 (HR9.mono (L34.trans L170)) vt203 vt204 hc205) ?_
            rintro _ W305 ⟨f303, A307, c308, s309, rfl, L304, HS306, HO310⟩
            refine ⟨_, rfl, ?_⟩
            refine ⟨(Sg.g3 (Sx.of [s309, [(b23, .cells #[.slice A14 q13.Cones.length c15, .int .i64 q13.From, .int .i64 q13.To, .int .i64 q13.Least, .int .i64 q13.Ban] 51 (0, 0))], [(b19, .cells #[.pointer (some ⟨b1, 0, none⟩)] 66 (0, 0))], [(b1, .cells #[.slice A4 x3.rows.length c5, .int .i64 x3.level, .slice A7 x3.roots.length c8, .slice A10 x3.loose.length c11] 109 (0, 0))], [(b45, .cells #[.slice A307 vt204.length c308] 57 (0, 0))]] L304 HS306) (fun hl_ => Bool.noConfusion (show true = false from hl_)) (fun hl_ => Bool.noConfusion (show true = false from hl_)) (fun hl_ => Bool.noConfusion (show true = false from hl_))), ?_⟩
            refine takeGE 3 kr rfl kr (does_run (run_load rfl Tryz.underlying22 rfl (kv (.pointer (some ⟨b1, 3, none⟩))) (HS306.u3.cell 3)) ?_)
            refine ⟨(Sg.g3 (Sx.of [s309, [(b23, .cells #[.slice A14 q13.Cones.length c15, .int .i64 q13.From, .int .i64 q13.To, .int .i64 q13.Least, .int .i64 q13.Ban] 51 (0, 0))], [(b19, .cells #[.pointer (some ⟨b1, 0, none⟩)] 66 (0, 0))], [(b1, .cells #[.slice A4 x3.rows.length c5, .int .i64 x3.level, .slice A7 x3.roots.length c8, .slice A10 x3.loose.length c11] 109 (0, 0))], [(b45, .cells #[.slice A307 vt204.length c308] 57 (0, 0))]] L304 HS306) (fun hl_ => Bool.noConfusion (show true = false from hl_)) (fun hl_ => Bool.noConfusion (show true = false from hl_)) (fun hl_ => Bool.noConfusion (show true = false from hl_))), ?_⟩
            refine takeGL [4, 12, 13] (n := 3) (fuel := 0) #[true, true, true, true, true, true, true, true, true, true, true, true, true, true] rfl kr kr kr hnp (Sg.g3 (Sx.of [s309, [(b23, .cells #[.slice A14 q13.Cones.length c15, .int .i64 q13.From, .int .i64 q13.To, .int .i64 q13.Least, .int .i64 q13.Ban] 51 (0, 0))], [(b19, .cells #[.pointer (some ⟨b1, 0, none⟩)] 66 (0, 0))], [(b1, .cells #[.slice A4 x3.rows.length c5, .int .i64 x3.level, .slice A7 x3.roots.length c8, .slice A10 x3.loose.length c11] 109 (0, 0))], [(b45, .cells #[.slice A307 vt204.length c308] 57 (0, 0))]] L304 HS306) (fun hl_ => Bool.noConfusion (show true = false from hl_)) (fun hl_ => Bool.noConfusion (show true = false from hl_)) (fun hl_ => Bool.noConfusion (show true = false from hl_))) ?_
            refine hR217 _ _ ?_
            exact J218 f303 A307 c308 s309 W305 _ L304 HO310 HS306 kr
      · refine does_run (run_load rfl Tryz.underlying107 rfl (kv (.pointer (some ⟨b1, 2, none⟩))) (HS198.u4.cell 2)) ?_
        refine ⟨(Sg.g3 (Sx.of [s177, [(b45, .cells #[.slice A175 x174.length c176] 57 (0, 0))], [(b23, .cells #[.slice A14 q13.Cones.length c15, .int .i64 q13.From, .int .i64 q13.To, .int .i64 q13.Least, .int .i64 q13.Ban] 51 (0, 0))], [(b19, .cells #[.pointer (some ⟨b1, 0, none⟩)] 66 (0, 0))], [(b1, .cells #[.slice A4 x3.rows.length c5, .int .i64 x3.level, .slice A7 x3.roots.length c8, .slice A10 x3.loose.length c11] 109 (0, 0))]] fL HS198) (fun _ => St.only [] HS198 fL) (fun _ => St.only [s177] HS198 fL) (fun _ => St.only [s177, [(b45, .cells #[.slice A175 x174.length c176] 57 (0, 0))]] HS198 fL)), ?_⟩
        refine takeEither 0 11 kr rfl rfl rfl rfl ?_ ?_
        · refine does_run (run_load rfl Tryz.underlying66 rfl (kv (.pointer (some ⟨b19, 0, none⟩))) (HS198.u3.cell 0)) ?_
          refine ⟨(Sg.g3 (Sx.of [s177, [(b45, .cells #[.slice A175 x174.length c176] 57 (0, 0))], [(b23, .cells #[.slice A14 q13.Cones.length c15, .int .i64 q13.From, .int .i64 q13.To, .int .i64 q13.Least, .int .i64 q13.Ban] 51 (0, 0))], [(b19, .cells #[.pointer (some ⟨b1, 0, none⟩)] 66 (0, 0))], [(b1, .cells #[.slice A4 x3.rows.length c5, .int .i64 x3.level, .slice A7 x3.roots.length c8, .slice A10 x3.loose.length c11] 109 (0, 0))]] fL HS198) (fun _ => St.only [] HS198 fL) (fun _ => St.only [s177] HS198 fL) (fun _ => St.only [s177, [(b45, .cells #[.slice A175 x174.length c176] 57 (0, 0))]] HS198 fL)), ?_⟩
          refine takeGL [1, 2] (n := 7) (fuel := 5) #[true, true, true, false, false, true, true, true, true, true, true, false, false, false] rfl kr kr kr hnp (Sg.g3 (Sx.of [s177, [(b45, .cells #[.slice A175 x174.length c176] 57 (0, 0))], [(b23, .cells #[.slice A14 q13.Cones.length c15, .int .i64 q13.From, .int .i64 q13.To, .int .i64 q13.Least, .int .i64 q13.Ban] 51 (0, 0))], [(b19, .cells #[.pointer (some ⟨b1, 0, none⟩)] 66 (0, 0))], [(b1, .cells #[.slice A4 x3.rows.length c5, .int .i64 x3.level, .slice A7 x3.roots.length c8, .slice A10 x3.loose.length c11] 109 (0, 0))]] fL HS198) (fun _ => St.only [] HS198 fL) (fun _ => St.only [s177] HS198 fL) (fun _ => St.only [s177, [(b45, .cells #[.slice A175 x174.length c176] 57 (0, 0))]] HS198 fL)) ?_
          refine takeEither 3 11 kr rfl rfl rfl rfl ?_ ?_
          · refine does_run (run_load rfl Tryz.underlying22 rfl (kv (.pointer (some ⟨b1, 3, none⟩))) (HS198.u4.cell 3)) ?_
            refine ⟨(Sg.g3 (Sx.of [s177, [(b45, .cells #[.slice A175 x174.length c176] 57 (0, 0))], [(b23, .cells #[.slice A14 q13.Cones.length c15, .int .i64 q13.From, .int .i64 q13.To, .int .i64 q13.Least, .int .i64 q13.Ban] 51 (0, 0))], [(b19, .cells #[.pointer (some ⟨b1, 0, none⟩)] 66 (0, 0))], [(b1, .cells #[.slice A4 x3.rows.length c5, .int .i64 x3.level, .slice A7 x3.roots.length c8, .slice A10 x3.loose.length c11] 109 (0, 0))]] fL HS198) (fun _ => St.only [] HS198 fL) (fun _ => St.only [s177] HS198 fL) (fun _ => St.only [s177, [(b45, .cells #[.slice A175 x174.length c176] 57 (0, 0))]] HS198 fL)), ?_⟩
            refine takeGL [4] (n := 4) (fuel := 3) #[true, true, true, true, true, true, true, true, true, true, true, false, false, false] rfl kr kr kr hnp (Sg.g3 (Sx.of [s177, [(b45, .cells #[.slice A175 x174.length c176] 57 (0, 0))], [(b23, .cells #[.slice A14 q13.Cones.length c15, .int .i64 q13.From, .int .i64 q13.To, .int .i64 q13.Least, .int .i64 q13.Ban] 51 (0, 0))], [(b19, .cells #[.pointer (some ⟨b1, 0, none⟩)] 66 (0, 0))], [(b1, .cells #[.slice A4 x3.rows.length c5, .int .i64 x3.level, .slice A7 x3.roots.length c8, .slice A10 x3.loose.length c11] 109 (0, 0))]] fL HS198) (fun _ => St.only [] HS198 fL) (fun _ => St.only [s177] HS198 fL) (fun _ => St.only [s177, [(b45, .cells #[.slice A175 x174.length c176] 57 (0, 0))]] HS198 fL)) ?_
            have HS315 := HS198.u1.u4.u4.u4
            refine takeGE 11 kr rfl kr (does_call (f := 52) (args := #[.slice A7 x3.roots.length c8, .func (.func 53) #[] #[.pointer (some ⟨b23, 0, none⟩)], .func (.func 51) #[] #[.pointer (some ⟨b19, 0, none⟩), .pointer (some ⟨b23, 0, none⟩), .pointer (some ⟨b45, 0, none⟩)]]) kr (query_walk__query_Index_Run_2__query_Index_Run_1.calls k b23 A14 c15 b19 b1 A4 c5 A7 c8 A10 c11 b45 A175 c176 s177 A7 c8 q13 x3 x174 x3.roots HS315 (HR16.mono (L34.trans L170)) (HR6.mono (L34.trans L170)) (HR9.mono (L34.trans L170)) (HR12.mono (L34.trans L170)) HO178 (HR9.mono (L34.trans L170)) vt203 vt204 hc205) ?_)
            rintro _ W318 ⟨f316, A320, c321, s322, rfl, L317, HS319, HO323⟩
            refine ⟨_, rfl, ?_⟩
            refine ⟨(Sg.g3 (Sx.of [s322, [(b23, .cells #[.slice A14 q13.Cones.length c15, .int .i64 q13.From, .int .i64 q13.To, .int .i64 q13.Least, .int .i64 q13.Ban] 51 (0, 0))], [(b19, .cells #[.pointer (some ⟨b1, 0, none⟩)] 66 (0, 0))], [(b1, .cells #[.slice A4 x3.rows.length c5, .int .i64 x3.level, .slice A7 x3.roots.length c8, .slice A10 x3.loose.length c11] 109 (0, 0))], [(b45, .cells #[.slice A320 vt204.length c321] 57 (0, 0))]] L317 HS319) (fun hl_ => Bool.noConfusion (show true = false from hl_)) (fun hl_ => Bool.noConfusion (show true = false from hl_)) (fun hl_ => Bool.noConfusion (show true = false from hl_))), ?_⟩
            refine takeGL [12, 13] (n := 2) (fuel := 0) #[true, true, true, true, true, true, true, true, true, true, true, true, true, true] rfl kr kr kr hnp (Sg.g3 (Sx.of [s322, [(b23, .cells #[.slice A14 q13.Cones.length c15, .int .i64 q13.From, .int .i64 q13.To, .int .i64 q13.Least, .int .i64 q13.Ban] 51 (0, 0))], [(b19, .cells #[.pointer (some ⟨b1, 0, none⟩)] 66 (0, 0))], [(b1, .cells #[.slice A4 x3.rows.length c5, .int .i64 x3.level, .slice A7 x3.roots.length c8, .slice A10 x3.loose.length c11] 109 (0, 0))], [(b45, .cells #[.slice A320 vt204.length c321] 57 (0, 0))]] L317 HS319) (fun hl_ => Bool.noConfusion (show true = false from hl_)) (fun hl_ => Bool.noConfusion (show true = false from hl_)) (fun hl_ => Bool.noConfusion (show true = false from hl_))) ?_
            refine hR217 _ _ ?_
            exact J218 f316 A320 c321 s322 W318 _ L317 HO323 HS319 kr
          · have HS325 := HS198.u1
            have HS328 := HS325.u4.u4.u4
            refine does_call (f := 52) (args := #[.slice A7 x3.roots.length c8, .func (.func 53) #[] #[.pointer (some ⟨b23, 0, none⟩)], .func (.func 51) #[] #[.pointer (some ⟨b19, 0, none⟩), .pointer (some ⟨b23, 0, none⟩), .pointer (some ⟨b45, 0, none⟩)]]) kr (query_walk__query_Index_Run_2__query_Index_Run_1.calls k b23 A14 c15 b19 b1 A4 c5 A7 c8 A10 c11 b45 A175 c176 s177 A7 c8 q13 x3 x174 x3.roots HS328 (HR16.mono (L34.trans L170)) (HR6.mono (L34.trans L170)) (HR9.mono (L34.trans L170)) (HR12.mono (L34.trans L170)) HO178 (HR9.mono (L34.trans L170)) vt203 vt204 hc205) ?_
            rintro _ W331 ⟨f329, A333, c334, s335, rfl, L330, HS332, HO336⟩
            refine ⟨_, rfl, ?_⟩
            refine ⟨(Sg.g3 (Sx.of [s335, [(b23, .cells #[.slice A14 q13.Cones.length c15, .int .i64 q13.From, .int .i64 q13.To, .int .i64 q13.Least, .int .i64 q13.Ban] 51 (0, 0))], [(b19, .cells #[.pointer (some ⟨b1, 0, none⟩)] 66 (0, 0))], [(b1, .cells #[.slice A4 x3.rows.length c5, .int .i64 x3.level, .slice A7 x3.roots.length c8, .slice A10 x3.loose.length c11] 109 (0, 0))], [(b45, .cells #[.slice A333 vt204.length c334] 57 (0, 0))]] L330 HS332) (fun hl_ => Bool.noConfusion (show true = false from hl_)) (fun hl_ => Bool.noConfusion (show true = false from hl_)) (fun hl_ => Bool.noConfusion (show true = false from hl_))), ?_⟩
            refine takeGE 3 kr rfl kr (does_run (run_load rfl Tryz.underlying22 rfl (kv (.pointer (some ⟨b1, 3, none⟩))) (HS332.u3.cell 3)) ?_)
            refine ⟨(Sg.g3 (Sx.of [s335, [(b23, .cells #[.slice A14 q13.Cones.length c15, .int .i64 q13.From, .int .i64 q13.To, .int .i64 q13.Least, .int .i64 q13.Ban] 51 (0, 0))], [(b19, .cells #[.pointer (some ⟨b1, 0, none⟩)] 66 (0, 0))], [(b1, .cells #[.slice A4 x3.rows.length c5, .int .i64 x3.level, .slice A7 x3.roots.length c8, .slice A10 x3.loose.length c11] 109 (0, 0))], [(b45, .cells #[.slice A333 vt204.length c334] 57 (0, 0))]] L330 HS332) (fun hl_ => Bool.noConfusion (show true = false from hl_)) (fun hl_ => Bool.noConfusion (show true = false from hl_)) (fun hl_ => Bool.noConfusion (show true = false from hl_))), ?_⟩
            refine takeGL [4, 12, 13] (n := 3) (fuel := 0) #[true, true, true, true, true, true, true, true, true, true, true, true, true, true] rfl kr kr kr hnp (Sg.g3 (Sx.of [s335, [(b23, .cells #[.slice A14 q13.Cones.length c15, .int .i64 q13.From, .int .i64 q13.To, .int .i64 q13.Least, .int .i64 q13.Ban] 51 (0, 0))], [(b19, .cells #[.pointer (some ⟨b1, 0, none⟩)] 66 (0, 0))], [(b1, .cells #[.slice A4 x3.rows.length c5, .int .i64 x3.level, .slice A7 x3.roots.length c8, .slice A10 x3.loose.length c11] 109 (0, 0))], [(b45, .cells #[.slice A333 vt204.length c334] 57 (0, 0))]] L330 HS332) (fun hl_ => Bool.noConfusion (show true = false from hl_)) (fun hl_ => Bool.noConfusion (show true = false from hl_)) (fun hl_ => Bool.noConfusion (show true = false from hl_))) ?_
            refine hR217 _ _ ?_
            exact J218 f329 A333 c334 s335 W331 _ L330 HO336 HS332 kr
        · have HS338 := HS198.u1
          have HS341 := HS338.u4.u4.u4
          refine does_call (f := 52) (args := #[.slice A7 x3.roots.length c8, .func (.func 53) #[] #[.pointer (some ⟨b23, 0, none⟩)], .func (.func 51) #[] #[.pointer (some ⟨b19, 0, none⟩), .pointer (some ⟨b23, 0, none⟩), .pointer (some ⟨b45, 0, none⟩)]]) kr (query_walk__query_Index_Run_2__query_Index_Run_1.calls k b23 A14 c15 b19 b1 A4 c5 A7 c8 A10 c11 b45 A175 c176 s177 A7 c8 q13 x3 x174 x3.roots HS341 (HR16.mono (L34.trans L170)) (HR6.mono (L34.trans L170)) (HR9.mono (L34.trans L170)) (HR12.mono (L34.trans L170)) HO178 (HR9.mono (L34.trans L170)) vt203 vt204 hc205) ?_
          rintro _ W344 ⟨f342, A346, c347, s348, rfl, L343, HS345, HO349⟩
          refine ⟨_, rfl, ?_⟩
          refine ⟨(Sg.g3 (Sx.of [s348, [(b23, .cells #[.slice A14 q13.Cones.length c15, .int .i64 q13.From, .int .i64 q13.To, .int .i64 q13.Least, .int .i64 q13.Ban] 51 (0, 0))], [(b19, .cells #[.pointer (some ⟨b1, 0, none⟩)] 66 (0, 0))], [(b1, .cells #[.slice A4 x3.rows.length c5, .int .i64 x3.level, .slice A7 x3.roots.length c8, .slice A10 x3.loose.length c11] 109 (0, 0))], [(b45, .cells #[.slice A346 vt204.length c347] 57 (0, 0))]] L343 HS345) (fun hl_ => Bool.noConfusion (show true = false from hl_)) (fun hl_ => Bool.noConfusion (show true = false from hl_)) (fun hl_ => Bool.noConfusion (show true = false from hl_))), ?_⟩
          refine takeGE 0 kr rfl kr (does_run (run_load rfl Tryz.underlying66 rfl (kv (.pointer (some ⟨b19, 0, none⟩))) (HS345.u2.cell 0)) ?_)
          refine ⟨(Sg.g3 (Sx.of [s348, [(b23, .cells #[.slice A14 q13.Cones.length c15, .int .i64 q13.From, .int .i64 q13.To, .int .i64 q13.Least, .int .i64 q13.Ban] 51 (0, 0))], [(b19, .cells #[.pointer (some ⟨b1, 0, none⟩)] 66 (0, 0))], [(b1, .cells #[.slice A4 x3.rows.length c5, .int .i64 x3.level, .slice A7 x3.roots.length c8, .slice A10 x3.loose.length c11] 109 (0, 0))], [(b45, .cells #[.slice A346 vt204.length c347] 57 (0, 0))]] L343 HS345) (fun hl_ => Bool.noConfusion (show true = false from hl_)) (fun hl_ => Bool.noConfusion (show true = false from hl_)) (fun hl_ => Bool.noConfusion (show true = false from hl_))), ?_⟩
          refine takeGL [1, 2] (n := 6) (fuel := 4) #[true, true, true, false, false, true, true, true, true, true, true, true, false, false] rfl kr kr kr hnp (Sg.g3 (Sx.of [s348, [(b23, .cells #[.slice A14 q13.Cones.length c15, .int .i64 q13.From, .int .i64 q13.To, .int .i64 q13.Least, .int .i64 q13.Ban] 51 (0, 0))], [(b19, .cells #[.pointer (some ⟨b1, 0, none⟩)] 66 (0, 0))], [(b1, .cells #[.slice A4 x3.rows.length c5, .int .i64 x3.level, .slice A7 x3.roots.length c8, .slice A10 x3.loose.length c11] 109 (0, 0))], [(b45, .cells #[.slice A346 vt204.length c347] 57 (0, 0))]] L343 HS345) (fun hl_ => Bool.noConfusion (show true = false from hl_)) (fun hl_ => Bool.noConfusion (show true = false from hl_)) (fun hl_ => Bool.noConfusion (show true = false from hl_))) ?_
          refine takeGE 3 kr rfl kr (does_run (run_load rfl Tryz.underlying22 rfl (kv (.pointer (some ⟨b1, 3, none⟩))) (HS345.u3.cell 3)) ?_)
          refine ⟨(Sg.g3 (Sx.of [s348, [(b23, .cells #[.slice A14 q13.Cones.length c15, .int .i64 q13.From, .int .i64 q13.To, .int .i64 q13.Least, .int .i64 q13.Ban] 51 (0, 0))], [(b19, .cells #[.pointer (some ⟨b1, 0, none⟩)] 66 (0, 0))], [(b1, .cells #[.slice A4 x3.rows.length c5, .int .i64 x3.level, .slice A7 x3.roots.length c8, .slice A10 x3.loose.length c11] 109 (0, 0))], [(b45, .cells #[.slice A346 vt204.length c347] 57 (0, 0))]] L343 HS345) (fun hl_ => Bool.noConfusion (show true = false from hl_)) (fun hl_ => Bool.noConfusion (show true = false from hl_)) (fun hl_ => Bool.noConfusion (show true = false from hl_))), ?_⟩
          refine takeGL [4, 12, 13] (n := 3) (fuel := 0) #[true, true, true, true, true, true, true, true, true, true, true, true, true, true] rfl kr kr kr hnp (Sg.g3 (Sx.of [s348, [(b23, .cells #[.slice A14 q13.Cones.length c15, .int .i64 q13.From, .int .i64 q13.To, .int .i64 q13.Least, .int .i64 q13.Ban] 51 (0, 0))], [(b19, .cells #[.pointer (some ⟨b1, 0, none⟩)] 66 (0, 0))], [(b1, .cells #[.slice A4 x3.rows.length c5, .int .i64 x3.level, .slice A7 x3.roots.length c8, .slice A10 x3.loose.length c11] 109 (0, 0))], [(b45, .cells #[.slice A346 vt204.length c347] 57 (0, 0))]] L343 HS345) (fun hl_ => Bool.noConfusion (show true = false from hl_)) (fun hl_ => Bool.noConfusion (show true = false from hl_)) (fun hl_ => Bool.noConfusion (show true = false from hl_))) ?_
          refine hR217 _ _ ?_
          exact J218 f342 A346 c347 s348 W344 _ L343 HO349 HS345 kr
   clear h; have h := hv180; clear hv180
   have HS183 := HS47.cons_nil
   refine loopK (fun n_ a_ w_ => ∃ (f118 : FM) (A125 : Option Addr) (c126 : Nat) (s127 : Seg) (x123 : Int) (x124 : List S_Answer) (j122 : Nat → Value), FM.le f33 f118 ∧ St t w_ f118 (s127 :: [(b45, .cells #[.slice A125 x124.length c126] 57 (0, 0))] :: [(b23, .cells #[.slice A14 q13.Cones.length c15, .int .i64 q13.From, .int .i64 q13.To, .int .i64 q13.Least, .int .i64 q13.Ban] 51 (0, 0))] :: [(b19, .cells #[.pointer (some ⟨b1, 0, none⟩)] 66 (0, 0))] :: [(b1, .cells #[.slice A4 x3.rows.length c5, .int .i64 x3.level, .slice A7 x3.roots.length c8, .slice A10 x3.loose.length c11] 109 (0, 0))] :: H) ∧ Own ty_Answer 62 f118 A125 c126 s127 x124 ∧ query_Index_Run.l0 k x3 q13 n_ x123 x124 = some o114 ∧ a_ = ⟨#[pV b1 0, (ag_Ask q13 A14 c15), pV b19 0, pV b23 0, .slice none 0 0, iV 0, iV 0, iV vt31, pV b45 0, .func (.func 51) #[] #[pV b19 0, pV b23 0, pV b45 0], uV, (j122 0), uV, (ag_Ask q13 A14 c15), iV vt31, iV vt31, fV, uV, .func (.func 51) #[] #[pV b19 0, pV b23 0, pV b45 0], pV b1 0, pV b1 0, pV b1 3, .slice A10 x3.loose.length c11, iV (x3.loose.length : Int), iV x123, (j122 1), (j122 2), (j122 3), (j122 4), (j122 5), (j122 6), (j122 7), uV, uV, uV, uV, uV, uV, uV, uV, uV, uV, uV, uV, uV, uV, uV, uV, uV], []⟩) k ⟨f33, none, 0, [], 0, ([] : List S_Answer), (jL []), fL, HS183, (Own.nil _), h, kr⟩ ?_
   clear h
   rintro n117 _ W120 ⟨f118, A125, c126, s127, x123, x124, j122, L119, HS121, HO128, h, rfl⟩ K115 hK116
   obtain _ | n117 := n117
   · exact nomatch h
   simp only [query_Index_Run.l0] at h
   refine wp_seq_k fun K130 hK131 => rl ?_
   refine seqL1 kr ?_
   refine nl (hK131 _ _ ?_)
   refine wp_seq_k (fun K132 hK133 => ?_)
   have hq_ := ite_some h; clear h; rcases hq_ with ⟨c135, h⟩ | ⟨c135, h⟩
   · have c135 : x123 < (x3.loose.length : Int) := c135
     refine wpRwI 25 kr (decide_eq_true c135) ?_
     refine condT kr ?_
     refine wp_skip ?_
     refine hK133 _ _ ?_
     refine wp_seq_k (fun K136 hK137 => ?_)
     refine blockK (fun B138 hx139 hn140 hr141 ho142 hp143 => ?_)
     refine wp_seq_k fun K145 hK146 => rl ?_
     have hq_ := guard_some h; clear h; obtain ⟨c147, h⟩ := hq_
     have c147 : 0 ≤ x123 := c147
     obtain ⟨b151, of152, cs148, hA153, hr149, hc150⟩ := (HR12.mono (L34.trans L119)).at (i := x123) c147 c135
     obtain rfl := hr149
     refine seqK rfl (does_run (run_indexE hA153 (sz := 1) rfl Tryz.underlying22 kr (kv (.slice A10 x3.loose.length c11)) (kv (.int .i64 x123)) c147 c135 W120) ?_)
     refine seqK rfl (does_run (run_load rfl Tryz.underlying3 rfl (kv (.pointer (some ⟨b151, of152 + (x123 : Int).toNat * 1, none⟩))) ((hc150 fL HS121) 0 (by decide))) ?_)
     refine seqL1 kr ?_
     refine nl (hK146 _ _ ?_)
     refine rl ?_
     have HS157 := HS121.u1.u2.u4.u4
     have hq_ := bind_some h; clear h; obtain ⟨vt158, hc159, h⟩ := hq_
     refine seqL2 kr ?_
     refine seqK rfl (does_call (f := 51) (args := #[.int .i64 (rd x3.loose x123), .pointer (some ⟨b19, 0, none⟩), .pointer (some ⟨b23, 0, none⟩), .pointer (some ⟨b45, 0, none⟩)]) kr (query_Index_Run_1.calls k b19 b1 A4 c5 A7 c8 A10 c11 b23 A14 c15 b45 A125 c126 s127 x3 q13 x124 (rd x3.loose x123) HS157 (HR6.mono (L34.trans L119)) (HR9.mono (L34.trans L119)) (HR12.mono (L34.trans L119)) (HR16.mono (L34.trans L119)) HO128 vt158 hc159) ?_)
     rintro _ W162 ⟨f160, A164, c165, s166, rfl, L161, HS163, HO167⟩
     refine ⟨_, rfl, ?_⟩
     refine nl ?_
     refine hn140 _ _ ?_
     refine hK137 _ _ ?_
     refine rl ?_
     refine seqL2 kr ?_
     refine nl ?_
     refine hK116 n117 _ _ (Nat.lt_succ_self _) ?_
     have HS189 := HS163.u2.u2.u3.u4.u4
     exact ⟨f160, A164, c165, s166, (w64 (x123 + 1)), vt158, (jL [iV (rd x3.loose x123), tV, .pointer (some ⟨b151, of152 + (x123 : Int).toNat * 1, none⟩), iV (rd x3.loose x123), .func (.func 51) #[] #[.pointer (some ⟨b19, 0, none⟩), .pointer (some ⟨b23, 0, none⟩), .pointer (some ⟨b45, 0, none⟩)], iV (rd x3.loose x123), .tuple #[], iV (w64 (x123 + 1))]), (L119.trans L161), HS189, HO167, h, kr⟩
   · have c135 : ¬ (x123 < (x3.loose.length : Int)) := c135
     refine wpRwI 25 kr (decide_eq_false c135) ?_
     refine condF kr ?_
     refine wp_exit ?_
     refine hx56 _ _ ?_
     exact J181 f118 A125 c126 s127 x124 (jL [(j122 0), iV x123, fV, (j122 2), (j122 3), (j122 4), (j122 5), (j122 6), (j122 7)]) W120 _ L119 h HS121 HO128 kr

set_option maxRecDepth 100000 in
set_option maxHeartbeats 4000000 in
theorem spykeep3_asked.calls (k : Nat)   {t w : World} {f : FM} {H : List Seg} (HS : St t w f (H)) (rr1 : Bool) (h : spykeep3_asked k = some rr1) :
    Calls Tryz.prog 12 #[] w (fun e w' => ∃ (g : FM), e = .returned (Value.bool rr1) ∧ FM.le f g ∧ St t w' g (H)) := by
 unfold spykeep3_asked at h
 refine enter Tryz.func12 rfl (tm := #[uV, uV, uV, uV, uV, uV, uV, uV, uV, uV, uV, uV, uV, uV, uV, uV, uV, uV, uV, uV, uV, uV, uV, uV, uV, uV, uV, uV, uV, uV, uV, uV, uV, uV, uV, uV, uV, uV, uV, uV, uV, uV, uV]) kr ?_
 intro B hret hnor hnp
 refine wp_seq_k fun K1 hK2 => rl ?_
 refine seqL1 kr ?_
 refine nl (hK2 _ _ ?_)
 refine wp_seq_k fun K3 hK4 => rl ?_
 have hq_ := bind_some h; clear h; obtain ⟨vt5, hc6, h⟩ := hq_
 refine seqK rfl (does_call (f := 38) (args := #[.int .i64 1]) kr (spykeep3_single.calls k 1 HS vt5 hc6) ?_)
 rintro _ W9 ⟨f7, A11, c12, s13, rfl, L8, HS10, HO14⟩
 refine ⟨_, rfl, ?_⟩
 obtain ⟨f16, L17, HS18, HR19⟩ := HO14.freeze HS10
 refine seqK rfl (does_lit (e := ty_Row) (E := 99) (vs := #[(0, Value.agg #[.int .i64 vt5.ID, .int .i64 vt5.Box.X.Lo, .int .i64 vt5.Box.X.Hi, .bool vt5.Box.X.Unknown, .int .i64 vt5.Box.Y.Lo, .int .i64 vt5.Box.Y.Hi, .bool vt5.Box.Y.Unknown, .int .i64 vt5.Box.Z.Lo, .int .i64 vt5.Box.Z.Hi, .bool vt5.Box.Z.Unknown, .int .i64 vt5.Flux.Lo, .int .i64 vt5.Flux.Hi, .bool vt5.Flux.Unknown, .int .i64 vt5.When.Lo, .int .i64 vt5.When.Hi, .bool vt5.When.Unknown, .slice A11 vt5.Frames.length c12, .int .i64 vt5.Marks])]) (cs := #[.int .i64 vt5.ID, .int .i64 vt5.Box.X.Lo, .int .i64 vt5.Box.X.Hi, .bool vt5.Box.X.Unknown, .int .i64 vt5.Box.Y.Lo, .int .i64 vt5.Box.Y.Hi, .bool vt5.Box.Y.Unknown, .int .i64 vt5.Box.Z.Lo, .int .i64 vt5.Box.Z.Hi, .bool vt5.Box.Z.Unknown, .int .i64 vt5.Flux.Lo, .int .i64 vt5.Flux.Hi, .bool vt5.Flux.Unknown, .int .i64 vt5.When.Lo, .int .i64 vt5.When.Hi, .bool vt5.When.Unknown, .slice A11 vt5.Frames.length c12, .int .i64 vt5.Marks]) (xs := ([vt5] : List S_Row)) rfl Tryz.underlying45 kr kr ⟨[.int .i64 vt5.ID, .int .i64 vt5.Box.X.Lo, .int .i64 vt5.Box.X.Hi, .bool vt5.Box.X.Unknown, .int .i64 vt5.Box.Y.Lo, .int .i64 vt5.Box.Y.Hi, .bool vt5.Box.Y.Unknown, .int .i64 vt5.Box.Z.Lo, .int .i64 vt5.Box.Z.Hi, .bool vt5.Box.Z.Unknown, .int .i64 vt5.Flux.Lo, .int .i64 vt5.Flux.Hi, .bool vt5.Flux.Unknown, .int .i64 vt5.When.Lo, .int .i64 vt5.When.Hi, .bool vt5.When.Unknown, .slice A11 vt5.Frames.length c12, .int .i64 vt5.Marks], _, rfl, ⟨A11, c12, rfl, HR19⟩, rfl⟩ rfl HS18 ?_ (by decide))
 intro b20 W21 s22 HS23 _ HO24
 obtain ⟨f26, L27, HS28, HR29⟩ := HO24.freeze HS23
 have hq_ := bind_some h; clear h; obtain ⟨⟨vt30, vt31⟩, hc32, h⟩ := hq_
 refine seqK rfl (does_call (f := 24) (args := #[.slice (some ⟨b20, 0, none⟩) ([vt5] : List S_Row).length 1, .int .i64 2]) kr (query_New.calls k (some ⟨b20, 0, none⟩) 1 ([vt5] : List S_Row) 2 HS28 HR29 vt30 vt31 hc32) ?_)
 rintro _ W35 ⟨f33, A37, c38, A40, c41, A43, c44, b46, rfl, L34, HS36, HR39, HR42, HR45⟩
 refine ⟨_, rfl, ?_⟩
 refine seqL5 kr ?_
 refine nl (hK4 _ _ ?_)
 refine wp_seq_k (fun K48 hK49 => ?_)
 refine wp_seq_k fun K50 hK51 => rl ?_
 refine seqL3 kr ?_
 have hq_ := ite_some h; clear h; rcases hq_ with ⟨c52, h⟩ | ⟨c52, h⟩
 · have c52 : vt31 ≠ 0 := c52
   refine seqRwI 13 kr (bne_iff_ne.mpr c52) ?_
   refine seqRwI 14 kr (bne_iff_ne.mpr c52) ?_
   refine seqL3 kr ?_
   refine nl (hK51 _ _ ?_)
   refine condT kr ?_
   refine wp_seq_k fun K53 hK54 => rl ?_
   refine seqL1 kr ?_
   refine nl (hK54 _ _ ?_)
   refine wp_ret ?_
   refine hret _ _ ?_
   refine ends_still (v := Value.bool false) kr kr ?_
   have HS82 := HS36.drop
   injection h with h
   subst h
   exact ⟨f33, rfl, (L8.trans (L17.trans (L27.trans L34))), HS82⟩
 · have c52 : ¬ (vt31 ≠ 0) := c52
   refine seqRwI 13 (x := (vt31 != 0)) (v := false) kr (bne_eq_false_iff_eq.mpr (Decidable.of_not_not c52)) ?_
   refine seqRwI 14 (x := (vt31 != 0)) (v := false) kr (bne_eq_false_iff_eq.mpr (Decidable.of_not_not c52)) ?_
   refine seqL3 kr ?_
   refine nl (hK51 _ _ ?_)
   refine condF kr ?_
   refine wp_skip ?_
   refine hK49 _ _ ?_
   refine wp_seq_k fun K55 hK56 => rl ?_
   have hq_ := bind_some h; clear h; obtain ⟨⟨vt57, vt58, vt59⟩, hc60, h⟩ := hq_
   refine seqL2 kr ?_
   refine seqK rfl (does_call (f := 25) (args := #[.pointer (some ⟨b46, 0, none⟩), .agg #[.slice none 0 0, .int .i64 0, .int .i64 0, .int .i64 0, .int .i64 0]]) kr (query_Index_Run.calls k b46 A37 c38 A40 c41 A43 c44 none 0 vt30 (⟨([] : List S_Cone), 0, 0, 0, 0⟩ : S_Ask) HS36 HR39 HR42 HR45 (SlR.nil _ _) vt57 vt58 vt59 hc60) ?_)
   rintro _ W63 ⟨f61, A65, c66, s67, rfl, L62, HS64, HO68⟩
   refine ⟨_, rfl, ?_⟩
   refine seqL7 kr ?_
   refine nl (hK56 _ _ ?_)
   refine wp_seq_k fun K70 hK71 => rl ?_
   refine seqL3 kr ?_
   have hq_ := ite_some h; clear h; rcases hq_ with ⟨c72, h⟩ | ⟨c72, h⟩
   · have c72 : vt59 = 0 := c72
     refine seqRwI 26 kr (beq_iff_eq.mpr c72) ?_
     refine seqRwI 27 kr (beq_iff_eq.mpr c72) ?_
     refine seqL4 kr ?_
     have hq_ := ite_some h; clear h; rcases hq_ with ⟨c73, h⟩ | ⟨c73, h⟩
     · have c73 : vt58 > 0 := c73
       refine seqRwI 29 kr (decide_eq_true c73) ?_
       refine seqRwI 30 kr (decide_eq_true c73) ?_
       refine seqRwI 31 kr (decide_eq_true c73) ?_
       refine seqL5 kr ?_
       have hq_ := ite_some h; clear h; rcases hq_ with ⟨c74, h⟩ | ⟨c74, h⟩
       · have c74 : (vt57.length : Int) = 1 := c74
         refine seqRwI 34 kr (beq_iff_eq.mpr c74) ?_
         refine seqRwI 35 kr (beq_iff_eq.mpr c74) ?_
         refine seqRwI 36 kr (beq_iff_eq.mpr c74) ?_
         have hq_ := guard_some h; clear h; obtain ⟨c75, h⟩ := hq_
         have c75 : 0 < (vt57.length : Int) := c75
         obtain ⟨b79, of80, cs76, hA81, hr77, hc78⟩ := HO68.at (i := 0) (by decide) c75
         obtain rfl := hr77
         refine seqL1 kr ?_
         refine seqG kr (does_run (run_indexE hA81 (sz := 2) rfl Tryz.underlying57 kr (kv (.slice A65 vt57.length c66)) (kv (.int .i64 0)) (by decide) c75 W63) ?_)
         refine seqL1 kr ?_
         refine seqG kr (does_run (run_load rfl Tryz.underlying3 rfl (kv (.pointer (some ⟨b79, of80 + (0 : Int).toNat * 2, none⟩))) ((hc78 HS64) 0 (by decide))) ?_)
         refine seqL3 kr ?_
         refine nl (hK71 _ _ ?_)
         refine wp_ret ?_
         refine hret _ _ ?_
         refine ends_still (v := Value.bool (((rd vt57 0).ID) == 1)) kr kr ?_
         have HS83 := HS64.drop
         have HS84 := HS83.drop
         injection h with h
         subst h
         exact ⟨f61, rfl, (L8.trans (L17.trans (L27.trans (L34.trans L62)))), HS84⟩
       · have c74 : ¬ ((vt57.length : Int) = 1) := c74
         refine seqRwI 34 kr (beq_eq_false_iff_ne.mpr c74) ?_
         refine seqRwI 35 kr (beq_eq_false_iff_ne.mpr c74) ?_
         refine seqRwI 36 kr (beq_eq_false_iff_ne.mpr c74) ?_
         refine seqL7 kr ?_
         refine nl (hK71 _ _ ?_)
         refine wp_ret ?_
         refine hret _ _ ?_
         refine ends_still (v := Value.bool false) kr kr ?_
         have HS85 := HS64.drop
         have HS86 := HS85.drop
         injection h with h
         subst h
         exact ⟨f61, rfl, (L8.trans (L17.trans (L27.trans (L34.trans L62)))), HS86⟩
     · have c73 : ¬ (vt58 > 0) := c73
       refine seqRwI 29 kr (decide_eq_false c73) ?_
       refine seqRwI 30 kr (decide_eq_false c73) ?_
       refine seqRwI 31 kr (decide_eq_false c73) ?_
       refine seqL12 kr ?_
       refine nl (hK71 _ _ ?_)
       refine wp_ret ?_
       refine hret _ _ ?_
       refine ends_still (v := Value.bool false) kr kr ?_
       have HS87 := HS64.drop
       have HS88 := HS87.drop
       injection h with h
       subst h
       exact ⟨f61, rfl, (L8.trans (L17.trans (L27.trans (L34.trans L62)))), HS88⟩
   · have c72 : ¬ (vt59 = 0) := c72
     refine seqRwI 26 kr (beq_eq_false_iff_ne.mpr c72) ?_
     refine seqRwI 27 kr (beq_eq_false_iff_ne.mpr c72) ?_
     refine seqL16 kr ?_
     refine nl (hK71 _ _ ?_)
     refine wp_ret ?_
     refine hret _ _ ?_
     refine ends_still (v := Value.bool false) kr kr ?_
     have HS89 := HS64.drop
     have HS90 := HS89.drop
     injection h with h
     subst h
     exact ⟨f61, rfl, (L8.trans (L17.trans (L27.trans (L34.trans L62)))), HS90⟩

set_option maxRecDepth 100000 in
set_option maxHeartbeats 4000000 in
theorem query_Scan.calls (k : Nat) (A2 : Option Addr) (c3 : Nat) (A6 : Option Addr) (c7 : Nat) (rows1 : List S_Row) (q5 : S_Ask) {t w : World} {f : FM} {H : List Seg} (HS : St t w f (H)) (HR4 : SlR ty_Row f A2 c3 rows1) (HR8 : SlR ty_Cone f A6 c7 q5.Cones) (rr1 : List S_Answer) (rr2 : Int) (h : query_Scan k rows1 q5 = some (rr1, rr2)) :
    Calls Tryz.prog 21 #[.slice A2 rows1.length c3, .agg #[.slice A6 q5.Cones.length c7, .int .i64 q5.From, .int .i64 q5.To, .int .i64 q5.Least, .int .i64 q5.Ban]] w (fun e w' => ∃ (g : FM) (A169 : Option Addr) (c170 : Nat) (s171 : Seg), e = .returned (Value.tuple #[.slice A169 rr1.length c170, .int .i64 rr2]) ∧ FM.le f g ∧ St t w' g (s171 :: H) ∧ Own ty_Answer 62 g A169 c170 s171 rr1) := by
 unfold query_Scan at h
 refine enter Tryz.func21 rfl (tm := #[.slice A2 rows1.length c3, (ag_Ask q5 A6 c7), uV, uV, uV, uV, uV, uV, uV, uV, uV, uV, uV, uV, uV, uV, uV, uV, uV, uV, uV, uV, uV, uV, uV, uV, uV, uV, uV, uV, uV, uV, uV, uV, uV, uV, uV, uV, uV, uV, uV, uV]) kr ?_
 intro B hret hnor hnp
 refine wp_seq_k fun K9 hK10 => rl ?_
 refine seqK rfl (does_box (cs := #[.slice A6 q5.Cones.length c7, .int .i64 q5.From, .int .i64 q5.To, .int .i64 q5.Least, .int .i64 q5.Ban]) rfl (kv (.agg #[.slice A6 q5.Cones.length c7, .int .i64 q5.From, .int .i64 q5.To, .int .i64 q5.Least, .int .i64 q5.Ban])) rfl HS ?_)
 intro b11 W12 HS13
 refine seqL2 kr ?_
 refine nl (hK10 _ _ ?_)
 refine wp_seq_k (fun K15 hK16 => ?_)
 refine wp_seq_k fun K17 hK18 => rl ?_
 have hq_ := bind_some h; clear h; obtain ⟨vt19, hc20, h⟩ := hq_
 refine seqL1 kr ?_
 refine seqK rfl (does_call (f := 42) (args := #[.slice A2 rows1.length c3]) kr (catalog_Check.calls k A2 c3 rows1 HS13 HR4 vt19 hc20) ?_)
 rintro _ W23 ⟨f21, rfl, L22, HS24⟩
 refine ⟨_, rfl, ?_⟩
 refine seqL1 kr ?_
 refine nl (hK18 _ _ ?_)
 refine wp_seq_k fun K25 hK26 => rl ?_
 refine seqL2 kr ?_
 refine nl (hK26 _ _ ?_)
 have hq_ := ite_some h; clear h; rcases hq_ with ⟨c28, h⟩ | ⟨c28, h⟩
 · have c28 : vt19 ≠ 0 := c28
   refine wpRwI 15 kr (bne_iff_ne.mpr c28) ?_
   refine condT kr ?_
   refine wp_seq_k fun K29 hK30 => rl ?_
   refine seqL3 kr ?_
   refine nl (hK30 _ _ ?_)
   refine wp_ret ?_
   refine hret _ _ ?_
   have HS159 := HS24.cons_nil
   refine ends_still (v := Value.tuple #[.slice none 0 0, .int .i64 vt19]) kr kr ?_
   have HS161 := HS159.u1
   have HS162 := HS161.drop
   injection h with h
   injection h with h0_ h
   subst h0_ h
   exact ⟨f21, none, 0, [], rfl, L22, HS162, (Own.nil _)⟩
 · have c28 : ¬ (vt19 ≠ 0) := c28
   refine wpRwI 15 (x := (vt19 != 0)) (v := false) kr (bne_eq_false_iff_eq.mpr (Decidable.of_not_not c28)) ?_
   refine condF kr ?_
   refine wp_skip ?_
   refine hK16 _ _ ?_
   refine wp_seq_k (fun K31 hK32 => ?_)
   refine wp_seq_k fun K33 hK34 => rl ?_
   refine seqK rfl (does_run (run_loadN (n := 5) rfl Tryz.underlying51 rfl kr (kv (.pointer (some ⟨b11, 0, none⟩))) (cs := [.slice A6 q5.Cones.length c7, .int .i64 q5.From, .int .i64 q5.To, .int .i64 q5.Least, .int .i64 q5.Ban]) rfl (HS24.cells 0 5 _ rfl)) ?_)
   have hq_ := bind_some h; clear h; obtain ⟨vt35, hc36, h⟩ := hq_
   refine seqK rfl (does_call (f := 43) (args := #[.agg #[.slice A6 q5.Cones.length c7, .int .i64 q5.From, .int .i64 q5.To, .int .i64 q5.Least, .int .i64 q5.Ban]]) kr (query_CheckAsk.calls k A6 c7 q5 HS24 (HR8.mono L22) vt35 hc36) ?_)
   rintro _ W39 ⟨f37, rfl, L38, HS40⟩
   refine ⟨_, rfl, ?_⟩
   refine seqL1 kr ?_
   refine nl (hK34 _ _ ?_)
   refine wp_seq_k fun K41 hK42 => rl ?_
   refine seqL2 kr ?_
   refine nl (hK42 _ _ ?_)
   have hq_ := ite_some h; clear h; rcases hq_ with ⟨c44, h⟩ | ⟨c44, h⟩
   · have c44 : vt35 ≠ 0 := c44
     refine wpRwI 20 kr (bne_iff_ne.mpr c44) ?_
     refine condT kr ?_
     refine wp_seq_k fun K45 hK46 => rl ?_
     refine seqL3 kr ?_
     refine nl (hK46 _ _ ?_)
     refine wp_ret ?_
     refine hret _ _ ?_
     have HS163 := HS40.cons_nil
     refine ends_still (v := Value.tuple #[.slice none 0 0, .int .i64 vt35]) kr kr ?_
     have HS165 := HS163.u1
     have HS166 := HS165.drop
     injection h with h
     injection h with h0_ h
     subst h0_ h
     exact ⟨f37, none, 0, [], rfl, (L22.trans L38), HS166, (Own.nil _)⟩
   · have c44 : ¬ (vt35 ≠ 0) := c44
     refine wpRwI 20 (x := (vt35 != 0)) (v := false) kr (bne_eq_false_iff_eq.mpr (Decidable.of_not_not c44)) ?_
     refine condF kr ?_
     refine wp_skip ?_
     refine hK32 _ _ ?_
     refine wp_seq_k fun K47 hK48 => rl ?_
     refine seqL1 kr ?_
     refine nl (hK48 _ _ ?_)
     refine wp_seq_k (fun K49 hK50 => ?_)
     refine wp_seq_k fun K51 hK52 => rl ?_
     refine seqL3 kr ?_
     refine nl (hK52 _ _ ?_)
     refine blockK (fun B53 hx54 hn55 hr56 ho57 hp58 => ?_)
     have hq_ := bind_some h; clear h; obtain ⟨o59, hv144, h⟩ := hq_
     have J145 : ∀ (f133 : FM) (A139 : Option Addr) (c140 : Nat) (s141 : Seg) (out138 : List S_Answer) (j137 : Nat → Value) (W135 : World) (a_ : Act), FM.le f37 f133 → some (out138) = some o59 → St t W135 f133 (s141 :: [(b11, .cells #[.slice A6 q5.Cones.length c7, .int .i64 q5.From, .int .i64 q5.To, .int .i64 q5.Least, .int .i64 q5.Ban] 51 (0, 0))] :: H) → Own ty_Answer 62 f133 A139 c140 s141 out138 → a_ = ⟨#[.slice A2 rows1.length c3, (ag_Ask q5 A6 c7), uV, pV b11 0, .slice none 0 0, iV 0, iV vt19, iV vt35, .slice A139 out138.length c140, uV, (j137 0), (j137 1), .slice A2 rows1.length c3, iV vt19, iV vt19, fV, uV, (ag_Ask q5 A6 c7), iV vt35, iV vt35, fV, uV, .slice A2 rows1.length c3, iV (rows1.length : Int), (j137 2), (j137 3), (j137 4), (j137 5), (j137 6), (j137 7), (j137 8), (j137 9), (j137 10), (j137 11), (j137 12), (j137 13), (j137 14), (j137 15), (j137 16), (j137 17), (j137 18), uV], []⟩ → K49 a_ W135 := by
      intro f133 A139 c140 s141 out138 j137 W135 a_ L134 hj146 HS136 HO142 hfr_; subst hfr_
      injection hj146 with hj146; subst hj146; try dsimp only at h
      refine hK50 _ _ ?_
      refine wp_seq_k fun K157 hK158 => rl ?_
      refine seqL3 kr ?_
      refine nl (hK158 _ _ ?_)
      refine wp_ret ?_
      refine hret _ _ ?_
      refine ends_still (v := Value.tuple #[.slice A139 out138.length c140, .int .i64 0]) kr kr ?_
      have HS167 := HS136.u1
      have HS168 := HS167.drop
      injection h with h
      injection h with h0_ h
      subst h0_ h
      exact ⟨f133, A139, c140, s141, rfl, (L22.trans (L38.trans L134)), HS168, HO142⟩
     clear h; have h := hv144; clear hv144
     have HS147 := HS40.cons_nil
     refine loopK (fun n_ a_ w_ => ∃ (f63 : FM) (A69 : Option Addr) (c70 : Nat) (s71 : Seg) (out68 : List S_Answer) (x74 : Int) (j67 : Nat → Value), FM.le f37 f63 ∧ St t w_ f63 (s71 :: [(b11, .cells #[.slice A6 q5.Cones.length c7, .int .i64 q5.From, .int .i64 q5.To, .int .i64 q5.Least, .int .i64 q5.Ban] 51 (0, 0))] :: H) ∧ Own ty_Answer 62 f63 A69 c70 s71 out68 ∧ query_Scan.l0 k rows1 q5 n_ out68 x74 = some o59 ∧ a_ = ⟨#[.slice A2 rows1.length c3, (ag_Ask q5 A6 c7), uV, pV b11 0, .slice none 0 0, iV 0, iV vt19, iV vt35, .slice A69 out68.length c70, uV, (j67 0), (j67 1), .slice A2 rows1.length c3, iV vt19, iV vt19, fV, uV, (ag_Ask q5 A6 c7), iV vt35, iV vt35, fV, uV, .slice A2 rows1.length c3, iV (rows1.length : Int), iV x74, (j67 2), (j67 3), (j67 4), (j67 5), (j67 6), (j67 7), (j67 8), (j67 9), (j67 10), (j67 11), (j67 12), (j67 13), (j67 14), (j67 15), (j67 16), (j67 17), uV], []⟩) k ⟨f37, none, 0, [], ([] : List S_Answer), 0, (jL []), fL, HS147, (Own.nil _), h, kr⟩ ?_
     clear h
     rintro n62 _ W65 ⟨f63, A69, c70, s71, out68, x74, j67, L64, HS66, HO72, h, rfl⟩ K60 hK61
     obtain _ | n62 := n62
     · exact nomatch h
     simp only [query_Scan.l0] at h
     refine wp_seq_k fun K75 hK76 => rl ?_
     refine seqL1 kr ?_
     refine nl (hK76 _ _ ?_)
     refine wp_seq_k (fun K77 hK78 => ?_)
     have hq_ := ite_some h; clear h; rcases hq_ with ⟨c80, h⟩ | ⟨c80, h⟩
     · have c80 : x74 < (rows1.length : Int) := c80
       refine wpRwI 25 kr (decide_eq_true c80) ?_
       refine condT kr ?_
       refine wp_skip ?_
       refine hK78 _ _ ?_
       refine wp_seq_k (fun K81 hK82 => ?_)
       refine blockK (fun B83 hx84 hn85 hr86 ho87 hp88 => ?_)
       refine wp_seq_k fun K90 hK91 => rl ?_
       have hq_ := guard_some h; clear h; obtain ⟨c92, h⟩ := hq_
       have c92 : 0 ≤ x74 := c92
       obtain ⟨b96, of97, cs93, hA98, hr94, hc95⟩ := (HR4.mono (L22.trans (L38.trans L64))).at (i := x74) c92 c80
       obtain ⟨A99, c99, rfl, HR99⟩ := hr94
       refine seqK rfl (does_run (run_indexE hA98 (sz := 18) rfl Tryz.underlying45 kr (kv (.slice A2 rows1.length c3)) (kv (.int .i64 x74)) c92 c80 W65) ?_)
       refine seqK rfl (does_run (run_loadN (n := 18) rfl Tryz.underlying99 rfl kr (kv (.pointer (some ⟨b96, of97 + (x74 : Int).toNat * 18, none⟩))) (cs := [.int .i64 ((rd rows1 x74).ID), .int .i64 ((((rd rows1 x74).Box).X).Lo), .int .i64 ((((rd rows1 x74).Box).X).Hi), .bool ((((rd rows1 x74).Box).X).Unknown), .int .i64 ((((rd rows1 x74).Box).Y).Lo), .int .i64 ((((rd rows1 x74).Box).Y).Hi), .bool ((((rd rows1 x74).Box).Y).Unknown), .int .i64 ((((rd rows1 x74).Box).Z).Lo), .int .i64 ((((rd rows1 x74).Box).Z).Hi), .bool ((((rd rows1 x74).Box).Z).Unknown), .int .i64 (((rd rows1 x74).Flux).Lo), .int .i64 (((rd rows1 x74).Flux).Hi), .bool (((rd rows1 x74).Flux).Unknown), .int .i64 (((rd rows1 x74).When).Lo), .int .i64 (((rd rows1 x74).When).Hi), .bool (((rd rows1 x74).When).Unknown), .slice A99 ((rd rows1 x74).Frames).length c99, .int .i64 ((rd rows1 x74).Marks)]) rfl (fun j_ hj_ => ((hc95 fL HS66) j_ hj_))) ?_)
       refine seqK rfl (does_alloc (z := Value.agg #[.int .i64 0, .int .i64 0, .int .i64 0, .bool false, .int .i64 0, .int .i64 0, .bool false, .int .i64 0, .int .i64 0, .bool false, .int .i64 0, .int .i64 0, .bool false, .int .i64 0, .int .i64 0, .bool false, .slice none 0 0, .int .i64 0]) (cs := #[.int .i64 0, .int .i64 0, .int .i64 0, .bool false, .int .i64 0, .int .i64 0, .bool false, .int .i64 0, .int .i64 0, .bool false, .int .i64 0, .int .i64 0, .bool false, .int .i64 0, .int .i64 0, .bool false, .slice none 0 0, .int .i64 0]) rfl kr rfl HS66 ?_)
       intro b100 W101 HS102
       refine seqK rfl (does_storeA (vs := [.int .i64 ((rd rows1 x74).ID), .int .i64 ((((rd rows1 x74).Box).X).Lo), .int .i64 ((((rd rows1 x74).Box).X).Hi), .bool ((((rd rows1 x74).Box).X).Unknown), .int .i64 ((((rd rows1 x74).Box).Y).Lo), .int .i64 ((((rd rows1 x74).Box).Y).Hi), .bool ((((rd rows1 x74).Box).Y).Unknown), .int .i64 ((((rd rows1 x74).Box).Z).Lo), .int .i64 ((((rd rows1 x74).Box).Z).Hi), .bool ((((rd rows1 x74).Box).Z).Unknown), .int .i64 (((rd rows1 x74).Flux).Lo), .int .i64 (((rd rows1 x74).Flux).Hi), .bool (((rd rows1 x74).Flux).Unknown), .int .i64 (((rd rows1 x74).When).Lo), .int .i64 (((rd rows1 x74).When).Hi), .bool (((rd rows1 x74).When).Unknown), .slice A99 ((rd rows1 x74).Frames).length c99, .int .i64 ((rd rows1 x74).Marks)]) rfl kr kr kr rfl (ones rfl) HS102 kr ?_)
       intro W104 HS105
       refine nl (hK91 _ _ ?_)
       refine wp_seq_k fun K106 hK107 => rl ?_
       refine seqK rfl (does_run (run_loadN (n := 18) rfl Tryz.underlying99 rfl kr (kv (.pointer (some ⟨b100, 0, none⟩))) (cs := [.int .i64 ((rd rows1 x74).ID), .int .i64 ((((rd rows1 x74).Box).X).Lo), .int .i64 ((((rd rows1 x74).Box).X).Hi), .bool ((((rd rows1 x74).Box).X).Unknown), .int .i64 ((((rd rows1 x74).Box).Y).Lo), .int .i64 ((((rd rows1 x74).Box).Y).Hi), .bool ((((rd rows1 x74).Box).Y).Unknown), .int .i64 ((((rd rows1 x74).Box).Z).Lo), .int .i64 ((((rd rows1 x74).Box).Z).Hi), .bool ((((rd rows1 x74).Box).Z).Unknown), .int .i64 (((rd rows1 x74).Flux).Lo), .int .i64 (((rd rows1 x74).Flux).Hi), .bool (((rd rows1 x74).Flux).Unknown), .int .i64 (((rd rows1 x74).When).Lo), .int .i64 (((rd rows1 x74).When).Hi), .bool (((rd rows1 x74).When).Unknown), .slice A99 ((rd rows1 x74).Frames).length c99, .int .i64 ((rd rows1 x74).Marks)]) rfl (HS105.cells 0 18 _ rfl)) ?_)
       refine seqK rfl (does_run (run_loadN (n := 5) rfl Tryz.underlying51 rfl kr (kv (.pointer (some ⟨b11, 0, none⟩))) (cs := [.slice A6 q5.Cones.length c7, .int .i64 q5.From, .int .i64 q5.To, .int .i64 q5.Least, .int .i64 q5.Ban]) rfl (HS105.u2.cells 0 5 _ rfl)) ?_)
       have hq_ := bind_some h; clear h; obtain ⟨vt108, hc109, h⟩ := hq_
       refine seqK rfl (does_call (f := 44) (args := #[.agg #[.int .i64 ((rd rows1 x74).ID), .int .i64 ((((rd rows1 x74).Box).X).Lo), .int .i64 ((((rd rows1 x74).Box).X).Hi), .bool ((((rd rows1 x74).Box).X).Unknown), .int .i64 ((((rd rows1 x74).Box).Y).Lo), .int .i64 ((((rd rows1 x74).Box).Y).Hi), .bool ((((rd rows1 x74).Box).Y).Unknown), .int .i64 ((((rd rows1 x74).Box).Z).Lo), .int .i64 ((((rd rows1 x74).Box).Z).Hi), .bool ((((rd rows1 x74).Box).Z).Unknown), .int .i64 (((rd rows1 x74).Flux).Lo), .int .i64 (((rd rows1 x74).Flux).Hi), .bool (((rd rows1 x74).Flux).Unknown), .int .i64 (((rd rows1 x74).When).Lo), .int .i64 (((rd rows1 x74).When).Hi), .bool (((rd rows1 x74).When).Unknown), .slice A99 ((rd rows1 x74).Frames).length c99, .int .i64 ((rd rows1 x74).Marks)], .agg #[.slice A6 q5.Cones.length c7, .int .i64 q5.From, .int .i64 q5.To, .int .i64 q5.Least, .int .i64 q5.Ban]]) kr (query_grade.calls k A99 c99 A6 c7 (rd rows1 x74) q5 HS105 HR99 (HR8.mono (L22.trans (L38.trans L64))) vt108 hc109) ?_)
       rintro _ W112 ⟨f110, rfl, L111, HS113⟩
       refine ⟨_, rfl, ?_⟩
       refine seqL1 kr ?_
       refine nl (hK107 _ _ ?_)
       refine wp_seq_k fun K114 hK115 => rl ?_
       refine seqL2 kr ?_
       refine nl (hK115 _ _ ?_)
       have hq_ := ite_some h; clear h; rcases hq_ with ⟨c117, h⟩ | ⟨c117, h⟩
       · have c117 : vt108 ≠ 0 := c117
         refine wpRwI 32 kr (bne_iff_ne.mpr c117) ?_
         refine condT kr ?_
         refine rl ?_
         refine seqL2 kr ?_
         refine seqK rfl (does_run (run_load rfl Tryz.underlying3 rfl (kv (.pointer (some ⟨b100, 0, none⟩))) (HS113.cell 0)) ?_)
         refine seqL2 kr ?_
         refine seqK rfl (does_lit (e := ty_Answer) (E := 62) (vs := #[(0, Value.agg #[.int .i64 ((rd rows1 x74).ID), .int .i64 vt108])]) (cs := #[.int .i64 ((rd rows1 x74).ID), .int .i64 vt108]) (xs := ([(⟨(rd rows1 x74).ID, vt108⟩ : S_Answer)] : List S_Answer)) rfl Tryz.underlying57 kr kr ⟨[.int .i64 ((rd rows1 x74).ID), .int .i64 vt108], _, rfl, rfl, rfl⟩ rfl HS113 ?_ (by decide))
         intro b118 W119 s120 HS121 _ HO122
         have hq_ := guard_some h; clear h; obtain ⟨c124, h⟩ := hq_
         have c124 : (out68.length + 1) * 16 ≤ 140737488355328 := c124
         have HS126 := HS121.u2.u1
         refine seqK rfl (does_append1 (e := ty_Answer) (E := 62) (xs := out68) (ys := ([(⟨(rd rows1 x74).ID, vt108⟩ : S_Answer)] : List S_Answer)) rfl (kv (.slice A69 out68.length c70)) (kv (.slice (some ⟨b118, 0, none⟩) ([(⟨(rd rows1 x74).ID, vt108⟩ : S_Answer)] : List S_Answer).length 1)) Tryz.underlying57 inf62 (HO72.mono L111) HO122 HS126 c124 (lim63 c124 (by decide)) ?_)
         intro A127 c128 s129 W130 HS131 HO132
         refine seqL1 kr ?_
         refine nl ?_
         refine hn85 _ _ ?_
         refine hK82 _ _ ?_
         refine rl ?_
         refine seqL2 kr ?_
         refine nl ?_
         refine hK61 n62 _ _ (Nat.lt_succ_self _) ?_
         have HS151 := HS131.u2.u1.u2
         have HS152 := HS151.drop
         exact ⟨f110, A127, c128, s129, (out68 ++ ([(⟨(rd rows1 x74).ID, vt108⟩ : S_Answer)] : List S_Answer)), (w64 (x74 + 1)), (jL [.pointer (some ⟨b100, 0, none⟩), iV vt108, tV, .pointer (some ⟨b96, of97 + (x74 : Int).toNat * 18, none⟩), (ag_Row (rd rows1 x74) A99 c99), (ag_Row (rd rows1 x74) A99 c99), (ag_Ask q5 A6 c7), iV vt108, iV vt108, tV, .slice A69 out68.length c70, .pointer (some ⟨b100, 0, none⟩), iV ((rd rows1 x74).ID), iV vt108, .agg #[.int .i64 ((rd rows1 x74).ID), .int .i64 vt108], .slice (some ⟨b118, 0, none⟩) ([(⟨(rd rows1 x74).ID, vt108⟩ : S_Answer)] : List S_Answer).length 1, .slice A127 (out68 ++ ([(⟨(rd rows1 x74).ID, vt108⟩ : S_Answer)] : List S_Answer)).length c128, iV (w64 (x74 + 1))]), (L64.trans L111), HS152, HO132, h, kr⟩
       · have c117 : ¬ (vt108 ≠ 0) := c117
         refine wpRwI 32 (x := (vt108 != 0)) (v := false) kr (bne_eq_false_iff_eq.mpr (Decidable.of_not_not c117)) ?_
         refine condF kr ?_
         refine wp_skip ?_
         refine hn85 _ _ ?_
         refine hK82 _ _ ?_
         refine rl ?_
         refine seqL2 kr ?_
         refine nl ?_
         refine hK61 n62 _ _ (Nat.lt_succ_self _) ?_
         have HS155 := HS113.u2.u2.u2
         have HS156 := HS155.drop
         exact ⟨f110, A69, c70, s71, out68, (w64 (x74 + 1)), (jL [.pointer (some ⟨b100, 0, none⟩), iV vt108, tV, .pointer (some ⟨b96, of97 + (x74 : Int).toNat * 18, none⟩), (ag_Row (rd rows1 x74) A99 c99), (ag_Row (rd rows1 x74) A99 c99), (ag_Ask q5 A6 c7), iV vt108, iV vt108, fV, (j67 10), (j67 11), (j67 12), (j67 13), (j67 14), (j67 15), (j67 16), iV (w64 (x74 + 1))]), (L64.trans L111), HS156, (HO72.mono L111), h, kr⟩
     · have c80 : ¬ (x74 < (rows1.length : Int)) := c80
       refine wpRwI 25 kr (decide_eq_false c80) ?_
       refine condF kr ?_
       refine wp_exit ?_
       refine hx54 _ _ ?_
       exact J145 f63 A69 c70 s71 out68 (jL [(j67 0), (j67 1), iV x74, fV, (j67 3), (j67 4), (j67 5), (j67 6), (j67 7), (j67 8), (j67 9), (j67 10), (j67 11), (j67 12), (j67 13), (j67 14), (j67 15), (j67 16), (j67 17)]) W65 _ L64 h HS66 HO72 kr

set_option maxRecDepth 100000 in
set_option maxHeartbeats 4000000 in
theorem slices_Equal_Answer.calls (k : Nat) (A2 : Option Addr) (c3 : Nat) (A6 : Option Addr) (c7 : Nat) (s11 : List S_Answer) (s25 : List S_Answer) {t w : World} {f : FM} {H : List Seg} (HS : St t w f (H)) (HR4 : SlR ty_Answer f A2 c3 s11) (HR8 : SlR ty_Answer f A6 c7 s25) (rr1 : Bool) (h : slices_Equal_Answer k s11 s25 = some rr1) :
    Calls Tryz.prog 26 #[.slice A2 s11.length c3, .slice A6 s25.length c7] w (fun e w' => ∃ (g : FM), e = .returned (Value.bool rr1) ∧ FM.le f g ∧ St t w' g (H)) := by
 unfold slices_Equal_Answer at h
 refine enter Tryz.func26 rfl (tm := #[.slice A2 s11.length c3, .slice A6 s25.length c7, uV, uV, uV, uV, uV, uV, uV, uV, uV, uV, uV, uV, uV, uV, uV, uV, uV, uV, uV, uV, uV, uV, uV, uV]) kr ?_
 intro B hret hnor hnp
 refine wp_seq_k fun K9 hK10 => rl ?_
 refine seqL1 kr ?_
 refine nl (hK10 _ _ ?_)
 refine wp_seq_k (fun K11 hK12 => ?_)
 refine wp_seq_k fun K13 hK14 => rl ?_
 refine seqL5 kr ?_
 refine nl (hK14 _ _ ?_)
 have hq_ := ite_some h; clear h; rcases hq_ with ⟨c16, h⟩ | ⟨c16, h⟩
 · have c16 : (s11.length : Int) ≠ (s25.length : Int) := c16
   refine wpRwI 10 kr (bne_iff_ne.mpr c16) ?_
   refine condT kr ?_
   refine wp_seq_k fun K17 hK18 => rl ?_
   refine seqL1 kr ?_
   refine nl (hK18 _ _ ?_)
   refine wp_ret ?_
   refine hret _ _ ?_
   refine ends_still (v := Value.bool false) kr kr ?_
   injection h with h
   subst h
   exact ⟨f, rfl, FM.le.refl _, HS⟩
 · have c16 : ¬ ((s11.length : Int) ≠ (s25.length : Int)) := c16
   refine wpRwI 10 (x := ((s11.length : Int) != (s25.length : Int))) (v := false) kr (bne_eq_false_iff_eq.mpr (Decidable.of_not_not c16)) ?_
   refine condF kr ?_
   refine wp_skip ?_
   refine hK12 _ _ ?_
   refine wp_seq_k (fun K19 hK20 => ?_)
   refine wp_seq_k fun K21 hK22 => rl ?_
   refine seqL3 kr ?_
   refine nl (hK22 _ _ ?_)
   refine blockK (fun B23 hx24 hn25 hr26 ho27 hp28 => ?_)
   have hq_ := bind_some h; clear h; obtain ⟨o29, hv83, h⟩ := hq_
   have JR85 : ∀ z_, some (Sum.inl z_) = some o29 → some z_ = some rr1 := by
    intro z_ e_; injection e_ with e_; subst e_; exact h
   have J84 : ∀ (f78 : FM) (j82 : Nat → Value) (W80 : World) (a_ : Act), FM.le f f78 → some (Sum.inr ()) = some o29 → St t W80 f78 (H) → a_ = ⟨#[.slice A2 s11.length c3, .slice A6 s25.length c7, uV, uV, (j82 0), (j82 1), .slice A2 s11.length c3, iV (s11.length : Int), .slice A6 s25.length c7, iV (s25.length : Int), fV, .slice A2 s11.length c3, iV (s11.length : Int), (j82 2), (j82 3), (j82 4), (j82 5), (j82 6), (j82 7), (j82 8), (j82 9), (j82 10), (j82 11), (j82 12), (j82 13), (j82 14)], []⟩ → K19 a_ W80 := by
    intro f78 j82 W80 a_ L79 hj86 HS81  hfr_; subst hfr_
    injection hj86 with hj86; subst hj86; try dsimp only at h
    simp only [Sum.elim_inr] at h
    refine hK20 _ _ ?_
    refine wp_seq_k fun K87 hK88 => rl ?_
    refine seqL1 kr ?_
    refine nl (hK88 _ _ ?_)
    refine wp_ret ?_
    refine hret _ _ ?_
    refine ends_still (v := Value.bool true) kr kr ?_
    injection h with h
    subst h
    exact ⟨f78, rfl, L79, HS81⟩
   clear h; have h := hv83; clear hv83
   refine loopK (fun n_ a_ w_ => ∃ (f33 : FM) (x38 : Int) (j37 : Nat → Value), FM.le f f33 ∧ St t w_ f33 (H) ∧ slices_Equal_Answer.l0 k s11 s25 n_ x38 = some o29 ∧ a_ = ⟨#[.slice A2 s11.length c3, .slice A6 s25.length c7, uV, uV, (j37 0), (j37 1), .slice A2 s11.length c3, iV (s11.length : Int), .slice A6 s25.length c7, iV (s25.length : Int), fV, .slice A2 s11.length c3, iV (s11.length : Int), iV x38, (j37 2), (j37 3), (j37 4), (j37 5), (j37 6), (j37 7), (j37 8), (j37 9), (j37 10), (j37 11), (j37 12), (j37 13)], []⟩) k ⟨f, 0, (jL [fV]), fL, HS, h, kr⟩ ?_
   clear h
   rintro n32 _ W35 ⟨f33, x38, j37, L34, HS36, h, rfl⟩ K30 hK31
   obtain _ | n32 := n32
   · exact nomatch h
   simp only [slices_Equal_Answer.l0] at h
   refine wp_seq_k fun K39 hK40 => rl ?_
   refine seqL1 kr ?_
   refine nl (hK40 _ _ ?_)
   refine wp_seq_k (fun K41 hK42 => ?_)
   have hq_ := ite_some h; clear h; rcases hq_ with ⟨c44, h⟩ | ⟨c44, h⟩
   · have c44 : x38 < (s11.length : Int) := c44
     refine wpRwI 14 kr (decide_eq_true c44) ?_
     refine condT kr ?_
     refine wp_skip ?_
     refine hK42 _ _ ?_
     refine wp_seq_k (fun K45 hK46 => ?_)
     refine blockK (fun B47 hx48 hn49 hr50 ho51 hp52 => ?_)
     refine wp_seq_k fun K54 hK55 => rl ?_
     refine seqL2 kr ?_
     refine nl (hK55 _ _ ?_)
     refine wp_seq_k (fun K56 hK57 => ?_)
     refine heldG (S := Sg t f33 (H) []) (n := 9) kr rfl HS36 ?_
     intro W58 HS59
     have hq_ := guard_some h; clear h; obtain ⟨c60, h⟩ := hq_
     have c60 : 0 ≤ x38 := c60
     obtain ⟨b64, of65, cs61, hA66, hr62, hc63⟩ := (HR4.mono L34).at (i := x38) c60 c44
     obtain rfl := hr62
     refine takeGL [0, 1] (n := 9) (fuel := 7) #[true, true, false, false, false, false, false, false, false] rfl kr kr kr (fun ch_ a_ w_ q_ => (fun ch_ a_ w_ q_ => hnp ch_ a_ w_ (hp28 ch_ a_ w_ q_)) ch_ a_ w_ (hp52 ch_ a_ w_ q_)) (Sg.g0 (Sx.of [] fL HS59)) ?_
     refine takeGQ 2 [] rfl kr kr kr kr kr kr (fun ch_ a_ w_ q_ => (fun ch_ a_ w_ q_ => hnp ch_ a_ w_ (hp28 ch_ a_ w_ q_)) ch_ a_ w_ (hp52 ch_ a_ w_ q_)) (Sg.g0 (Sx.of [] fL HS59)) (fun w_ hw_ => by obtain ⟨g_, hl_, hS_⟩ := hw_.st; exact run_indexE hA66 (sz := 2) rfl Tryz.underlying57 kr (kv (.slice A2 s11.length c3)) (kv (.int .i64 x38)) c60 c44 w_) ?_
     refine takeGQ 3 [] rfl kr kr kr kr kr kr (fun ch_ a_ w_ q_ => (fun ch_ a_ w_ q_ => hnp ch_ a_ w_ (hp28 ch_ a_ w_ q_)) ch_ a_ w_ (hp52 ch_ a_ w_ q_)) (Sg.g0 (Sx.of [] fL HS59)) (fun w_ hw_ => by obtain ⟨g_, hl_, hS_⟩ := hw_.st; exact run_loadN (n := 2) rfl Tryz.underlying62 rfl kr (kv (.pointer (some ⟨b64, of65 + (x38 : Int).toNat * 2, none⟩))) (cs := [.int .i64 ((rd s11 x38).ID), .int .i64 ((rd s11 x38).Grade)]) rfl (fun j_ hj_ => ((hc63 hl_ hS_) j_ hj_))) ?_
     have hq_ := guard_some h; clear h; obtain ⟨c67, h⟩ := hq_
     have c67 : x38 < (s25.length : Int) := c67
     obtain ⟨b71, of72, cs68, hA73, hr69, hc70⟩ := (HR8.mono L34).at (i := x38) c60 c67
     obtain rfl := hr69
     refine takeGL [4, 5] (n := 5) (fuel := 3) #[true, true, true, true, true, true, false, false, false] rfl kr kr kr (fun ch_ a_ w_ q_ => (fun ch_ a_ w_ q_ => hnp ch_ a_ w_ (hp28 ch_ a_ w_ q_)) ch_ a_ w_ (hp52 ch_ a_ w_ q_)) (Sg.g0 (Sx.of [] fL HS59)) ?_
     refine takeGQ 6 [] rfl kr kr kr kr kr kr (fun ch_ a_ w_ q_ => (fun ch_ a_ w_ q_ => hnp ch_ a_ w_ (hp28 ch_ a_ w_ q_)) ch_ a_ w_ (hp52 ch_ a_ w_ q_)) (Sg.g0 (Sx.of [] fL HS59)) (fun w_ hw_ => by obtain ⟨g_, hl_, hS_⟩ := hw_.st; exact run_indexE hA73 (sz := 2) rfl Tryz.underlying57 kr (kv (.slice A6 s25.length c7)) (kv (.int .i64 x38)) c60 c67 w_) ?_
     refine takeGQ 7 [] rfl kr kr kr kr kr kr (fun ch_ a_ w_ q_ => (fun ch_ a_ w_ q_ => hnp ch_ a_ w_ (hp28 ch_ a_ w_ q_)) ch_ a_ w_ (hp52 ch_ a_ w_ q_)) (Sg.g0 (Sx.of [] fL HS59)) (fun w_ hw_ => by obtain ⟨g_, hl_, hS_⟩ := hw_.st; exact run_loadN (n := 2) rfl Tryz.underlying62 rfl kr (kv (.pointer (some ⟨b71, of72 + (x38 : Int).toNat * 2, none⟩))) (cs := [.int .i64 ((rd s25 x38).ID), .int .i64 ((rd s25 x38).Grade)]) rfl (fun j_ hj_ => ((hc70 hl_ hS_) j_ hj_))) ?_
     refine takeGQ 8 [] rfl kr kr kr kr kr kr (fun ch_ a_ w_ q_ => (fun ch_ a_ w_ q_ => hnp ch_ a_ w_ (hp28 ch_ a_ w_ q_)) ch_ a_ w_ (hp52 ch_ a_ w_ q_)) (Sg.g0 (Sx.of [] fL HS59)) (fun w_ hw_ => by obtain ⟨g_, hl_, hS_⟩ := hw_.st; exact run_neS (b := ((((rd s11 x38).ID) == ((rd s25 x38).ID)) && ((((rd s11 x38).Grade) == ((rd s25 x38).Grade)) && true))) rfl (kv (.agg #[.int .i64 ((rd s11 x38).ID), .int .i64 ((rd s11 x38).Grade)])) (kv (.agg #[.int .i64 ((rd s25 x38).ID), .int .i64 ((rd s25 x38).Grade)])) kr kr w_) ?_
     refine doneG kr ?_ _
     refine hK57 _ _ ?_
     have hq_ := ite_some h; clear h; rcases hq_ with ⟨c75, h⟩ | ⟨c75, h⟩
     · have c75 : (!((((rd s11 x38).ID) == ((rd s25 x38).ID)) && ((((rd s11 x38).Grade) == ((rd s25 x38).Grade)) && true))) = true := c75
       refine wpRwI 24 kr c75 ?_
       refine condT kr ?_
       refine wp_seq_k fun K76 hK77 => rl ?_
       refine seqL1 kr ?_
       refine nl (hK77 _ _ ?_)
       refine wp_ret ?_
       refine hr50 _ _ ?_
       refine hr26 _ _ ?_
       refine hret _ _ ?_
       refine ends_still (v := Value.bool false) kr kr ?_
       replace h := JR85 _ h
       injection h with h
       subst h
       exact ⟨f33, rfl, L34, HS59⟩
     · have c75 : ¬ ((!((((rd s11 x38).ID) == ((rd s25 x38).ID)) && ((((rd s11 x38).Grade) == ((rd s25 x38).Grade)) && true))) = true) := c75
       refine wpRwI 24 kr (Bool.eq_false_iff.mpr c75) ?_
       refine condF kr ?_
       refine wp_skip ?_
       refine hn49 _ _ ?_
       refine hK46 _ _ ?_
       refine rl ?_
       refine seqL2 kr ?_
       refine nl ?_
       refine hK31 n32 _ _ (Nat.lt_succ_self _) ?_
       exact ⟨f33, (w64 (x38 + 1)), (jL [(j37 0), iV x38, tV, iV x38, .slice A2 s11.length c3, iV x38, .pointer (some ⟨b64, of65 + (x38 : Int).toNat * 2, none⟩), .agg #[.int .i64 ((rd s11 x38).ID), .int .i64 ((rd s11 x38).Grade)], .slice A6 s25.length c7, iV x38, .pointer (some ⟨b71, of72 + (x38 : Int).toNat * 2, none⟩), .agg #[.int .i64 ((rd s25 x38).ID), .int .i64 ((rd s25 x38).Grade)], fV, iV (w64 (x38 + 1))]), L34, HS59, h, kr⟩
   · have c44 : ¬ (x38 < (s11.length : Int)) := c44
     refine wpRwI 14 kr (decide_eq_false c44) ?_
     refine condF kr ?_
     refine wp_exit ?_
     refine hx24 _ _ ?_
     exact J84 f33 (jL [(j37 0), (j37 1), iV x38, fV, (j37 3), (j37 4), (j37 5), (j37 6), (j37 7), (j37 8), (j37 9), (j37 10), (j37 11), (j37 12), (j37 13)]) W35 _ L34 h HS36 kr

set_option maxRecDepth 100000 in
set_option maxHeartbeats 4000000 in
theorem spykeep3_QueryRunsScan.calls (k : Nat) (A2 : Option Addr) (c3 : Nat) (l1 : List Int) (deep5 : Int) {t w : World} {f : FM} {H : List Seg} (HS : St t w f (H)) (HR4 : SlR (tInt .i64) f A2 c3 l1) (rr1 : Bool) (h : spykeep3_QueryRunsScan k l1 deep5 = some rr1) :
    Calls Tryz.prog 6 #[.slice A2 l1.length c3, .int .i64 deep5] w (fun e w' => ∃ (g : FM), e = .returned (Value.bool rr1) ∧ FM.le f g ∧ St t w' g (H)) := by
 unfold spykeep3_QueryRunsScan at h
 refine enter Tryz.func6 rfl (tm := #[.slice A2 l1.length c3, iV deep5, uV, uV, uV, uV, uV, uV, uV, uV, uV, uV, uV, uV, uV, uV, uV, uV, uV, uV, uV, uV, uV, uV, uV, uV, uV, uV, uV, uV, uV, uV, uV, uV, uV, uV, uV, uV, uV, uV, uV, uV, uV, uV, uV, uV, uV, uV, uV, uV, uV, uV, uV, uV, uV, uV, uV, uV, uV, uV, uV, uV, uV, uV, uV, uV, uV, uV, uV, uV, uV, uV, uV, uV]) kr ?_
 intro B hret hnor hnp
 refine wp_seq_k fun K6 hK7 => rl ?_
 refine seqL1 kr ?_
 refine nl (hK7 _ _ ?_)
 refine wp_seq_k fun K8 hK9 => rl ?_
 refine seqL2 kr ?_
 refine seqK rfl (does_box (cs := #[.slice A2 l1.length c3, .int .i64 0]) rfl (kv (.agg #[.slice A2 l1.length c3, .int .i64 0])) rfl HS ?_)
 intro b10 W11 HS12
 refine seqL1 kr ?_
 refine nl (hK9 _ _ ?_)
 refine wp_seq_k fun K14 hK15 => rl ?_
 have hq_ := bind_some h; clear h; obtain ⟨⟨vt16, vt17⟩, hc18, h⟩ := hq_
 refine seqL1 kr ?_
 refine seqK rfl (does_call (f := 17) (args := #[.pointer (some ⟨b10, 0, none⟩), .int .i64 12]) kr (spymake_Stream_Rows.calls k b10 A2 c3 (⟨l1, 0⟩ : S_Stream) 12 HS12 HR4 vt16 vt17 hc18) ?_)
 rintro _ W21 ⟨f19, A23, c24, s25, rfl, L20, HS22, HO26⟩
 refine ⟨_, rfl, ?_⟩
 refine seqL1 kr ?_
 refine nl (hK15 _ _ ?_)
 refine wp_seq_k fun K28 hK29 => rl ?_
 obtain ⟨f30, L31, HS32, HR33, th34⟩ := HO26.lend HS22
 have hq_ := bind_some h; clear h; obtain ⟨⟨vt35, vt36⟩, hc37, h⟩ := hq_
 refine seqL2 kr ?_
 refine seqK rfl (does_call (f := 18) (args := #[.pointer (some ⟨b10, 0, none⟩), .slice A23 vt16.length c24]) kr (spykeep3_Ask.calls k b10 A2 c3 A23 c24 (⟨l1, vt17⟩ : S_Stream) vt16 HS32 (HR4.mono (L20.trans L31)) HR33 vt35 vt36 hc37) ?_)
 rintro _ W40 ⟨f38, A42, c43, s44, rfl, L39, HS41, HO45⟩
 refine ⟨_, rfl, ?_⟩
 obtain ⟨f47, L48, HS49⟩ := th34 L39 HS41
 replace HO45 := HO45.flat (g := f47) (fun _ _ _ _ h_ => h_)
 refine seqK rfl (does_alloc (z := Value.agg #[.slice none 0 0, .int .i64 0, .int .i64 0, .int .i64 0, .int .i64 0]) (cs := #[.slice none 0 0, .int .i64 0, .int .i64 0, .int .i64 0, .int .i64 0]) rfl kr rfl HS49 ?_)
 intro b50 W51 HS52
 refine seqK rfl (does_storeA (vs := [.slice A42 vt35.Cones.length c43, .int .i64 vt35.From, .int .i64 vt35.To, .int .i64 vt35.Least, .int .i64 vt35.Ban]) rfl kr kr kr rfl (ones rfl) HS52 kr ?_)
 intro W54 HS55
 refine nl (hK29 _ _ ?_)
 refine wp_seq_k fun K56 hK57 => rl ?_
 have hq_ := bind_some h; clear h; obtain ⟨vt58, hc59, h⟩ := hq_
 refine seqL2 kr ?_
 refine seqK rfl (does_call (f := 9) (args := #[.int .i64 deep5, .int .i64 13]) kr (spymake_Below.calls k deep5 13 HS55 vt58 hc59) ?_)
 rintro _ W62 ⟨f60, rfl, L61, HS63⟩
 refine ⟨_, rfl, ?_⟩
 have HS64 := HS63.u1
 obtain ⟨f65, L66, HS67, HR68⟩ := (HO26.mono (L48.trans L61)).freeze HS64
 have hq_ := bind_some h; clear h; obtain ⟨⟨vt69, vt70⟩, hc71, h⟩ := hq_
 refine seqK rfl (does_call (f := 24) (args := #[.slice A23 vt16.length c24, .int .i64 vt58]) kr (query_New.calls k A23 c24 vt16 vt58 HS67 HR68 vt69 vt70 hc71) ?_)
 rintro _ W74 ⟨f72, A76, c77, A79, c80, A82, c83, b85, rfl, L73, HS75, HR78, HR81, HR84⟩
 refine ⟨_, rfl, ?_⟩
 refine seqL5 kr ?_
 refine nl (hK57 _ _ ?_)
 refine wp_seq_k (fun K87 hK88 => ?_)
 refine wp_seq_k fun K89 hK90 => rl ?_
 have hq_ := bind_some h; clear h; obtain ⟨vt91, hc92, h⟩ := hq_
 refine seqK rfl (does_call (f := 12) (args := #[]) kr (spykeep3_asked.calls k  HS75 vt91 hc92) ?_)
 rintro _ W95 ⟨f93, rfl, L94, HS96⟩
 refine ⟨_, rfl, ?_⟩
 refine seqL2 kr ?_
 have hq_ := ite_some h; clear h; rcases hq_ with ⟨c97, h⟩ | ⟨c97, h⟩
 · have c97 : ¬ (vt91 = true) := c97
   refine seqRwI 31 kr (congrArg (fun b_ => !b_) (show vt91 = false from (Bool.eq_false_iff.mpr c97)) : (!vt91) = true) ?_
   refine seqRwI 32 kr (congrArg (fun b_ => !b_) (show vt91 = false from (Bool.eq_false_iff.mpr c97)) : (!vt91) = true) ?_
   refine seqL7 kr ?_
   refine nl (hK90 _ _ ?_)
   refine condT kr ?_
   refine wp_seq_k fun K98 hK99 => rl ?_
   refine seqL1 kr ?_
   refine nl (hK99 _ _ ?_)
   refine wp_ret ?_
   refine hret _ _ ?_
   refine ends_still (v := Value.bool false) kr kr ?_
   have HS184 := HS96.drop
   have HS185 := HS184.drop
   have HS186 := HS185.drop
   have HS187 := HS186.drop
   injection h with h
   subst h
   exact ⟨f93, rfl, (L20.trans (L48.trans (L61.trans (L66.trans (L73.trans L94))))), HS187⟩
 · have c97 : ¬ (¬ (vt91 = true)) := c97
   refine seqRwI 31 (x := (!vt91)) (v := false) kr (congrArg (fun b_ => !b_) (show vt91 = true from (Decidable.of_not_not c97)) : (!vt91) = false) ?_
   refine seqRwI 32 (x := (!vt91)) (v := false) kr (congrArg (fun b_ => !b_) (show vt91 = true from (Decidable.of_not_not c97)) : (!vt91) = false) ?_
   refine seqL4 kr ?_
   have hq_ := ite_some h; clear h; rcases hq_ with ⟨c100, h⟩ | ⟨c100, h⟩
   · have c100 : vt70 ≠ 0 := c100
     refine seqRwI 34 kr (bne_iff_ne.mpr c100) ?_
     refine seqRwI 35 kr (bne_iff_ne.mpr c100) ?_
     refine seqRwI 36 kr (bne_iff_ne.mpr c100) ?_
     refine seqL3 kr ?_
     refine nl (hK90 _ _ ?_)
     refine condT kr ?_
     refine wp_seq_k fun K101 hK102 => rl ?_
     refine seqL1 kr ?_
     refine nl (hK102 _ _ ?_)
     refine wp_ret ?_
     refine hret _ _ ?_
     refine ends_still (v := Value.bool false) kr kr ?_
     have HS188 := HS96.drop
     have HS189 := HS188.drop
     have HS190 := HS189.drop
     have HS191 := HS190.drop
     injection h with h
     subst h
     exact ⟨f93, rfl, (L20.trans (L48.trans (L61.trans (L66.trans (L73.trans L94))))), HS191⟩
   · have c100 : ¬ (vt70 ≠ 0) := c100
     refine seqRwI 34 (x := (vt70 != 0)) (v := false) kr (bne_eq_false_iff_eq.mpr (Decidable.of_not_not c100)) ?_
     refine seqRwI 35 (x := (vt70 != 0)) (v := false) kr (bne_eq_false_iff_eq.mpr (Decidable.of_not_not c100)) ?_
     refine seqRwI 36 (x := (vt70 != 0)) (v := false) kr (bne_eq_false_iff_eq.mpr (Decidable.of_not_not c100)) ?_
     refine seqL3 kr ?_
     refine nl (hK90 _ _ ?_)
     refine condF kr ?_
     refine wp_skip ?_
     refine hK88 _ _ ?_
     refine wp_seq_k fun K103 hK104 => rl ?_
     refine seqL1 kr ?_
     refine seqK rfl (does_run (run_loadN (n := 5) rfl Tryz.underlying51 rfl kr (kv (.pointer (some ⟨b50, 0, none⟩))) (cs := [.slice A42 vt35.Cones.length c43, .int .i64 vt35.From, .int .i64 vt35.To, .int .i64 vt35.Least, .int .i64 vt35.Ban]) rfl (HS96.u1.cells 0 5 _ rfl)) ?_)
     have HS105 := HS96.u2
     obtain ⟨f106, L107, HS108, HR109, th110⟩ := (HO45.mono (L61.trans (L66.trans (L73.trans L94)))).lend HS105
     have hq_ := bind_some h; clear h; obtain ⟨⟨vt111, vt112, vt113⟩, hc114, h⟩ := hq_
     refine seqK rfl (does_call (f := 25) (args := #[.pointer (some ⟨b85, 0, none⟩), .agg #[.slice A42 vt35.Cones.length c43, .int .i64 vt35.From, .int .i64 vt35.To, .int .i64 vt35.Least, .int .i64 vt35.Ban]]) kr (query_Index_Run.calls k b85 A76 c77 A79 c80 A82 c83 A42 c43 vt69 vt35 HS108 (HR78.mono (L94.trans L107)) (HR81.mono (L94.trans L107)) (HR84.mono (L94.trans L107)) HR109 vt111 vt112 vt113 hc114) ?_)
     rintro _ W117 ⟨f115, A119, c120, s121, rfl, L116, HS118, HO122⟩
     refine ⟨_, rfl, ?_⟩
     obtain ⟨f124, L125, HS126⟩ := th110 L116 HS118
     replace HO122 := HO122.flat (g := f124) (fun _ _ _ _ h_ => h_)
     refine seqL7 kr ?_
     refine nl (hK104 _ _ ?_)
     refine wp_seq_k fun K127 hK128 => rl ?_
     refine seqL1 kr ?_
     refine seqK rfl (does_run (run_loadN (n := 5) rfl Tryz.underlying51 rfl kr (kv (.pointer (some ⟨b50, 0, none⟩))) (cs := [.slice A42 vt35.Cones.length c43, .int .i64 vt35.From, .int .i64 vt35.To, .int .i64 vt35.Least, .int .i64 vt35.Ban]) rfl (HS126.u3.cells 0 5 _ rfl)) ?_)
     obtain ⟨f129, L130, HS131, HR132, th133⟩ := (HO45.mono (L61.trans (L66.trans (L73.trans (L94.trans L125))))).lend HS126
     have hq_ := bind_some h; clear h; obtain ⟨⟨vt134, vt135⟩, hc136, h⟩ := hq_
     refine seqK rfl (does_call (f := 21) (args := #[.slice A23 vt16.length c24, .agg #[.slice A42 vt35.Cones.length c43, .int .i64 vt35.From, .int .i64 vt35.To, .int .i64 vt35.Least, .int .i64 vt35.Ban]]) kr (query_Scan.calls k A23 c24 A42 c43 vt16 vt35 HS131 (HR68.mono (L73.trans (L94.trans (L125.trans L130)))) HR132 vt134 vt135 hc136) ?_)
     rintro _ W139 ⟨f137, A141, c142, s143, rfl, L138, HS140, HO144⟩
     refine ⟨_, rfl, ?_⟩
     obtain ⟨f146, L147, HS148⟩ := th133 L138 HS140
     replace HO144 := HO144.flat (g := f146) (fun _ _ _ _ h_ => h_)
     refine seqL5 kr ?_
     refine nl (hK128 _ _ ?_)
     refine wp_seq_k fun K149 hK150 => rl ?_
     refine seqL3 kr ?_
     have hq_ := ite_some h; clear h; rcases hq_ with ⟨c151, h⟩ | ⟨c151, h⟩
     · have c151 : vt113 = 0 := c151
       refine seqRwI 54 kr (beq_iff_eq.mpr c151) ?_
       refine seqRwI 55 kr (beq_iff_eq.mpr c151) ?_
       refine seqL4 kr ?_
       have hq_ := ite_some h; clear h; rcases hq_ with ⟨c152, h⟩ | ⟨c152, h⟩
       · have c152 : vt135 = 0 := c152
         refine seqRwI 57 kr (beq_iff_eq.mpr c152) ?_
         refine seqRwI 58 kr (beq_iff_eq.mpr c152) ?_
         refine seqRwI 59 kr (beq_iff_eq.mpr c152) ?_
         have HS153 := HS148.u2
         obtain ⟨f154, L155, HS156, HR157, th158⟩ := (HO122.mono L147).lend HS153
         have HS159 := HS156.u1
         obtain ⟨f160, L161, HS162, HR163, th164⟩ := (HO144.mono L155).lend HS159
         have hq_ := bind_some h; clear h; obtain ⟨vt165, hc166, h⟩ := hq_
         refine seqL2 kr ?_
         refine seqG kr (does_call (f := 26) (args := #[.slice A119 vt111.length c120, .slice A141 vt134.length c142]) kr (slices_Equal_Answer.calls k A119 c120 A141 c142 vt111 vt134 HS162 (HR157.mono L161) HR163 vt165 hc166) ?_)
         rintro _ W169 ⟨f167, rfl, L168, HS170⟩
         refine ⟨_, rfl, ?_⟩
         obtain ⟨f171, L172, HS173⟩ := th164 L168 HS170
         obtain ⟨f174, L175, HS176⟩ := th158 L172 HS173
         refine seqL2 kr ?_
         have hq_ := ite_some h; clear h; rcases hq_ with ⟨c177, h⟩ | ⟨c177, h⟩
         · have c177 : vt165 = true := c177
           refine seqRwI 62 kr c177 ?_
           refine seqRwI 63 kr c177 ?_
           refine seqRwI 64 kr c177 ?_
           have hq_ := bind_some h; clear h; obtain ⟨vt178, hc179, h⟩ := hq_
           refine seqL2 kr ?_
           refine seqG kr (does_call (f := 9) (args := #[.int .i64 deep5, .int .i64 13]) kr (spymake_Below.calls k deep5 13 HS176 vt178 hc179) ?_)
           rintro _ W182 ⟨f180, rfl, L181, HS183⟩
           refine ⟨_, rfl, ?_⟩
           refine seqL7 kr ?_
           refine nl (hK150 _ _ ?_)
           refine wp_ret ?_
           refine hret _ _ ?_
           refine ends_still (v := Value.bool (decide (vt112 ≤ (w64 ((w64 (vt178 + 2)) * (vt16.length : Int)))))) kr kr ?_
           have HS192 := HS183.drop
           have HS193 := HS192.drop
           have HS194 := HS193.drop
           have HS195 := HS194.drop
           have HS196 := HS195.drop
           have HS197 := HS196.drop
           injection h with h
           subst h
           exact ⟨f180, rfl, (L20.trans (L48.trans (L61.trans (L66.trans (L73.trans (L94.trans (L125.trans (L147.trans (L175.trans L181))))))))), HS197⟩
         · have c177 : ¬ (vt165 = true) := c177
           refine seqRwI 62 kr (Bool.eq_false_iff.mpr c177) ?_
           refine seqRwI 63 kr (Bool.eq_false_iff.mpr c177) ?_
           refine seqRwI 64 kr (Bool.eq_false_iff.mpr c177) ?_
           refine seqL10 kr ?_
           refine nl (hK150 _ _ ?_)
           refine wp_ret ?_
           refine hret _ _ ?_
           refine ends_still (v := Value.bool false) kr kr ?_
           have HS198 := HS176.drop
           have HS199 := HS198.drop
           have HS200 := HS199.drop
           have HS201 := HS200.drop
           have HS202 := HS201.drop
           have HS203 := HS202.drop
           injection h with h
           subst h
           exact ⟨f174, rfl, (L20.trans (L48.trans (L61.trans (L66.trans (L73.trans (L94.trans (L125.trans (L147.trans L175)))))))), HS203⟩
       · have c152 : ¬ (vt135 = 0) := c152
         refine seqRwI 57 kr (beq_eq_false_iff_ne.mpr c152) ?_
         refine seqRwI 58 kr (beq_eq_false_iff_ne.mpr c152) ?_
         refine seqRwI 59 kr (beq_eq_false_iff_ne.mpr c152) ?_
         refine seqL15 kr ?_
         refine nl (hK150 _ _ ?_)
         refine wp_ret ?_
         refine hret _ _ ?_
         refine ends_still (v := Value.bool false) kr kr ?_
         have HS204 := HS148.drop
         have HS205 := HS204.drop
         have HS206 := HS205.drop
         have HS207 := HS206.drop
         have HS208 := HS207.drop
         have HS209 := HS208.drop
         injection h with h
         subst h
         exact ⟨f146, rfl, (L20.trans (L48.trans (L61.trans (L66.trans (L73.trans (L94.trans (L125.trans L147))))))), HS209⟩
     · have c151 : ¬ (vt113 = 0) := c151
       refine seqRwI 54 kr (beq_eq_false_iff_ne.mpr c151) ?_
       refine seqRwI 55 kr (beq_eq_false_iff_ne.mpr c151) ?_
       refine seqL19 kr ?_
       refine nl (hK150 _ _ ?_)
       refine wp_ret ?_
       refine hret _ _ ?_
       refine ends_still (v := Value.bool false) kr kr ?_
       have HS210 := HS148.drop
       have HS211 := HS210.drop
       have HS212 := HS211.drop
       have HS213 := HS212.drop
       have HS214 := HS213.drop
       have HS215 := HS214.drop
       injection h with h
       subst h
       exact ⟨f146, rfl, (L20.trans (L48.trans (L61.trans (L66.trans (L73.trans (L94.trans (L125.trans L147))))))), HS215⟩

end Go.Sp.R6
