import Derived.Test.YtiibkbligihgoaaGreatProg
import Derived.Test.YtiibkbligihgoaaGreatSpCopy
import Derived.Test.YtiibkbligihgoaaGreatFQ5
import Derived.Test.YtiibkbligihgoaaGreatShelf
import Derived.Test.YtiibkbligihgoaaGreatSpMapR
import Derived.Test.YtiibkbligihgoaaGreatSpKeys
import Derived.Test.YtiibkbligihgoaaGreatSpRound
import Derived.Test.YtiibkbligihgoaaGreatKQ5n0
import Derived.Test.YtiibkbligihgoaaGreatKQ5n1
import Derived.Test.YtiibkbligihgoaaGreatKQ5n2
import Derived.Test.YtiibkbligihgoaaGreatKQ5n3
import Derived.Test.YtiibkbligihgoaaGreatKQ5n4
import Derived.Test.YtiibkbligihgoaaGreatKQ5n5
namespace Go.Sp.Q5
open Go Go.Sp Go.Proofs
set_option linter.unusedVariables false
attribute [local irreducible] wpList AnyL Code.wp Calls Does Code.wpIn wpListIn CallsIn bodyPostM LeavesInM
set_option maxRecDepth 100000 in
set_option maxHeartbeats 4000000 in
theorem query_Index_Run.calls (k : Nat) (b1 : Nat) (A4 : Option Addr) (c5 : Nat) (A7 : Option Addr) (c8 : Nat) (A10 : Option Addr) (c11 : Nat) (A14 : Option Addr) (c15 : Nat) (x3 : S_Index) (q13 : S_Ask) {t w : World} {f : FM} {H : List Seg} (HS : St t w f ([(b1, .cells #[.slice A4 x3.rows.length c5, .int .i64 x3.level, .slice A7 x3.roots.length c8, .slice A10 x3.loose.length c11] 109 (0, 0))] :: H)) (HR6 : SlR ty_Row f A4 c5 x3.rows) (HR9 : SlR tNone f A7 c8 x3.roots) (HR12 : SlR (tInt .i64) f A10 c11 x3.loose) (HR16 : SlR ty_Cone f A14 c15 q13.Cones) (rr1 : List S_Answer) (rr2 : Int) (rr3 : Int) (h : query_Index_Run k x3 q13 = some (rr1, rr2, rr3)) :
    Calls Tryz.prog 25 #[.pointer (some ⟨b1, 0, none⟩), .agg #[.slice A14 q13.Cones.length c15, .int .i64 q13.From, .int .i64 q13.To, .int .i64 q13.Least, .int .i64 q13.Ban]] w (fun e w' => ∃ (g : FM) (A381 : Option Addr) (c382 : Nat) (s383 : Seg), e = .returned (Value.tuple #[.slice A381 rr1.length c382, .int .i64 rr2, .int .i64 rr3]) ∧ FM.le f g ∧ St t w' g (s383 :: [(b1, .cells #[.slice A4 x3.rows.length c5, .int .i64 x3.level, .slice A7 x3.roots.length c8, .slice A10 x3.loose.length c11] 109 (0, 0))] :: H) ∧ Own ty_Answer 62 g A381 c382 s383 rr1) := by
 unfold query_Index_Run at h
 refine enter Tryz.func25 rfl (tm := #[pV b1 0, (ag_Ask q13 A14 c15), uV, uV, uV, uV, uV, uV, uV, uV, uV, uV, uV, uV, uV, uV, uV, uV, uV, uV, uV, uV, uV, uV, uV, uV, uV, uV, uV, uV, uV, uV, uV, uV, uV, uV, uV, uV, uV, uV, uV, uV, uV, uV, uV, uV, uV, uV, uV]) kr ?_
 intro B hret hnor hnp
 refine wp_seq_k fun K17 hK18 => rl ?_
 refine seqK rfl (does_box (cs := #[.pointer (some ⟨b1, 0, none⟩)]) rfl (kv (.pointer (some ⟨b1, 0, none⟩))) rfl HS ?_)
 intro b19 W20 HS21
 refine seqK rfl (does_box (cs := #[.slice A14 q13.Cones.length c15, .int .i64 q13.From, .int .i64 q13.To, .int .i64 q13.Least, .int .i64 q13.Ban]) rfl (kv (.agg #[.slice A14 q13.Cones.length c15, .int .i64 q13.From, .int .i64 q13.To, .int .i64 q13.Least, .int .i64 q13.Ban])) rfl HS21 ?_)
 intro b23 W24 HS25
 refine seqL3 kr ?_
 refine nl (hK18 _ _ ?_)
 refine wp_seq_k (fun K27 hK28 => ?_)
 refine wp_seq_k fun K29 hK30 => rl ?_
 refine seqK rfl (does_run (run_loadN (n := 5) rfl Tryz.underlying51 rfl kr (kv (.pointer (some ⟨b23, 0, none⟩))) (cs := [.slice A14 q13.Cones.length c15, .int .i64 q13.From, .int .i64 q13.To, .int .i64 q13.Least, .int .i64 q13.Ban]) rfl (HS25.cells 0 5 _ rfl)) ?_)
 have hq_ := bind_some h; clear h; obtain ⟨vt31, hc32, h⟩ := hq_
 refine seqK rfl (does_call (f := 43) (args := #[.agg #[.slice A14 q13.Cones.length c15, .int .i64 q13.From, .int .i64 q13.To, .int .i64 q13.Least, .int .i64 q13.Ban]]) kr (query_CheckAsk.calls k A14 c15 q13 HS25 HR16 vt31 hc32) ?_)
 rintro _ W35 ⟨f33, rfl, L34, HS36⟩
 refine ⟨_, rfl, ?_⟩
 refine seqL1 kr ?_
 refine nl (hK30 _ _ ?_)
 refine wp_seq_k fun K37 hK38 => rl ?_
 refine seqL2 kr ?_
 refine nl (hK38 _ _ ?_)
 have hq_ := ite_some h; clear h; rcases hq_ with ⟨c40, h⟩ | ⟨c40, h⟩
 · have c40 : vt31 ≠ 0 := c40
   refine wpRwI 16 kr (bne_iff_ne.mpr c40) ?_
   refine condT kr ?_
   refine wp_seq_k fun K41 hK42 => rl ?_
   refine seqL4 kr ?_
   refine nl (hK42 _ _ ?_)
   refine wp_ret ?_
   refine hret _ _ ?_
   have HS365 := HS36.cons_nil
   refine ends_still (v := Value.tuple #[.slice none 0 0, .int .i64 0, .int .i64 vt31]) kr kr ?_
   have HS370 := HS365.u3.u1.u3.u3
   have HS371 := HS370.drop
   have HS372 := HS371.drop
   injection h with h
   injection h with h0_ h
   injection h with h1_ h
   subst h0_ h1_ h
   exact ⟨f33, none, 0, [], rfl, L34, HS372, (Own.nil _)⟩
 · have c40 : ¬ (vt31 ≠ 0) := c40
   refine wpRwI 16 (x := (vt31 != 0)) (v := false) kr (bne_eq_false_iff_eq.mpr (Decidable.of_not_not c40)) ?_
   refine condF kr ?_
   refine wp_skip ?_
   refine hK28 _ _ ?_
   refine wp_seq_k fun K43 hK44 => rl ?_
   refine seqK rfl (does_alloc (z := Value.slice none 0 0) (cs := #[.slice none 0 0]) rfl kr rfl HS36 ?_)
   intro b45 W46 HS47
   refine nl (hK44 _ _ ?_)
   refine wp_seq_k fun K49 hK50 => rl ?_
   refine seqL2 kr ?_
   refine nl (hK50 _ _ ?_)
   refine wp_seq_k (fun K51 hK52 => ?_)
   refine wp_seq_k fun K53 hK54 => rl ?_
   refine seqK rfl (does_run (run_load rfl Tryz.underlying66 rfl (kv (.pointer (some ⟨b19, 0, none⟩))) (HS47.u2.cell 0)) ?_)
   refine seqL2 kr ?_
   refine seqK rfl (does_run (run_load rfl Tryz.underlying22 rfl (kv (.pointer (some ⟨b1, 3, none⟩))) (HS47.u3.cell 3)) ?_)
   refine seqL2 kr ?_
   refine nl (hK54 _ _ ?_)
   refine blockK (fun B55 hx56 hn57 hr58 ho59 hp60 => ?_)
   have hq_ := bind_some h; clear h; obtain ⟨o114, hv180, h⟩ := hq_
   have J181 : ∀ (f169 : FM) (A175 : Option Addr) (c176 : Nat) (s177 : Seg) (x174 : List S_Answer) (j173 : Nat → Value) (W171 : World) (a_ : Act), FM.le f33 f169 → some (x174) = some o114 → St t W171 f169 (s177 :: [(b45, .cells #[.slice A175 x174.length c176] 57 (0, 0))] :: [(b23, .cells #[.slice A14 q13.Cones.length c15, .int .i64 q13.From, .int .i64 q13.To, .int .i64 q13.Least, .int .i64 q13.Ban] 51 (0, 0))] :: [(b19, .cells #[.pointer (some ⟨b1, 0, none⟩)] 66 (0, 0))] :: [(b1, .cells #[.slice A4 x3.rows.length c5, .int .i64 x3.level, .slice A7 x3.roots.length c8, .slice A10 x3.loose.length c11] 109 (0, 0))] :: H) → Own ty_Answer 62 f169 A175 c176 s177 x174 → a_ = ⟨#[pV b1 0, (ag_Ask q13 A14 c15), pV b19 0, pV b23 0, .slice none 0 0, iV 0, iV 0, iV vt31, pV b45 0, .func (.func 51) #[] #[pV b19 0, pV b23 0, pV b45 0], uV, (j173 0), uV, (ag_Ask q13 A14 c15), iV vt31, iV vt31, fV, uV, .func (.func 51) #[] #[pV b19 0, pV b23 0, pV b45 0], pV b1 0, pV b1 0, pV b1 3, .slice A10 x3.loose.length c11, iV (x3.loose.length : Int), (j173 1), (j173 2), (j173 3), (j173 4), (j173 5), (j173 6), (j173 7), (j173 8), uV, uV, uV, uV, uV, uV, uV, uV, uV, uV, uV, uV, uV, uV, uV, uV, uV], []⟩ → K51 a_ W171 := by
    intro f169 A175 c176 s177 x174 j173 W171 a_ L170 hj182 HS172 HO178 hfr_; subst hfr_
    injection hj182 with hj182; subst hj182; try dsimp only at h
    refine hK52 _ _ ?_
    refine wp_seq_k (fun K190 hK191 => ?_)
    have HS196 := HS172.u4.u4.u4.u4.u4
    refine heldG (S := Sg t f169 (H) [(11, s177), (11, [(b45, .cells #[.slice A175 x174.length c176] 57 (0, 0))]), (11, [(b23, .cells #[.slice A14 q13.Cones.length c15, .int .i64 q13.From, .int .i64 q13.To, .int .i64 q13.Least, .int .i64 q13.Ban] 51 (0, 0))])]) (n := 14) kr rfl HS196 ?_
    intro W197 HS198
    have hq_ := bind_some h; clear h; obtain ⟨⟨vt203, vt204⟩, hc205, h⟩ := hq_
    refine takeGL [9, 10] (n := 14) (fuel := 12) #[false, false, false, false, false, false, false, false, false, true, true, false, false, false] rfl kr kr kr hnp (Sg.g3 (Sx.of [s177, [(b45, .cells #[.slice A175 x174.length c176] 57 (0, 0))], [(b23, .cells #[.slice A14 q13.Cones.length c15, .int .i64 q13.From, .int .i64 q13.To, .int .i64 q13.Least, .int .i64 q13.Ban] 51 (0, 0))], [(b19, .cells #[.pointer (some ⟨b1, 0, none⟩)] 66 (0, 0))], [(b1, .cells #[.slice A4 x3.rows.length c5, .int .i64 x3.level, .slice A7 x3.roots.length c8, .slice A10 x3.loose.length c11] 109 (0, 0))]] fL HS198) (fun _ => St.only [] HS198 fL) (fun _ => St.only [s177] HS198 fL) (fun _ => St.only [s177, [(b45, .cells #[.slice A175 x174.length c176] 57 (0, 0))]] HS198 fL)) ?_
    refine withR #[true, true, true, true, true, true, true, true, true, true, true, true, true, true] ?_
    intro R215 hR216 hR217
    have J218 : ∀ (f206 : FM) (A210 : Option Addr) (c211 : Nat) (s212 : Seg) (W219 : World) (a_ : Act), FM.le f169 f206 → Own ty_Answer 62 f206 A210 c211 s212 vt204 → St t W219 f206 (s212 :: [(b23, .cells #[.slice A14 q13.Cones.length c15, .int .i64 q13.From, .int .i64 q13.To, .int .i64 q13.Least, .int .i64 q13.Ban] 51 (0, 0))] :: [(b19, .cells #[.pointer (some ⟨b1, 0, none⟩)] 66 (0, 0))] :: [(b1, .cells #[.slice A4 x3.rows.length c5, .int .i64 x3.level, .slice A7 x3.roots.length c8, .slice A10 x3.loose.length c11] 109 (0, 0))] :: [(b45, .cells #[.slice A210 vt204.length c211] 57 (0, 0))] :: H) → a_ = ⟨#[pV b1 0, (ag_Ask q13 A14 c15), pV b19 0, pV b23 0, .slice none 0 0, iV 0, iV 0, iV vt31, pV b45 0, .func (.func 51) #[] #[pV b19 0, pV b23 0, pV b45 0], uV, (j173 0), iV (w64 ((x3.loose.length : Int) + vt203)), (ag_Ask q13 A14 c15), iV vt31, iV vt31, fV, uV, .func (.func 51) #[] #[pV b19 0, pV b23 0, pV b45 0], pV b1 0, pV b1 0, pV b1 3, .slice A10 x3.loose.length c11, iV (x3.loose.length : Int), (j173 1), (j173 2), (j173 3), (j173 4), (j173 5), (j173 6), (j173 7), (j173 8), pV b1 0, pV b1 0, pV b1 3, .slice A10 x3.loose.length c11, iV (x3.loose.length : Int), pV b1 0, pV b1 0, pV b1 2, .slice A7 x3.roots.length c8, .func (.func 53) #[] #[pV b23 0], .func (.func 51) #[] #[pV b19 0, pV b23 0, pV b45 0], iV vt203, iV (w64 ((x3.loose.length : Int) + vt203)), uV, uV, uV, uV], []⟩ → R215 a_ W219 := by
     intro f206 A210 c211 s212 W219 a_ L207 HO213 HS220 hfr_; subst hfr_
     refine hR216 _ _ ?_
     refine doneG kr ?_ _
     refine hK191 _ _ ?_
     refine wp_seq_k fun K351 hK352 => rl ?_
     refine seqK rfl (does_run (run_load rfl Tryz.underlying57 rfl (kv (.pointer (some ⟨b45, 0, none⟩))) (HS220.u4.cell 0)) ?_)
     have hq_ := bind_some h; clear h; obtain ⟨vt353, hc354, h⟩ := hq_
     refine seqK rfl (does_call (f := 56) (args := #[.slice A210 vt204.length c211, .func (.func 57) #[] #[]]) kr (slices_SortFunc_Answer__query_Index_Run_3.calls k A210 c211 s212 vt204 HS220 HO213 vt353 hc354) ?_)
     rintro _ W357 ⟨f355, s359, rfl, L356, HS358, HO360, HL361⟩
     refine ⟨_, rfl, ?_⟩
     have HS362 : St t W357 f355 (s359 :: [(b23, .cells #[.slice A14 q13.Cones.length c15, .int .i64 q13.From, .int .i64 q13.To, .int .i64 q13.Least, .int .i64 q13.Ban] 51 (0, 0))] :: [(b19, .cells #[.pointer (some ⟨b1, 0, none⟩)] 66 (0, 0))] :: [(b1, .cells #[.slice A4 x3.rows.length c5, .int .i64 x3.level, .slice A7 x3.roots.length c8, .slice A10 x3.loose.length c11] 109 (0, 0))] :: [(b45, .cells #[.slice A210 vt353.length c211] 57 (0, 0))] :: H) := by rw [show vt353.length = vt204.length from HL361]; exact HS358
     refine seqRwS 45 (A := A210) (m := vt204.length) (n := vt353.length) (c := c211) kr (HL361).symm ?_
     refine nl (hK352 _ _ ?_)
     refine wp_seq_k fun K363 hK364 => rl ?_
     refine seqK rfl (does_run (run_load rfl Tryz.underlying57 rfl (kv (.pointer (some ⟨b45, 0, none⟩))) (HS362.u4.cell 0)) ?_)
     refine seqL4 kr ?_
     refine nl (hK364 _ _ ?_)
     refine wp_ret ?_
     refine hret _ _ ?_
     refine ends_still (v := Value.tuple #[.slice A210 vt353.length c211, .int .i64 (w64 ((x3.loose.length : Int) + vt203)), .int .i64 0]) kr kr ?_
     have HS377 := HS362.u3.u1.u4.u4.u4
     have HS378 := HS377.drop
     have HS379 := HS378.drop
     have HS380 := HS379.drop
     injection h with h
     injection h with h0_ h
     injection h with h1_ h
     subst h0_ h1_ h
     exact ⟨f355, A210, c211, s359, rfl, (L34.trans (L170.trans (L207.trans L356))), HS380, HO360⟩
    refine takeEither 0 5 kr rfl rfl rfl rfl ?_ ?_
    · refine does_run (run_load rfl Tryz.underlying66 rfl (kv (.pointer (some ⟨b19, 0, none⟩))) (HS198.u3.cell 0)) ?_
      refine ⟨(Sg.g3 (Sx.of [s177, [(b45, .cells #[.slice A175 x174.length c176] 57 (0, 0))], [(b23, .cells #[.slice A14 q13.Cones.length c15, .int .i64 q13.From, .int .i64 q13.To, .int .i64 q13.Least, .int .i64 q13.Ban] 51 (0, 0))], [(b19, .cells #[.pointer (some ⟨b1, 0, none⟩)] 66 (0, 0))], [(b1, .cells #[.slice A4 x3.rows.length c5, .int .i64 x3.level, .slice A7 x3.roots.length c8, .slice A10 x3.loose.length c11] 109 (0, 0))]] fL HS198) (fun _ => St.only [] HS198 fL) (fun _ => St.only [s177] HS198 fL) (fun _ => St.only [s177, [(b45, .cells #[.slice A175 x174.length c176] 57 (0, 0))]] HS198 fL)), ?_⟩
      refine takeGL [1, 2] (n := 11) (fuel := 9) #[true, true, true, false, false, false, false, false, false, true, true, false, false, false] rfl kr kr kr hnp (Sg.g3 (Sx.of [s177, [(b45, .cells #[.slice A175 x174.length c176] 57 (0, 0))], [(b23, .cells #[.slice A14 q13.Cones.length c15, .int .i64 q13.From, .int .i64 q13.To, .int .i64 q13.Least, .int .i64 q13.Ban] 51 (0, 0))], [(b19, .cells #[.pointer (some ⟨b1, 0, none⟩)] 66 (0, 0))], [(b1, .cells #[.slice A4 x3.rows.length c5, .int .i64 x3.level, .slice A7 x3.roots.length c8, .slice A10 x3.loose.length c11] 109 (0, 0))]] fL HS198) (fun _ => St.only [] HS198 fL) (fun _ => St.only [s177] HS198 fL) (fun _ => St.only [s177, [(b45, .cells #[.slice A175 x174.length c176] 57 (0, 0))]] HS198 fL)) ?_
      refine takeEither 3 5 kr rfl rfl rfl rfl ?_ ?_
      · refine does_run (run_load rfl Tryz.underlying22 rfl (kv (.pointer (some ⟨b1, 3, none⟩))) (HS198.u4.cell 3)) ?_
        refine ⟨(Sg.g3 (Sx.of [s177, [(b45, .cells #[.slice A175 x174.length c176] 57 (0, 0))], [(b23, .cells #[.slice A14 q13.Cones.length c15, .int .i64 q13.From, .int .i64 q13.To, .int .i64 q13.Least, .int .i64 q13.Ban] 51 (0, 0))], [(b19, .cells #[.pointer (some ⟨b1, 0, none⟩)] 66 (0, 0))], [(b1, .cells #[.slice A4 x3.rows.length c5, .int .i64 x3.level, .slice A7 x3.roots.length c8, .slice A10 x3.loose.length c11] 109 (0, 0))]] fL HS198) (fun _ => St.only [] HS198 fL) (fun _ => St.only [s177] HS198 fL) (fun _ => St.only [s177, [(b45, .cells #[.slice A175 x174.length c176] 57 (0, 0))]] HS198 fL)), ?_⟩
        refine takeGL [4] (n := 8) (fuel := 7) #[true, true, true, true, true, false, false, false, false, true, true, false, false, false] rfl kr kr kr hnp (Sg.g3 (Sx.of [s177, [(b45, .cells #[.slice A175 x174.length c176] 57 (0, 0))], [(b23, .cells #[.slice A14 q13.Cones.length c15, .int .i64 q13.From, .int .i64 q13.To, .int .i64 q13.Least, .int .i64 q13.Ban] 51 (0, 0))], [(b19, .cells #[.pointer (some ⟨b1, 0, none⟩)] 66 (0, 0))], [(b1, .cells #[.slice A4 x3.rows.length c5, .int .i64 x3.level, .slice A7 x3.roots.length c8, .slice A10 x3.loose.length c11] 109 (0, 0))]] fL HS198) (fun _ => St.only [] HS198 fL) (fun _ => St.only [s177] HS198 fL) (fun _ => St.only [s177, [(b45, .cells #[.slice A175 x174.length c176] 57 (0, 0))]] HS198 fL)) ?_
        refine takeGE 5 kr rfl kr (does_run (run_load rfl Tryz.underlying66 rfl (kv (.pointer (some ⟨b19, 0, none⟩))) (HS198.u3.cell 0)) ?_)
        refine ⟨(Sg.g3 (Sx.of [s177, [(b45, .cells #[.slice A175 x174.length c176] 57 (0, 0))], [(b23, .cells #[.slice A14 q13.Cones.length c15, .int .i64 q13.From, .int .i64 q13.To, .int .i64 q13.Least, .int .i64 q13.Ban] 51 (0, 0))], [(b19, .cells #[.pointer (some ⟨b1, 0, none⟩)] 66 (0, 0))], [(b1, .cells #[.slice A4 x3.rows.length c5, .int .i64 x3.level, .slice A7 x3.roots.length c8, .slice A10 x3.loose.length c11] 109 (0, 0))]] fL HS198) (fun _ => St.only [] HS198 fL) (fun _ => St.only [s177] HS198 fL) (fun _ => St.only [s177, [(b45, .cells #[.slice A175 x174.length c176] 57 (0, 0))]] HS198 fL)), ?_⟩
        refine takeGL [6, 7] (n := 6) (fuel := 4) #[true, true, true, true, true, true, true, true, false, true, true, false, false, false] rfl kr kr kr hnp (Sg.g3 (Sx.of [s177, [(b45, .cells #[.slice A175 x174.length c176] 57 (0, 0))], [(b23, .cells #[.slice A14 q13.Cones.length c15, .int .i64 q13.From, .int .i64 q13.To, .int .i64 q13.Least, .int .i64 q13.Ban] 51 (0, 0))], [(b19, .cells #[.pointer (some ⟨b1, 0, none⟩)] 66 (0, 0))], [(b1, .cells #[.slice A4 x3.rows.length c5, .int .i64 x3.level, .slice A7 x3.roots.length c8, .slice A10 x3.loose.length c11] 109 (0, 0))]] fL HS198) (fun _ => St.only [] HS198 fL) (fun _ => St.only [s177] HS198 fL) (fun _ => St.only [s177, [(b45, .cells #[.slice A175 x174.length c176] 57 (0, 0))]] HS198 fL)) ?_
        refine takeGE 8 kr rfl kr (does_run (run_load rfl Tryz.underlying107 rfl (kv (.pointer (some ⟨b1, 2, none⟩))) (HS198.u4.cell 2)) ?_)
        refine ⟨(Sg.g3 (Sx.of [s177, [(b45, .cells #[.slice A175 x174.length c176] 57 (0, 0))], [(b23, .cells #[.slice A14 q13.Cones.length c15, .int .i64 q13.From, .int .i64 q13.To, .int .i64 q13.Least, .int .i64 q13.Ban] 51 (0, 0))], [(b19, .cells #[.pointer (some ⟨b1, 0, none⟩)] 66 (0, 0))], [(b1, .cells #[.slice A4 x3.rows.length c5, .int .i64 x3.level, .slice A7 x3.roots.length c8, .slice A10 x3.loose.length c11] 109 (0, 0))]] fL HS198) (fun _ => St.only [] HS198 fL) (fun _ => St.only [s177] HS198 fL) (fun _ => St.only [s177, [(b45, .cells #[.slice A175 x174.length c176] 57 (0, 0))]] HS198 fL)), ?_⟩
        have HS224 := HS198.u1.u4.u4.u4
        refine takeGE 11 kr rfl kr (does_call (f := 52) (args := #[.slice A7 x3.roots.length c8, .func (.func 53) #[] #[.pointer (some ⟨b23, 0, none⟩)], .func (.func 51) #[] #[.pointer (some ⟨b19, 0, none⟩), .pointer (some ⟨b23, 0, none⟩), .pointer (some ⟨b45, 0, none⟩)]]) kr (query_walk__query_Index_Run_2__query_Index_Run_1.calls k b23 A14 c15 b19 b1 A4 c5 A7 c8 A10 c11 b45 A175 c176 s177 A7 c8 q13 x3 x174 x3.roots HS224 (HR16.mono (L34.trans L170)) (HR6.mono (L34.trans L170)) (HR9.mono (L34.trans L170)) (HR12.mono (L34.trans L170)) HO178 (HR9.mono (L34.trans L170)) vt203 vt204 hc205) ?_)
        rintro _ W227 ⟨f225, A229, c230, s231, rfl, L226, HS228, HO232⟩
        refine ⟨_, rfl, ?_⟩
        refine ⟨(Sg.g3 (Sx.of [s231, [(b23, .cells #[.slice A14 q13.Cones.length c15, .int .i64 q13.From, .int .i64 q13.To, .int .i64 q13.Least, .int .i64 q13.Ban] 51 (0, 0))], [(b19, .cells #[.pointer (some ⟨b1, 0, none⟩)] 66 (0, 0))], [(b1, .cells #[.slice A4 x3.rows.length c5, .int .i64 x3.level, .slice A7 x3.roots.length c8, .slice A10 x3.loose.length c11] 109 (0, 0))], [(b45, .cells #[.slice A229 vt204.length c230] 57 (0, 0))]] L226 HS228) (fun hl_ => Bool.noConfusion (show true = false from hl_)) (fun hl_ => Bool.noConfusion (show true = false from hl_)) (fun hl_ => Bool.noConfusion (show true = false from hl_))), ?_⟩
        refine takeGL [12, 13] (n := 2) (fuel := 0) #[true, true, true, true, true, true, true, true, true, true, true, true, true, true] rfl kr kr kr hnp (Sg.g3 (Sx.of [s231, [(b23, .cells #[.slice A14 q13.Cones.length c15, .int .i64 q13.From, .int .i64 q13.To, .int .i64 q13.Least, .int .i64 q13.Ban] 51 (0, 0))], [(b19, .cells #[.pointer (some ⟨b1, 0, none⟩)] 66 (0, 0))], [(b1, .cells #[.slice A4 x3.rows.length c5, .int .i64 x3.level, .slice A7 x3.roots.length c8, .slice A10 x3.loose.length c11] 109 (0, 0))], [(b45, .cells #[.slice A229 vt204.length c230] 57 (0, 0))]] L226 HS228) (fun hl_ => Bool.noConfusion (show true = false from hl_)) (fun hl_ => Bool.noConfusion (show true = false from hl_)) (fun hl_ => Bool.noConfusion (show true = false from hl_))) ?_
        refine hR217 _ _ ?_
        exact J218 f225 A229 c230 s231 W227 _ L226 HO232 HS228 kr
      · refine does_run (run_load rfl Tryz.underlying66 rfl (kv (.pointer (some ⟨b19, 0, none⟩))) (HS198.u3.cell 0)) ?_
        refine ⟨(Sg.g3 (Sx.of [s177, [(b45, .cells #[.slice A175 x174.length c176] 57 (0, 0))], [(b23, .cells #[.slice A14 q13.Cones.length c15, .int .i64 q13.From, .int .i64 q13.To, .int .i64 q13.Least, .int .i64 q13.Ban] 51 (0, 0))], [(b19, .cells #[.pointer (some ⟨b1, 0, none⟩)] 66 (0, 0))], [(b1, .cells #[.slice A4 x3.rows.length c5, .int .i64 x3.level, .slice A7 x3.roots.length c8, .slice A10 x3.loose.length c11] 109 (0, 0))]] fL HS198) (fun _ => St.only [] HS198 fL) (fun _ => St.only [s177] HS198 fL) (fun _ => St.only [s177, [(b45, .cells #[.slice A175 x174.length c176] 57 (0, 0))]] HS198 fL)), ?_⟩
        refine takeGL [6, 7] (n := 8) (fuel := 6) #[true, true, true, false, false, true, true, true, false, true, true, false, false, false] rfl kr kr kr hnp (Sg.g3 (Sx.of [s177, [(b45, .cells #[.slice A175 x174.length c176] 57 (0, 0))], [(b23, .cells #[.slice A14 q13.Cones.length c15, .int .i64 q13.From, .int .i64 q13.To, .int .i64 q13.Least, .int .i64 q13.Ban] 51 (0, 0))], [(b19, .cells #[.pointer (some ⟨b1, 0, none⟩)] 66 (0, 0))], [(b1, .cells #[.slice A4 x3.rows.length c5, .int .i64 x3.level, .slice A7 x3.roots.length c8, .slice A10 x3.loose.length c11] 109 (0, 0))]] fL HS198) (fun _ => St.only [] HS198 fL) (fun _ => St.only [s177] HS198 fL) (fun _ => St.only [s177, [(b45, .cells #[.slice A175 x174.length c176] 57 (0, 0))]] HS198 fL)) ?_
        refine takeEither 3 8 kr rfl rfl rfl rfl ?_ ?_
        · refine does_run (run_load rfl Tryz.underlying22 rfl (kv (.pointer (some ⟨b1, 3, none⟩))) (HS198.u4.cell 3)) ?_
          refine ⟨(Sg.g3 (Sx.of [s177, [(b45, .cells #[.slice A175 x174.length c176] 57 (0, 0))], [(b23, .cells #[.slice A14 q13.Cones.length c15, .int .i64 q13.From, .int .i64 q13.To, .int .i64 q13.Least, .int .i64 q13.Ban] 51 (0, 0))], [(b19, .cells #[.pointer (some ⟨b1, 0, none⟩)] 66 (0, 0))], [(b1, .cells #[.slice A4 x3.rows.length c5, .int .i64 x3.level, .slice A7 x3.roots.length c8, .slice A10 x3.loose.length c11] 109 (0, 0))]] fL HS198) (fun _ => St.only [] HS198 fL) (fun _ => St.only [s177] HS198 fL) (fun _ => St.only [s177, [(b45, .cells #[.slice A175 x174.length c176] 57 (0, 0))]] HS198 fL)), ?_⟩
          refine takeGL [4] (n := 5) (fuel := 4) #[true, true, true, true, true, true, true, true, false, true, true, false, false, false] rfl kr kr kr hnp (Sg.g3 (Sx.of [s177, [(b45, .cells #[.slice A175 x174.length c176] 57 (0, 0))], [(b23, .cells #[.slice A14 q13.Cones.length c15, .int .i64 q13.From, .int .i64 q13.To, .int .i64 q13.Least, .int .i64 q13.Ban] 51 (0, 0))], [(b19, .cells #[.pointer (some ⟨b1, 0, none⟩)] 66 (0, 0))], [(b1, .cells #[.slice A4 x3.rows.length c5, .int .i64 x3.level, .slice A7 x3.roots.length c8, .slice A10 x3.loose.length c11] 109 (0, 0))]] fL HS198) (fun _ => St.only [] HS198 fL) (fun _ => St.only [s177] HS198 fL) (fun _ => St.only [s177, [(b45, .cells #[.slice A175 x174.length c176] 57 (0, 0))]] HS198 fL)) ?_
          refine takeGE 8 kr rfl kr (does_run (run_load rfl Tryz.underlying107 rfl (kv (.pointer (some ⟨b1, 2, none⟩))) (HS198.u4.cell 2)) ?_)
          refine ⟨(Sg.g3 (Sx.of [s177, [(b45, .cells #[.slice A175 x174.length c176] 57 (0, 0))], [(b23, .cells #[.slice A14 q13.Cones.length c15, .int .i64 q13.From, .int .i64 q13.To, .int .i64 q13.Least, .int .i64 q13.Ban] 51 (0, 0))], [(b19, .cells #[.pointer (some ⟨b1, 0, none⟩)] 66 (0, 0))], [(b1, .cells #[.slice A4 x3.rows.length c5, .int .i64 x3.level, .slice A7 x3.roots.length c8, .slice A10 x3.loose.length c11] 109 (0, 0))]] fL HS198) (fun _ => St.only [] HS198 fL) (fun _ => St.only [s177] HS198 fL) (fun _ => St.only [s177, [(b45, .cells #[.slice A175 x174.length c176] 57 (0, 0))]] HS198 fL)), ?_⟩
          have HS237 := HS198.u1.u4.u4.u4
          refine takeGE 11 kr rfl kr (does_call (f := 52) (args := #[.slice A7 x3.roots.length c8, .func (.func 53) #[] #[.pointer (some ⟨b23, 0, none⟩)], .func (.func 51) #[] #[.pointer (some ⟨b19, 0, none⟩), .pointer (some ⟨b23, 0, none⟩), .pointer (some ⟨b45, 0, none⟩)]]) kr (query_walk__query_Index_Run_2__query_Index_Run_1.calls k b23 A14 c15 b19 b1 A4 c5 A7 c8 A10 c11 b45 A175 c176 s177 A7 c8 q13 x3 x174 x3.roots HS237 (HR16.mono (L34.trans L170)) (HR6.mono (L34.trans L170)) (HR9.mono (L34.trans L170)) (HR12.mono (L34.trans L170)) HO178 (HR9.mono (L34.trans L170)) vt203 vt204 hc205) ?_)
          rintro _ W240 ⟨f238, A242, c243, s244, rfl, L239, HS241, HO245⟩
          refine ⟨_, rfl, ?_⟩
          refine ⟨(Sg.g3 (Sx.of [s244, [(b23, .cells #[.slice A14 q13.Cones.length c15, .int .i64 q13.From, .int .i64 q13.To, .int .i64 q13.Least, .int .i64 q13.Ban] 51 (0, 0))], [(b19, .cells #[.pointer (some ⟨b1, 0, none⟩)] 66 (0, 0))], [(b1, .cells #[.slice A4 x3.rows.length c5, .int .i64 x3.level, .slice A7 x3.roots.length c8, .slice A10 x3.loose.length c11] 109 (0, 0))], [(b45, .cells #[.slice A242 vt204.length c243] 57 (0, 0))]] L239 HS241) (fun hl_ => Bool.noConfusion (show true = false from hl_)) (fun hl_ => Bool.noConfusion (show true = false from hl_)) (fun hl_ => Bool.noConfusion (show true = false from hl_))), ?_⟩
          refine takeGL [12, 13] (n := 2) (fuel := 0) #[true, true, true, true, true, true, true, true, true, true, true, true, true, true] rfl kr kr kr hnp (Sg.g3 (Sx.of [s244, [(b23, .cells #[.slice A14 q13.Cones.length c15, .int .i64 q13.From, .int .i64 q13.To, .int .i64 q13.Least, .int .i64 q13.Ban] 51 (0, 0))], [(b19, .cells #[.pointer (some ⟨b1, 0, none⟩)] 66 (0, 0))], [(b1, .cells #[.slice A4 x3.rows.length c5, .int .i64 x3.level, .slice A7 x3.roots.length c8, .slice A10 x3.loose.length c11] 109 (0, 0))], [(b45, .cells #[.slice A242 vt204.length c243] 57 (0, 0))]] L239 HS241) (fun hl_ => Bool.noConfusion (show true = false from hl_)) (fun hl_ => Bool.noConfusion (show true = false from hl_)) (fun hl_ => Bool.noConfusion (show true = false from hl_))) ?_
          refine hR217 _ _ ?_
          exact J218 f238 A242 c243 s244 W240 _ L239 HO245 HS241 kr
        · refine does_run (run_load rfl Tryz.underlying107 rfl (kv (.pointer (some ⟨b1, 2, none⟩))) (HS198.u4.cell 2)) ?_
          refine ⟨(Sg.g3 (Sx.of [s177, [(b45, .cells #[.slice A175 x174.length c176] 57 (0, 0))], [(b23, .cells #[.slice A14 q13.Cones.length c15, .int .i64 q13.From, .int .i64 q13.To, .int .i64 q13.Least, .int .i64 q13.Ban] 51 (0, 0))], [(b19, .cells #[.pointer (some ⟨b1, 0, none⟩)] 66 (0, 0))], [(b1, .cells #[.slice A4 x3.rows.length c5, .int .i64 x3.level, .slice A7 x3.roots.length c8, .slice A10 x3.loose.length c11] 109 (0, 0))]] fL HS198) (fun _ => St.only [] HS198 fL) (fun _ => St.only [s177] HS198 fL) (fun _ => St.only [s177, [(b45, .cells #[.slice A175 x174.length c176] 57 (0, 0))]] HS198 fL)), ?_⟩
          refine takeEither 3 11 kr rfl rfl rfl rfl ?_ ?_
          · refine does_run (run_load rfl Tryz.underlying22 rfl (kv (.pointer (some ⟨b1, 3, none⟩))) (HS198.u4.cell 3)) ?_
            refine ⟨(Sg.g3 (Sx.of [s177, [(b45, .cells #[.slice A175 x174.length c176] 57 (0, 0))], [(b23, .cells #[.slice A14 q13.Cones.length c15, .int .i64 q13.From, .int .i64 q13.To, .int .i64 q13.Least, .int .i64 q13.Ban] 51 (0, 0))], [(b19, .cells #[.pointer (some ⟨b1, 0, none⟩)] 66 (0, 0))], [(b1, .cells #[.slice A4 x3.rows.length c5, .int .i64 x3.level, .slice A7 x3.roots.length c8, .slice A10 x3.loose.length c11] 109 (0, 0))]] fL HS198) (fun _ => St.only [] HS198 fL) (fun _ => St.only [s177] HS198 fL) (fun _ => St.only [s177, [(b45, .cells #[.slice A175 x174.length c176] 57 (0, 0))]] HS198 fL)), ?_⟩
            refine takeGL [4] (n := 4) (fuel := 3) #[true, true, true, true, true, true, true, true, true, true, true, false, false, false] rfl kr kr kr hnp (Sg.g3 (Sx.of [s177, [(b45, .cells #[.slice A175 x174.length c176] 57 (0, 0))], [(b23, .cells #[.slice A14 q13.Cones.length c15, .int .i64 q13.From, .int .i64 q13.To, .int .i64 q13.Least, .int .i64 q13.Ban] 51 (0, 0))], [(b19, .cells #[.pointer (some ⟨b1, 0, none⟩)] 66 (0, 0))], [(b1, .cells #[.slice A4 x3.rows.length c5, .int .i64 x3.level, .slice A7 x3.roots.length c8, .slice A10 x3.loose.length c11] 109 (0, 0))]] fL HS198) (fun _ => St.only [] HS198 fL) (fun _ => St.only [s177] HS198 fL) (fun _ => St.only [s177, [(b45, .cells #[.slice A175 x174.length c176] 57 (0, 0))]] HS198 fL)) ?_
            have HS250 := HS198.u1.u4.u4.u4
            refine takeGE 11 kr rfl kr (does_call (f := 52) (args := #[.slice A7 x3.roots.length c8, .func (.func 53) #[] #[.pointer (some ⟨b23, 0, none⟩)], .func (.func 51) #[] #[.pointer (some ⟨b19, 0, none⟩), .pointer (some ⟨b23, 0, none⟩), .pointer (some ⟨b45, 0, none⟩)]]) kr (query_walk__query_Index_Run_2__query_Index_Run_1.calls k b23 A14 c15 b19 b1 A4 c5 A7 c8 A10 c11 b45 A175 c176 s177 A7 c8 q13 x3 x174 x3.roots HS250 (HR16.mono (L34.trans L170)) (HR6.mono (L34.trans L170)) (HR9.mono (L34.trans L170)) (HR12.mono (L34.trans L170)) HO178 (HR9.mono (L34.trans L170)) vt203 vt204 hc205) ?_)
            rintro _ W253 ⟨f251, A255, c256, s257, rfl, L252, HS254, HO258⟩
            refine ⟨_, rfl, ?_⟩
            refine ⟨(Sg.g3 (Sx.of [s257, [(b23, .cells #[.slice A14 q13.Cones.length c15, .int .i64 q13.From, .int .i64 q13.To, .int .i64 q13.Least, .int .i64 q13.Ban] 51 (0, 0))], [(b19, .cells #[.pointer (some ⟨b1, 0, none⟩)] 66 (0, 0))], [(b1, .cells #[.slice A4 x3.rows.length c5, .int .i64 x3.level, .slice A7 x3.roots.length c8, .slice A10 x3.loose.length c11] 109 (0, 0))], [(b45, .cells #[.slice A255 vt204.length c256] 57 (0, 0))]] L252 HS254) (fun hl_ => Bool.noConfusion (show true = false from hl_)) (fun hl_ => Bool.noConfusion (show true = false from hl_)) (fun hl_ => Bool.noConfusion (show true = false from hl_))), ?_⟩
            refine takeGL [12, 13] (n := 2) (fuel := 0) #[true, true, true, true, true, true, true, true, true, true, true, true, true, true] rfl kr kr kr hnp (Sg.g3 (Sx.of [s257, [(b23, .cells #[.slice A14 q13.Cones.length c15, .int .i64 q13.From, .int .i64 q13.To, .int .i64 q13.Least, .int .i64 q13.Ban] 51 (0, 0))], [(b19, .cells #[.pointer (some ⟨b1, 0, none⟩)] 66 (0, 0))], [(b1, .cells #[.slice A4 x3.rows.length c5, .int .i64 x3.level, .slice A7 x3.roots.length c8, .slice A10 x3.loose.length c11] 109 (0, 0))], [(b45, .cells #[.slice A255 vt204.length c256] 57 (0, 0))]] L252 HS254) (fun hl_ => Bool.noConfusion (show true = false from hl_)) (fun hl_ => Bool.noConfusion (show true = false from hl_)) (fun hl_ => Bool.noConfusion (show true = false from hl_))) ?_
            refine hR217 _ _ ?_
            exact J218 f251 A255 c256 s257 W253 _ L252 HO258 HS254 kr
          · have HS260 := HS198.u1
            have HS263 := HS260.u4.u4.u4
            refine does_call (f := 52) (args := #[.slice A7 x3.roots.length c8, .func (.func 53) #[] #[.pointer (some ⟨b23, 0, none⟩)], .func (.func 51) #[] #[.pointer (some ⟨b19, 0, none⟩), .pointer (some ⟨b23, 0, none⟩), .pointer (some ⟨b45, 0, none⟩)]]) kr (query_walk__query_Index_Run_2__query_Index_Run_1.calls k b23 A14 c15 b19 b1 A4 c5 A7 c8 A10 c11 b45 A175 c176 s177 A7 c8 q13 x3 x174 x3.roots HS263 (HR16.mono (L34.trans L170)) (HR6.mono (L34.trans L170)) (HR9.mono (L34.trans L170)) (HR12.mono (L34.trans L170)) HO178 (HR9.mono (L34.trans L170)) vt203 vt204 hc205) ?_
            rintro _ W266 ⟨f264, A268, c269, s270, rfl, L265, HS267, HO271⟩
            refine ⟨_, rfl, ?_⟩
            refine ⟨(Sg.g3 (Sx.of [s270, [(b23, .cells #[.slice A14 q13.Cones.length c15, .int .i64 q13.From, .int .i64 q13.To, .int .i64 q13.Least, .int .i64 q13.Ban] 51 (0, 0))], [(b19, .cells #[.pointer (some ⟨b1, 0, none⟩)] 66 (0, 0))], [(b1, .cells #[.slice A4 x3.rows.length c5, .int .i64 x3.level, .slice A7 x3.roots.length c8, .slice A10 x3.loose.length c11] 109 (0, 0))], [(b45, .cells #[.slice A268 vt204.length c269] 57 (0, 0))]] L265 HS267) (fun hl_ => Bool.noConfusion (show true = false from hl_)) (fun hl_ => Bool.noConfusion (show true = false from hl_)) (fun hl_ => Bool.noConfusion (show true = false from hl_))), ?_⟩
            refine takeGE 3 kr rfl kr (does_run (run_load rfl Tryz.underlying22 rfl (kv (.pointer (some ⟨b1, 3, none⟩))) (HS267.u3.cell 3)) ?_)
            refine ⟨(Sg.g3 (Sx.of [s270, [(b23, .cells #[.slice A14 q13.Cones.length c15, .int .i64 q13.From, .int .i64 q13.To, .int .i64 q13.Least, .int .i64 q13.Ban] 51 (0, 0))], [(b19, .cells #[.pointer (some ⟨b1, 0, none⟩)] 66 (0, 0))], [(b1, .cells #[.slice A4 x3.rows.length c5, .int .i64 x3.level, .slice A7 x3.roots.length c8, .slice A10 x3.loose.length c11] 109 (0, 0))], [(b45, .cells #[.slice A268 vt204.length c269] 57 (0, 0))]] L265 HS267) (fun hl_ => Bool.noConfusion (show true = false from hl_)) (fun hl_ => Bool.noConfusion (show true = false from hl_)) (fun hl_ => Bool.noConfusion (show true = false from hl_))), ?_⟩
            refine takeGL [4, 12, 13] (n := 3) (fuel := 0) #[true, true, true, true, true, true, true, true, true, true, true, true, true, true] rfl kr kr kr hnp (Sg.g3 (Sx.of [s270, [(b23, .cells #[.slice A14 q13.Cones.length c15, .int .i64 q13.From, .int .i64 q13.To, .int .i64 q13.Least, .int .i64 q13.Ban] 51 (0, 0))], [(b19, .cells #[.pointer (some ⟨b1, 0, none⟩)] 66 (0, 0))], [(b1, .cells #[.slice A4 x3.rows.length c5, .int .i64 x3.level, .slice A7 x3.roots.length c8, .slice A10 x3.loose.length c11] 109 (0, 0))], [(b45, .cells #[.slice A268 vt204.length c269] 57 (0, 0))]] L265 HS267) (fun hl_ => Bool.noConfusion (show true = false from hl_)) (fun hl_ => Bool.noConfusion (show true = false from hl_)) (fun hl_ => Bool.noConfusion (show true = false from hl_))) ?_
            refine hR217 _ _ ?_
            exact J218 f264 A268 c269 s270 W266 _ L265 HO271 HS267 kr
    · refine does_run (run_load rfl Tryz.underlying66 rfl (kv (.pointer (some ⟨b19, 0, none⟩))) (HS198.u3.cell 0)) ?_
      refine ⟨(Sg.g3 (Sx.of [s177, [(b45, .cells #[.slice A175 x174.length c176] 57 (0, 0))], [(b23, .cells #[.slice A14 q13.Cones.length c15, .int .i64 q13.From, .int .i64 q13.To, .int .i64 q13.Least, .int .i64 q13.Ban] 51 (0, 0))], [(b19, .cells #[.pointer (some ⟨b1, 0, none⟩)] 66 (0, 0))], [(b1, .cells #[.slice A4 x3.rows.length c5, .int .i64 x3.level, .slice A7 x3.roots.length c8, .slice A10 x3.loose.length c11] 109 (0, 0))]] fL HS198) (fun _ => St.only [] HS198 fL) (fun _ => St.only [s177] HS198 fL) (fun _ => St.only [s177, [(b45, .cells #[.slice A175 x174.length c176] 57 (0, 0))]] HS198 fL)), ?_⟩
      refine takeGL [6, 7] (n := 11) (fuel := 9) #[false, false, false, false, false, true, true, true, false, true, true, false, false, false] rfl kr kr kr hnp (Sg.g3 (Sx.of [s177, [(b45, .cells #[.slice A175 x174.length c176] 57 (0, 0))], [(b23, .cells #[.slice A14 q13.Cones.length c15, .int .i64 q13.From, .int .i64 q13.To, .int .i64 q13.Least, .int .i64 q13.Ban] 51 (0, 0))], [(b19, .cells #[.pointer (some ⟨b1, 0, none⟩)] 66 (0, 0))], [(b1, .cells #[.slice A4 x3.rows.length c5, .int .i64 x3.level, .slice A7 x3.roots.length c8, .slice A10 x3.loose.length c11] 109 (0, 0))]] fL HS198) (fun _ => St.only [] HS198 fL) (fun _ => St.only [s177] HS198 fL) (fun _ => St.only [s177, [(b45, .cells #[.slice A175 x174.length c176] 57 (0, 0))]] HS198 fL)) ?_
      refine takeEither 0 8 kr rfl rfl rfl rfl ?_ ?_
      · refine does_run (run_load rfl Tryz.underlying66 rfl (kv (.pointer (some ⟨b19, 0, none⟩))) (HS198.u3.cell 0)) ?_
        refine ⟨(Sg.g3 (Sx.of [s177, [(b45, .cells #[.slice A175 x174.length c176] 57 (0, 0))], [(b23, .cells #[.slice A14 q13.Cones.length c15, .int .i64 q13.From, .int .i64 q13.To, .int .i64 q13.Least, .int .i64 q13.Ban] 51 (0, 0))], [(b19, .cells #[.pointer (some ⟨b1, 0, none⟩)] 66 (0, 0))], [(b1, .cells #[.slice A4 x3.rows.length c5, .int .i64 x3.level, .slice A7 x3.roots.length c8, .slice A10 x3.loose.length c11] 109 (0, 0))]] fL HS198) (fun _ => St.only [] HS198 fL) (fun _ => St.only [s177] HS198 fL) (fun _ => St.only [s177, [(b45, .cells #[.slice A175 x174.length c176] 57 (0, 0))]] HS198 fL)), ?_⟩
        refine takeGL [1, 2] (n := 8) (fuel := 6) #[true, true, true, false, false, true, true, true, false, true, true, false, false, false] rfl kr kr kr hnp (Sg.g3 (Sx.of [s177, [(b45, .cells #[.slice A175 x174.length c176] 57 (0, 0))], [(b23, .cells #[.slice A14 q13.Cones.length c15, .int .i64 q13.From, .int .i64 q13.To, .int .i64 q13.Least, .int .i64 q13.Ban] 51 (0, 0))], [(b19, .cells #[.pointer (some ⟨b1, 0, none⟩)] 66 (0, 0))], [(b1, .cells #[.slice A4 x3.rows.length c5, .int .i64 x3.level, .slice A7 x3.roots.length c8, .slice A10 x3.loose.length c11] 109 (0, 0))]] fL HS198) (fun _ => St.only [] HS198 fL) (fun _ => St.only [s177] HS198 fL) (fun _ => St.only [s177, [(b45, .cells #[.slice A175 x174.length c176] 57 (0, 0))]] HS198 fL)) ?_
        refine takeEither 3 8 kr rfl rfl rfl rfl ?_ ?_
        · refine does_run (run_load rfl Tryz.underlying22 rfl (kv (.pointer (some ⟨b1, 3, none⟩))) (HS198.u4.cell 3)) ?_
          refine ⟨(Sg.g3 (Sx.of [s177, [(b45, .cells #[.slice A175 x174.length c176] 57 (0, 0))], [(b23, .cells #[.slice A14 q13.Cones.length c15, .int .i64 q13.From, .int .i64 q13.To, .int .i64 q13.Least, .int .i64 q13.Ban] 51 (0, 0))], [(b19, .cells #[.pointer (some ⟨b1, 0, none⟩)] 66 (0, 0))], [(b1, .cells #[.slice A4 x3.rows.length c5, .int .i64 x3.level, .slice A7 x3.roots.length c8, .slice A10 x3.loose.length c11] 109 (0, 0))]] fL HS198) (fun _ => St.only [] HS198 fL) (fun _ => St.only [s177] HS198 fL) (fun _ => St.only [s177, [(b45, .cells #[.slice A175 x174.length c176] 57 (0, 0))]] HS198 fL)), ?_⟩
          refine takeGL [4] (n := 5) (fuel := 4) #[true, true, true, true, true, true, true, true, false, true, true, false, false, false] rfl kr kr kr hnp (Sg.g3 (Sx.of [s177, [(b45, .cells #[.slice A175 x174.length c176] 57 (0, 0))], [(b23, .cells #[.slice A14 q13.Cones.length c15, .int .i64 q13.From, .int .i64 q13.To, .int .i64 q13.Least, .int .i64 q13.Ban] 51 (0, 0))], [(b19, .cells #[.pointer (some ⟨b1, 0, none⟩)] 66 (0, 0))], [(b1, .cells #[.slice A4 x3.rows.length c5, .int .i64 x3.level, .slice A7 x3.roots.length c8, .slice A10 x3.loose.length c11] 109 (0, 0))]] fL HS198) (fun _ => St.only [] HS198 fL) (fun _ => St.only [s177] HS198 fL) (fun _ => St.only [s177, [(b45, .cells #[.slice A175 x174.length c176] 57 (0, 0))]] HS198 fL)) ?_
          refine takeGE 8 kr rfl kr (does_run (run_load rfl Tryz.underlying107 rfl (kv (.pointer (some ⟨b1, 2, none⟩))) (HS198.u4.cell 2)) ?_)
          refine ⟨(Sg.g3 (Sx.of [s177, [(b45, .cells #[.slice A175 x174.length c176] 57 (0, 0))], [(b23, .cells #[.slice A14 q13.Cones.length c15, .int .i64 q13.From, .int .i64 q13.To, .int .i64 q13.Least, .int .i64 q13.Ban] 51 (0, 0))], [(b19, .cells #[.pointer (some ⟨b1, 0, none⟩)] 66 (0, 0))], [(b1, .cells #[.slice A4 x3.rows.length c5, .int .i64 x3.level, .slice A7 x3.roots.length c8, .slice A10 x3.loose.length c11] 109 (0, 0))]] fL HS198) (fun _ => St.only [] HS198 fL) (fun _ => St.only [s177] HS198 fL) (fun _ => St.only [s177, [(b45, .cells #[.slice A175 x174.length c176] 57 (0, 0))]] HS198 fL)), ?_⟩
          have HS276 := HS198.u1.u4.u4.u4
          refine takeGE 11 kr rfl kr (does_call (f := 52) (args := #[.slice A7 x3.roots.length c8, .func (.func 53) #[] #[.pointer (some ⟨b23, 0, none⟩)], .func (.func 51) #[] #[.pointer (some ⟨b19, 0, none⟩), .pointer (some ⟨b23, 0, none⟩), .pointer (some ⟨b45, 0, none⟩)]]) kr (query_walk__query_Index_Run_2__query_Index_Run_1.calls k b23 A14 c15 b19 b1 A4 c5 A7 c8 A10 c11 b45 A175 c176 s177 A7 c8 q13 x3 x174 x3.roots HS276 (HR16.mono (L34.trans L170)) (HR6.mono (L34.trans L170)) (HR9.mono (L34.trans L170)) (HR12.mono (L34.trans L170)) HO178 (HR9.mono (L34.trans L170)) vt203 vt204 hc205) ?_)
          rintro _ W279 ⟨f277, A281, c282, s283, rfl, L278, HS280, HO284⟩
          refine ⟨_, rfl, ?_⟩
          refine ⟨(Sg.g3 (Sx.of [s283, [(b23, .cells #[.slice A14 q13.Cones.length c15, .int .i64 q13.From, .int .i64 q13.To, .int .i64 q13.Least, .int .i64 q13.Ban] 51 (0, 0))], [(b19, .cells #[.pointer (some ⟨b1, 0, none⟩)] 66 (0, 0))], [(b1, .cells #[.slice A4 x3.rows.length c5, .int .i64 x3.level, .slice A7 x3.roots.length c8, .slice A10 x3.loose.length c11] 109 (0, 0))], [(b45, .cells #[.slice A281 vt204.length c282] 57 (0, 0))]] L278 HS280) (fun hl_ => Bool.noConfusion (show true = false from hl_)) (fun hl_ => Bool.noConfusion (show true = false from hl_)) (fun hl_ => Bool.noConfusion (show true = false from hl_))), ?_⟩
          refine takeGL [12, 13] (n := 2) (fuel := 0) #[true, true, true, true, true, true, true, true, true, true, true, true, true, true] rfl kr kr kr hnp (Sg.g3 (Sx.of [s283, [(b23, .cells #[.slice A14 q13.Cones.length c15, .int .i64 q13.From, .int .i64 q13.To, .int .i64 q13.Least, .int .i64 q13.Ban] 51 (0, 0))], [(b19, .cells #[.pointer (some ⟨b1, 0, none⟩)] 66 (0, 0))], [(b1, .cells #[.slice A4 x3.rows.length c5, .int .i64 x3.level, .slice A7 x3.roots.length c8, .slice A10 x3.loose.length c11] 109 (0, 0))], [(b45, .cells #[.slice A281 vt204.length c282] 57 (0, 0))]] L278 HS280) (fun hl_ => Bool.noConfusion (show true = false from hl_)) (fun hl_ => Bool.noConfusion (show true = false from hl_)) (fun hl_ => Bool.noConfusion (show true = false from hl_))) ?_
          refine hR217 _ _ ?_
          exact J218 f277 A281 c282 s283 W279 _ L278 HO284 HS280 kr
        · refine does_run (run_load rfl Tryz.underlying107 rfl (kv (.pointer (some ⟨b1, 2, none⟩))) (HS198.u4.cell 2)) ?_
          refine ⟨(Sg.g3 (Sx.of [s177, [(b45, .cells #[.slice A175 x174.length c176] 57 (0, 0))], [(b23, .cells #[.slice A14 q13.Cones.length c15, .int .i64 q13.From, .int .i64 q13.To, .int .i64 q13.Least, .int .i64 q13.Ban] 51 (0, 0))], [(b19, .cells #[.pointer (some ⟨b1, 0, none⟩)] 66 (0, 0))], [(b1, .cells #[.slice A4 x3.rows.length c5, .int .i64 x3.level, .slice A7 x3.roots.length c8, .slice A10 x3.loose.length c11] 109 (0, 0))]] fL HS198) (fun _ => St.only [] HS198 fL) (fun _ => St.only [s177] HS198 fL) (fun _ => St.only [s177, [(b45, .cells #[.slice A175 x174.length c176] 57 (0, 0))]] HS198 fL)), ?_⟩
          refine takeEither 3 11 kr rfl rfl rfl rfl ?_ ?_
          · refine does_run (run_load rfl Tryz.underlying22 rfl (kv (.pointer (some ⟨b1, 3, none⟩))) (HS198.u4.cell 3)) ?_
            refine ⟨(Sg.g3 (Sx.of [s177, [(b45, .cells #[.slice A175 x174.length c176] 57 (0, 0))], [(b23, .cells #[.slice A14 q13.Cones.length c15, .int .i64 q13.From, .int .i64 q13.To, .int .i64 q13.Least, .int .i64 q13.Ban] 51 (0, 0))], [(b19, .cells #[.pointer (some ⟨b1, 0, none⟩)] 66 (0, 0))], [(b1, .cells #[.slice A4 x3.rows.length c5, .int .i64 x3.level, .slice A7 x3.roots.length c8, .slice A10 x3.loose.length c11] 109 (0, 0))]] fL HS198) (fun _ => St.only [] HS198 fL) (fun _ => St.only [s177] HS198 fL) (fun _ => St.only [s177, [(b45, .cells #[.slice A175 x174.length c176] 57 (0, 0))]] HS198 fL)), ?_⟩
            refine takeGL [4] (n := 4) (fuel := 3) #[true, true, true, true, true, true, true, true, true, true, true, false, false, false] rfl kr kr kr hnp (Sg.g3 (Sx.of [s177, [(b45, .cells #[.slice A175 x174.length c176] 57 (0, 0))], [(b23, .cells #[.slice A14 q13.Cones.length c15, .int .i64 q13.From, .int .i64 q13.To, .int .i64 q13.Least, .int .i64 q13.Ban] 51 (0, 0))], [(b19, .cells #[.pointer (some ⟨b1, 0, none⟩)] 66 (0, 0))], [(b1, .cells #[.slice A4 x3.rows.length c5, .int .i64 x3.level, .slice A7 x3.roots.length c8, .slice A10 x3.loose.length c11] 109 (0, 0))]] fL HS198) (fun _ => St.only [] HS198 fL) (fun _ => St.only [s177] HS198 fL) (fun _ => St.only [s177, [(b45, .cells #[.slice A175 x174.length c176] 57 (0, 0))]] HS198 fL)) ?_
            have HS289 := HS198.u1.u4.u4.u4
            refine takeGE 11 kr rfl kr (does_call (f := 52) (args := #[.slice A7 x3.roots.length c8, .func (.func 53) #[] #[.pointer (some ⟨b23, 0, none⟩)], .func (.func 51) #[] #[.pointer (some ⟨b19, 0, none⟩), .pointer (some ⟨b23, 0, none⟩), .pointer (some ⟨b45, 0, none⟩)]]) kr (query_walk__query_Index_Run_2__query_Index_Run_1.calls k b23 A14 c15 b19 b1 A4 c5 A7 c8 A10 c11 b45 A175 c176 s177 A7 c8 q13 x3 x174 x3.roots HS289 (HR16.mono (L34.trans L170)) (HR6.mono (L34.trans L170)) (HR9.mono (L34.trans L170)) (HR12.mono (L34.trans L170)) HO178 (HR9.mono (L34.trans L170)) vt203 vt204 hc205) ?_)
            rintro _ W292 ⟨f290, A294, c295, s296, rfl, L291, HS293, HO297⟩
            refine ⟨_, rfl, ?_⟩
            refine ⟨(Sg.g3 (Sx.of [s296, [(b23, .cells #[.slice A14 q13.Cones.length c15, .int .i64 q13.From, .int .i64 q13.To, .int .i64 q13.Least, .int .i64 q13.Ban] 51 (0, 0))], [(b19, .cells #[.pointer (some ⟨b1, 0, none⟩)] 66 (0, 0))], [(b1, .cells #[.slice A4 x3.rows.length c5, .int .i64 x3.level, .slice A7 x3.roots.length c8, .slice A10 x3.loose.length c11] 109 (0, 0))], [(b45, .cells #[.slice A294 vt204.length c295] 57 (0, 0))]] L291 HS293) (fun hl_ => Bool.noConfusion (show true = false from hl_)) (fun hl_ => Bool.noConfusion (show true = false from hl_)) (fun hl_ => Bool.noConfusion (show true = false from hl_))), ?_⟩
            refine takeGL [12, 13] (n := 2) (fuel := 0) #[true, true, true, true, true, true, true, true, true, true, true, true, true, true] rfl kr kr kr hnp (Sg.g3 (Sx.of [s296, [(b23, .cells #[.slice A14 q13.Cones.length c15, .int .i64 q13.From, .int .i64 q13.To, .int .i64 q13.Least, .int .i64 q13.Ban] 51 (0, 0))], [(b19, .cells #[.pointer (some ⟨b1, 0, none⟩)] 66 (0, 0))], [(b1, .cells #[.slice A4 x3.rows.length c5, .int .i64 x3.level, .slice A7 x3.roots.length c8, .slice A10 x3.loose.length c11] 109 (0, 0))], [(b45, .cells #[.slice A294 vt204.length c295] 57 (0, 0))]] L291 HS293) (fun hl_ => Bool.noConfusion (show true = false from hl_)) (fun hl_ => Bool.noConfusion (show true = false from hl_)) (fun hl_ => Bool.noConfusion (show true = false from hl_))) ?_
            refine hR217 _ _ ?_
            exact J218 f290 A294 c295 s296 W292 _ L291 HO297 HS293 kr
          · have HS299 := HS198.u1
            have HS302 := HS299.u4.u4.u4
            refine does_call (f := 52) (args := #[.slice A7 x3.roots.length c8, .func (.func 53) #[] #[.pointer (some ⟨b23, 0, none⟩)], .func (.func 51) #[] #[.pointer (some ⟨b19, 0, none⟩), .pointer (some ⟨b23, 0, none⟩), .pointer (some ⟨b45, 0, none⟩)]]) kr (query_walk__query_Index_Run_2__query_Index_Run_1.calls k b23 A14 c15 b19 b1 A4 c5 A7 c8 A10 c11 b45 A175 c176 s177 A7 c8 q13 x3 x174 x3.roots HS302 (HR16.mono (L34.trans L170)) (HR6.mono (L34.trans L170)) (HR9.mono (L34.trans L170)) (HR12.mono (L34.trans L170)) HO178 (HR9.mono (L34.trans L170)) vt203 vt204 hc205) ?_
            rintro _ W305 ⟨f303, A307, c308, s309, rfl, L304, HS306, HO310⟩
            refine ⟨_, rfl, ?_⟩
            refine ⟨(Sg.g3 (Sx.of [s309, [(b23, .cells #[.slice A14 q13.Cones.length c15, .int .i64 q13.From, .int .i64 q13.To, .int .i64 q13.Least, .int .i64 q13.Ban] 51 (0, 0))], [(b19, .cells #[.pointer (some ⟨b1, 0, none⟩)] 66 (0, 0))], [(b1, .cells #[.slice A4 x3.rows.length c5, .int .i64 x3.level, .slice A7 x3.roots.length c8, .slice A10 x3.loose.length c11] 109 (0, 0))], [(b45, .cells #[.slice A307 vt204.length c308] 57 (0, 0))]] L304 HS306) (fun hl_ => Bool.noConfusion (show true = false from hl_)) (fun hl_ => Bool.noConfusion (show true = false from hl_)) (fun hl_ => Bool.noConfusion (show true = false from hl_))), ?_⟩
            refine takeGE 3 kr rfl kr (does_run (run_load rfl Tryz.underlying22 rfl (kv (.pointer (some ⟨b1, 3, none⟩))) (HS306.u3.cell 3)) ?_)
            refine ⟨(Sg.g3 (Sx.of [s309, [(b23, .cells #[.slice A14 q13.Cones.length c15, .int .i64 q13.From, .int .i64 q13.To, .int .i64 q13.Least, .int .i64 q13.Ban] 51 (0, 0))], [(b19, .cells #[.pointer (some ⟨b1, 0, none⟩)] 66 (0, 0))], [(b1, .cells #[.slice A4 x3.rows.length c5, .int .i64 x3.level, .slice A7 x3.roots.length c8, .slice A10 x3.loose.length c11] 109 (0, 0))], [(b45, .cells #[.slice A307 vt204.length c308] 57 (0, 0))]] L304 HS306) (fun hl_ => Bool.noConfusion (show true = false from hl_)) (fun hl_ => Bool.noConfusion (show true = false from hl_)) (fun hl_ => Bool.noConfusion (show true = false from hl_))), ?_⟩
            refine takeGL [4, 12, 13] (n := 3) (fuel := 0) #[true, true, true, true, true, true, true, true, true, true, true, true, true, true] rfl kr kr kr hnp (Sg.g3 (Sx.of [s309, [(b23, .cells #[.slice A14 q13.Cones.length c15, .int .i64 q13.From, .int .i64 q13.To, .int .i64 q13.Least, .int .i64 q13.Ban] 51 (0, 0))], [(b19, .cells #[.pointer (some ⟨b1, 0, none⟩)] 66 (0, 0))], [(b1, .cells #[.slice A4 x3.rows.length c5, .int .i64 x3.level, .slice A7 x3.roots.length c8, .slice A10 x3.loose.length c11] 109 (0, 0))], [(b45, .cells #[.slice A307 vt204.length c308] 57 (0, 0))]] L304 HS306) (fun hl_ => Bool.noConfusion (show true = false from hl_)) (fun hl_ => Bool.noConfusion (show true = false from hl_)) (fun hl_ => Bool.noConfusion (show true = false from hl_))) ?_
            refine hR217 _ _ ?_
            exact J218 f303 A307 c308 s309 W305 _ L304 HO310 HS306 kr
      · refine does_run (run_load rfl Tryz.underlying107 rfl (kv (.pointer (some ⟨b1, 2, none⟩))) (HS198.u4.cell 2)) ?_
        refine ⟨(Sg.g3 (Sx.of [s177, [(b45, .cells #[.slice A175 x174.length c176] 57 (0, 0))], [(b23, .cells #[.slice A14 q13.Cones.length c15, .int .i64 q13.From, .int .i64 q13.To, .int .i64 q13.Least, .int .i64 q13.Ban] 51 (0, 0))], [(b19, .cells #[.pointer (some ⟨b1, 0, none⟩)] 66 (0, 0))], [(b1, .cells #[.slice A4 x3.rows.length c5, .int .i64 x3.level, .slice A7 x3.roots.length c8, .slice A10 x3.loose.length c11] 109 (0, 0))]] fL HS198) (fun _ => St.only [] HS198 fL) (fun _ => St.only [s177] HS198 fL) (fun _ => St.only [s177, [(b45, .cells #[.slice A175 x174.length c176] 57 (0, 0))]] HS198 fL)), ?_⟩
        refine takeEither 0 11 kr rfl rfl rfl rfl ?_ ?_
        · refine does_run (run_load rfl Tryz.underlying66 rfl (kv (.pointer (some ⟨b19, 0, none⟩))) (HS198.u3.cell 0)) ?_
          refine ⟨(Sg.g3 (Sx.of [s177, [(b45, .cells #[.slice A175 x174.length c176] 57 (0, 0))], [(b23, .cells #[.slice A14 q13.Cones.length c15, .int .i64 q13.From, .int .i64 q13.To, .int .i64 q13.Least, .int .i64 q13.Ban] 51 (0, 0))], [(b19, .cells #[.pointer (some ⟨b1, 0, none⟩)] 66 (0, 0))], [(b1, .cells #[.slice A4 x3.rows.length c5, .int .i64 x3.level, .slice A7 x3.roots.length c8, .slice A10 x3.loose.length c11] 109 (0, 0))]] fL HS198) (fun _ => St.only [] HS198 fL) (fun _ => St.only [s177] HS198 fL) (fun _ => St.only [s177, [(b45, .cells #[.slice A175 x174.length c176] 57 (0, 0))]] HS198 fL)), ?_⟩
          refine takeGL [1, 2] (n := 7) (fuel := 5) #[true, true, true, false, false, true, true, true, true, true, true, false, false, false] rfl kr kr kr hnp (Sg.g3 (Sx.of [s177, [(b45, .cells #[.slice A175 x174.length c176] 57 (0, 0))], [(b23, .cells #[.slice A14 q13.Cones.length c15, .int .i64 q13.From, .int .i64 q13.To, .int .i64 q13.Least, .int .i64 q13.Ban] 51 (0, 0))], [(b19, .cells #[.pointer (some ⟨b1, 0, none⟩)] 66 (0, 0))], [(b1, .cells #[.slice A4 x3.rows.length c5, .int .i64 x3.level, .slice A7 x3.roots.length c8, .slice A10 x3.loose.length c11] 109 (0, 0))]] fL HS198) (fun _ => St.only [] HS198 fL) (fun _ => St.only [s177] HS198 fL) (fun _ => St.only [s177, [(b45, .cells #[.slice A175 x174.length c176] 57 (0, 0))]] HS198 fL)) ?_
          refine takeEither 3 11 kr rfl rfl rfl rfl ?_ ?_
          · refine does_run (run_load rfl Tryz.underlying22 rfl (kv (.pointer (some ⟨b1, 3, none⟩))) (HS198.u4.cell 3)) ?_
            refine ⟨(Sg.g3 (Sx.of [s177, [(b45, .cells #[.slice A175 x174.length c176] 57 (0, 0))], [(b23, .cells #[.slice A14 q13.Cones.length c15, .int .i64 q13.From, .int .i64 q13.To, .int .i64 q13.Least, .int .i64 q13.Ban] 51 (0, 0))], [(b19, .cells #[.pointer (some ⟨b1, 0, none⟩)] 66 (0, 0))], [(b1, .cells #[.slice A4 x3.rows.length c5, .int .i64 x3.level, .slice A7 x3.roots.length c8, .slice A10 x3.loose.length c11] 109 (0, 0))]] fL HS198) (fun _ => St.only [] HS198 fL) (fun _ => St.only [s177] HS198 fL) (fun _ => St.only [s177, [(b45, .cells #[.slice A175 x174.length c176] 57 (0, 0))]] HS198 fL)), ?_⟩
            refine takeGL [4] (n := 4) (fuel := 3) #[true, true, true, true, true, true, true, true, true, true, true, false, false, false] rfl kr kr kr hnp (Sg.g3 (Sx.of [s177, [(b45, .cells #[.slice A175 x174.length c176] 57 (0, 0))], [(b23, .cells #[.slice A14 q13.Cones.length c15, .int .i64 q13.From, .int .i64 q13.To, .int .i64 q13.Least, .int .i64 q13.Ban] 51 (0, 0))], [(b19, .cells #[.pointer (some ⟨b1, 0, none⟩)] 66 (0, 0))], [(b1, .cells #[.slice A4 x3.rows.length c5, .int .i64 x3.level, .slice A7 x3.roots.length c8, .slice A10 x3.loose.length c11] 109 (0, 0))]] fL HS198) (fun _ => St.only [] HS198 fL) (fun _ => St.only [s177] HS198 fL) (fun _ => St.only [s177, [(b45, .cells #[.slice A175 x174.length c176] 57 (0, 0))]] HS198 fL)) ?_
            have HS315 := HS198.u1.u4.u4.u4
            refine takeGE 11 kr rfl kr (does_call (f := 52) (args := #[.slice A7 x3.roots.length c8, .func (.func 53) #[] #[.pointer (some ⟨b23, 0, none⟩)], .func (.func 51) #[] #[.pointer (some ⟨b19, 0, none⟩), .pointer (some ⟨b23, 0, none⟩), .pointer (some ⟨b45, 0, none⟩)]]) kr (query_walk__query_Index_Run_2__query_Index_Run_1.calls k b23 A14 c15 b19 b1 A4 c5 A7 c8 A10 c11 b45 A175 c176 s177 A7 c8 q13 x3 x174 x3.roots HS315 (HR16.mono (L34.trans L170)) (HR6.mono (L34.trans L170)) (HR9.mono (L34.trans L170)) (HR12.mono (L34.trans L170)) HO178 (HR9.mono (L34.trans L170)) vt203 vt204 hc205) ?_)
            rintro _ W318 ⟨f316, A320, c321, s322, rfl, L317, HS319, HO323⟩
            refine ⟨_, rfl, ?_⟩
            refine ⟨(Sg.g3 (Sx.of [s322, [(b23, .cells #[.slice A14 q13.Cones.length c15, .int .i64 q13.From, .int .i64 q13.To, .int .i64 q13.Least, .int .i64 q13.Ban] 51 (0, 0))], [(b19, .cells #[.pointer (some ⟨b1, 0, none⟩)] 66 (0, 0))], [(b1, .cells #[.slice A4 x3.rows.length c5, .int .i64 x3.level, .slice A7 x3.roots.length c8, .slice A10 x3.loose.length c11] 109 (0, 0))], [(b45, .cells #[.slice A320 vt204.length c321] 57 (0, 0))]] L317 HS319) (fun hl_ => Bool.noConfusion (show true = false from hl_)) (fun hl_ => Bool.noConfusion (show true = false from hl_)) (fun hl_ => Bool.noConfusion (show true = false from hl_))), ?_⟩
            refine takeGL [12, 13] (n := 2) (fuel := 0) #[true, true, true, true, true, true, true, true, true, true, true, true, true, true] rfl kr kr kr hnp (Sg.g3 (Sx.of [s322, [(b23, .cells #[.slice A14 q13.Cones.length c15, .int .i64 q13.From, .int .i64 q13.To, .int .i64 q13.Least, .int .i64 q13.Ban] 51 (0, 0))], [(b19, .cells #[.pointer (some ⟨b1, 0, none⟩)] 66 (0, 0))], [(b1, .cells #[.slice A4 x3.rows.length c5, .int .i64 x3.level, .slice A7 x3.roots.length c8, .slice A10 x3.loose.length c11] 109 (0, 0))], [(b45, .cells #[.slice A320 vt204.length c321] 57 (0, 0))]] L317 HS319) (fun hl_ => Bool.noConfusion (show true = false from hl_)) (fun hl_ => Bool.noConfusion (show true = false from hl_)) (fun hl_ => Bool.noConfusion (show true = false from hl_))) ?_
            refine hR217 _ _ ?_
            exact J218 f316 A320 c321 s322 W318 _ L317 HO323 HS319 kr
          · have HS325 := HS198.u1
            have HS328 := HS325.u4.u4.u4
            refine does_call (f := 52) (args := #[.slice A7 x3.roots.length c8, .func (.func 53) #[] #[.pointer (some ⟨b23, 0, none⟩)], .func (.func 51) #[] #[.pointer (some ⟨b19, 0, none⟩), .pointer (some ⟨b23, 0, none⟩), .pointer (some ⟨b45, 0, none⟩)]]) kr (query_walk__query_Index_Run_2__query_Index_Run_1.calls k b23 A14 c15 b19 b1 A4 c5 A7 c8 A10 c11 b45 A175 c176 s177 A7 c8 q13 x3 x174 x3.roots HS328 (HR16.mono (L34.trans L170)) (HR6.mono (L34.trans L170)) (HR9.mono (L34.trans L170)) (HR12.mono (L34.trans L170)) HO178 (HR9.mono (L34.trans L170)) vt203 vt204 hc205) ?_
            rintro _ W331 ⟨f329, A333, c334, s335, rfl, L330, HS332, HO336⟩
            refine ⟨_, rfl, ?_⟩
            refine ⟨(Sg.g3 (Sx.of [s335, [(b23, .cells #[.slice A14 q13.Cones.length c15, .int .i64 q13.From, .int .i64 q13.To, .int .i64 q13.Least, .int .i64 q13.Ban] 51 (0, 0))], [(b19, .cells #[.pointer (some ⟨b1, 0, none⟩)] 66 (0, 0))], [(b1, .cells #[.slice A4 x3.rows.length c5, .int .i64 x3.level, .slice A7 x3.roots.length c8, .slice A10 x3.loose.length c11] 109 (0, 0))], [(b45, .cells #[.slice A333 vt204.length c334] 57 (0, 0))]] L330 HS332) (fun hl_ => Bool.noConfusion (show true = false from hl_)) (fun hl_ => Bool.noConfusion (show true = false from hl_)) (fun hl_ => Bool.noConfusion (show true = false from hl_))), ?_⟩
            refine takeGE 3 kr rfl kr (does_run (run_load rfl Tryz.underlying22 rfl (kv (.pointer (some ⟨b1, 3, none⟩))) (HS332.u3.cell 3)) ?_)
            refine ⟨(Sg.g3 (Sx.of [s335, [(b23, .cells #[.slice A14 q13.Cones.length c15, .int .i64 q13.From, .int .i64 q13.To, .int .i64 q13.Least, .int .i64 q13.Ban] 51 (0, 0))], [(b19, .cells #[.pointer (some ⟨b1, 0, none⟩)] 66 (0, 0))], [(b1, .cells #[.slice A4 x3.rows.length c5, .int .i64 x3.level, .slice A7 x3.roots.length c8, .slice A10 x3.loose.length c11] 109 (0, 0))], [(b45, .cells #[.slice A333 vt204.length c334] 57 (0, 0))]] L330 HS332) (fun hl_ => Bool.noConfusion (show true = false from hl_)) (fun hl_ => Bool.noConfusion (show true = false from hl_)) (fun hl_ => Bool.noConfusion (show true = false from hl_))), ?_⟩
            refine takeGL [4, 12, 13] (n := 3) (fuel := 0) #[true, true, true, true, true, true, true, true, true, true, true, true, true, true] rfl kr kr kr hnp (Sg.g3 (Sx.of [s335, [(b23, .cells #[.slice A14 q13.Cones.length c15, .int .i64 q13.From, .int .i64 q13.To, .int .i64 q13.Least, .int .i64 q13.Ban] 51 (0, 0))], [(b19, .cells #[.pointer (some ⟨b1, 0, none⟩)] 66 (0, 0))], [(b1, .cells #[.slice A4 x3.rows.length c5, .int .i64 x3.level, .slice A7 x3.roots.length c8, .slice A10 x3.loose.length c11] 109 (0, 0))], [(b45, .cells #[.slice A333 vt204.length c334] 57 (0, 0))]] L330 HS332) (fun hl_ => Bool.noConfusion (show true = false from hl_)) (fun hl_ => Bool.noConfusion (show true = false from hl_)) (fun hl_ => Bool.noConfusion (show true = false from hl_))) ?_
            refine hR217 _ _ ?_
            exact J218 f329 A333 c334 s335 W331 _ L330 HO336 HS332 kr
        · have HS338 := HS198.u1
          have HS341 := HS338.u4.u4.u4
          refine does_call (f := 52) (args := #[.slice A7 x3.roots.length c8, .func (.func 53) #[] #[.pointer (some ⟨b23, 0, none⟩)], .func (.func 51) #[] #[.pointer (some ⟨b19, 0, none⟩), .pointer (some ⟨b23, 0, none⟩), .pointer (some ⟨b45, 0, none⟩)]]) kr (query_walk__query_Index_Run_2__query_Index_Run_1.calls k b23 A14 c15 b19 b1 A4 c5 A7 c8 A10 c11 b45 A175 c176 s177 A7 c8 q13 x3 x174 x3.roots HS341 (HR16.mono (L34.trans L170)) (HR6.mono (L34.trans L170)) (HR9.mono (L34.trans L170)) (HR12.mono (L34.trans L170)) HO178 (HR9.mono (L34.trans L170)) vt203 vt204 hc205) ?_
          rintro _ W344 ⟨f342, A346, c347, s348, rfl, L343, HS345, HO349⟩
          refine ⟨_, rfl, ?_⟩
          refine ⟨(Sg.g3 (Sx.of [s348, [(b23, .cells #[.slice A14 q13.Cones.length c15, .int .i64 q13.From, .int .i64 q13.To, .int .i64 q13.Least, .int .i64 q13.Ban] 51 (0, 0))], [(b19, .cells #[.pointer (some ⟨b1, 0, none⟩)] 66 (0, 0))], [(b1, .cells #[.slice A4 x3.rows.length c5, .int .i64 x3.level, .slice A7 x3.roots.length c8, .slice A10 x3.loose.length c11] 109 (0, 0))], [(b45, .cells #[.slice A346 vt204.length c347] 57 (0, 0))]] L343 HS345) (fun hl_ => Bool.noConfusion (show true = false from hl_)) (fun hl_ => Bool.noConfusion (show true = false from hl_)) (fun hl_ => Bool.noConfusion (show true = false from hl_))), ?_⟩
          refine takeGE 0 kr rfl kr (does_run (run_load rfl Tryz.underlying66 rfl (kv (.pointer (some ⟨b19, 0, none⟩))) (HS345.u2.cell 0)) ?_)
          refine ⟨(Sg.g3 (Sx.of [s348, [(b23, .cells #[.slice A14 q13.Cones.length c15, .int .i64 q13.From, .int .i64 q13.To, .int .i64 q13.Least, .int .i64 q13.Ban] 51 (0, 0))], [(b19, .cells #[.pointer (some ⟨b1, 0, none⟩)] 66 (0, 0))], [(b1, .cells #[.slice A4 x3.rows.length c5, .int .i64 x3.level, .slice A7 x3.roots.length c8, .slice A10 x3.loose.length c11] 109 (0, 0))], [(b45, .cells #[.slice A346 vt204.length c347] 57 (0, 0))]] L343 HS345) (fun hl_ => Bool.noConfusion (show true = false from hl_)) (fun hl_ => Bool.noConfusion (show true = false from hl_)) (fun hl_ => Bool.noConfusion (show true = false from hl_))), ?_⟩
          refine takeGL [1, 2] (n := 6) (fuel := 4) #[true, true, true, false, false, true, true, true, true, true, true, true, false, false] rfl kr kr kr hnp (Sg.g3 (Sx.of [s348, [(b23, .cells #[.slice A14 q13.Cones.length c15, .int .i64 q13.From, .int .i64 q13.To, .int .i64 q13.Least, .int .i64 q13.Ban] 51 (0, 0))], [(b19, .cells #[.pointer (some ⟨b1, 0, none⟩)] 66 (0, 0))], [(b1, .cells #[.slice A4 x3.rows.length c5, .int .i64 x3.level, .slice A7 x3.roots.length c8, .slice A10 x3.loose.length c11] 109 (0, 0))], [(b45, .cells #[.slice A346 vt204.length c347] 57 (0, 0))]] L343 HS345) (fun hl_ => Bool.noConfusion (show true = false from hl_)) (fun hl_ => Bool.noConfusion (show true = false from hl_)) (fun hl_ => Bool.noConfusion (show true = false from hl_))) ?_
          refine takeGE 3 kr rfl kr (does_run (run_load rfl Tryz.underlying22 rfl (kv (.pointer (some ⟨b1, 3, none⟩))) (HS345.u3.cell 3)) ?_)
          refine ⟨(Sg.g3 (Sx.of [s348, [(b23, .cells #[.slice A14 q13.Cones.length c15, .int .i64 q13.From, .int .i64 q13.To, .int .i64 q13.Least, .int .i64 q13.Ban] 51 (0, 0))], [(b19, .cells #[.pointer (some ⟨b1, 0, none⟩)] 66 (0, 0))], [(b1, .cells #[.slice A4 x3.rows.length c5, .int .i64 x3.level, .slice A7 x3.roots.length c8, .slice A10 x3.loose.length c11] 109 (0, 0))], [(b45, .cells #[.slice A346 vt204.length c347] 57 (0, 0))]] L343 HS345) (fun hl_ => Bool.noConfusion (show true = false from hl_)) (fun hl_ => Bool.noConfusion (show true = false from hl_)) (fun hl_ => Bool.noConfusion (show true = false from hl_))), ?_⟩
          refine takeGL [4, 12, 13] (n := 3) (fuel := 0) #[true, true, true, true, true, true, true, true, true, true, true, true, true, true] rfl kr kr kr hnp (Sg.g3 (Sx.of [s348, [(b23, .cells #[.slice A14 q13.Cones.length c15, .int .i64 q13.From, .int .i64 q13.To, .int .i64 q13.Least, .int .i64 q13.Ban] 51 (0, 0))], [(b19, .cells #[.pointer (some ⟨b1, 0, none⟩)] 66 (0, 0))], [(b1, .cells #[.slice A4 x3.rows.length c5, .int .i64 x3.level, .slice A7 x3.roots.length c8, .slice A10 x3.loose.length c11] 109 (0, 0))], [(b45, .cells #[.slice A346 vt204.length c347] 57 (0, 0))]] L343 HS345) (fun hl_ => Bool.noConfusion (show true = false from hl_)) (fun hl_ => Bool.noConfusion (show true = false from hl_)) (fun hl_ => Bool.noConfusion (show true = false from hl_))) ?_
          refine hR217 _ _ ?_
          exact J218 f342 A346 c347 s348 W344 _ L343 HO349 HS345 kr
   clear h; have h := hv180; clear hv180
   have HS183 := HS47.cons_nil
   refine loopK (fun n_ a_ w_ => ∃ (f118 : FM) (A125 : Option Addr) (c126 : Nat) (s127 : Seg) (x123 : Int) (x124 : List S_Answer) (j122 : Nat → Value), FM.le f33 f118 ∧ St t w_ f118 (s127 :: [(b45, .cells #[.slice A125 x124.length c126] 57 (0, 0))] :: [(b23, .cells #[.slice A14 q13.Cones.length c15, .int .i64 q13.From, .int .i64 q13.To, .int .i64 q13.Least, .int .i64 q13.Ban] 51 (0, 0))] :: [(b19, .cells #[.pointer (some ⟨b1, 0, none⟩)] 66 (0, 0))] :: [(b1, .cells #[.slice A4 x3.rows.length c5, .int .i64 x3.level, .slice A7 x3.roots.length c8, .slice A10 x3.loose.length c11] 109 (0, 0))] :: H) ∧ Own ty_Answer 62 f118 A125 c126 s127 x124 ∧ query_Index_Run.l0 k x3 q13 n_ x123 x124 = some o114 ∧ a_ = ⟨#[pV b1 0, (ag_Ask q13 A14 c15), pV b19 0, pV b23 0, .slice none 0 0, iV 0, iV 0, iV vt31, pV b45 0, .func (.func 51) #[] #[pV b19 0, pV b23 0, pV b45 0], uV, (j122 0), uV, (ag_Ask q13 A14 c15), iV vt31, iV vt31, fV, uV, .func (.func 51) #[] #[pV b19 0, pV b23 0, pV b45 0], pV b1 0, pV b1 0, pV b1 3, .slice A10 x3.loose.length c11, iV (x3.loose.length : Int), iV x123, (j122 1), (j122 2), (j122 3), (j122 4), (j122 5), (j122 6), (j122 7), uV, uV, uV, uV, uV, uV, uV, uV, uV, uV, uV, uV, uV, uV, uV, uV, uV], []⟩) k ⟨f33, none, 0, [], 0, ([] : List S_Answer), (jL []), fL, HS183, (Own.nil _), h, kr⟩ ?_
   clear h
   rintro n117 _ W120 ⟨f118, A125, c126, s127, x123, x124, j122, L119, HS121, HO128, h, rfl⟩ K115 hK116
   obtain _ | n117 := n117
   · exact nomatch h
   simp only [query_Index_Run.l0] at h
   refine wp_seq_k fun K130 hK131 => rl ?_
   refine seqL1 kr ?_
   refine nl (hK131 _ _ ?_)
   refine wp_seq_k (fun K132 hK133 => ?_)
   have hq_ := ite_some h; clear h; rcases hq_ with ⟨c135, h⟩ | ⟨c135, h⟩
   · have c135 : x123 < (x3.loose.length : Int) := c135
     refine wpRwI 25 kr (decide_eq_true c135) ?_
     refine condT kr ?_
     refine wp_skip ?_
     refine hK133 _ _ ?_
     refine wp_seq_k (fun K136 hK137 => ?_)
     refine blockK (fun B138 hx139 hn140 hr141 ho142 hp143 => ?_)
     refine wp_seq_k fun K145 hK146 => rl ?_
     have hq_ := guard_some h; clear h; obtain ⟨c147, h⟩ := hq_
     have c147 : 0 ≤ x123 := c147
     obtain ⟨b151, of152, cs148, hA153, hr149, hc150⟩ := (HR12.mono (L34.trans L119)).at (i := x123) c147 c135
     obtain rfl := hr149
     refine seqK rfl (does_run (run_indexE hA153 (sz := 1) rfl Tryz.underlying22 kr (kv (.slice A10 x3.loose.length c11)) (kv (.int .i64 x123)) c147 c135 W120) ?_)
     refine seqK rfl (does_run (run_load rfl Tryz.underlying3 rfl (kv (.pointer (some ⟨b151, of152 + (x123 : Int).toNat * 1, none⟩))) ((hc150 fL HS121) 0 (by decide))) ?_)
     refine seqL1 kr ?_
     refine nl (hK146 _ _ ?_)
     refine rl ?_
     have HS157 := HS121.u1.u2.u4.u4
     have hq_ := bind_some h; clear h; obtain ⟨vt158, hc159, h⟩ := hq_
     refine seqL2 kr ?_
     refine seqK rfl (does_call (f := 51) (args := #[.int .i64 (rd x3.loose x123), .pointer (some ⟨b19, 0, none⟩), .pointer (some ⟨b23, 0, none⟩), .pointer (some ⟨b45, 0, none⟩)]) kr (query_Index_Run_1.calls k b19 b1 A4 c5 A7 c8 A10 c11 b23 A14 c15 b45 A125 c126 s127 x3 q13 x124 (rd x3.loose x123) HS157 (HR6.mono (L34.trans L119)) (HR9.mono (L34.trans L119)) (HR12.mono (L34.trans L119)) (HR16.mono (L34.trans L119)) HO128 vt158 hc159) ?_)
     rintro _ W162 ⟨f160, A164, c165, s166, rfl, L161, HS163, HO167⟩
     refine ⟨_, rfl, ?_⟩
     refine nl ?_
     refine hn140 _ _ ?_
     refine hK137 _ _ ?_
     refine rl ?_
     refine seqL2 kr ?_
     refine nl ?_
     refine hK116 n117 _ _ (Nat.lt_succ_self _) ?_
     have HS189 := HS163.u2.u2.u3.u4.u4
     exact ⟨f160, A164, c165, s166, (w64 (x123 + 1)), vt158, (jL [iV (rd x3.loose x123), tV, .pointer (some ⟨b151, of152 + (x123 : Int).toNat * 1, none⟩), iV (rd x3.loose x123), .func (.func 51) #[] #[.pointer (some ⟨b19, 0, none⟩), .pointer (some ⟨b23, 0, none⟩), .pointer (some ⟨b45, 0, none⟩)], iV (rd x3.loose x123), .tuple #[], iV (w64 (x123 + 1))]), (L119.trans L161), HS189, HO167, h, kr⟩
   · have c135 : ¬ (x123 < (x3.loose.length : Int)) := c135
     refine wpRwI 25 kr (decide_eq_false c135) ?_
     refine condF kr ?_
     refine wp_exit ?_
     refine hx56 _ _ ?_
     exact J181 f118 A125 c126 s127 x124 (jL [(j122 0), iV x123, fV, (j122 2), (j122 3), (j122 4), (j122 5), (j122 6), (j122 7)]) W120 _ L119 h HS121 HO128 kr

set_option maxRecDepth 100000 in
set_option maxHeartbeats 4000000 in
theorem spykeep3_asked.calls (k : Nat)   {t w : World} {f : FM} {H : List Seg} (HS : St t w f (H)) (rr1 : Bool) (h : spykeep3_asked k = some rr1) :
    Calls Tryz.prog 12 #[] w (fun e w' => ∃ (g : FM), e = .returned (Value.bool rr1) ∧ FM.le f g ∧ St t w' g (H)) := by
 unfold spykeep3_asked at h
 refine enter Tryz.func12 rfl (tm := #[uV, uV, uV, uV, uV, uV, uV, uV, uV, uV, uV, uV, uV, uV, uV, uV, uV, uV, uV, uV, uV, uV, uV, uV, uV, uV, uV, uV, uV, uV, uV, uV, uV, uV, uV, uV, uV, uV, uV, uV, uV, uV, uV]) kr ?_
 intro B hret hnor hnp
 refine wp_seq_k fun K1 hK2 => rl ?_
 refine seqL1 kr ?_
 refine nl (hK2 _ _ ?_)
 refine wp_seq_k fun K3 hK4 => rl ?_
 have hq_ := bind_some h; clear h; obtain ⟨vt5, hc6, h⟩ := hq_
 refine seqK rfl (does_call (f := 38) (args := #[.int .i64 1]) kr (spykeep3_single.calls k 1 HS vt5 hc6) ?_)
 rintro _ W9 ⟨f7, A11, c12, s13, rfl, L8, HS10, HO14⟩
 refine ⟨_, rfl, ?_⟩
 obtain ⟨f16, L17, HS18, HR19⟩ := HO14.freeze HS10
 refine seqK rfl (does_lit (e := ty_Row) (E := 99) (vs := #[(0, Value.agg #[.int .i64 vt5.ID, .int .i64 vt5.Box.X.Lo, .int .i64 vt5.Box.X.Hi, .bool vt5.Box.X.Unknown, .int .i64 vt5.Box.Y.Lo, .int .i64 vt5.Box.Y.Hi, .bool vt5.Box.Y.Unknown, .int .i64 vt5.Box.Z.Lo, .int .i64 vt5.Box.Z.Hi, .bool vt5.Box.Z.Unknown, .int .i64 vt5.Flux.Lo, .int .i64 vt5.Flux.Hi, .bool vt5.Flux.Unknown, .int .i64 vt5.When.Lo, .int .i64 vt5.When.Hi, .bool vt5.When.Unknown, .slice A11 vt5.Frames.length c12, .int .i64 vt5.Marks])]) (cs := #[.int .i64 vt5.ID, .int .i64 vt5.Box.X.Lo, .int .i64 vt5.Box.X.Hi, .bool vt5.Box.X.Unknown, .int .i64 vt5.Box.Y.Lo, .int .i64 vt5.Box.Y.Hi, .bool vt5.Box.Y.Unknown, .int .i64 vt5.Box.Z.Lo, .int .i64 vt5.Box.Z.Hi, .bool vt5.Box.Z.Unknown, .int .i64 vt5.Flux.Lo, .int .i64 vt5.Flux.Hi, .bool vt5.Flux.Unknown, .int .i64 vt5.When.Lo, .int .i64 vt5.When.Hi, .bool vt5.When.Unknown, .slice A11 vt5.Frames.length c12, .int .i64 vt5.Marks]) (xs := ([vt5] : List S_Row)) rfl Tryz.underlying45 kr kr ⟨[.int .i64 vt5.ID, .int .i64 vt5.Box.X.Lo, .int .i64 vt5.Box.X.Hi, .bool vt5.Box.X.Unknown, .int .i64 vt5.Box.Y.Lo, .int .i64 vt5.Box.Y.Hi, .bool vt5.Box.Y.Unknown, .int .i64 vt5.Box.Z.Lo, .int .i64 vt5.Box.Z.Hi, .bool vt5.Box.Z.Unknown, .int .i64 vt5.Flux.Lo, .int .i64 vt5.Flux.Hi, .bool vt5.Flux.Unknown, .int .i64 vt5.When.Lo, .int .i64 vt5.When.Hi, .bool vt5.When.Unknown, .slice A11 vt5.Frames.length c12, .int .i64 vt5.Marks], _, rfl, ⟨A11, c12, rfl, HR19⟩, rfl⟩ rfl HS18 ?_ (by decide))
 intro b20 W21 s22 HS23 _ HO24
 obtain ⟨f26, L27, HS28, HR29⟩ := HO24.freeze HS23
 have hq_ := bind_some h; clear h; obtain ⟨⟨vt30, vt31⟩, hc32, h⟩ := hq_
 refine seqK rfl (does_call (f := 24) (args := #[.slice (some ⟨b20, 0, none⟩) ([vt5] : List S_Row).length 1, .int .i64 2]) kr (query_New.calls k (some ⟨b20, 0, none⟩) 1 ([vt5] : List S_Row) 2 HS28 HR29 vt30 vt31 hc32) ?_)
 rintro _ W35 ⟨f33, A37, c38, A40, c41, A43, c44, b46, rfl, L34, HS36, HR39, HR42, HR45⟩
 refine ⟨_, rfl, ?_⟩
 refine seqL5 kr ?_
 refine nl (hK4 _ _ ?_)
 refine wp_seq_k (fun K48 hK49 => ?_)
 refine wp_seq_k fun K50 hK51 => rl ?_
 refine seqL3 kr ?_
 have hq_ := ite_some h; clear h; rcases hq_ with ⟨c52, h⟩ | ⟨c52, h⟩
 · have c52 : vt31 ≠ 0 := c52
   refine seqRwI 13 kr (bne_iff_ne.mpr c52) ?_
   refine seqRwI 14 kr (bne_iff_ne.mpr c52) ?_
   refine seqL3 kr ?_
   refine nl (hK51 _ _ ?_)
   refine condT kr ?_
   refine wp_seq_k fun K53 hK54 => rl ?_
   refine seqL1 kr ?_
   refine nl (hK54 _ _ ?_)
   refine wp_ret ?_
   refine hret _ _ ?_
   refine ends_still (v := Value.bool false) kr kr ?_
   have HS82 := HS36.drop
   injection h with h
   subst h
   exact ⟨f33, rfl, (L8.trans (L17.trans (L27.trans L34))), HS82⟩
 · have c52 : ¬ (vt31 ≠ 0) := c52
   refine seqRwI 13 (x := (vt31 != 0)) (v := false) kr (bne_eq_false_iff_eq.mpr (Decidable.of_not_not c52)) ?_
   refine seqRwI 14 (x := (vt31 != 0)) (v := false) kr (bne_eq_false_iff_eq.mpr (Decidable.of_not_not c52)) ?_
   refine seqL3 kr ?_
   refine nl (hK51 _ _ ?_)
   refine condF kr ?_
   refine wp_skip ?_
   refine hK49 _ _ ?_
   refine wp_seq_k fun K55 hK56 => rl ?_
   have hq_ := bind_some h; clear h; obtain ⟨⟨vt57, vt58, vt59⟩, hc60, h⟩ := hq_
   refine seqL2 kr ?_
   refine seqK rfl (does_call (f := 25) (args := #[.pointer (some ⟨b46, 0, none⟩), .agg #[.slice none 0 0, .int .i64 0, .int .i64 0, .int .i64 0, .int .i64 0]]) kr (query_Index_Run.calls k b46 A37 c38 A40 c41 A43 c44 none 0 vt30 (⟨([] : List S_Cone), 0, 0, 0, 0⟩ : S_Ask) HS36 HR39 HR42 HR45 (SlR.nil _ _) vt57 vt58 vt59 hc60) ?_)
   rintro _ W63 ⟨f61, A65, c66, s67, rfl, L62, HS64, HO68⟩
   refine ⟨_, rfl, ?_⟩
   refine seqL7 kr ?_
   refine nl (hK56 _ _ ?_)
   refine wp_seq_k fun K70 hK71 => rl ?_
   refine seqL3 kr ?_
   have hq_ := ite_some h; clear h; rcases hq_ with ⟨c72, h⟩ | ⟨c72, h⟩
   · have c72 : vt59 = 0 := c72
     refine seqRwI 26 kr (beq_iff_eq.mpr c72) ?_
     refine seqRwI 27 kr (beq_iff_eq.mpr c72) ?_
     refine seqL4 kr ?_
     have hq_ := ite_some h; clear h; rcases hq_ with ⟨c73, h⟩ | ⟨c73, h⟩
     · have c73 : vt58 > 0 := c73
       refine seqRwI 29 kr (decide_eq_true c73) ?_
       refine seqRwI 30 kr (decide_eq_true c73) ?_
       refine seqRwI 31 kr (decide_eq_true c73) ?_
       refine seqL5 kr ?_
       have hq_ := ite_some h; clear h; rcases hq_ with ⟨c74, h⟩ | ⟨c74, h⟩
       · have c74 : (vt57.length : Int) = 1 := c74
         refine seqRwI 34 kr (beq_iff_eq.mpr c74) ?_
         refine seqRwI 35 kr (beq_iff_eq.mpr c74) ?_
         refine seqRwI 36 kr (beq_iff_eq.mpr c74) ?_
         have hq_ := guard_some h; clear h; obtain ⟨c75, h⟩ := hq_
         have c75 : 0 < (vt57.length : Int) := c75
         obtain ⟨b79, of80, cs76, hA81, hr77, hc78⟩ := HO68.at (i := 0) (by decide) c75
         obtain rfl := hr77
         refine seqL1 kr ?_
         refine seqG kr (does_run (run_indexE hA81 (sz := 2) rfl Tryz.underlying57 kr (kv (.slice A65 vt57.length c66)) (kv (.int .i64 0)) (by decide) c75 W63) ?_)
         refine seqL1 kr ?_
         refine seqG kr (does_run (run_load rfl Tryz.underlying3 rfl (kv (.pointer (some ⟨b79, of80 + (0 : Int).toNat * 2, none⟩))) ((hc78 HS64) 0 (by decide))) ?_)
         refine seqL3 kr ?_
         refine nl (hK71 _ _ ?_)
         refine wp_ret ?_
         refine hret _ _ ?_
         refine ends_still (v := Value.bool (((rd vt57 0).ID) == 1)) kr kr ?_
         have HS83 := HS64.drop
         have HS84 := HS83.drop
         injection h with h
         subst h
         exact ⟨f61, rfl, (L8.trans (L17.trans (L27.trans (L34.trans L62)))), HS84⟩
       · have c74 : ¬ ((vt57.length : Int) = 1) := c74
         refine seqRwI 34 kr (beq_eq_false_iff_ne.mpr c74) ?_
         refine seqRwI 35 kr (beq_eq_false_iff_ne.mpr c74) ?_
         refine seqRwI 36 kr (beq_eq_false_iff_ne.mpr c74) ?_
         refine seqL7 kr ?_
         refine nl (hK71 _ _ ?_)
         refine wp_ret ?_
         refine hret _ _ ?_
         refine ends_still (v := Value.bool false) kr kr ?_
         have HS85 := HS64.drop
         have HS86 := HS85.drop
         injection h with h
         subst h
         exact ⟨f61, rfl, (L8.trans (L17.trans (L27.trans (L34.trans L62)))), HS86⟩
     · have c73 : ¬ (vt58 > 0) := c73
       refine seqRwI 29 kr (decide_eq_false c73) ?_
       refine seqRwI 30 kr (decide_eq_false c73) ?_
       refine seqRwI 31 kr (decide_eq_false c73) ?_
       refine seqL12 kr ?_
       refine nl (hK71 _ _ ?_)
       refine wp_ret ?_
       refine hret _ _ ?_
       refine ends_still (v := Value.bool false) kr kr ?_
       have HS87 := HS64.drop
       have HS88 := HS87.drop
       injection h with h
       subst h
       exact ⟨f61, rfl, (L8.trans (L17.trans (L27.trans (L34.trans L62)))), HS88⟩
   · have c72 : ¬ (vt59 = 0) := c72
     refine seqRwI 26 kr (beq_eq_false_iff_ne.mpr c72) ?_
     refine seqRwI 27 kr (beq_eq_false_iff_ne.mpr c72) ?_
     refine seqL16 kr ?_
     refine nl (hK71 _ _ ?_)
     refine wp_ret ?_
     refine hret _ _ ?_
     refine ends_still (v := Value.bool false) kr kr ?_
     have HS89 := HS64.drop
     have HS90 := HS89.drop
     injection h with h
     subst h
     exact ⟨f61, rfl, (L8.trans (L17.trans (L27.trans (L34.trans L62)))), HS90⟩

set_option maxRecDepth 100000 in
set_option maxHeartbeats 4000000 in
theorem spykeep3_QueryLimits_1.calls (k : Nat) (b1 : Nat) (v3 : S_Answer) (x4 : S_Answer) {t w : World} {f : FM} {H : List Seg} (HS : St t w f ([(b1, .cells #[.int .i64 v3.ID, .int .i64 v3.Grade] 62 (0, 0))] :: H)) (rr1 : Bool) (h : spykeep3_QueryLimits_1 k v3 x4 = some rr1) :
    Calls Tryz.prog 23 #[.agg #[.int .i64 x4.ID, .int .i64 x4.Grade], .pointer (some ⟨b1, 0, none⟩)] w (fun e w' => ∃ (g : FM), e = .returned (Value.bool rr1) ∧ FM.le f g ∧ St t w' g ([(b1, .cells #[.int .i64 v3.ID, .int .i64 v3.Grade] 62 (0, 0))] :: H)) := by
 unfold spykeep3_QueryLimits_1 at h
 refine enter Tryz.func23 rfl (tm := #[.agg #[iV x4.ID, iV x4.Grade], pV b1 0, uV, uV, uV, uV, uV, uV, uV]) kr ?_
 intro B hret hnor hnp
 refine wp_seq_k fun K5 hK6 => rl ?_
 refine seqK rfl (does_box (cs := #[.int .i64 x4.ID, .int .i64 x4.Grade]) rfl (kv (.agg #[.int .i64 x4.ID, .int .i64 x4.Grade])) rfl HS ?_)
 intro b7 W8 HS9
 refine seqL1 kr ?_
 refine nl (hK6 _ _ ?_)
 refine wp_seq_k fun K11 hK12 => rl ?_
 refine seqL1 kr ?_
 refine seqK rfl (does_run (run_load rfl Tryz.underlying3 rfl (kv (.pointer (some ⟨b7, 0, none⟩))) (HS9.cell 0)) ?_)
 refine seqL1 kr ?_
 refine seqK rfl (does_run (run_load rfl Tryz.underlying3 rfl (kv (.pointer (some ⟨b1, 0, none⟩))) (HS9.u1.cell 0)) ?_)
 refine seqL2 kr ?_
 refine nl (hK12 _ _ ?_)
 refine wp_ret ?_
 refine hret _ _ ?_
 refine ends_still (v := Value.bool (x4.ID == v3.ID)) kr kr ?_
 have HS13 := HS9.drop
 injection h with h
 subst h
 exact ⟨f, rfl, FM.le.refl _, HS13⟩

set_option maxRecDepth 100000 in
set_option maxHeartbeats 4000000 in
theorem slices_IndexFunc_Answer__spykeep3_QueryLimits_1.calls (k : Nat) (b1 : Nat) (A5 : Option Addr) (c6 : Nat) (v3 : S_Answer) (s4 : List S_Answer) {t w : World} {f : FM} {H : List Seg} (HS : St t w f ([(b1, .cells #[.int .i64 v3.ID, .int .i64 v3.Grade] 62 (0, 0))] :: H)) (HR7 : SlR ty_Answer f A5 c6 s4) (rr1 : Int) (h : slices_IndexFunc_Answer__spykeep3_QueryLimits_1 k v3 s4 = some rr1) :
    Calls Tryz.prog 22 #[.slice A5 s4.length c6, .func (.func 23) #[] #[.pointer (some ⟨b1, 0, none⟩)]] w (fun e w' => ∃ (g : FM), e = .returned (Value.int .i64 rr1) ∧ FM.le f g ∧ St t w' g ([(b1, .cells #[.int .i64 v3.ID, .int .i64 v3.Grade] 62 (0, 0))] :: H)) := by
 unfold slices_IndexFunc_Answer__spykeep3_QueryLimits_1 at h
 refine enter Tryz.func22 rfl (tm := #[.slice A5 s4.length c6, .func (.func 23) #[] #[pV b1 0], uV, uV, uV, uV, uV, uV, uV, uV, uV, uV, uV, uV, uV, uV, uV, uV, uV]) kr ?_
 intro B hret hnor hnp
 refine wp_seq_k fun K8 hK9 => rl ?_
 refine seqL1 kr ?_
 refine nl (hK9 _ _ ?_)
 refine wp_seq_k (fun K10 hK11 => ?_)
 refine wp_seq_k fun K12 hK13 => rl ?_
 refine seqL3 kr ?_
 refine nl (hK13 _ _ ?_)
 refine blockK (fun B14 hx15 hn16 hr17 ho18 hp19 => ?_)
 have hq_ := bind_some h; clear h; obtain ⟨o20, hv71, h⟩ := hq_
 have JR73 : ∀ z_, some (Sum.inl z_) = some o20 → some z_ = some rr1 := by
  intro z_ e_; injection e_ with e_; subst e_; exact h
 have J72 : ∀ (f66 : FM) (j70 : Nat → Value) (W68 : World) (a_ : Act), FM.le f f66 → some (Sum.inr ()) = some o20 → St t W68 f66 ([(b1, .cells #[.int .i64 v3.ID, .int .i64 v3.Grade] 62 (0, 0))] :: H) → a_ = ⟨#[.slice A5 s4.length c6, .func (.func 23) #[] #[pV b1 0], uV, uV, (j70 0), (j70 1), .slice A5 s4.length c6, iV (s4.length : Int), (j70 2), (j70 3), (j70 4), (j70 5), (j70 6), (j70 7), (j70 8), (j70 9), (j70 10), (j70 11), (j70 12)], []⟩ → K10 a_ W68 := by
  intro f66 j70 W68 a_ L67 hj74 HS69  hfr_; subst hfr_
  injection hj74 with hj74; subst hj74; try dsimp only at h
  simp only [Sum.elim_inr] at h
  refine hK11 _ _ ?_
  refine wp_seq_k fun K75 hK76 => rl ?_
  refine seqL1 kr ?_
  refine nl (hK76 _ _ ?_)
  refine wp_ret ?_
  refine hret _ _ ?_
  refine ends_still (v := Value.int .i64 (-1)) kr kr ?_
  injection h with h
  subst h
  exact ⟨f66, rfl, L67, HS69⟩
 clear h; have h := hv71; clear hv71
 refine loopK (fun n_ a_ w_ => ∃ (f24 : FM) (x29 : Int) (j28 : Nat → Value), FM.le f f24 ∧ St t w_ f24 ([(b1, .cells #[.int .i64 v3.ID, .int .i64 v3.Grade] 62 (0, 0))] :: H) ∧ slices_IndexFunc_Answer__spykeep3_QueryLimits_1.l0 k s4 v3 n_ x29 = some o20 ∧ a_ = ⟨#[.slice A5 s4.length c6, .func (.func 23) #[] #[pV b1 0], uV, uV, (j28 0), (j28 1), .slice A5 s4.length c6, iV (s4.length : Int), iV x29, (j28 2), (j28 3), (j28 4), (j28 5), (j28 6), (j28 7), (j28 8), (j28 9), (j28 10), (j28 11)], []⟩) k ⟨f, 0, (jL [iV 0]), fL, HS, h, kr⟩ ?_
 clear h
 rintro n23 _ W26 ⟨f24, x29, j28, L25, HS27, h, rfl⟩ K21 hK22
 obtain _ | n23 := n23
 · exact nomatch h
 simp only [slices_IndexFunc_Answer__spykeep3_QueryLimits_1.l0] at h
 refine wp_seq_k fun K30 hK31 => rl ?_
 refine seqL1 kr ?_
 refine nl (hK31 _ _ ?_)
 refine wp_seq_k (fun K32 hK33 => ?_)
 have hq_ := ite_some h; clear h; rcases hq_ with ⟨c35, h⟩ | ⟨c35, h⟩
 · have c35 : x29 < (s4.length : Int) := c35
   refine wpRwI 9 kr (decide_eq_true c35) ?_
   refine condT kr ?_
   refine wp_skip ?_
   refine hK33 _ _ ?_
   refine wp_seq_k (fun K36 hK37 => ?_)
   refine blockK (fun B38 hx39 hn40 hr41 ho42 hp43 => ?_)
   refine wp_seq_k fun K45 hK46 => rl ?_
   refine seqL2 kr ?_
   refine nl (hK46 _ _ ?_)
   refine wp_seq_k fun K47 hK48 => rl ?_
   have hq_ := guard_some h; clear h; obtain ⟨c49, h⟩ := hq_
   have c49 : 0 ≤ x29 := c49
   obtain ⟨b53, of54, cs50, hA55, hr51, hc52⟩ := (HR7.mono L25).at (i := x29) c49 c35
   obtain rfl := hr51
   refine seqL3 kr ?_
   refine seqK rfl (does_run (run_indexE hA55 (sz := 2) rfl Tryz.underlying57 kr (kv (.slice A5 s4.length c6)) (kv (.int .i64 x29)) c49 c35 W26) ?_)
   refine seqK rfl (does_run (run_loadN (n := 2) rfl Tryz.underlying62 rfl kr (kv (.pointer (some ⟨b53, of54 + (x29 : Int).toNat * 2, none⟩))) (cs := [.int .i64 ((rd s4 x29).ID), .int .i64 ((rd s4 x29).Grade)]) rfl (fun j_ hj_ => ((hc52 fL HS27) j_ hj_))) ?_)
   have hq_ := bind_some h; clear h; obtain ⟨vt56, hc57, h⟩ := hq_
   refine seqK rfl (does_call (f := 23) (args := #[.agg #[.int .i64 ((rd s4 x29).ID), .int .i64 ((rd s4 x29).Grade)], .pointer (some ⟨b1, 0, none⟩)]) kr (spykeep3_QueryLimits_1.calls k b1 v3 (rd s4 x29) HS27 vt56 hc57) ?_)
   rintro _ W60 ⟨f58, rfl, L59, HS61⟩
   refine ⟨_, rfl, ?_⟩
   refine nl (hK48 _ _ ?_)
   have hq_ := ite_some h; clear h; rcases hq_ with ⟨c63, h⟩ | ⟨c63, h⟩
   · have c63 : vt56 = true := c63
     refine wpRwI 16 kr c63 ?_
     refine condT kr ?_
     refine wp_seq_k fun K64 hK65 => rl ?_
     refine seqL2 kr ?_
     refine nl (hK65 _ _ ?_)
     refine wp_ret ?_
     refine hr41 _ _ ?_
     refine hr17 _ _ ?_
     refine hret _ _ ?_
     refine ends_still (v := Value.int .i64 x29) kr kr ?_
     replace h := JR73 _ h
     injection h with h
     subst h
     exact ⟨f58, rfl, (L25.trans L59), HS61⟩
   · have c63 : ¬ (vt56 = true) := c63
     refine wpRwI 16 kr (Bool.eq_false_iff.mpr c63) ?_
     refine condF kr ?_
     refine wp_skip ?_
     refine hn40 _ _ ?_
     refine hK37 _ _ ?_
     refine rl ?_
     refine seqL2 kr ?_
     refine nl ?_
     refine hK22 n23 _ _ (Nat.lt_succ_self _) ?_
     exact ⟨f58, (w64 (x29 + 1)), (jL [(j28 0), iV x29, tV, iV x29, .func (.func 23) #[] #[.pointer (some ⟨b1, 0, none⟩)], .slice A5 s4.length c6, iV x29, .pointer (some ⟨b53, of54 + (x29 : Int).toNat * 2, none⟩), .agg #[.int .i64 ((rd s4 x29).ID), .int .i64 ((rd s4 x29).Grade)], fV, (j28 10), iV (w64 (x29 + 1))]), (L25.trans L59), HS61, h, kr⟩
 · have c35 : ¬ (x29 < (s4.length : Int)) := c35
   refine wpRwI 9 kr (decide_eq_false c35) ?_
   refine condF kr ?_
   refine wp_exit ?_
   refine hx15 _ _ ?_
   exact J72 f24 (jL [(j28 0), (j28 1), iV x29, fV, (j28 3), (j28 4), (j28 5), (j28 6), (j28 7), (j28 8), (j28 9), (j28 10), (j28 11)]) W26 _ L25 h HS27 kr

set_option maxRecDepth 100000 in
set_option maxHeartbeats 4000000 in
theorem spykeep3_QueryLimits.calls (k : Nat) (A2 : Option Addr) (c3 : Nat) (l1 : List Int) {t w : World} {f : FM} {H : List Seg} (HS : St t w f (H)) (HR4 : SlR (tInt .i64) f A2 c3 l1) (rr1 : Bool) (h : spykeep3_QueryLimits k l1 = some rr1) :
    Calls Tryz.prog 5 #[.slice A2 l1.length c3] w (fun e w' => ∃ (g : FM), e = .returned (Value.bool rr1) ∧ FM.le f g ∧ St t w' g (H)) := by
 unfold spykeep3_QueryLimits at h
 refine enter Tryz.func5 rfl (tm := #[.slice A2 l1.length c3, uV, uV, uV, uV, uV, uV, uV, uV, uV, uV, uV, uV, uV, uV, uV, uV, uV, uV, uV, uV, uV, uV, uV, uV, uV, uV, uV, uV, uV, uV, uV, uV, uV, uV, uV, uV, uV, uV, uV, uV, uV, uV, uV, uV, uV, uV, uV, uV, uV, uV, uV, uV, uV, uV, uV, uV, uV, uV, uV, uV, uV, uV, uV, uV, uV, uV, uV, uV, uV, uV, uV, uV, uV, uV, uV, uV, uV, uV, uV, uV, uV, uV, uV, uV, uV, uV, uV, uV, uV, uV, uV, uV]) kr ?_
 intro B hret hnor hnp
 refine wp_seq_k fun K5 hK6 => rl ?_
 refine seqL1 kr ?_
 refine nl (hK6 _ _ ?_)
 refine wp_seq_k fun K7 hK8 => rl ?_
 refine seqL2 kr ?_
 refine seqK rfl (does_box (cs := #[.slice A2 l1.length c3, .int .i64 0]) rfl (kv (.agg #[.slice A2 l1.length c3, .int .i64 0])) rfl HS ?_)
 intro b9 W10 HS11
 refine seqL1 kr ?_
 refine nl (hK8 _ _ ?_)
 refine wp_seq_k fun K13 hK14 => rl ?_
 have hq_ := bind_some h; clear h; obtain ⟨⟨vt15, vt16⟩, hc17, h⟩ := hq_
 refine seqL1 kr ?_
 refine seqK rfl (does_call (f := 17) (args := #[.pointer (some ⟨b9, 0, none⟩), .int .i64 12]) kr (spymake_Stream_Rows.calls k b9 A2 c3 (⟨l1, 0⟩ : S_Stream) 12 HS11 HR4 vt15 vt16 hc17) ?_)
 rintro _ W20 ⟨f18, A22, c23, s24, rfl, L19, HS21, HO25⟩
 refine ⟨_, rfl, ?_⟩
 refine seqL1 kr ?_
 refine nl (hK14 _ _ ?_)
 refine wp_seq_k fun K27 hK28 => rl ?_
 obtain ⟨f29, L30, HS31, HR32, th33⟩ := HO25.lend HS21
 have hq_ := bind_some h; clear h; obtain ⟨⟨vt34, vt35⟩, hc36, h⟩ := hq_
 refine seqL2 kr ?_
 refine seqK rfl (does_call (f := 18) (args := #[.pointer (some ⟨b9, 0, none⟩), .slice A22 vt15.length c23]) kr (spykeep3_Ask.calls k b9 A2 c3 A22 c23 (⟨l1, vt16⟩ : S_Stream) vt15 HS31 (HR4.mono (L19.trans L30)) HR32 vt34 vt35 hc36) ?_)
 rintro _ W39 ⟨f37, A41, c42, s43, rfl, L38, HS40, HO44⟩
 refine ⟨_, rfl, ?_⟩
 obtain ⟨f46, L47, HS48⟩ := th33 L38 HS40
 replace HO44 := HO44.flat (g := f46) (fun _ _ _ _ h_ => h_)
 refine seqK rfl (does_alloc (z := Value.agg #[.slice none 0 0, .int .i64 0, .int .i64 0, .int .i64 0, .int .i64 0]) (cs := #[.slice none 0 0, .int .i64 0, .int .i64 0, .int .i64 0, .int .i64 0]) rfl kr rfl HS48 ?_)
 intro b49 W50 HS51
 refine seqK rfl (does_storeA (vs := [.slice A41 vt34.Cones.length c42, .int .i64 vt34.From, .int .i64 vt34.To, .int .i64 vt34.Least, .int .i64 vt34.Ban]) rfl kr kr kr rfl (ones rfl) HS51 kr ?_)
 intro W53 HS54
 refine nl (hK28 _ _ ?_)
 refine wp_seq_k fun K55 hK56 => rl ?_
 refine seqK rfl (does_run (run_loadN (n := 5) rfl Tryz.underlying51 rfl kr (kv (.pointer (some ⟨b49, 0, none⟩))) (cs := [.slice A41 vt34.Cones.length c42, .int .i64 vt34.From, .int .i64 vt34.To, .int .i64 vt34.Least, .int .i64 vt34.Ban]) rfl (HS54.cells 0 5 _ rfl)) ?_)
 refine seqK rfl (does_alloc (z := Value.agg #[.slice none 0 0, .int .i64 0, .int .i64 0, .int .i64 0, .int .i64 0]) (cs := #[.slice none 0 0, .int .i64 0, .int .i64 0, .int .i64 0, .int .i64 0]) rfl kr rfl HS54 ?_)
 intro b57 W58 HS59
 refine seqK rfl (does_storeA (vs := [.slice A41 vt34.Cones.length c42, .int .i64 vt34.From, .int .i64 vt34.To, .int .i64 vt34.Least, .int .i64 vt34.Ban]) rfl kr kr kr rfl (ones rfl) HS59 kr ?_)
 intro W61 HS62
 refine nl (hK56 _ _ ?_)
 refine wp_seq_k fun K63 hK64 => rl ?_
 refine seqL1 kr ?_
 refine seqK rfl (does_run (run_load rfl Tryz.underlying47 rfl (kv (.pointer (some ⟨b49, 0, none⟩))) (HS62.u1.cell 0)) ?_)
 have HS65 := HS62.u3
 obtain ⟨f66, L67, HS68, HR69, th70⟩ := HO44.lend HS65
 have hq_ := bind_some h; clear h; obtain ⟨vt71, hc72, h⟩ := hq_
 refine seqK rfl (does_call (f := 19) (args := #[.slice A41 vt34.Cones.length c42]) kr (slices_Clone_Cone.calls k A41 c42 vt34.Cones HS68 HR69 vt71 hc72) ?_)
 rintro _ W75 ⟨f73, A77, c78, s79, rfl, L74, HS76, HO80⟩
 refine ⟨_, rfl, ?_⟩
 obtain ⟨f82, L83, HS84⟩ := th70 L74 HS76
 replace HO80 := HO80.flat (g := f82) (fun _ _ _ _ h_ => h_)
 have HS85 := HS84.u5
 have hq_ := bind_some h; clear h; obtain ⟨⟨vt86, vt87⟩, hc88, h⟩ := hq_
 refine seqL1 kr ?_
 refine seqK rfl (does_call (f := 13) (args := #[.pointer (some ⟨b9, 0, none⟩)]) kr (spymake_Stream_Vec.calls k b9 A2 c3 (⟨l1, vt35⟩ : S_Stream) HS85 (HR4.mono (L19.trans (L47.trans L83))) vt86 vt87 hc88) ?_)
 rintro _ W91 ⟨f89, rfl, L90, HS92⟩
 refine ⟨_, rfl, ?_⟩
 have hq_ := bind_some h; clear h; obtain ⟨⟨vt93, vt94⟩, hc95, h⟩ := hq_
 refine seqL1 kr ?_
 refine seqK rfl (does_call (f := 20) (args := #[.pointer (some ⟨b9, 0, none⟩), .int .i64 1073741824]) kr (spymake_Stream_Next.calls k b9 A2 c3 (⟨l1, vt87⟩ : S_Stream) 1073741824 HS92 (HR4.mono (L19.trans (L47.trans (L83.trans L90)))) vt93 vt94 hc95) ?_)
 rintro _ W98 ⟨f96, rfl, L97, HS99⟩
 refine ⟨_, rfl, ?_⟩
 refine seqL1 kr ?_
 refine seqK rfl (does_lit (e := ty_Cone) (E := 55) (vs := #[(0, Value.agg #[.int .i64 vt86.X, .int .i64 vt86.Y, .int .i64 vt86.Z, .int .i64 vt93])]) (cs := #[.int .i64 vt86.X, .int .i64 vt86.Y, .int .i64 vt86.Z, .int .i64 vt93]) (xs := ([(⟨vt86, vt93⟩ : S_Cone)] : List S_Cone)) rfl Tryz.underlying47 kr kr ⟨[.int .i64 vt86.X, .int .i64 vt86.Y, .int .i64 vt86.Z, .int .i64 vt93], _, rfl, rfl, rfl⟩ rfl HS99 ?_ (by decide))
 intro b100 W101 s102 HS103 _ HO104
 have hq_ := guard_some h; clear h; obtain ⟨c106, h⟩ := hq_
 have c106 : (vt71.length + 1) * 32 ≤ 140737488355328 := c106
 have HS108 := HS103.u3.u1
 refine seqK rfl (does_append1 (e := ty_Cone) (E := 55) (xs := vt71) (ys := ([(⟨vt86, vt93⟩ : S_Cone)] : List S_Cone)) rfl (kv (.slice A77 vt71.length c78)) (kv (.slice (some ⟨b100, 0, none⟩) ([(⟨vt86, vt93⟩ : S_Cone)] : List S_Cone).length 1)) Tryz.underlying47 inf55 (HO80.mono (L90.trans L97)) HO104 HS108 c106 (lim63 c106 (by decide)) ?_)
 intro A109 c110 s111 W112 HS113 HO114
 have HS115 := HS113.u3
 refine seqL1 kr ?_
 refine seqK rfl (does_store (n := 1) (vs := [.slice A109 (vt71 ++ ([(⟨vt86, vt93⟩ : S_Cone)] : List S_Cone)).length c110]) (cs' := #[.slice A109 (vt71 ++ ([(⟨vt86, vt93⟩ : S_Cone)] : List S_Cone)).length c110, .int .i64 vt34.From, .int .i64 vt34.To, .int .i64 vt34.Least, .int .i64 vt34.Ban]) rfl kr (kv (.pointer (some ⟨b57, 0, none⟩))) (kv (.slice A109 (vt71 ++ ([(⟨vt86, vt93⟩ : S_Cone)] : List S_Cone)).length c110)) rfl rfl (ones rfl) HS115 (Nat.le_of_ble_eq_true rfl) kr ?_)
 intro W116 HS117
 refine nl (hK64 _ _ ?_)
 refine wp_seq_k (fun K118 hK119 => ?_)
 have HS125 := HS117.u5.u5.u5.u4.u5.u5
 refine heldG (S := Sg t f96 (s111 :: s43 :: [(b49, .cells #[.slice A41 vt34.Cones.length c42, .int .i64 vt34.From, .int .i64 vt34.To, .int .i64 vt34.Least, .int .i64 vt34.Ban] 51 (0, 0))] :: s24 :: H) [(9, [(b57, .cells #[.slice A109 (vt71 ++ ([(⟨vt86, vt93⟩ : S_Cone)] : List S_Cone)).length c110, .int .i64 vt34.From, .int .i64 vt34.To, .int .i64 vt34.Least, .int .i64 vt34.Ban] 51 (0, 0))]), (5, [(b9, .cells #[.slice A2 l1.length c3, .int .i64 vt94] 26 (0, 0))])]) (n := 10) kr rfl HS125 ?_
 intro W126 HS127
 refine takeGL [0] (n := 10) (fuel := 9) #[true, false, false, false, false, false, false, false, false, false] rfl kr kr kr hnp (Sg.g2 (Sx.of [[(b57, .cells #[.slice A109 (vt71 ++ ([(⟨vt86, vt93⟩ : S_Cone)] : List S_Cone)).length c110, .int .i64 vt34.From, .int .i64 vt34.To, .int .i64 vt34.Least, .int .i64 vt34.Ban] 51 (0, 0))], [(b9, .cells #[.slice A2 l1.length c3, .int .i64 vt94] 26 (0, 0))]] fL HS127) (fun _ => St.only [] HS127 fL) (fun _ => St.only [[(b57, .cells #[.slice A109 (vt71 ++ ([(⟨vt86, vt93⟩ : S_Cone)] : List S_Cone)).length c110, .int .i64 vt34.From, .int .i64 vt34.To, .int .i64 vt34.Least, .int .i64 vt34.Ban] 51 (0, 0))]] HS127 fL)) ?_
 refine takeGQ 1 [9] rfl kr kr kr kr kr kr hnp (Sg.g2 (Sx.of [[(b57, .cells #[.slice A109 (vt71 ++ ([(⟨vt86, vt93⟩ : S_Cone)] : List S_Cone)).length c110, .int .i64 vt34.From, .int .i64 vt34.To, .int .i64 vt34.Least, .int .i64 vt34.Ban] 51 (0, 0))], [(b9, .cells #[.slice A2 l1.length c3, .int .i64 vt94] 26 (0, 0))]] fL HS127) (fun _ => St.only [] HS127 fL) (fun _ => St.only [[(b57, .cells #[.slice A109 (vt71 ++ ([(⟨vt86, vt93⟩ : S_Cone)] : List S_Cone)).length c110, .int .i64 vt34.From, .int .i64 vt34.To, .int .i64 vt34.Least, .int .i64 vt34.Ban] 51 (0, 0))]] HS127 fL)) (fun w_ hw_ => by obtain ⟨g_, hl_, hS_⟩ := hw_.seg (j := 9) (s := [(b57, .cells #[.slice A109 (vt71 ++ ([(⟨vt86, vt93⟩ : S_Cone)] : List S_Cone)).length c110, .int .i64 vt34.From, .int .i64 vt34.To, .int .i64 vt34.Least, .int .i64 vt34.Ban] 51 (0, 0))]) (by simp) (by simp); exact run_load rfl Tryz.underlying48 rfl (kv (.pointer (some ⟨b57, 2, none⟩))) (hS_.cell 2)) ?_
 refine takeGL [2] (n := 8) (fuel := 7) #[true, true, true, false, false, false, false, false, false, false] rfl kr kr kr hnp (Sg.g2 (Sx.of [[(b57, .cells #[.slice A109 (vt71 ++ ([(⟨vt86, vt93⟩ : S_Cone)] : List S_Cone)).length c110, .int .i64 vt34.From, .int .i64 vt34.To, .int .i64 vt34.Least, .int .i64 vt34.Ban] 51 (0, 0))], [(b9, .cells #[.slice A2 l1.length c3, .int .i64 vt94] 26 (0, 0))]] fL HS127) (fun _ => St.only [] HS127 fL) (fun _ => St.only [[(b57, .cells #[.slice A109 (vt71 ++ ([(⟨vt86, vt93⟩ : S_Cone)] : List S_Cone)).length c110, .int .i64 vt34.From, .int .i64 vt34.To, .int .i64 vt34.Least, .int .i64 vt34.Ban] 51 (0, 0))]] HS127 fL)) ?_
 refine takeGQ 3 [9] rfl kr kr kr kr kr kr hnp (Sg.g2 (Sx.of [[(b57, .cells #[.slice A109 (vt71 ++ ([(⟨vt86, vt93⟩ : S_Cone)] : List S_Cone)).length c110, .int .i64 vt34.From, .int .i64 vt34.To, .int .i64 vt34.Least, .int .i64 vt34.Ban] 51 (0, 0))], [(b9, .cells #[.slice A2 l1.length c3, .int .i64 vt94] 26 (0, 0))]] fL HS127) (fun _ => St.only [] HS127 fL) (fun _ => St.only [[(b57, .cells #[.slice A109 (vt71 ++ ([(⟨vt86, vt93⟩ : S_Cone)] : List S_Cone)).length c110, .int .i64 vt34.From, .int .i64 vt34.To, .int .i64 vt34.Least, .int .i64 vt34.Ban] 51 (0, 0))]] HS127 fL)) (fun w_ hw_ => by obtain ⟨g_, hl_, hS_⟩ := hw_.seg (j := 9) (s := [(b57, .cells #[.slice A109 (vt71 ++ ([(⟨vt86, vt93⟩ : S_Cone)] : List S_Cone)).length c110, .int .i64 vt34.From, .int .i64 vt34.To, .int .i64 vt34.Least, .int .i64 vt34.Ban] 51 (0, 0))]) (by simp) (by simp); exact run_load rfl Tryz.underlying48 rfl (kv (.pointer (some ⟨b57, 1, none⟩))) (hS_.cell 1)) ?_
 refine takeGL [4] (n := 6) (fuel := 5) #[true, true, true, true, true, false, false, false, false, false] rfl kr kr kr hnp (Sg.g2 (Sx.of [[(b57, .cells #[.slice A109 (vt71 ++ ([(⟨vt86, vt93⟩ : S_Cone)] : List S_Cone)).length c110, .int .i64 vt34.From, .int .i64 vt34.To, .int .i64 vt34.Least, .int .i64 vt34.Ban] 51 (0, 0))], [(b9, .cells #[.slice A2 l1.length c3, .int .i64 vt94] 26 (0, 0))]] fL HS127) (fun _ => St.only [] HS127 fL) (fun _ => St.only [[(b57, .cells #[.slice A109 (vt71 ++ ([(⟨vt86, vt93⟩ : S_Cone)] : List S_Cone)).length c110, .int .i64 vt34.From, .int .i64 vt34.To, .int .i64 vt34.Least, .int .i64 vt34.Ban] 51 (0, 0))]] HS127 fL)) ?_
 have HS128 := HS127.u1
 have hq_ := bind_some h; clear h; obtain ⟨⟨vt129, vt130⟩, hc131, h⟩ := hq_
 refine takeGE 5 kr rfl kr (does_call (f := 20) (args := #[.pointer (some ⟨b9, 0, none⟩), .int .i64 500]) kr (spymake_Stream_Next.calls k b9 A2 c3 (⟨l1, vt94⟩ : S_Stream) 500 HS128 (HR4.mono (L19.trans (L47.trans (L83.trans (L90.trans L97))))) vt129 vt130 hc131) ?_)
 rintro _ W134 ⟨f132, rfl, L133, HS135⟩
 refine ⟨_, rfl, ?_⟩
 refine ⟨(Sg.g2 (Sx.of [[(b9, .cells #[.slice A2 l1.length c3, .int .i64 vt130] 26 (0, 0))], [(b57, .cells #[.slice A109 (vt71 ++ ([(⟨vt86, vt93⟩ : S_Cone)] : List S_Cone)).length c110, .int .i64 vt34.From, .int .i64 vt34.To, .int .i64 vt34.Least, .int .i64 vt34.Ban] 51 (0, 0))]] L133 HS135) (fun _ => St.only [[(b9, .cells #[.slice A2 l1.length c3, .int .i64 vt130] 26 (0, 0))]] HS135 L133) (fun hl_ => Bool.noConfusion (show true = false from hl_))), ?_⟩
 refine takeGL [6, 7, 8] (n := 4) (fuel := 1) #[true, true, true, true, true, true, true, true, true, false] rfl kr kr kr hnp (Sg.g2 (Sx.of [[(b9, .cells #[.slice A2 l1.length c3, .int .i64 vt130] 26 (0, 0))], [(b57, .cells #[.slice A109 (vt71 ++ ([(⟨vt86, vt93⟩ : S_Cone)] : List S_Cone)).length c110, .int .i64 vt34.From, .int .i64 vt34.To, .int .i64 vt34.Least, .int .i64 vt34.Ban] 51 (0, 0))]] L133 HS135) (fun _ => St.only [[(b9, .cells #[.slice A2 l1.length c3, .int .i64 vt130] 26 (0, 0))]] HS135 L133) (fun hl_ => Bool.noConfusion (show true = false from hl_))) ?_
 have HS136 := HS135.u1
 refine takeGE 9 kr rfl kr (does_store (n := 1) (vs := [.int .i64 (mn vt34.To (w64 (vt34.From + vt129)))]) (cs' := #[.slice A109 (vt71 ++ ([(⟨vt86, vt93⟩ : S_Cone)] : List S_Cone)).length c110, .int .i64 (mn vt34.To (w64 (vt34.From + vt129))), .int .i64 vt34.To, .int .i64 vt34.Least, .int .i64 vt34.Ban]) rfl kr (kv (.pointer (some ⟨b57, 1, none⟩))) (kv (.int .i64 (mn vt34.To (w64 (vt34.From + vt129))))) rfl rfl (ones rfl) HS136 (Nat.le_of_ble_eq_true rfl) kr ?_)
 intro W137 HS138
 refine ⟨(Sg.g2 (Sx.of [[(b57, .cells #[.slice A109 (vt71 ++ ([(⟨vt86, vt93⟩ : S_Cone)] : List S_Cone)).length c110, .int .i64 (mn vt34.To (w64 (vt34.From + vt129))), .int .i64 vt34.To, .int .i64 vt34.Least, .int .i64 vt34.Ban] 51 (0, 0))], [(b9, .cells #[.slice A2 l1.length c3, .int .i64 vt130] 26 (0, 0))]] L133 HS138) (fun hl_ => Bool.noConfusion (show true = false from hl_)) (fun hl_ => Bool.noConfusion (show true = false from hl_))), ?_⟩
 refine doneG kr ?_ _
 refine hK119 _ _ ?_
 refine wp_seq_k (fun K139 hK140 => ?_)
 have HS146 := HS138.u5.u5.u5.u5.u5.u5
 refine heldG (S := Sg t f132 (s111 :: s43 :: [(b49, .cells #[.slice A41 vt34.Cones.length c42, .int .i64 vt34.From, .int .i64 vt34.To, .int .i64 vt34.Least, .int .i64 vt34.Ban] 51 (0, 0))] :: s24 :: H) [(6, [(b57, .cells #[.slice A109 (vt71 ++ ([(⟨vt86, vt93⟩ : S_Cone)] : List S_Cone)).length c110, .int .i64 (mn vt34.To (w64 (vt34.From + vt129))), .int .i64 vt34.To, .int .i64 vt34.Least, .int .i64 vt34.Ban] 51 (0, 0))]), (3, [(b9, .cells #[.slice A2 l1.length c3, .int .i64 vt130] 26 (0, 0))])]) (n := 7) kr rfl HS146 ?_
 intro W147 HS148
 refine takeGL [0] (n := 7) (fuel := 6) #[true, false, false, false, false, false, false] rfl kr kr kr hnp (Sg.g2 (Sx.of [[(b57, .cells #[.slice A109 (vt71 ++ ([(⟨vt86, vt93⟩ : S_Cone)] : List S_Cone)).length c110, .int .i64 (mn vt34.To (w64 (vt34.From + vt129))), .int .i64 vt34.To, .int .i64 vt34.Least, .int .i64 vt34.Ban] 51 (0, 0))], [(b9, .cells #[.slice A2 l1.length c3, .int .i64 vt130] 26 (0, 0))]] fL HS148) (fun _ => St.only [] HS148 fL) (fun _ => St.only [[(b57, .cells #[.slice A109 (vt71 ++ ([(⟨vt86, vt93⟩ : S_Cone)] : List S_Cone)).length c110, .int .i64 (mn vt34.To (w64 (vt34.From + vt129))), .int .i64 vt34.To, .int .i64 vt34.Least, .int .i64 vt34.Ban] 51 (0, 0))]] HS148 fL)) ?_
 refine takeGQ 1 [6] rfl kr kr kr kr kr kr hnp (Sg.g2 (Sx.of [[(b57, .cells #[.slice A109 (vt71 ++ ([(⟨vt86, vt93⟩ : S_Cone)] : List S_Cone)).length c110, .int .i64 (mn vt34.To (w64 (vt34.From + vt129))), .int .i64 vt34.To, .int .i64 vt34.Least, .int .i64 vt34.Ban] 51 (0, 0))], [(b9, .cells #[.slice A2 l1.length c3, .int .i64 vt130] 26 (0, 0))]] fL HS148) (fun _ => St.only [] HS148 fL) (fun _ => St.only [[(b57, .cells #[.slice A109 (vt71 ++ ([(⟨vt86, vt93⟩ : S_Cone)] : List S_Cone)).length c110, .int .i64 (mn vt34.To (w64 (vt34.From + vt129))), .int .i64 vt34.To, .int .i64 vt34.Least, .int .i64 vt34.Ban] 51 (0, 0))]] HS148 fL)) (fun w_ hw_ => by obtain ⟨g_, hl_, hS_⟩ := hw_.seg (j := 6) (s := [(b57, .cells #[.slice A109 (vt71 ++ ([(⟨vt86, vt93⟩ : S_Cone)] : List S_Cone)).length c110, .int .i64 (mn vt34.To (w64 (vt34.From + vt129))), .int .i64 vt34.To, .int .i64 vt34.Least, .int .i64 vt34.Ban] 51 (0, 0))]) (by simp) (by simp); exact run_load rfl Tryz.underlying49 rfl (kv (.pointer (some ⟨b57, 3, none⟩))) (hS_.cell 3)) ?_
 refine takeGL [2] (n := 5) (fuel := 4) #[true, true, true, false, false, false, false] rfl kr kr kr hnp (Sg.g2 (Sx.of [[(b57, .cells #[.slice A109 (vt71 ++ ([(⟨vt86, vt93⟩ : S_Cone)] : List S_Cone)).length c110, .int .i64 (mn vt34.To (w64 (vt34.From + vt129))), .int .i64 vt34.To, .int .i64 vt34.Least, .int .i64 vt34.Ban] 51 (0, 0))], [(b9, .cells #[.slice A2 l1.length c3, .int .i64 vt130] 26 (0, 0))]] fL HS148) (fun _ => St.only [] HS148 fL) (fun _ => St.only [[(b57, .cells #[.slice A109 (vt71 ++ ([(⟨vt86, vt93⟩ : S_Cone)] : List S_Cone)).length c110, .int .i64 (mn vt34.To (w64 (vt34.From + vt129))), .int .i64 vt34.To, .int .i64 vt34.Least, .int .i64 vt34.Ban] 51 (0, 0))]] HS148 fL)) ?_
 have HS149 := HS148.u1
 have hq_ := bind_some h; clear h; obtain ⟨⟨vt150, vt151⟩, hc152, h⟩ := hq_
 refine takeGE 3 kr rfl kr (does_call (f := 20) (args := #[.pointer (some ⟨b9, 0, none⟩), .int .i64 50]) kr (spymake_Stream_Next.calls k b9 A2 c3 (⟨l1, vt130⟩ : S_Stream) 50 HS149 (HR4.mono (L19.trans (L47.trans (L83.trans (L90.trans (L97.trans L133)))))) vt150 vt151 hc152) ?_)
 rintro _ W155 ⟨f153, rfl, L154, HS156⟩
 refine ⟨_, rfl, ?_⟩
 refine ⟨(Sg.g2 (Sx.of [[(b9, .cells #[.slice A2 l1.length c3, .int .i64 vt151] 26 (0, 0))], [(b57, .cells #[.slice A109 (vt71 ++ ([(⟨vt86, vt93⟩ : S_Cone)] : List S_Cone)).length c110, .int .i64 (mn vt34.To (w64 (vt34.From + vt129))), .int .i64 vt34.To, .int .i64 vt34.Least, .int .i64 vt34.Ban] 51 (0, 0))]] L154 HS156) (fun _ => St.only [[(b9, .cells #[.slice A2 l1.length c3, .int .i64 vt151] 26 (0, 0))]] HS156 L154) (fun hl_ => Bool.noConfusion (show true = false from hl_))), ?_⟩
 refine takeGL [4, 5] (n := 3) (fuel := 1) #[true, true, true, true, true, true, false] rfl kr kr kr hnp (Sg.g2 (Sx.of [[(b9, .cells #[.slice A2 l1.length c3, .int .i64 vt151] 26 (0, 0))], [(b57, .cells #[.slice A109 (vt71 ++ ([(⟨vt86, vt93⟩ : S_Cone)] : List S_Cone)).length c110, .int .i64 (mn vt34.To (w64 (vt34.From + vt129))), .int .i64 vt34.To, .int .i64 vt34.Least, .int .i64 vt34.Ban] 51 (0, 0))]] L154 HS156) (fun _ => St.only [[(b9, .cells #[.slice A2 l1.length c3, .int .i64 vt151] 26 (0, 0))]] HS156 L154) (fun hl_ => Bool.noConfusion (show true = false from hl_))) ?_
 have HS157 := HS156.u1
 refine takeGE 6 kr rfl kr (does_store (n := 1) (vs := [.int .i64 (w64 (vt34.Least + vt150))]) (cs' := #[.slice A109 (vt71 ++ ([(⟨vt86, vt93⟩ : S_Cone)] : List S_Cone)).length c110, .int .i64 (mn vt34.To (w64 (vt34.From + vt129))), .int .i64 vt34.To, .int .i64 (w64 (vt34.Least + vt150)), .int .i64 vt34.Ban]) rfl kr (kv (.pointer (some ⟨b57, 3, none⟩))) (kv (.int .i64 (w64 (vt34.Least + vt150)))) rfl rfl (ones rfl) HS157 (Nat.le_of_ble_eq_true rfl) kr ?_)
 intro W158 HS159
 refine ⟨(Sg.g2 (Sx.of [[(b57, .cells #[.slice A109 (vt71 ++ ([(⟨vt86, vt93⟩ : S_Cone)] : List S_Cone)).length c110, .int .i64 (mn vt34.To (w64 (vt34.From + vt129))), .int .i64 vt34.To, .int .i64 (w64 (vt34.Least + vt150)), .int .i64 vt34.Ban] 51 (0, 0))], [(b9, .cells #[.slice A2 l1.length c3, .int .i64 vt151] 26 (0, 0))]] L154 HS159) (fun hl_ => Bool.noConfusion (show true = false from hl_)) (fun hl_ => Bool.noConfusion (show true = false from hl_))), ?_⟩
 refine doneG kr ?_ _
 refine hK140 _ _ ?_
 refine wp_seq_k fun K160 hK161 => rl ?_
 refine seqL1 kr ?_
 refine seqK rfl (does_run (run_loadN (n := 5) rfl Tryz.underlying51 rfl kr (kv (.pointer (some ⟨b49, 0, none⟩))) (cs := [.slice A41 vt34.Cones.length c42, .int .i64 vt34.From, .int .i64 vt34.To, .int .i64 vt34.Least, .int .i64 vt34.Ban]) rfl (HS159.u4.cells 0 5 _ rfl)) ?_)
 have HS162 := HS159.u5
 obtain ⟨f163, L164, HS165, HR166, th167⟩ := (HO25.mono (L47.trans (L83.trans (L90.trans (L97.trans (L133.trans L154)))))).lend HS162
 have HS168 := HS165.u3
 obtain ⟨f169, L170, HS171, HR172, th173⟩ := (HO44.mono (L83.trans (L90.trans (L97.trans (L133.trans (L154.trans L164)))))).lend HS168
 have hq_ := bind_some h; clear h; obtain ⟨⟨vt174, vt175⟩, hc176, h⟩ := hq_
 refine seqK rfl (does_call (f := 21) (args := #[.slice A22 vt15.length c23, .agg #[.slice A41 vt34.Cones.length c42, .int .i64 vt34.From, .int .i64 vt34.To, .int .i64 vt34.Least, .int .i64 vt34.Ban]]) kr (query_Scan.calls k A22 c23 A41 c42 vt15 vt34 HS171 (HR166.mono L170) HR172 vt174 vt175 hc176) ?_)
 rintro _ W179 ⟨f177, A181, c182, s183, rfl, L178, HS180, HO184⟩
 refine ⟨_, rfl, ?_⟩
 obtain ⟨f186, L187, HS188⟩ := th173 L178 HS180
 obtain ⟨f189, L190, HS191⟩ := th167 L187 HS188
 replace HO184 := HO184.flat (g := f189) (fun _ _ _ _ h_ => h_)
 refine seqL5 kr ?_
 refine nl (hK161 _ _ ?_)
 refine wp_seq_k fun K192 hK193 => rl ?_
 refine seqL1 kr ?_
 refine seqK rfl (does_run (run_loadN (n := 5) rfl Tryz.underlying51 rfl kr (kv (.pointer (some ⟨b57, 0, none⟩))) (cs := [.slice A109 (vt71 ++ ([(⟨vt86, vt93⟩ : S_Cone)] : List S_Cone)).length c110, .int .i64 (mn vt34.To (w64 (vt34.From + vt129))), .int .i64 vt34.To, .int .i64 (w64 (vt34.Least + vt150)), .int .i64 vt34.Ban]) rfl (HS191.u3.cells 0 5 _ rfl)) ?_)
 obtain ⟨f194, L195, HS196, HR197, th198⟩ := (HO25.mono (L47.trans (L83.trans (L90.trans (L97.trans (L133.trans (L154.trans L190))))))).lend HS191
 have HS199 := HS196.u4
 obtain ⟨f200, L201, HS202, HR203, th204⟩ := (HO114.mono (L133.trans (L154.trans (L190.trans L195)))).lend HS199
 have hq_ := bind_some h; clear h; obtain ⟨⟨vt205, vt206⟩, hc207, h⟩ := hq_
 refine seqK rfl (does_call (f := 21) (args := #[.slice A22 vt15.length c23, .agg #[.slice A109 (vt71 ++ ([(⟨vt86, vt93⟩ : S_Cone)] : List S_Cone)).length c110, .int .i64 (mn vt34.To (w64 (vt34.From + vt129))), .int .i64 vt34.To, .int .i64 (w64 (vt34.Least + vt150)), .int .i64 vt34.Ban]]) kr (query_Scan.calls k A22 c23 A109 c110 vt15 (⟨(vt71 ++ ([(⟨vt86, vt93⟩ : S_Cone)] : List S_Cone)), mn vt34.To (w64 (vt34.From + vt129)), vt34.To, w64 (vt34.Least + vt150), vt34.Ban⟩ : S_Ask) HS202 (HR197.mono L201) HR203 vt205 vt206 hc207) ?_)
 rintro _ W210 ⟨f208, A212, c213, s214, rfl, L209, HS211, HO215⟩
 refine ⟨_, rfl, ?_⟩
 obtain ⟨f217, L218, HS219⟩ := th204 L209 HS211
 obtain ⟨f220, L221, HS222⟩ := th198 L218 HS219
 replace HO215 := HO215.flat (g := f220) (fun _ _ _ _ h_ => h_)
 refine seqL5 kr ?_
 refine nl (hK193 _ _ ?_)
 refine wp_seq_k (fun K223 hK224 => ?_)
 refine wp_seq_k fun K225 hK226 => rl ?_
 have hq_ := bind_some h; clear h; obtain ⟨vt227, hc228, h⟩ := hq_
 refine seqK rfl (does_call (f := 12) (args := #[]) kr (spykeep3_asked.calls k  HS222 vt227 hc228) ?_)
 rintro _ W231 ⟨f229, rfl, L230, HS232⟩
 refine ⟨_, rfl, ?_⟩
 refine seqL2 kr ?_
 have hq_ := ite_some h; clear h; rcases hq_ with ⟨c233, h⟩ | ⟨c233, h⟩
 · have c233 : ¬ (vt227 = true) := c233
   refine seqRwI 62 kr (congrArg (fun b_ => !b_) (show vt227 = false from (Bool.eq_false_iff.mpr c233)) : (!vt227) = true) ?_
   refine seqRwI 63 kr (congrArg (fun b_ => !b_) (show vt227 = false from (Bool.eq_false_iff.mpr c233)) : (!vt227) = true) ?_
   refine seqL7 kr ?_
   refine nl (hK226 _ _ ?_)
   refine condT kr ?_
   refine wp_seq_k fun K234 hK235 => rl ?_
   refine seqL1 kr ?_
   refine nl (hK235 _ _ ?_)
   refine wp_ret ?_
   refine hret _ _ ?_
   refine ends_still (v := Value.bool false) kr kr ?_
   have HS350 := HS232.drop
   have HS351 := HS350.drop
   have HS352 := HS351.drop
   have HS353 := HS352.drop
   have HS354 := HS353.drop
   have HS355 := HS354.drop
   have HS356 := HS355.drop
   have HS357 := HS356.drop
   injection h with h
   subst h
   exact ⟨f229, rfl, (L19.trans (L47.trans (L83.trans (L90.trans (L97.trans (L133.trans (L154.trans (L190.trans (L221.trans L230))))))))), HS357⟩
 · have c233 : ¬ (¬ (vt227 = true)) := c233
   refine seqRwI 62 (x := (!vt227)) (v := false) kr (congrArg (fun b_ => !b_) (show vt227 = true from (Decidable.of_not_not c233)) : (!vt227) = false) ?_
   refine seqRwI 63 (x := (!vt227)) (v := false) kr (congrArg (fun b_ => !b_) (show vt227 = true from (Decidable.of_not_not c233)) : (!vt227) = false) ?_
   refine seqL4 kr ?_
   have hq_ := ite_some h; clear h; rcases hq_ with ⟨c236, h⟩ | ⟨c236, h⟩
   · have c236 : vt175 ≠ 0 := c236
     refine seqRwI 65 kr (bne_iff_ne.mpr c236) ?_
     refine seqRwI 66 kr (bne_iff_ne.mpr c236) ?_
     refine seqRwI 67 kr (bne_iff_ne.mpr c236) ?_
     refine seqL3 kr ?_
     refine nl (hK226 _ _ ?_)
     refine condT kr ?_
     refine wp_seq_k fun K237 hK238 => rl ?_
     refine seqL1 kr ?_
     refine nl (hK238 _ _ ?_)
     refine wp_ret ?_
     refine hret _ _ ?_
     refine ends_still (v := Value.bool false) kr kr ?_
     have HS358 := HS232.drop
     have HS359 := HS358.drop
     have HS360 := HS359.drop
     have HS361 := HS360.drop
     have HS362 := HS361.drop
     have HS363 := HS362.drop
     have HS364 := HS363.drop
     have HS365 := HS364.drop
     injection h with h
     subst h
     exact ⟨f229, rfl, (L19.trans (L47.trans (L83.trans (L90.trans (L97.trans (L133.trans (L154.trans (L190.trans (L221.trans L230))))))))), HS365⟩
   · have c236 : ¬ (vt175 ≠ 0) := c236
     refine seqRwI 65 (x := (vt175 != 0)) (v := false) kr (bne_eq_false_iff_eq.mpr (Decidable.of_not_not c236)) ?_
     refine seqRwI 66 (x := (vt175 != 0)) (v := false) kr (bne_eq_false_iff_eq.mpr (Decidable.of_not_not c236)) ?_
     refine seqRwI 67 (x := (vt175 != 0)) (v := false) kr (bne_eq_false_iff_eq.mpr (Decidable.of_not_not c236)) ?_
     refine seqL3 kr ?_
     refine nl (hK226 _ _ ?_)
     have hq_ := ite_some h; clear h; rcases hq_ with ⟨c240, h⟩ | ⟨c240, h⟩
     · have c240 : vt206 ≠ 0 := c240
       refine wpRwI 69 kr (bne_iff_ne.mpr c240) ?_
       refine wpRwI 70 kr (bne_iff_ne.mpr c240) ?_
       refine condT kr ?_
       refine wp_seq_k fun K241 hK242 => rl ?_
       refine seqL1 kr ?_
       refine nl (hK242 _ _ ?_)
       refine wp_ret ?_
       refine hret _ _ ?_
       refine ends_still (v := Value.bool false) kr kr ?_
       have HS366 := HS232.drop
       have HS367 := HS366.drop
       have HS368 := HS367.drop
       have HS369 := HS368.drop
       have HS370 := HS369.drop
       have HS371 := HS370.drop
       have HS372 := HS371.drop
       have HS373 := HS372.drop
       injection h with h
       subst h
       exact ⟨f229, rfl, (L19.trans (L47.trans (L83.trans (L90.trans (L97.trans (L133.trans (L154.trans (L190.trans (L221.trans L230))))))))), HS373⟩
     · have c240 : ¬ (vt206 ≠ 0) := c240
       refine wpRwI 69 (x := (vt206 != 0)) (v := false) kr (bne_eq_false_iff_eq.mpr (Decidable.of_not_not c240)) ?_
       refine wpRwI 70 (x := (vt206 != 0)) (v := false) kr (bne_eq_false_iff_eq.mpr (Decidable.of_not_not c240)) ?_
       refine condF kr ?_
       refine wp_skip ?_
       refine hK224 _ _ ?_
       refine wp_seq_k (fun K243 hK244 => ?_)
       refine wp_seq_k fun K245 hK246 => rl ?_
       refine seqL3 kr ?_
       refine nl (hK246 _ _ ?_)
       refine blockK (fun B247 hx248 hn249 hr250 ho251 hp252 => ?_)
       have hq_ := bind_some h; clear h; obtain ⟨o253, hv334, h⟩ := hq_
       have JR336 : ∀ z_, some (Sum.inl z_) = some o253 → some z_ = some rr1 := by
        intro z_ e_; injection e_ with e_; subst e_; exact h
       have J335 : ∀ (f329 : FM) (j333 : Nat → Value) (W331 : World) (a_ : Act), FM.le f229 f329 → some (Sum.inr ()) = some o253 → St t W331 f329 (s24 :: s111 :: s214 :: s43 :: s183 :: [(b57, .cells #[.slice A109 (vt71 ++ ([(⟨vt86, vt93⟩ : S_Cone)] : List S_Cone)).length c110, .int .i64 (mn vt34.To (w64 (vt34.From + vt129))), .int .i64 vt34.To, .int .i64 (w64 (vt34.Least + vt150)), .int .i64 vt34.Ban] 51 (0, 0))] :: [(b9, .cells #[.slice A2 l1.length c3, .int .i64 vt151] 26 (0, 0))] :: [(b49, .cells #[.slice A41 vt34.Cones.length c42, .int .i64 vt34.From, .int .i64 vt34.To, .int .i64 vt34.Least, .int .i64 vt34.Ban] 51 (0, 0))] :: H) → a_ = ⟨#[.slice A2 l1.length c3, uV, (j333 0), pV b9 0, .slice A22 vt15.length c23, pV b49 0, pV b57 0, .slice A181 vt174.length c182, iV vt175, .slice A212 vt205.length c213, iV vt206, uV, (j333 1), (j333 2), .slice A2 l1.length c3, .agg #[.slice A2 l1.length c3, iV 0], pV b9 0, pV b9 0, .slice A22 vt15.length c23, pV b9 0, .slice A22 vt15.length c23, (ag_Ask vt34 A41 c42), (ag_Ask vt34 A41 c42), pV b49 0, .slice A41 vt34.Cones.length c42, .slice A77 vt71.length c78, pV b9 0, (ag_Vec vt86), pV b9 0, iV vt93, .agg #[iV vt86.X, iV vt86.Y, iV vt86.Z, iV vt93], .slice (some ⟨b100, 0, none⟩) ([(⟨vt86, vt93⟩ : S_Cone)] : List S_Cone).length 1, .slice A109 (vt71 ++ ([(⟨vt86, vt93⟩ : S_Cone)] : List S_Cone)).length c110, pV b57 0, pV b57 2, iV vt34.To, pV b57 1, iV vt34.From, pV b9 0, iV vt129, iV (w64 (vt34.From + vt129)), iV (mn vt34.To (w64 (vt34.From + vt129))), pV b57 1, pV b57 3, iV vt34.Least, pV b9 0, iV vt150, iV (w64 (vt34.Least + vt150)), pV b57 3, .tuple #[.slice A181 vt174.length c182, iV vt175], .slice A22 vt15.length c23, (ag_Ask vt34 A41 c42), .tuple #[.slice A181 vt174.length c182, iV vt175], .slice A181 vt174.length c182, iV vt175, .tuple #[.slice A212 vt205.length c213, iV vt206], .slice A22 vt15.length c23, .agg #[.slice A109 (vt71 ++ ([(⟨vt86, vt93⟩ : S_Cone)] : List S_Cone)).length c110, iV (mn vt34.To (w64 (vt34.From + vt129))), iV vt34.To, iV (w64 (vt34.Least + vt150)), iV vt34.Ban], .tuple #[.slice A212 vt205.length c213, iV vt206], .slice A212 vt205.length c213, iV vt206, .bool vt227, fV, fV, iV vt175, fV, fV, fV, iV vt206, fV, fV, .slice A212 vt205.length c213, iV (vt205.length : Int), (j333 3), (j333 4), (j333 5), (j333 6), (j333 7), (j333 8), (j333 9), (j333 10), (j333 11), (j333 12), (j333 13), (j333 14), (j333 15), (j333 16), (j333 17), (j333 18), (j333 19), (j333 20), (j333 21), (j333 22)], []⟩ → K243 a_ W331 := by
        intro f329 j333 W331 a_ L330 hj337 HS332  hfr_; subst hfr_
        injection hj337 with hj337; subst hj337; try dsimp only at h
        simp only [Sum.elim_inr] at h
        refine hK244 _ _ ?_
        refine wp_seq_k fun K348 hK349 => rl ?_
        refine seqL1 kr ?_
        refine nl (hK349 _ _ ?_)
        refine wp_ret ?_
        refine hret _ _ ?_
        refine ends_still (v := Value.bool true) kr kr ?_
        have HS392 := HS332.drop
        have HS393 := HS392.drop
        have HS394 := HS393.drop
        have HS395 := HS394.drop
        have HS396 := HS395.drop
        have HS397 := HS396.drop
        have HS398 := HS397.drop
        have HS399 := HS398.drop
        injection h with h
        subst h
        exact ⟨f329, rfl, (L19.trans (L47.trans (L83.trans (L90.trans (L97.trans (L133.trans (L154.trans (L190.trans (L221.trans (L230.trans L330)))))))))), HS399⟩
       clear h; have h := hv334; clear hv334
       refine loopK (fun n_ a_ w_ => ∃ (f257 : FM) (x262 : Int) (j261 : Nat → Value), FM.le f229 f257 ∧ St t w_ f257 (s24 :: s111 :: s214 :: s43 :: s183 :: [(b57, .cells #[.slice A109 (vt71 ++ ([(⟨vt86, vt93⟩ : S_Cone)] : List S_Cone)).length c110, .int .i64 (mn vt34.To (w64 (vt34.From + vt129))), .int .i64 vt34.To, .int .i64 (w64 (vt34.Least + vt150)), .int .i64 vt34.Ban] 51 (0, 0))] :: [(b9, .cells #[.slice A2 l1.length c3, .int .i64 vt151] 26 (0, 0))] :: [(b49, .cells #[.slice A41 vt34.Cones.length c42, .int .i64 vt34.From, .int .i64 vt34.To, .int .i64 vt34.Least, .int .i64 vt34.Ban] 51 (0, 0))] :: H) ∧ spykeep3_QueryLimits.l0 k vt205 vt174 n_ x262 = some o253 ∧ a_ = ⟨#[.slice A2 l1.length c3, uV, (j261 0), pV b9 0, .slice A22 vt15.length c23, pV b49 0, pV b57 0, .slice A181 vt174.length c182, iV vt175, .slice A212 vt205.length c213, iV vt206, uV, (j261 1), (j261 2), .slice A2 l1.length c3, .agg #[.slice A2 l1.length c3, iV 0], pV b9 0, pV b9 0, .slice A22 vt15.length c23, pV b9 0, .slice A22 vt15.length c23, (ag_Ask vt34 A41 c42), (ag_Ask vt34 A41 c42), pV b49 0, .slice A41 vt34.Cones.length c42, .slice A77 vt71.length c78, pV b9 0, (ag_Vec vt86), pV b9 0, iV vt93, .agg #[iV vt86.X, iV vt86.Y, iV vt86.Z, iV vt93], .slice (some ⟨b100, 0, none⟩) ([(⟨vt86, vt93⟩ : S_Cone)] : List S_Cone).length 1, .slice A109 (vt71 ++ ([(⟨vt86, vt93⟩ : S_Cone)] : List S_Cone)).length c110, pV b57 0, pV b57 2, iV vt34.To, pV b57 1, iV vt34.From, pV b9 0, iV vt129, iV (w64 (vt34.From + vt129)), iV (mn vt34.To (w64 (vt34.From + vt129))), pV b57 1, pV b57 3, iV vt34.Least, pV b9 0, iV vt150, iV (w64 (vt34.Least + vt150)), pV b57 3, .tuple #[.slice A181 vt174.length c182, iV vt175], .slice A22 vt15.length c23, (ag_Ask vt34 A41 c42), .tuple #[.slice A181 vt174.length c182, iV vt175], .slice A181 vt174.length c182, iV vt175, .tuple #[.slice A212 vt205.length c213, iV vt206], .slice A22 vt15.length c23, .agg #[.slice A109 (vt71 ++ ([(⟨vt86, vt93⟩ : S_Cone)] : List S_Cone)).length c110, iV (mn vt34.To (w64 (vt34.From + vt129))), iV vt34.To, iV (w64 (vt34.Least + vt150)), iV vt34.Ban], .tuple #[.slice A212 vt205.length c213, iV vt206], .slice A212 vt205.length c213, iV vt206, .bool vt227, fV, fV, iV vt175, fV, fV, fV, iV vt206, fV, fV, .slice A212 vt205.length c213, iV (vt205.length : Int), iV x262, (j261 3), (j261 4), (j261 5), (j261 6), (j261 7), (j261 8), (j261 9), (j261 10), (j261 11), (j261 12), (j261 13), (j261 14), (j261 15), (j261 16), (j261 17), (j261 18), (j261 19), (j261 20), (j261 21)], []⟩) k ⟨f229, 0, (jL [fV]), fL, HS232, h, kr⟩ ?_
       clear h
       rintro n256 _ W259 ⟨f257, x262, j261, L258, HS260, h, rfl⟩ K254 hK255
       obtain _ | n256 := n256
       · exact nomatch h
       simp only [spykeep3_QueryLimits.l0] at h
       refine wp_seq_k fun K263 hK264 => rl ?_
       refine seqL1 kr ?_
       refine nl (hK264 _ _ ?_)
       refine wp_seq_k (fun K265 hK266 => ?_)
       have hq_ := ite_some h; clear h; rcases hq_ with ⟨c268, h⟩ | ⟨c268, h⟩
       · have c268 : x262 < (vt205.length : Int) := c268
         refine wpRwI 74 kr (decide_eq_true c268) ?_
         refine condT kr ?_
         refine wp_skip ?_
         refine hK266 _ _ ?_
         refine wp_seq_k (fun K269 hK270 => ?_)
         refine blockK (fun B271 hx272 hn273 hr274 ho275 hp276 => ?_)
         refine wp_seq_k fun K278 hK279 => rl ?_
         have hq_ := guard_some h; clear h; obtain ⟨c280, h⟩ := hq_
         have c280 : 0 ≤ x262 := c280
         obtain ⟨b284, of285, cs281, hA286, hr282, hc283⟩ := (HO215.mono (L230.trans L258)).at (i := x262) c280 c268
         obtain rfl := hr282
         refine seqK rfl (does_run (run_indexE hA286 (sz := 2) rfl Tryz.underlying57 kr (kv (.slice A212 vt205.length c213)) (kv (.int .i64 x262)) c280 c268 W259) ?_)
         refine seqK rfl (does_run (run_loadN (n := 2) rfl Tryz.underlying62 rfl kr (kv (.pointer (some ⟨b284, of285 + (x262 : Int).toNat * 2, none⟩))) (cs := [.int .i64 ((rd vt205 x262).ID), .int .i64 ((rd vt205 x262).Grade)]) rfl (fun j_ hj_ => ((hc283 HS260.u2) j_ hj_))) ?_)
         refine seqK rfl (does_alloc (z := Value.agg #[.int .i64 0, .int .i64 0]) (cs := #[.int .i64 0, .int .i64 0]) rfl kr rfl HS260 ?_)
         intro b287 W288 HS289
         refine seqK rfl (does_storeA (vs := [.int .i64 ((rd vt205 x262).ID), .int .i64 ((rd vt205 x262).Grade)]) rfl kr kr kr rfl (ones rfl) HS289 kr ?_)
         intro W291 HS292
         refine nl (hK279 _ _ ?_)
         refine wp_seq_k fun K293 hK294 => rl ?_
         have HS295 := HS292.u5
         obtain ⟨f296, L297, HS298, HR299, th300⟩ := (HO184.mono (L221.trans (L230.trans L258))).lend HS295
         have hq_ := bind_some h; clear h; obtain ⟨vt301, hc302, h⟩ := hq_
         refine seqL2 kr ?_
         refine seqK rfl (does_call (f := 22) (args := #[.slice A181 vt174.length c182, .func (.func 23) #[] #[.pointer (some ⟨b287, 0, none⟩)]]) kr (slices_IndexFunc_Answer__spykeep3_QueryLimits_1.calls k b287 A181 c182 (rd vt205 x262) vt174 HS298 HR299 vt301 hc302) ?_)
         rintro _ W305 ⟨f303, rfl, L304, HS306⟩
         refine ⟨_, rfl, ?_⟩
         obtain ⟨f307, L308, HS309⟩ := th300 L304 HS306
         refine seqL1 kr ?_
         refine nl (hK294 _ _ ?_)
         refine wp_seq_k (fun K310 hK311 => ?_)
         refine heldG (S := Sg t f307 (s183 :: [(b287, .cells #[.int .i64 ((rd vt205 x262).ID), .int .i64 ((rd vt205 x262).Grade)] 62 (0, 0))] :: s24 :: s111 :: s214 :: s43 :: [(b57, .cells #[.slice A109 (vt71 ++ ([(⟨vt86, vt93⟩ : S_Cone)] : List S_Cone)).length c110, .int .i64 (mn vt34.To (w64 (vt34.From + vt129))), .int .i64 vt34.To, .int .i64 (w64 (vt34.Least + vt150)), .int .i64 vt34.Ban] 51 (0, 0))] :: [(b9, .cells #[.slice A2 l1.length c3, .int .i64 vt151] 26 (0, 0))] :: [(b49, .cells #[.slice A41 vt34.Cones.length c42, .int .i64 vt34.From, .int .i64 vt34.To, .int .i64 vt34.Least, .int .i64 vt34.Ban] 51 (0, 0))] :: H) []) (n := 12) kr rfl HS309 ?_
         intro W312 HS313
         refine takeGL [0, 1, 2] (n := 12) (fuel := 9) #[true, true, true, false, false, false, false, false, false, false, false, false] rfl kr kr kr (fun ch_ a_ w_ q_ => (fun ch_ a_ w_ q_ => hnp ch_ a_ w_ (hp252 ch_ a_ w_ q_)) ch_ a_ w_ (hp276 ch_ a_ w_ q_)) (Sg.g0 (Sx.of [] fL HS313)) ?_
         have hq_ := ite_some h; clear h; rcases hq_ with ⟨c314, h⟩ | ⟨c314, h⟩
         · have c314 : vt301 < 0 := c314
           refine gateRwI 81 (x := (decide (vt301 < 0))) (v := true) kr (decide_eq_true c314) ?_
           refine gateRwI 82 (x := (decide (vt301 < 0))) (v := true) kr (decide_eq_true c314) ?_
           refine takeGL [3, 4, 5, 6, 7, 8, 9, 10, 11] (n := 9) (fuel := 0) #[true, true, true, true, true, true, true, true, true, true, true, true] rfl kr kr kr (fun ch_ a_ w_ q_ => (fun ch_ a_ w_ q_ => hnp ch_ a_ w_ (hp252 ch_ a_ w_ q_)) ch_ a_ w_ (hp276 ch_ a_ w_ q_)) (Sg.g0 (Sx.of [] fL HS313)) ?_
           refine doneG kr ?_ _
           refine hK311 _ _ ?_
           refine condT kr ?_
           refine wp_seq_k fun K315 hK316 => rl ?_
           refine seqL1 kr ?_
           refine nl (hK316 _ _ ?_)
           refine wp_ret ?_
           refine hr274 _ _ ?_
           refine hr250 _ _ ?_
           refine hret _ _ ?_
           refine ends_still (v := Value.bool false) kr kr ?_
           have HS374 := HS313.drop
           have HS375 := HS374.drop
           have HS376 := HS375.drop
           have HS377 := HS376.drop
           have HS378 := HS377.drop
           have HS379 := HS378.drop
           have HS380 := HS379.drop
           have HS381 := HS380.drop
           have HS382 := HS381.drop
           replace h := JR336 _ h
           injection h with h
           subst h
           exact ⟨f307, rfl, (L19.trans (L47.trans (L83.trans (L90.trans (L97.trans (L133.trans (L154.trans (L190.trans (L221.trans (L230.trans (L258.trans L308))))))))))), HS382⟩
         · have c314 : ¬ (vt301 < 0) := c314
           refine gateRwI 81 (x := (decide (vt301 < 0))) (v := false) kr (decide_eq_false c314) ?_
           refine gateRwI 82 (x := (decide (vt301 < 0))) (v := false) kr (decide_eq_false c314) ?_
           have hq_ := guard_some h; clear h; obtain ⟨c317, h⟩ := hq_
           have c317 : 0 ≤ vt301 := c317
           have hq_ := guard_some h; clear h; obtain ⟨c318, h⟩ := hq_
           have c318 : vt301 < (vt174.length : Int) := c318
           obtain ⟨b322, of323, cs319, hA324, hr320, hc321⟩ := (HO184.mono (L221.trans (L230.trans (L258.trans L308)))).at (i := vt301) c317 c318
           obtain rfl := hr320
           refine takeGL [3, 4] (n := 9) (fuel := 7) #[true, true, true, true, true, false, false, false, false, false, false, false] rfl kr kr kr (fun ch_ a_ w_ q_ => (fun ch_ a_ w_ q_ => hnp ch_ a_ w_ (hp252 ch_ a_ w_ q_)) ch_ a_ w_ (hp276 ch_ a_ w_ q_)) (Sg.g0 (Sx.of [] fL HS313)) ?_
           refine takeGQ 5 [] rfl kr kr kr kr kr kr (fun ch_ a_ w_ q_ => (fun ch_ a_ w_ q_ => hnp ch_ a_ w_ (hp252 ch_ a_ w_ q_)) ch_ a_ w_ (hp276 ch_ a_ w_ q_)) (Sg.g0 (Sx.of [] fL HS313)) (fun w_ hw_ => by obtain ⟨g_, hl_, hS_⟩ := hw_.st; exact run_indexE hA324 (sz := 2) rfl Tryz.underlying57 kr (kv (.slice A181 vt174.length c182)) (kv (.int .i64 vt301)) c317 c318 w_) ?_
           refine takeGL [6] (n := 6) (fuel := 5) #[true, true, true, true, true, true, true, false, false, false, false, false] rfl kr kr kr (fun ch_ a_ w_ q_ => (fun ch_ a_ w_ q_ => hnp ch_ a_ w_ (hp252 ch_ a_ w_ q_)) ch_ a_ w_ (hp276 ch_ a_ w_ q_)) (Sg.g0 (Sx.of [] fL HS313)) ?_
           refine takeGQ 7 [] rfl kr kr kr kr kr kr (fun ch_ a_ w_ q_ => (fun ch_ a_ w_ q_ => hnp ch_ a_ w_ (hp252 ch_ a_ w_ q_)) ch_ a_ w_ (hp276 ch_ a_ w_ q_)) (Sg.g0 (Sx.of [] fL HS313)) (fun w_ hw_ => by obtain ⟨g_, hl_, hS_⟩ := hw_.st; exact run_load rfl Tryz.underlying3 rfl (kv (.pointer (some ⟨b322, of323 + (vt301 : Int).toNat * 2 + 1, none⟩))) ((hc321 hS_) 1 (by decide))) ?_
           refine takeGL [8] (n := 4) (fuel := 3) #[true, true, true, true, true, true, true, true, true, false, false, false] rfl kr kr kr (fun ch_ a_ w_ q_ => (fun ch_ a_ w_ q_ => hnp ch_ a_ w_ (hp252 ch_ a_ w_ q_)) ch_ a_ w_ (hp276 ch_ a_ w_ q_)) (Sg.g0 (Sx.of [] fL HS313)) ?_
           refine takeGQ 9 [] rfl kr kr kr kr kr kr (fun ch_ a_ w_ q_ => (fun ch_ a_ w_ q_ => hnp ch_ a_ w_ (hp252 ch_ a_ w_ q_)) ch_ a_ w_ (hp276 ch_ a_ w_ q_)) (Sg.g0 (Sx.of [] fL HS313)) (fun w_ hw_ => by obtain ⟨g_, hl_, hS_⟩ := hw_.st; exact run_load rfl Tryz.underlying3 rfl (kv (.pointer (some ⟨b287, 1, none⟩))) (hS_.u1.cell 1)) ?_
           refine takeGL [10, 11] (n := 2) (fuel := 0) #[true, true, true, true, true, true, true, true, true, true, true, true] rfl kr kr kr (fun ch_ a_ w_ q_ => (fun ch_ a_ w_ q_ => hnp ch_ a_ w_ (hp252 ch_ a_ w_ q_)) ch_ a_ w_ (hp276 ch_ a_ w_ q_)) (Sg.g0 (Sx.of [] fL HS313)) ?_
           refine doneG kr ?_ _
           refine hK311 _ _ ?_
           have hq_ := ite_some h; clear h; rcases hq_ with ⟨c326, h⟩ | ⟨c326, h⟩
           · have c326 : ((rd vt174 vt301).Grade) < ((rd vt205 x262).Grade) := c326
             refine wpRwI 90 kr (decide_eq_true c326) ?_
             refine wpRwI 91 kr (decide_eq_true c326) ?_
             refine condT kr ?_
             refine wp_seq_k fun K327 hK328 => rl ?_
             refine seqL1 kr ?_
             refine nl (hK328 _ _ ?_)
             refine wp_ret ?_
             refine hr274 _ _ ?_
             refine hr250 _ _ ?_
             refine hret _ _ ?_
             refine ends_still (v := Value.bool false) kr kr ?_
             have HS383 := HS313.drop
             have HS384 := HS383.drop
             have HS385 := HS384.drop
             have HS386 := HS385.drop
             have HS387 := HS386.drop
             have HS388 := HS387.drop
             have HS389 := HS388.drop
             have HS390 := HS389.drop
             have HS391 := HS390.drop
             replace h := JR336 _ h
             injection h with h
             subst h
             exact ⟨f307, rfl, (L19.trans (L47.trans (L83.trans (L90.trans (L97.trans (L133.trans (L154.trans (L190.trans (L221.trans (L230.trans (L258.trans L308))))))))))), HS391⟩
           · have c326 : ¬ (((rd vt174 vt301).Grade) < ((rd vt205 x262).Grade)) := c326
             refine wpRwI 90 kr (decide_eq_false c326) ?_
             refine wpRwI 91 kr (decide_eq_false c326) ?_
             refine condF kr ?_
             refine wp_skip ?_
             refine hn273 _ _ ?_
             refine hK270 _ _ ?_
             refine rl ?_
             refine seqL2 kr ?_
             refine nl ?_
             refine hK255 n256 _ _ (Nat.lt_succ_self _) ?_
             have HS346 := HS313.u8.u8.u8.u3.u8.u8.u8.u8.u8
             have HS347 := HS346.drop
             exact ⟨f307, (w64 (x262 + 1)), (jL [(j261 0), .pointer (some ⟨b287, 0, none⟩), iV vt301, tV, .pointer (some ⟨b284, of285 + (x262 : Int).toNat * 2, none⟩), .agg #[.int .i64 ((rd vt205 x262).ID), .int .i64 ((rd vt205 x262).Grade)], .slice A181 vt174.length c182, .func (.func 23) #[] #[.pointer (some ⟨b287, 0, none⟩)], iV vt301, iV vt301, fV, fV, .slice A181 vt174.length c182, iV vt301, .pointer (some ⟨b322, of323 + (vt301 : Int).toNat * 2, none⟩), .pointer (some ⟨b322, of323 + (vt301 : Int).toNat * 2 + 1, none⟩), iV ((rd vt174 vt301).Grade), .pointer (some ⟨b287, 1, none⟩), iV ((rd vt205 x262).Grade), fV, fV, iV (w64 (x262 + 1))]), (L258.trans L308), HS347, h, kr⟩
       · have c268 : ¬ (x262 < (vt205.length : Int)) := c268
         refine wpRwI 74 kr (decide_eq_false c268) ?_
         refine condF kr ?_
         refine wp_exit ?_
         refine hx248 _ _ ?_
         exact J335 f257 (jL [(j261 0), (j261 1), (j261 2), iV x262, fV, (j261 4), (j261 5), (j261 6), (j261 7), (j261 8), (j261 9), (j261 10), (j261 11), (j261 12), (j261 13), (j261 14), (j261 15), (j261 16), (j261 17), (j261 18), (j261 19), (j261 20), (j261 21)]) W259 _ L258 h HS260 kr

end Go.Sp.Q5
