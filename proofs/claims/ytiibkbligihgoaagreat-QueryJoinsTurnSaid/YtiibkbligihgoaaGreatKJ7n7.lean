import Derived.Test.YtiibkbligihgoaaGreatProg
import Derived.Test.YtiibkbligihgoaaGreatSpCopy
import Derived.Test.YtiibkbligihgoaaGreatFJ7
import Derived.Test.YtiibkbligihgoaaGreatSpSort3P
import Derived.Test.YtiibkbligihgoaaGreatShelf
import Derived.Test.YtiibkbligihgoaaGreatSpMapR
import Derived.Test.YtiibkbligihgoaaGreatSpKeys
import Derived.Test.YtiibkbligihgoaaGreatSpNode
import Derived.Test.YtiibkbligihgoaaGreatSpKeyP
import Derived.Test.YtiibkbligihgoaaGreatSpArr
import Derived.Test.YtiibkbligihgoaaGreatSpRound
import Derived.Test.YtiibkbligihgoaaGreatKJ7n0
import Derived.Test.YtiibkbligihgoaaGreatKJ7n1
import Derived.Test.YtiibkbligihgoaaGreatKJ7n2
import Derived.Test.YtiibkbligihgoaaGreatKJ7n3
import Derived.Test.YtiibkbligihgoaaGreatKJ7n4
import Derived.Test.YtiibkbligihgoaaGreatKJ7n5
import Derived.Test.YtiibkbligihgoaaGreatKJ7n6
namespace Go.Sp.J7
open Go Go.Sp Go.Proofs
set_option linter.unusedVariables false
attribute [local irreducible] wpList AnyL Code.wp Calls Does Code.wpIn wpListIn CallsIn bodyPostM LeavesInM
set_option maxRecDepth 100000 in
set_option maxHeartbeats 4000000 in
theorem query_Index_Run.calls (k : Nat) (b1 : Nat) (A4 : Option Addr) (c5 : Nat) (A7 : Option Addr) (c8 : Nat) (A10 : Option Addr) (c11 : Nat) (A14 : Option Addr) (c15 : Nat) (x3 : S_Index) (q13 : S_Ask) {t w : World} {f : FM} {H : List Seg} (HS : St t w f ([(b1, .cells #[.slice A4 x3.rows.length c5, .int .i64 x3.level, .slice A7 x3.roots.length c8, .slice A10 x3.loose.length c11] 109 (0, 0))] :: H)) (HR6 : SlR ty_Row f A4 c5 x3.rows) (HR9 : SlR fx_node.t f A7 c8 x3.roots) (HR12 : SlR (tInt .i64) f A10 c11 x3.loose) (HR16 : SlR ty_Cone f A14 c15 q13.Cones) (rr1 : List S_Answer) (rr2 : Int) (rr3 : Int) (h : query_Index_Run k x3 q13 = some (rr1, rr2, rr3)) :
    Calls Tryz.prog 25 #[.pointer (some ⟨b1, 0, none⟩), .agg #[.slice A14 q13.Cones.length c15, .int .i64 q13.From, .int .i64 q13.To, .int .i64 q13.Least, .int .i64 q13.Ban]] w (fun e w' => ∃ (g : FM) (A381 : Option Addr) (c382 : Nat) (s383 : Seg), e = .returned (Value.tuple #[.slice A381 rr1.length c382, .int .i64 rr2, .int .i64 rr3]) ∧ FM.le f g ∧ St t w' g (s383 :: [(b1, .cells #[.slice A4 x3.rows.length c5, .int .i64 x3.level, .slice A7 x3.roots.length c8, .slice A10 x3.loose.length c11] 109 (0, 0))] :: H) ∧ Own ty_Answer 62 g A381 c382 s383 rr1) := by
 unfold query_Index_Run at h
 refine enter Tryz.func25 rfl (tm := #[pV b1 0, (ag_Ask q13 A14 c15), uV, uV, uV, uV, uV, uV, uV, uV, uV, uV, uV, uV, uV, uV, uV, uV, uV, uV, uV, uV, uV, uV, uV, uV, uV, uV, uV, uV, uV, uV, uV, uV, uV, uV, uV, uV, uV, uV, uV, uV, uV, uV, uV, uV, uV, uV, uV]) kr ?_
 intro B hret hnor hnp
 refine wp_seq_k fun K17 hK18 => rl ?_
 refine seqK rfl (does_box (cs := #[.pointer (some ⟨b1, 0, none⟩)]) rfl (kv (.pointer (some ⟨b1, 0, none⟩))) rfl HS ?_)
 intro b19 W20 HS21
 refine seqK rfl (does_box (cs := #[.slice A14 q13.Cones.length c15, .int .i64 q13.From, .int .i64 q13.To, .int .i64 q13.Least, .int .i64 q13.Ban]) rfl (kv (.agg #[.slice A14 q13.Cones.length c15, .int .i64 q13.From, .int .i64 q13.To, .int .i64 q13.Least, .int .i64 q13.Ban])) rfl HS21 ?_)
 intro b23 W24 HS25
 refine seqL3 kr ?_
 refine nl (hK18 _ _ ?_)
 refine wp_seq_k (fun K27 hK28 => ?_)
 refine wp_seq_k fun K29 hK30 => rl ?_
 refine seqK rfl (does_run (run_loadN (n := 5) rfl Tryz.underlying51 rfl kr (kv (.pointer (some ⟨b23, 0, none⟩))) (cs := [.slice A14 q13.Cones.length c15, .int .i64 q13.From, .int .i64 q13.To, .int .i64 q13.Least, .int .i64 q13.Ban]) rfl (HS25.cells 0 5 _ rfl)) ?_)
 have hq_ := bind_some h; clear h; obtain ⟨vt31, hc32, h⟩ := hq_
 refine seqK rfl (does_call (f := 43) (args := #[.agg #[.slice A14 q13.Cones.length c15, .int .i64 q13.From, .int .i64 q13.To, .int .i64 q13.Least, .int .i64 q13.Ban]]) kr (query_CheckAsk.calls k A14 c15 q13 HS25 HR16 vt31 hc32) ?_)
 rintro _ W35 ⟨f33, rfl, L34, HS36⟩
 refine ⟨_, rfl, ?_⟩
 refine seqL1 kr ?_
 refine nl (hK30 _ _ ?_)
 refine wp_seq_k fun K37 hK38 => rl ?_
 refine seqL2 kr ?_
 refine nl (hK38 _ _ ?_)
 have hq_ := ite_some h; clear h; rcases hq_ with ⟨c40, h⟩ | ⟨c40, h⟩
 · have c40 : vt31 ≠ 0 := c40
   refine wpRwI 16 kr (bne_iff_ne.mpr c40) ?_
   refine condT kr ?_
   refine wp_seq_k fun K41 hK42 => rl ?_
   refine seqL4 kr ?_
   refine nl (hK42 _ _ ?_)
   refine wp_ret ?_
   refine hret _ _ ?_
   have HS365 := HS36.cons_nil
   refine ends_still (v := Value.tuple #[.slice none 0 0, .int .i64 0, .int .i64 vt31]) kr kr ?_
   have HS370 := HS365.u3.u1.u3.u3
   have HS371 := HS370.drop
   have HS372 := HS371.drop
   injection h with h
   injection h with h0_ h
   injection h with h1_ h
   subst h0_ h1_ h
   exact ⟨f33, none, 0, [], rfl, L34, HS372, (Own.nil _)⟩
 · have c40 : ¬ (vt31 ≠ 0) := c40
   refine wpRwI 16 (x := (vt31 != 0)) (v := false) kr (bne_eq_false_iff_eq.mpr (Decidable.of_not_not c40)) ?_
   refine condF kr ?_
   refine wp_skip ?_
   refine hK28 _ _ ?_
   refine wp_seq_k fun K43 hK44 => rl ?_
   refine seqK rfl (does_alloc (z := Value.slice none 0 0) (cs := #[.slice none 0 0]) rfl kr rfl HS36 ?_)
   intro b45 W46 HS47
   refine nl (hK44 _ _ ?_)
   refine wp_seq_k fun K49 hK50 => rl ?_
   refine seqL2 kr ?_
   refine nl (hK50 _ _ ?_)
   refine wp_seq_k (fun K51 hK52 => ?_)
   refine wp_seq_k fun K53 hK54 => rl ?_
   refine seqK rfl (does_run (run_load rfl Tryz.underlying66 rfl (kv (.pointer (some ⟨b19, 0, none⟩))) (HS47.u2.cell 0)) ?_)
   refine seqL2 kr ?_
   refine seqK rfl (does_run (run_load rfl Tryz.underlying22 rfl (kv (.pointer (some ⟨b1, 3, none⟩))) (HS47.u3.cell 3)) ?_)
   refine seqL2 kr ?_
   refine nl (hK54 _ _ ?_)
   refine blockK (fun B55 hx56 hn57 hr58 ho59 hp60 => ?_)
   have hq_ := bind_some h; clear h; obtain ⟨o114, hv180, h⟩ := hq_
   have J181 : ∀ (f169 : FM) (A175 : Option Addr) (c176 : Nat) (s177 : Seg) (x174 : List S_Answer) (j173 : Nat → Value) (W171 : World) (a_ : Act), FM.le f33 f169 → some (x174) = some o114 → St t W171 f169 (s177 :: [(b45, .cells #[.slice A175 x174.length c176] 57 (0, 0))] :: [(b23, .cells #[.slice A14 q13.Cones.length c15, .int .i64 q13.From, .int .i64 q13.To, .int .i64 q13.Least, .int .i64 q13.Ban] 51 (0, 0))] :: [(b19, .cells #[.pointer (some ⟨b1, 0, none⟩)] 66 (0, 0))] :: [(b1, .cells #[.slice A4 x3.rows.length c5, .int .i64 x3.level, .slice A7 x3.roots.length c8, .slice A10 x3.loose.length c11] 109 (0, 0))] :: H) → Own ty_Answer 62 f169 A175 c176 s177 x174 → a_ = ⟨#[pV b1 0, (ag_Ask q13 A14 c15), pV b19 0, pV b23 0, .slice none 0 0, iV 0, iV 0, iV vt31, pV b45 0, .func (.func 51) #[] #[pV b19 0, pV b23 0, pV b45 0], uV, (j173 0), uV, (ag_Ask q13 A14 c15), iV vt31, iV vt31, fV, uV, .func (.func 51) #[] #[pV b19 0, pV b23 0, pV b45 0], pV b1 0, pV b1 0, pV b1 3, .slice A10 x3.loose.length c11, iV (x3.loose.length : Int), (j173 1), (j173 2), (j173 3), (j173 4), (j173 5), (j173 6), (j173 7), (j173 8), uV, uV, uV, uV, uV, uV, uV, uV, uV, uV, uV, uV, uV, uV, uV, uV, uV], []⟩ → K51 a_ W171 := by
    intro f169 A175 c176 s177 x174 j173 W171 a_ L170 hj182 HS172 HO178 hfr_; subst hfr_
    injection hj182 with hj182; subst hj182; try dsimp only at h
    refine hK52 _ _ ?_
    refine wp_seq_k (fun K190 hK191 => ?_)
    have HS196 := HS172.u4.u4.u4.u4.u4
    refine heldG (S := Sg t f169 (H) [(11, s177), (11, [(b45, .cells #[.slice A175 x174.length c176] 57 (0, 0))]), (11, [(b23, .cells #[.slice A14 q13.Cones.length c15, .int .i64 q13.From, .int .i64 q13.To, .int .i64 q13.Least, .int .i64 q13.Ban] 51 (0, 0))])]) (n := 14) kr rfl HS196 ?_
    intro W197 HS198
    have hq_ := bind_some h; clear h; obtain ⟨⟨vt203, vt204⟩, hc205, h⟩ := hq_
    refine takeGL [9, 10] (n := 14) (fuel := 12) #[false, false, false, false, false, false, false, false, false, true, true, false, false, false] rfl kr kr kr hnp (Sg.g3 (Sx.of [s177, [(b45, .cells #[.slice A175 x174.length c176] 57 (0, 0))], [(b23, .cells #[.slice A14 q13.Cones.length c15, .int .i64 q13.From, .int .i64 q13.To, .int .i64 q13.Least, .int .i64 q13.Ban] 51 (0, 0))], [(b19, .cells #[.pointer (some ⟨b1, 0, none⟩)] 66 (0, 0))], [(b1, .cells #[.slice A4 x3.rows.length c5, .int .i64 x3.level, .slice A7 x3.roots.length c8, .slice A10 x3.loose.length c11] 109 (0, 0))]] fL HS198) (fun _ => St.only [] HS198 fL) (fun _ => St.only [s177] HS198 fL) (fun _ => St.only [s177, [(b45, .cells #[.slice A175 x174.length c176] 57 (0, 0))]] HS198 fL)) ?_
    refine withR #[true, true, true, true, true, true, true, true, true, true, true, true, true, true] ?_
    intro R215 hR216 hR217
    have J218 : ∀ (f206 : FM) (A210 : Option Addr) (c211 : Nat) (s212 : Seg) (W219 : World) (a_ : Act), FM.le f169 f206 → Own ty_Answer 62 f206 A210 c211 s212 vt204 → St t W219 f206 (s212 :: [(b23, .cells #[.slice A14 q13.Cones.length c15, .int .i64 q13.From, .int .i64 q13.To, .int .i64 q13.Least, .int .i64 q13.Ban] 51 (0, 0))] :: [(b19, .cells #[.pointer (some ⟨b1, 0, none⟩)] 66 (0, 0))] :: [(b1, .cells #[.slice A4 x3.rows.length c5, .int .i64 x3.level, .slice A7 x3.roots.length c8, .slice A10 x3.loose.length c11] 109 (0, 0))] :: [(b45, .cells #[.slice A210 vt204.length c211] 57 (0, 0))] :: H) → a_ = ⟨#[pV b1 0, (ag_Ask q13 A14 c15), pV b19 0, pV b23 0, .slice none 0 0, iV 0, iV 0, iV vt31, pV b45 0, .func (.func 51) #[] #[pV b19 0, pV b23 0, pV b45 0], uV, (j173 0), iV (w64 ((x3.loose.length : Int) + vt203)), (ag_Ask q13 A14 c15), iV vt31, iV vt31, fV, uV, .func (.func 51) #[] #[pV b19 0, pV b23 0, pV b45 0], pV b1 0, pV b1 0, pV b1 3, .slice A10 x3.loose.length c11, iV (x3.loose.length : Int), (j173 1), (j173 2), (j173 3), (j173 4), (j173 5), (j173 6), (j173 7), (j173 8), pV b1 0, pV b1 0, pV b1 3, .slice A10 x3.loose.length c11, iV (x3.loose.length : Int), pV b1 0, pV b1 0, pV b1 2, .slice A7 x3.roots.length c8, .func (.func 53) #[] #[pV b23 0], .func (.func 51) #[] #[pV b19 0, pV b23 0, pV b45 0], iV vt203, iV (w64 ((x3.loose.length : Int) + vt203)), uV, uV, uV, uV], []⟩ → R215 a_ W219 := by
     intro f206 A210 c211 s212 W219 a_ L207 HO213 HS220 hfr_; subst hfr_
     refine hR216 _ _ ?_
     refine doneG kr ?_ _
     refine hK191 _ _ ?_
     refine wp_seq_k fun K351 hK352 => rl ?_
     refine seqK rfl (does_run (run_load rfl Tryz.underlying57 rfl (kv (.pointer (some ⟨b45, 0, none⟩))) (HS220.u4.cell 0)) ?_)
     have hq_ := bind_some h; clear h; obtain ⟨vt353, hc354, h⟩ := hq_
     refine seqK rfl (does_call (f := 56) (args := #[.slice A210 vt204.length c211, .func (.func 57) #[] #[]]) kr (slices_SortFunc_Answer__query_Index_Run_3.calls k A210 c211 s212 vt204 HS220 HO213 vt353 hc354) ?_)
     rintro _ W357 ⟨f355, s359, rfl, L356, HS358, HO360, HL361⟩
     refine ⟨_, rfl, ?_⟩
     have HS362 : St t W357 f355 (s359 :: [(b23, .cells #[.slice A14 q13.Cones.length c15, .int .i64 q13.From, .int .i64 q13.To, .int .i64 q13.Least, .int .i64 q13.Ban] 51 (0, 0))] :: [(b19, .cells #[.pointer (some ⟨b1, 0, none⟩)] 66 (0, 0))] :: [(b1, .cells #[.slice A4 x3.rows.length c5, .int .i64 x3.level, .slice A7 x3.roots.length c8, .slice A10 x3.loose.length c11] 109 (0, 0))] :: [(b45, .cells #[.slice A210 vt353.length c211] 57 (0, 0))] :: H) := by rw [show vt353.length = vt204.length from HL361]; exact HS358
     refine seqRwS 45 (A := A210) (m := vt204.length) (n := vt353.length) (c := c211) kr (HL361).symm ?_
     refine nl (hK352 _ _ ?_)
     refine wp_seq_k fun K363 hK364 => rl ?_
     refine seqK rfl (does_run (run_load rfl Tryz.underlying57 rfl (kv (.pointer (some ⟨b45, 0, none⟩))) (HS362.u4.cell 0)) ?_)
     refine seqL4 kr ?_
     refine nl (hK364 _ _ ?_)
     refine wp_ret ?_
     refine hret _ _ ?_
     refine ends_still (v := Value.tuple #[.slice A210 vt353.length c211, .int .i64 (w64 ((x3.loose.length : Int) + vt203)), .int .i64 0]) kr kr ?_
     have HS377 := HS362.u3.u1.u4.u4.u4
     have HS378 := HS377.drop
     have HS379 := HS378.drop
     have HS380 := HS379.drop
     injection h with h
     injection h with h0_ h
     injection h with h1_ h
     subst h0_ h1_ h
     exact ⟨f355, A210, c211, s359, rfl, (L34.trans (L170.trans (L207.trans L356))), HS380, HO360⟩
    refine takeEither 0 5 kr rfl rfl rfl rfl ?_ ?_
    · refine does_run (run_load rfl Tryz.underlying66 rfl (kv (.pointer (some ⟨b19, 0, none⟩))) (HS198.u3.cell 0)) ?_
      refine ⟨(Sg.g3 (Sx.of [s177, [(b45, .cells #[.slice A175 x174.length c176] 57 (0, 0))], [(b23, .cells #[.slice A14 q13.Cones.length c15, .int .i64 q13.From, .int .i64 q13.To, .int .i64 q13.Least, .int .i64 q13.Ban] 51 (0, 0))], [(b19, .cells #[.pointer (some ⟨b1, 0, none⟩)] 66 (0, 0))], [(b1, .cells #[.slice A4 x3.rows.length c5, .int .i64 x3.level, .slice A7 x3.roots.length c8, .slice A10 x3.loose.length c11] 109 (0, 0))]] fL HS198) (fun _ => St.only [] HS198 fL) (fun _ => St.only [s177] HS198 fL) (fun _ => St.only [s177, [(b45, .cells #[.slice A175 x174.length c176] 57 (0, 0))]] HS198 fL)), ?_⟩
      refine takeGL [1, 2] (n := 11) (fuel := 9) #[true, true, true, false, false, false, false, false, false, true, true, false, false, false] rfl kr kr kr hnp (Sg.g3 (Sx.of [s177, [(b45, .cells #[.slice A175 x174.length c176] 57 (0, 0))], [(b23, .cells #[.slice A14 q13.Cones.length c15, .int .i64 q13.From, .int .i64 q13.To, .int .i64 q13.Least, .int .i64 q13.Ban] 51 (0, 0))], [(b19, .cells #[.pointer (some ⟨b1, 0, none⟩)] 66 (0, 0))], [(b1, .cells #[.slice A4 x3.rows.length c5, .int .i64 x3.level, .slice A7 x3.roots.length c8, .slice A10 x3.loose.length c11] 109 (0, 0))]] fL HS198) (fun _ => St.only [] HS198 fL) (fun _ => St.only [s177] HS198 fL) (fun _ => St.only [s177, [(b45, .cells #[.slice A175 x174.length c176] 57 (0, 0))]] HS198 fL)) ?_
      refine takeEither 3 5 kr rfl rfl rfl rfl ?_ ?_
      · refine does_run (run_load rfl Tryz.underlying22 rfl (kv (.pointer (some ⟨b1, 3, none⟩))) (HS198.u4.cell 3)) ?_
        refine ⟨(Sg.g3 (Sx.of [s177, [(b45, .cells #[.slice A175 x174.length c176] 57 (0, 0))], [(b23, .cells #[.slice A14 q13.Cones.length c15, .int .i64 q13.From, .int .i64 q13.To, .int .i64 q13.Least, .int .i64 q13.Ban] 51 (0, 0))], [(b19, .cells #[.pointer (some ⟨b1, 0, none⟩)] 66 (0, 0))], [(b1, .cells #[.slice A4 x3.rows.length c5, .int .i64 x3.level, .slice A7 x3.roots.length c8, .slice A10 x3.loose.length c11] 109 (0, 0))]] fL HS198) (fun _ => St.only [] HS198 fL) (fun _ => St.only [s177] HS198 fL) (fun _ => St.only [s177, [(b45, .cells #[.slice A175 x174.length c176] 57 (0, 0))]] HS198 fL)), ?_⟩
        refine takeGL [4] (n := 8) (fuel := 7) #[true, true, true, true, true, false, false, false, false, true, true, false, false, false] rfl kr kr kr hnp (Sg.g3 (Sx.of [s177, [(b45, .cells #[.slice A175 x174.length c176] 57 (0, 0))], [(b23, .cells #[.slice A14 q13.Cones.length c15, .int .i64 q13.From, .int .i64 q13.To, .int .i64 q13.Least, .int .i64 q13.Ban] 51 (0, 0))], [(b19, .cells #[.pointer (some ⟨b1, 0, none⟩)] 66 (0, 0))], [(b1, .cells #[.slice A4 x3.rows.length c5, .int .i64 x3.level, .slice A7 x3.roots.length c8, .slice A10 x3.loose.length c11] 109 (0, 0))]] fL HS198) (fun _ => St.only [] HS198 fL) (fun _ => St.only [s177] HS198 fL) (fun _ => St.only [s177, [(b45, .cells #[.slice A175 x174.length c176] 57 (0, 0))]] HS198 fL)) ?_
        refine takeGE 5 kr rfl kr (does_run (run_load rfl Tryz.underlying66 rfl (kv (.pointer (some ⟨b19, 0, none⟩))) (HS198.u3.cell 0)) ?_)
        refine ⟨(Sg.g3 (Sx.of [s177, [(b45, .cells #[.slice A175 x174.length c176] 57 (0, 0))], [(b23, .cells #[.slice A14 q13.Cones.length c15, .int .i64 q13.From, .int .i64 q13.To, .int .i64 q13.Least, .int .i64 q13.Ban] 51 (0, 0))], [(b19, .cells #[.pointer (some ⟨b1, 0, none⟩)] 66 (0, 0))], [(b1, .cells #[.slice A4 x3.rows.length c5, .int .i64 x3.level, .slice A7 x3.roots.length c8, .slice A10 x3.loose.length c11] 109 (0, 0))]] fL HS198) (fun _ => St.only [] HS198 fL) (fun _ => St.only [s177] HS198 fL) (fun _ => St.only [s177, [(b45, .cells #[.slice A175 x174.length c176] 57 (0, 0))]] HS198 fL)), ?_⟩
        refine takeGL [6, 7] (n := 6) (fuel := 4) #[true, true, true, true, true, true, true, true, false, true, true, false, false, false] rfl kr kr kr hnp (Sg.g3 (Sx.of [s177, [(b45, .cells #[.slice A175 x174.length c176] 57 (0, 0))], [(b23, .cells #[.slice A14 q13.Cones.length c15, .int .i64 q13.From, .int .i64 q13.To, .int .i64 q13.Least, .int .i64 q13.Ban] 51 (0, 0))], [(b19, .cells #[.pointer (some ⟨b1, 0, none⟩)] 66 (0, 0))], [(b1, .cells #[.slice A4 x3.rows.length c5, .int .i64 x3.level, .slice A7 x3.roots.length c8, .slice A10 x3.loose.length c11] 109 (0, 0))]] fL HS198) (fun _ => St.only [] HS198 fL) (fun _ => St.only [s177] HS198 fL) (fun _ => St.only [s177, [(b45, .cells #[.slice A175 x174.length c176] 57 (0, 0))]] HS198 fL)) ?_
        refine takeGE 8 kr rfl kr (does_run (run_load rfl Tryz.underlying107 rfl (kv (.pointer (some ⟨b1, 2, none⟩))) (HS198.u4.cell 2)) ?_)
        refine ⟨(Sg.g3 (Sx.of [s177, [(b45, .cells #[.slice A175 x174.length c176] 57 (0, 0))], [(b23, .cells #[.slice A14 q13.Cones.length c15, .int .i64 q13.From, .int .i64 q13.To, .int .i64 q13.Least, .int .i64 q13.Ban] 51 (0, 0))], [(b19, .cells #[.pointer (some ⟨b1, 0, none⟩)] 66 (0, 0))], [(b1, .cells #[.slice A4 x3.rows.length c5, .int .i64 x3.level, .slice A7 x3.roots.length c8, .slice A10 x3.loose.length c11] 109 (0, 0))]] fL HS198) (fun _ => St.only [] HS198 fL) (fun _ => St.only [s177] HS198 fL) (fun _ => St.only [s177, [(b45, .cells #[.slice A175 x174.length c176] 57 (0, 0))]] HS198 fL)), ?_⟩
        have HS224 := HS198.u1.u4.u4.u4
        refine takeGE 11 kr rfl kr (does_call (f := 52) (args := #[.slice A7 x3.roots.length c8, .func (.func 53) #[] #[.pointer (some ⟨b23, 0, none⟩)], .func (.func 51) #[] #[.pointer (some ⟨b19, 0, none⟩), .pointer (some ⟨b23, 0, none⟩), .pointer (some ⟨b45, 0, none⟩)]]) kr (query_walk__query_Index_Run_2__query_Index_Run_1.calls k b23 A14 c15 b19 b1 A4 c5 A7 c8 A10 c11 b45 A175 c176 s177 A7 c8 q13 x3 x174 x3.roots HS224 (HR16.mono (L34.trans L170)) (HR6.mono (L34.trans L170)) (HR9.mono (L34.trans L170)) (HR12.mono (L34.trans L170)) HO178 (HR9.mono (L34.trans L170)) vt203 vt204 hc205) ?_)
        rintro _ W227 ⟨f225, A229, c230, s231, rfl, L226, HS228, HO232⟩
        refine ⟨_, rfl, ?_⟩
        refine ⟨(Sg.g3 (Sx.of [s231, [(b23, .cells #[.slice A14 q13.Cones.length c15, .int .i64 q13.From, .int .i64 q13.To, .int .i64 q13.Least, .int .i64 q13.Ban] 51 (0, 0))], [(b19, .cells #[.pointer (some ⟨b1, 0, none⟩)] 66 (0, 0))], [(b1, .cells #[.slice A4 x3.rows.length c5, .int .i64 x3.level, .slice A7 x3.roots.length c8, .slice A10 x3.loose.length c11] 109 (0, 0))], [(b45, .cells #[.slice A229 vt204.length c230] 57 (0, 0))]] L226 HS228) (fun hl_ => Bool.noConfusion (show true = false from hl_)) (fun hl_ => Bool.noConfusion (show true = false from hl_)) (fun hl_ => Bool.noConfusion (show true = false from hl_))), ?_⟩
        refine takeGL [12, 13] (n := 2) (fuel := 0) #[true, true, true, true, true, true, true, true, true, true, true, true, true, true] rfl kr kr kr hnp (Sg.g3 (Sx.of [s231, [(b23, .cells #[.slice A14 q13.Cones.length c15, .int .i64 q13.From, .int .i64 q13.To, .int .i64 q13.Least, .int .i64 q13.Ban] 51 (0, 0))], [(b19, .cells #[.pointer (some ⟨b1, 0, none⟩)] 66 (0, 0))], [(b1, .cells #[.slice A4 x3.rows.length c5, .int .i64 x3.level, .slice A7 x3.roots.length c8, .slice A10 x3.loose.length c11] 109 (0, 0))], [(b45, .cells #[.slice A229 vt204.length c230] 57 (0, 0))]] L226 HS228) (fun hl_ => Bool.noConfusion (show true = false from hl_)) (fun hl_ => Bool.noConfusion (show true = false from hl_)) (fun hl_ => Bool.noConfusion (show true = false from hl_))) ?_
        refine hR217 _ _ ?_
        exact J218 f225 A229 c230 s231 W227 _ L226 HO232 HS228 kr
      · refine does_run (run_load rfl Tryz.underlying66 rfl (kv (.pointer (some ⟨b19, 0, none⟩))) (HS198.u3.cell 0)) ?_
        refine ⟨(Sg.g3 (Sx.of [s177, [(b45, .cells #[.slice A175 x174.length c176] 57 (0, 0))], [(b23, .cells #[.slice A14 q13.Cones.length c15, .int .i64 q13.From, .int .i64 q13.To, .int .i64 q13.Least, .int .i64 q13.Ban] 51 (0, 0))], [(b19, .cells #[.pointer (some ⟨b1, 0, none⟩)] 66 (0, 0))], [(b1, .cells #[.slice A4 x3.rows.length c5, .int .i64 x3.level, .slice A7 x3.roots.length c8, .slice A10 x3.loose.length c11] 109 (0, 0))]] fL HS198) (fun _ => St.only [] HS198 fL) (fun _ => St.only [s177] HS198 fL) (fun _ => St.only [s177, [(b45, .cells #[.slice A175 x174.length c176] 57 (0, 0))]] HS198 fL)), ?_⟩
        refine takeGL [6, 7] (n := 8) (fuel := 6) #[true, true, true, false, false, true, true, true, false, true, true, false, false, false] rfl kr kr kr hnp (Sg.g3 (Sx.of [s177, [(b45, .cells #[.slice A175 x174.length c176] 57 (0, 0))], [(b23, .cells #[.slice A14 q13.Cones.length c15, .int .i64 q13.From, .int .i64 q13.To, .int .i64 q13.Least, .int .i64 q13.Ban] 51 (0, 0))], [(b19, .cells #[.pointer (some ⟨b1, 0, none⟩)] 66 (0, 0))], [(b1, .cells #[.slice A4 x3.rows.length c5, .int .i64 x3.level, .slice A7 x3.roots.length c8, .slice A10 x3.loose.length c11] 109 (0, 0))]] fL HS198) (fun _ => St.only [] HS198 fL) (fun _ => St.only [s177] HS198 fL) (fun _ => St.only [s177, [(b45, .cells #[.slice A175 x174.length c176] 57 (0, 0))]] HS198 fL)) ?_
        refine takeEither 3 8 kr rfl rfl rfl rfl ?_ ?_
        · refine does_run (run_load rfl Tryz.underlying22 rfl (kv (.pointer (some ⟨b1, 3, none⟩))) (HS198.u4.cell 3)) ?_
          refine ⟨(Sg.g3 (Sx.of [s177, [(b45, .cells #[.slice A175 x174.length c176] 57 (0, 0))], [(b23, .cells #[.slice A14 q13.Cones.length c15, .int .i64 q13.From, .int .i64 q13.To, .int .i64 q13.Least, .int .i64 q13.Ban] 51 (0, 0))], [(b19, .cells #[.pointer (some ⟨b1, 0, none⟩)] 66 (0, 0))], [(b1, .cells #[.slice A4 x3.rows.length c5, .int .i64 x3.level, .slice A7 x3.roots.length c8, .slice A10 x3.loose.length c11] 109 (0, 0))]] fL HS198) (fun _ => St.only [] HS198 fL) (fun _ => St.only [s177] HS198 fL) (fun _ => St.only [s177, [(b45, .cells #[.slice A175 x174.length c176] 57 (0, 0))]] HS198 fL)), ?_⟩
          refine takeGL [4] (n := 5) (fuel := 4) #[true, true, true, true, true, true, true, true, false, true, true, false, false, false] rfl kr kr kr hnp (Sg.g3 (Sx.of [s177, [(b45, .cells #[.slice A175 x174.length c176] 57 (0, 0))], [(b23, .cells #[.slice A14 q13.Cones.length c15, .int .i64 q13.From, .int .i64 q13.To, .int .i64 q13.Least, .int .i64 q13.Ban] 51 (0, 0))], [(b19, .cells #[.pointer (some ⟨b1, 0, none⟩)] 66 (0, 0))], [(b1, .cells #[.slice A4 x3.rows.length c5, .int .i64 x3.level, .slice A7 x3.roots.length c8, .slice A10 x3.loose.length c11] 109 (0, 0))]] fL HS198) (fun _ => St.only [] HS198 fL) (fun _ => St.only [s177] HS198 fL) (fun _ => St.only [s177, [(b45, .cells #[.slice A175 x174.length c176] 57 (0, 0))]] HS198 fL)) ?_
          refine takeGE 8 kr rfl kr (does_run (run_load rfl Tryz.underlying107 rfl (kv (.pointer (some ⟨b1, 2, none⟩))) (HS198.u4.cell 2)) ?_)
          refine ⟨(Sg.g3 (Sx.of [s177, [(b45, .cells #[.slice A175 x174.length c176] 57 (0, 0))], [(b23, .cells #[.slice A14 q13.Cones.length c15, .int .i64 q13.From, .int .i64 q13.To, .int .i64 q13.Least, .int .i64 q13.Ban] 51 (0, 0))], [(b19, .cells #[.pointer (some ⟨b1, 0, none⟩)] 66 (0, 0))], [(b1, .cells #[.slice A4 x3.rows.length c5, .int .i64 x3.level, .slice A7 x3.roots.length c8, .slice A10 x3.loose.length c11] 109 (0, 0))]] fL HS198) (fun _ => St.only [] HS198 fL) (fun _ => St.only [s177] HS198 fL) (fun _ => St.only [s177, [(b45, .cells #[.slice A175 x174.length c176] 57 (0, 0))]] HS198 fL)), ?_⟩
          have HS237 := HS198.u1.u4.u4.u4
          refine takeGE 11 kr rfl kr (does_call (f := 52) (args := #[.slice A7 x3.roots.length c8, .func (.func 53) #[] #[.pointer (some ⟨b23, 0, none⟩)], .func (.func 51) #[] #[.pointer (some ⟨b19, 0, none⟩), .pointer (some ⟨b23, 0, none⟩), .pointer (some ⟨b45, 0, none⟩)]]) kr (query_walk__query_Index_Run_2__query_Index_Run_1.calls k b23 A14 c15 b19 b1 A4 c5 A7 c8 A10 c11 b45 A175 c176 s177 A7 c8 q13 x3 x174 x3.roots HS237 (HR16.mono (L34.trans L170)) (HR6.mono (L34.trans L170)) (HR9.mono (L34.trans L170)) (HR12.mono (L34.trans L170)) HO178 (HR9.mono (L34.trans L170)) vt203 vt204 hc205) ?_)
          rintro _ W240 ⟨f238, A242, c243, s244, rfl, L239, HS241, HO245⟩
          refine ⟨_, rfl, ?_⟩
          refine ⟨(Sg.g3 (Sx.of [s244, [(b23, .cells #[.slice A14 q13.Cones.length c15, .int .i64 q13.From, .int .i64 q13.To, .int .i64 q13.Least, .int .i64 q13.Ban] 51 (0, 0))], [(b19, .cells #[.pointer (some ⟨b1, 0, none⟩)] 66 (0, 0))], [(b1, .cells #[.slice A4 x3.rows.length c5, .int .i64 x3.level, .slice A7 x3.roots.length c8, .slice A10 x3.loose.length c11] 109 (0, 0))], [(b45, .cells #[.slice A242 vt204.length c243] 57 (0, 0))]] L239 HS241) (fun hl_ => Bool.noConfusion (show true = false from hl_)) (fun hl_ => Bool.noConfusion (show true = false from hl_)) (fun hl_ => Bool.noConfusion (show true = false from hl_))), ?_⟩
          refine takeGL [12, 13] (n := 2) (fuel := 0) #[true, true, true, true, true, true, true, true, true, true, true, true, true, true] rfl kr kr kr hnp (Sg.g3 (Sx.of [s244, [(b23, .cells #[.slice A14 q13.Cones.length c15, .int .i64 q13.From, .int .i64 q13.To, .int .i64 q13.Least, .int .i64 q13.Ban] 51 (0, 0))], [(b19, .cells #[.pointer (some ⟨b1, 0, none⟩)] 66 (0, 0))], [(b1, .cells #[.slice A4 x3.rows.length c5, .int .i64 x3.level, .slice A7 x3.roots.length c8, .slice A10 x3.loose.length c11] 109 (0, 0))], [(b45, .cells #[.slice A242 vt204.length c243] 57 (0, 0))]] L239 HS241) (fun hl_ => Bool.noConfusion (show true = false from hl_)) (fun hl_ => Bool.noConfusion (show true = false from hl_)) (fun hl_ => Bool.noConfusion (show true = false from hl_))) ?_
          refine hR217 _ _ ?_
          exact J218 f238 A242 c243 s244 W240 _ L239 HO245 HS241 kr
        · refine does_run (run_load rfl Tryz.underlying107 rfl (kv (.pointer (some ⟨b1, 2, none⟩))) (HS198.u4.cell 2)) ?_
          refine ⟨(Sg.g3 (Sx.of [s177, [(b45, .cells #[.slice A175 x174.length c176] 57 (0, 0))], [(b23, .cells #[.slice A14 q13.Cones.length c15, .int .i64 q13.From, .int .i64 q13.To, .int .i64 q13.Least, .int .i64 q13.Ban] 51 (0, 0))], [(b19, .cells #[.pointer (some ⟨b1, 0, none⟩)] 66 (0, 0))], [(b1, .cells #[.slice A4 x3.rows.length c5, .int .i64 x3.level, .slice A7 x3.roots.length c8, .slice A10 x3.loose.length c11] 109 (0, 0))]] fL HS198) (fun _ => St.only [] HS198 fL) (fun _ => St.only [s177] HS198 fL) (fun _ => St.only [s177, [(b45, .cells #[.slice A175 x174.length c176] 57 (0, 0))]] HS198 fL)), ?_⟩
          refine takeEither 3 11 kr rfl rfl rfl rfl ?_ ?_
          · refine does_run (run_load rfl Tryz.underlying22 rfl (kv (.pointer (some ⟨b1, 3, none⟩))) (HS198.u4.cell 3)) ?_
            refine ⟨(Sg.g3 (Sx.of [s177, [(b45, .cells #[.slice A175 x174.length c176] 57 (0, 0))], [(b23, .cells #[.slice A14 q13.Cones.length c15, .int .i64 q13.From, .int .i64 q13.To, .int .i64 q13.Least, .int .i64 q13.Ban] 51 (0, 0))], [(b19, .cells #[.pointer (some ⟨b1, 0, none⟩)] 66 (0, 0))], [(b1, .cells #[.slice A4 x3.rows.length c5, .int .i64 x3.level, .slice A7 x3.roots.length c8, .slice A10 x3.loose.length c11] 109 (0, 0))]] fL HS198) (fun _ => St.only [] HS198 fL) (fun _ => St.only [s177] HS198 fL) (fun _ => St.only [s177, [(b45, .cells #[.slice A175 x174.length c176] 57 (0, 0))]] HS198 fL)), ?_⟩
            refine takeGL [4] (n := 4) (fuel := 3) #[true, true, true, true, true, true, true, true, true, true, true, false, false, false] rfl kr kr kr hnp (Sg.g3 (Sx.of [s177, [(b45, .cells #[.slice A175 x174.length c176] 57 (0, 0))], [(b23, .cells #[.slice A14 q13.Cones.length c15, .int .i64 q13.From, .int .i64 q13.To, .int .i64 q13.Least, .int .i64 q13.Ban] 51 (0, 0))], [(b19, .cells #[.pointer (some ⟨b1, 0, none⟩)] 66 (0, 0))], [(b1, .cells #[.slice A4 x3.rows.length c5, .int .i64 x3.level, .slice A7 x3.roots.length c8, .slice A10 x3.loose.length c11] 109 (0, 0))]] fL HS198) (fun _ => St.only [] HS198 fL) (fun _ => St.only [s177] HS198 fL) (fun _ => St.only [s177, [(b45, .cells #[.slice A175 x174.length c176] 57 (0, 0))]] HS198 fL)) ?_
            have HS250 := HS198.u1.u4.u4.u4
            refine takeGE 11 kr rfl kr (does_call (f := 52) (args := #[.slice A7 x3.roots.length c8, .func (.func 53) #[] #[.pointer (some ⟨b23, 0, none⟩)], .func (.func 51) #[] #[.pointer (some ⟨b19, 0, none⟩), .pointer (some ⟨b23, 0, none⟩), .pointer (some ⟨b45, 0, none⟩)]]) kr (query_walk__query_Index_Run_2__query_Index_Run_1.calls k b23 A14 c15 b19 b1 A4 c5 A7 c8 A10 c11 b45 A175 c176 s177 A7 c8 q13 x3 x174 x3.roots HS250 (HR16.mono (L34.trans L170)) (HR6.mono (L34.trans L170)) (HR9.mono (L34.trans L170)) (HR12.mono (L34.trans L170)) HO178 (HR9.mono (L34.trans L170)) vt203 vt204 hc205) ?_)
            rintro _ W253 ⟨f251, A255, c256, s257, rfl, L252, HS254, HO258⟩
            refine ⟨_, rfl, ?_⟩
            refine ⟨(Sg.g3 (Sx.of [s257, [(b23, .cells #[.slice A14 q13.Cones.length c15, .int .i64 q13.From, .int .i64 q13.To, .int .i64 q13.Least, .int .i64 q13.Ban] 51 (0, 0))], [(b19, .cells #[.pointer (some ⟨b1, 0, none⟩)] 66 (0, 0))], [(b1, .cells #[.slice A4 x3.rows.length c5, .int .i64 x3.level, .slice A7 x3.roots.length c8, .slice A10 x3.loose.length c11] 109 (0, 0))], [(b45, .cells #[.slice A255 vt204.length c256] 57 (0, 0))]] L252 HS254) (fun hl_ => Bool.noConfusion (show true = false from hl_)) (fun hl_ => Bool.noConfusion (show true = false from hl_)) (fun hl_ => Bool.noConfusion (show true = false from hl_))), ?_⟩
            refine takeGL [12, 13] (n := 2) (fuel := 0) #[true, true, true, true, true, true, true, true, true, true, true, true, true, true] rfl kr kr kr hnp (Sg.g3 (Sx.of [s257, [(b23, .cells #[.slice A14 q13.Cones.length c15, .int .i64 q13.From, .int .i64 q13.To, .int .i64 q13.Least, .int .i64 q13.Ban] 51 (0, 0))], [(b19, .cells #[.pointer (some ⟨b1, 0, none⟩)] 66 (0, 0))], [(b1, .cells #[.slice A4 x3.rows.length c5, .int .i64 x3.level, .slice A7 x3.roots.length c8, .slice A10 x3.loose.length c11] 109 (0, 0))], [(b45, .cells #[.slice A255 vt204.length c256] 57 (0, 0))]] L252 HS254) (fun hl_ => Bool.noConfusion (show true = false from hl_)) (fun hl_ => Bool.noConfusion (show true = false from hl_)) (fun hl_ => Bool.noConfusion (show true = false from hl_))) ?_
            refine hR217 _ _ ?_
            exact J218 f251 A255 c256 s257 W253 _ L252 HO258 HS254 kr
          · have HS260 := HS198.u1
            have HS263 := HS260.u4.u4.u4
            refine does_call (f := 52) (args := #[.slice A7 x3.roots.length c8, .func (.func 53) #[] #[.pointer (some ⟨b23, 0, none⟩)], .func (.func 51) #[] #[.pointer (some ⟨b19, 0, none⟩), .pointer (some ⟨b23, 0, none⟩), .pointer (some ⟨b45, 0, none⟩)]]) kr (query_walk__query_Index_Run_2__query_Index_Run_1.calls k b23 A14 c15 b19 b1 A4 c5 A7 c8 A10 c11 b45 A175 c176 s177 A7 c8 q13 x3 x174 x3.roots HS263 (HR16.mono (L34.trans L170)) (HR6.mono (L34.trans L170)) (HR9.mono (L34.trans L170)) (HR12.mono (L34.trans L170)) HO178 (HR9.mono (L34.trans L170)) vt203 vt204 hc205) ?_
            rintro _ W266 ⟨f264, A268, c269, s270, rfl, L265, HS267, HO271⟩
            refine ⟨_, rfl, ?_⟩
            refine ⟨(Sg.g3 (Sx.of [s270, [(b23, .cells #[.slice A14 q13.Cones.length c15, .int .i64 q13.From, .int .i64 q13.To, .int .i64 q13.Least, .int .i64 q13.Ban] 51 (0, 0))], [(b19, .cells #[.pointer (some ⟨b1, 0, none⟩)] 66 (0, 0))], [(b1, .cells #[.slice A4 x3.rows.length c5, .int .i64 x3.level, .slice A7 x3.roots.length c8, .slice A10 x3.loose.length c11] 109 (0, 0))], [(b45, .cells #[.slice A268 vt204.length c269] 57 (0, 0))]] L265 HS267) (fun hl_ => Bool.noConfusion (show true = false from hl_)) (fun hl_ => Bool.noConfusion (show true = false from hl_)) (fun hl_ => Bool.noConfusion (show true = false from hl_))), ?_⟩
            refine takeGE 3 kr rfl kr (does_run (run_load rfl Tryz.underlying22 rfl (kv (.pointer (some ⟨b1, 3, none⟩))) (HS267.u3.cell 3)) ?_)
            refine ⟨(Sg.g3 (Sx.of [s270, [(b23, .cells #[.slice A14 q13.Cones.length c15, .int .i64 q13.From, .int .i64 q13.To, .int .i64 q13.Least, .int .i64 q13.Ban] 51 (0, 0))], [(b19, .cells #[.pointer (some ⟨b1, 0, none⟩)] 66 (0, 0))], [(b1, .cells #[.slice A4 x3.rows.length c5, .int .i64 x3.level, .slice A7 x3.roots.length c8, .slice A10 x3.loose.length c11] 109 (0, 0))], [(b45, .cells #[.slice A268 vt204.length c269] 57 (0, 0))]] L265 HS267) (fun hl_ => Bool.noConfusion (show true = false from hl_)) (fun hl_ => Bool.noConfusion (show true = false from hl_)) (fun hl_ => Bool.noConfusion (show true = false from hl_))), ?_⟩
            refine takeGL [4, 12, 13] (n := 3) (fuel := 0) #[true, true, true, true, true, true, true, true, true, true, true, true, true, true] rfl kr kr kr hnp (Sg.g3 (Sx.of [s270, [(b23, .cells #[.slice A14 q13.Cones.length c15, .int .i64 q13.From, .int .i64 q13.To, .int .i64 q13.Least, .int .i64 q13.Ban] 51 (0, 0))], [(b19, .cells #[.pointer (some ⟨b1, 0, none⟩)] 66 (0, 0))], [(b1, .cells #[.slice A4 x3.rows.length c5, .int .i64 x3.level, .slice A7 x3.roots.length c8, .slice A10 x3.loose.length c11] 109 (0, 0))], [(b45, .cells #[.slice A268 vt204.length c269] 57 (0, 0))]] L265 HS267) (fun hl_ => Bool.noConfusion (show true = false from hl_)) (fun hl_ => Bool.noConfusion (show true = false from hl_)) (fun hl_ => Bool.noConfusion (show true = false from hl_))) ?_
            refine hR217 _ _ ?_
            exact J218 f264 A268 c269 s270 W266 _ L265 HO271 HS267 kr
    · refine does_run (run_load rfl Tryz.underlying66 rfl (kv (.pointer (some ⟨b19, 0, none⟩))) (HS198.u3.cell 0)) ?_
      refine ⟨(Sg.g3 (Sx.of [s177, [(b45, .cells #[.slice A175 x174.length c176] 57 (0, 0))], [(b23, .cells #[.slice A14 q13.Cones.length c15, .int .i64 q13.From, .int .i64 q13.To, .int .i64 q13.Least, .int .i64 q13.Ban] 51 (0, 0))], [(b19, .cells #[.pointer (some ⟨b1, 0, none⟩)] 66 (0, 0))], [(b1, .cells #[.slice A4 x3.rows.length c5, .int .i64 x3.level, .slice A7 x3.roots.length c8, .slice A10 x3.loose.length c11] 109 (0, 0))]] fL HS198) (fun _ => St.only [] HS198 fL) (fun _ => St.only [s177] HS198 fL) (fun _ => St.only [s177, [(b45, .cells #[.slice A175 x174.length c176] 57 (0, 0))]] HS198 fL)), ?_⟩
      refine takeGL [6, 7] (n := 11) (fuel := 9) #[false, false, false, false, false, true, true, true, false, true, true, false, false, false] rfl kr kr kr hnp (Sg.g3 (Sx.of [s177, [(b45, .cells #[.slice A175 x174.length c176] 57 (0, 0))], [(b23, .cells #[.slice A14 q13.Cones.length c15, .int .i64 q13.From, .int .i64 q13.To, .int .i64 q13.Least, .int .i64 q13.Ban] 51 (0, 0))], [(b19, .cells #[.pointer (some ⟨b1, 0, none⟩)] 66 (0, 0))], [(b1, .cells #[.slice A4 x3.rows.length c5, .int .i64 x3.level, .slice A7 x3.roots.length c8, .slice A10 x3.loose.length c11] 109 (0, 0))]] fL HS198) (fun _ => St.only [] HS198 fL) (fun _ => St.only [s177] HS198 fL) (fun _ => St.only [s177, [(b45, .cells #[.slice A175 x174.length c176] 57 (0, 0))]] HS198 fL)) ?_
      refine takeEither 0 8 kr rfl rfl rfl rfl ?_ ?_
      · refine does_run (run_load rfl Tryz.underlying66 rfl (kv (.pointer (some ⟨b19, 0, none⟩))) (HS198.u3.cell 0)) ?_
        refine ⟨(Sg.g3 (Sx.of [s177, [(b45, .cells #[.slice A175 x174.length c176] 57 (0, 0))], [(b23, .cells #[.slice A14 q13.Cones.length c15, .int .i64 q13.From, .int .i64 q13.To, .int .i64 q13.Least, .int .i64 q13.Ban] 51 (0, 0))], [(b19, .cells #[.pointer (some ⟨b1, 0, none⟩)] 66 (0, 0))], [(b1, .cells #[.slice A4 x3.rows.length c5, .int .i64 x3.level, .slice A7 x3.roots.length c8, .slice A10 x3.loose.length c11] 109 (0, 0))]] fL HS198) (fun _ => St.only [] HS198 fL) (fun _ => St.only [s177] HS198 fL) (fun _ => St.only [s177, [(b45, .cells #[.slice A175 x174.length c176] 57 (0, 0))]] HS198 fL)), ?_⟩
        refine takeGL [1, 2] (n := 8) (fuel := 6) #[true, true, true, false, false, true, true, true, false, true, true, false, false, false] rfl kr kr kr hnp (Sg.g3 (Sx.of [s177, [(b45, .cells #[.slice A175 x174.length c176] 57 (0, 0))], [(b23, .cells #[.slice A14 q13.Cones.length c15, .int .i64 q13.From, .int .i64 q13.To, .int .i64 q13.Least, .int .i64 q13.Ban] 51 (0, 0))], [(b19, .cells #[.pointer (some ⟨b1, 0, none⟩)] 66 (0, 0))], [(b1, .cells #[.slice A4 x3.rows.length c5, .int .i64 x3.level, .slice A7 x3.roots.length c8, .slice A10 x3.loose.length c11] 109 (0, 0))]] fL HS198) (fun _ => St.only [] HS198 fL) (fun _ => St.only [s177] HS198 fL) (fun _ => St.only [s177, [(b45, .cells #[.slice A175 x174.length c176] 57 (0, 0))]] HS198 fL)) ?_
        refine takeEither 3 8 kr rfl rfl rfl rfl ?_ ?_
        · refine does_run (run_load rfl Tryz.underlying22 rfl (kv (.pointer (some ⟨b1, 3, none⟩))) (HS198.u4.cell 3)) ?_
          refine ⟨(Sg.g3 (Sx.of [s177, [(b45, .cells #[.slice A175 x174.length c176] 57 (0, 0))], [(b23, .cells #[.slice A14 q13.Cones.length c15, .int .i64 q13.From, .int .i64 q13.To, .int .i64 q13.Least, .int .i64 q13.Ban] 51 (0, 0))], [(b19, .cells #[.pointer (some ⟨b1, 0, none⟩)] 66 (0, 0))], [(b1, .cells #[.slice A4 x3.rows.length c5, .int .i64 x3.level, .slice A7 x3.roots.length c8, .slice A10 x3.loose.length c11] 109 (0, 0))]] fL HS198) (fun _ => St.only [] HS198 fL) (fun _ => St.only [s177] HS198 fL) (fun _ => St.only [s177, [(b45, .cells #[.slice A175 x174.length c176] 57 (0, 0))]] HS198 fL)), ?_⟩
          refine takeGL [4] (n := 5) (fuel := 4) #[true, true, true, true, true, true, true, true, false, true, true, false, false, false] rfl kr kr kr hnp (Sg.g3 (Sx.of [s177, [(b45, .cells #[.slice A175 x174.length c176] 57 (0, 0))], [(b23, .cells #[.slice A14 q13.Cones.length c15, .int .i64 q13.From, .int .i64 q13.To, .int .i64 q13.Least, .int .i64 q13.Ban] 51 (0, 0))], [(b19, .cells #[.pointer (some ⟨b1, 0, none⟩)] 66 (0, 0))], [(b1, .cells #[.slice A4 x3.rows.length c5, .int .i64 x3.level, .slice A7 x3.roots.length c8, .slice A10 x3.loose.length c11] 109 (0, 0))]] fL HS198) (fun _ => St.only [] HS198 fL) (fun _ => St.only [s177] HS198 fL) (fun _ => St.only [s177, [(b45, .cells #[.slice A175 x174.length c176] 57 (0, 0))]] HS198 fL)) ?_
          refine takeGE 8 kr rfl kr (does_run (run_load rfl Tryz.underlying107 rfl (kv (.pointer (some ⟨b1, 2, none⟩))) (HS198.u4.cell 2)) ?_)
          refine ⟨(Sg.g3 (Sx.of [s177, [(b45, .cells #[.slice A175 x174.length c176] 57 (0, 0))], [(b23, .cells #[.slice A14 q13.Cones.length c15, .int .i64 q13.From, .int .i64 q13.To, .int .i64 q13.Least, .int .i64 q13.Ban] 51 (0, 0))], [(b19, .cells #[.pointer (some ⟨b1, 0, none⟩)] 66 (0, 0))], [(b1, .cells #[.slice A4 x3.rows.length c5, .int .i64 x3.level, .slice A7 x3.roots.length c8, .slice A10 x3.loose.length c11] 109 (0, 0))]] fL HS198) (fun _ => St.only [] HS198 fL) (fun _ => St.only [s177] HS198 fL) (fun _ => St.only [s177, [(b45, .cells #[.slice A175 x174.length c176] 57 (0, 0))]] HS198 fL)), ?_⟩
          have HS276 := HS198.u1.u4.u4.u4
          refine takeGE 11 kr rfl kr (does_call (f := 52) (args := #[.slice A7 x3.roots.length c8, .func (.func 53) #[] #[.pointer (some ⟨b23, 0, none⟩)], .func (.func 51) #[] #[.pointer (some ⟨b19, 0, none⟩), .pointer (some ⟨b23, 0, none⟩), .pointer (some ⟨b45, 0, none⟩)]]) kr (query_walk__query_Index_Run_2__query_Index_Run_1.calls k b23 A14 c15 b19 b1 A4 c5 A7 c8 A10 c11 b45 A175 c176 s177 A7 c8 q13 x3 x174 x3.roots HS276 (HR16.mono (L34.trans L170)) (HR6.mono (L34.trans L170)) (HR9.mono (L34.trans L170)) (HR12.mono (L34.trans L170)) HO178 (HR9.mono (L34.trans L170)) vt203 vt204 hc205) ?_)
          rintro _ W279 ⟨f277, A281, c282, s283, rfl, L278, HS280, HO284⟩
          refine ⟨_, rfl, ?_⟩
          refine ⟨(Sg.g3 (Sx.of [s283, [(b23, .cells #[.slice A14 q13.Cones.length c15, .int .i64 q13.From, .int .i64 q13.To, .int .i64 q13.Least, .int .i64 q13.Ban] 51 (0, 0))], [(b19, .cells #[.pointer (some ⟨b1, 0, none⟩)] 66 (0, 0))], [(b1, .cells #[.slice A4 x3.rows.length c5, .int .i64 x3.level, .slice A7 x3.roots.length c8, .slice A10 x3.loose.length c11] 109 (0, 0))], [(b45, .cells #[.slice A281 vt204.length c282] 57 (0, 0))]] L278 HS280) (fun hl_ => Bool.noConfusion (show true = false from hl_)) (fun hl_ => Bool.noConfusion (show true = false from hl_)) (fun hl_ => Bool.noConfusion (show true = false from hl_))), ?_⟩
          refine takeGL [12, 13] (n := 2) (fuel := 0) #[true, true, true, true, true, true, true, true, true, true, true, true, true, true] rfl kr kr kr hnp (Sg.g3 (Sx.of [s283, [(b23, .cells #[.slice A14 q13.Cones.length c15, .int .i64 q13.From, .int .i64 q13.To, .int .i64 q13.Least, .int .i64 q13.Ban] 51 (0, 0))], [(b19, .cells #[.pointer (some ⟨b1, 0, none⟩)] 66 (0, 0))], [(b1, .cells #[.slice A4 x3.rows.length c5, .int .i64 x3.level, .slice A7 x3.roots.length c8, .slice A10 x3.loose.length c11] 109 (0, 0))], [(b45, .cells #[.slice A281 vt204.length c282] 57 (0, 0))]] L278 HS280) (fun hl_ => Bool.noConfusion (show true = false from hl_)) (fun hl_ => Bool.noConfusion (show true = false from hl_)) (fun hl_ => Bool.noConfusion (show true = false from hl_))) ?_
          refine hR217 _ _ ?_
          exact J218 f277 A281 c282 s283 W279 _ L278 HO284 HS280 kr
        · refine does_run (run_load rfl Tryz.underlying107 rfl (kv (.pointer (some ⟨b1, 2, none⟩))) (HS198.u4.cell 2)) ?_
          refine ⟨(Sg.g3 (Sx.of [s177, [(b45, .cells #[.slice A175 x174.length c176] 57 (0, 0))], [(b23, .cells #[.slice A14 q13.Cones.length c15, .int .i64 q13.From, .int .i64 q13.To, .int .i64 q13.Least, .int .i64 q13.Ban] 51 (0, 0))], [(b19, .cells #[.pointer (some ⟨b1, 0, none⟩)] 66 (0, 0))], [(b1, .cells #[.slice A4 x3.rows.length c5, .int .i64 x3.level, .slice A7 x3.roots.length c8, .slice A10 x3.loose.length c11] 109 (0, 0))]] fL HS198) (fun _ => St.only [] HS198 fL) (fun _ => St.only [s177] HS198 fL) (fun _ => St.only [s177, [(b45, .cells #[.slice A175 x174.length c176] 57 (0, 0))]] HS198 fL)), ?_⟩
          refine takeEither 3 11 kr rfl rfl rfl rfl ?_ ?_
          · refine does_run (run_load rfl Tryz.underlying22 rfl (kv (.pointer (some ⟨b1, 3, none⟩))) (HS198.u4.cell 3)) ?_
            refine ⟨(Sg.g3 (Sx.of [s177, [(b45, .cells #[.slice A175 x174.length c176] 57 (0, 0))], [(b23, .cells #[.slice A14 q13.Cones.length c15, .int .i64 q13.From, .int .i64 q13.To, .int .i64 q13.Least, .int .i64 q13.Ban] 51 (0, 0))], [(b19, .cells #[.pointer (some ⟨b1, 0, none⟩)] 66 (0, 0))], [(b1, .cells #[.slice A4 x3.rows.length c5, .int .i64 x3.level, .slice A7 x3.roots.length c8, .slice A10 x3.loose.length c11] 109 (0, 0))]] fL HS198) (fun _ => St.only [] HS198 fL) (fun _ => St.only [s177] HS198 fL) (fun _ => St.only [s177, [(b45, .cells #[.slice A175 x174.length c176] 57 (0, 0))]] HS198 fL)), ?_⟩
            refine takeGL [4] (n := 4) (fuel := 3) #[true, true, true, true, true, true, true, true, true, true, true, false, false, false] rfl kr kr kr hnp (Sg.g3 (Sx.of [s177, [(b45, .cells #[.slice A175 x174.length c176] 57 (0, 0))], [(b23, .cells #[.slice A14 q13.Cones.length c15, .int .i64 q13.From, .int .i64 q13.To, .int .i64 q13.Least, .int .i64 q13.Ban] 51 (0, 0))], [(b19, .cells #[.pointer (some ⟨b1, 0, none⟩)] 66 (0, 0))], [(b1, .cells #[.slice A4 x3.rows.length c5, .int .i64 x3.level, .slice A7 x3.roots.length c8, .slice A10 x3.loose.length c11] 109 (0, 0))]] fL HS198) (fun _ => St.only [] HS198 fL) (fun _ => St.only [s177] HS198 fL) (fun _ => St.only [s177, [(b45, .cells #[.slice A175 x174.length c176] 57 (0, 0))]] HS198 fL)) ?_
            have HS289 := HS198.u1.u4.u4.u4
            refine takeGE 11 kr rfl kr (does_call (f := 52) (args := #[.slice A7 x3.roots.length c8, .func (.func 53) #[] #[.pointer (some ⟨b23, 0, none⟩)], .func (.func 51) #[] #[.pointer (some ⟨b19, 0, none⟩), .pointer (some ⟨b23, 0, none⟩), .pointer (some ⟨b45, 0, none⟩)]]) kr (query_walk__query_Index_Run_2__query_Index_Run_1.calls k b23 A14 c15 b19 b1 A4 c5 A7 c8 A10 c11 b45 A175 c176 s177 A7 c8 q13 x3 x174 x3.roots HS289 (HR16.mono (L34.trans L170)) (HR6.mono (L34.trans L170)) (HR9.mono (L34.trans L170)) (HR12.mono (L34.trans L170)) HO178 (HR9.mono (L34.trans L170)) vt203 vt204 hc205) ?_)
            rintro _ W292 ⟨f290, A294, c295, s296, rfl, L291, HS293, HO297⟩
            refine ⟨_, rfl, ?_⟩
            refine ⟨(Sg.g3 (Sx.of [s296, [(b23, .cells #[.slice A14 q13.Cones.length c15, .int .i64 q13.From, .int .i64 q13.To, .int .i64 q13.Least, .int .i64 q13.Ban] 51 (0, 0))], [(b19, .cells #[.pointer (some ⟨b1, 0, none⟩)] 66 (0, 0))], [(b1, .cells #[.slice A4 x3.rows.length c5, .int .i64 x3.level, .slice A7 x3.roots.length c8, .slice A10 x3.loose.length c11] 109 (0, 0))], [(b45, .cells #[.slice A294 vt204.length c295] 57 (0, 0))]] L291 HS293) (fun hl_ => Bool.noConfusion (show true = false from hl_)) (fun hl_ => Bool.noConfusion (show true = false from hl_)) (fun hl_ => Bool.noConfusion (show true = false from hl_))), ?_⟩
            refine takeGL [12, 13] (n := 2) (fuel := 0) #[true, true, true, true, true, true, true, true, true, true, true, true, true, true] rfl kr kr kr hnp (Sg.g3 (Sx.of [s296, [(b23, .cells #[.slice A14 q13.Cones.length c15, .int .i64 q13.From, .int .i64 q13.To, .int .i64 q13.Least, .int .i64 q13.Ban] 51 (0, 0))], [(b19, .cells #[.pointer (some ⟨b1, 0, none⟩)] 66 (0, 0))], [(b1, .cells #[.slice A4 x3.rows.length c5, .int .i64 x3.level, .slice A7 x3.roots.length c8, .slice A10 x3.loose.length c11] 109 (0, 0))], [(b45, .cells #[.slice A294 vt204.length c295] 57 (0, 0))]] L291 HS293) (fun hl_ => Bool.noConfusion (show true = false from hl_)) (fun hl_ => Bool.noConfusion (show true = false from hl_)) (fun hl_ => Bool.noConfusion (show true = false from hl_))) ?_
            refine hR217 _ _ ?_
            exact J218 f290 A294 c295 s296 W292 _ L291 HO297 HS293 kr
          · have HS299 := HS198.u1
            have HS302 := HS299.u4.u4.u4
            refine does_call (f := 52) (args := #[.slice A7 x3.roots.length c8, .func (.func 53) #[] #[.pointer (some ⟨b23, 0, none⟩)], .func (.func 51) #[] #[.pointer (some ⟨b19, 0, none⟩), .pointer (some ⟨b23, 0, none⟩), .pointer (some ⟨b45, 0, none⟩)]]) kr (query_walk__query_Index_Run_2__query_Index_Run_1.calls k b23 A14 c15 b19 b1 A4 c5 A7 c8 A10 c11 b45 A175 c176 s177 A7 c8 q13 x3 x174 x3.roots HS302 (HR16.mono (L34.trans L170)) (HR6.mono (L34.trans L170)) (HR9.mono (L34.trans L170)) (HR12.mono (L34.trans L170)) HO178 (HR9.mono (L34.trans L170)) vt203 vt204 hc205) ?_
            rintro _ W305 ⟨f303, A307, c308, s309, rfl, L304, HS306, HO310⟩
            refine ⟨_, rfl, ?_⟩
            refine ⟨(Sg.g3 (Sx.of [s309, [(b23, .cells #[.slice A14 q13.Cones.length c15, .int .i64 q13.From, .int .i64 q13.To, .int .i64 q13.Least, .int .i64 q13.Ban] 51 (0, 0))], [(b19, .cells #[.pointer (some ⟨b1, 0, none⟩)] 66 (0, 0))], [(b1, .cells #[.slice A4 x3.rows.length c5, .int .i64 x3.level, .slice A7 x3.roots.length c8, .slice A10 x3.loose.length c11] 109 (0, 0))], [(b45, .cells #[.slice A307 vt204.length c308] 57 (0, 0))]] L304 HS306) (fun hl_ => Bool.noConfusion (show true = false from hl_)) (fun hl_ => Bool.noConfusion (show true = false from hl_)) (fun hl_ => Bool.noConfusion (show true = false from hl_))), ?_⟩
            refine takeGE 3 kr rfl kr (does_run (run_load rfl Tryz.underlying22 rfl (kv (.pointer (some ⟨b1, 3, none⟩))) (HS306.u3.cell 3)) ?_)
            refine ⟨(Sg.g3 (Sx.of [s309, [(b23, .cells #[.slice A14 q13.Cones.length c15, .int .i64 q13.From, .int .i64 q13.To, .int .i64 q13.Least, .int .i64 q13.Ban] 51 (0, 0))], [(b19, .cells #[.pointer (some ⟨b1, 0, none⟩)] 66 (0, 0))], [(b1, .cells #[.slice A4 x3.rows.length c5, .int .i64 x3.level, .slice A7 x3.roots.length c8, .slice A10 x3.loose.length c11] 109 (0, 0))], [(b45, .cells #[.slice A307 vt204.length c308] 57 (0, 0))]] L304 HS306) (fun hl_ => Bool.noConfusion (show true = false from hl_)) (fun hl_ => Bool.noConfusion (show true = false from hl_)) (fun hl_ => Bool.noConfusion (show true = false from hl_))), ?_⟩
            refine takeGL [4, 12, 13] (n := 3) (fuel := 0) #[true, true, true, true, true, true, true, true, true, true, true, true, true, true] rfl kr kr kr hnp (Sg.g3 (Sx.of [s309, [(b23, .cells #[.slice A14 q13.Cones.length c15, .int .i64 q13.From, .int .i64 q13.To, .int .i64 q13.Least, .int .i64 q13.Ban] 51 (0, 0))], [(b19, .cells #[.pointer (some ⟨b1, 0, none⟩)] 66 (0, 0))], [(b1, .cells #[.slice A4 x3.rows.length c5, .int .i64 x3.level, .slice A7 x3.roots.length c8, .slice A10 x3.loose.length c11] 109 (0, 0))], [(b45, .cells #[.slice A307 vt204.length c308] 57 (0, 0))]] L304 HS306) (fun hl_ => Bool.noConfusion (show true = false from hl_)) (fun hl_ => Bool.noConfusion (show true = false from hl_)) (fun hl_ => Bool.noConfusion (show true = false from hl_))) ?_
            refine hR217 _ _ ?_
            exact J218 f303 A307 c308 s309 W305 _ L304 HO310 HS306 kr
      · refine does_run (run_load rfl Tryz.underlying107 rfl (kv (.pointer (some ⟨b1, 2, none⟩))) (HS198.u4.cell 2)) ?_
        refine ⟨(Sg.g3 (Sx.of [s177, [(b45, .cells #[.slice A175 x174.length c176] 57 (0, 0))], [(b23, .cells #[.slice A14 q13.Cones.length c15, .int .i64 q13.From, .int .i64 q13.To, .int .i64 q13.Least, .int .i64 q13.Ban] 51 (0, 0))], [(b19, .cells #[.pointer (some ⟨b1, 0, none⟩)] 66 (0, 0))], [(b1, .cells #[.slice A4 x3.rows.length c5, .int .i64 x3.level, .slice A7 x3.roots.length c8, .slice A10 x3.loose.length c11] 109 (0, 0))]] fL HS198) (fun _ => St.only [] HS198 fL) (fun _ => St.only [s177] HS198 fL) (fun _ => St.only [s177, [(b45, .cells #[.slice A175 x174.length c176] 57 (0, 0))]] HS198 fL)), ?_⟩
        refine takeEither 0 11 kr rfl rfl rfl rfl ?_ ?_
        · refine does_run (run_load rfl Tryz.underlying66 rfl (kv (.pointer (some ⟨b19, 0, none⟩))) (HS198.u3.cell 0)) ?_
          refine ⟨(Sg.g3 (Sx.of [s177, [(b45, .cells #[.slice A175 x174.length c176] 57 (0, 0))], [(b23, .cells #[.slice A14 q13.Cones.length c15, .int .i64 q13.From, .int .i64 q13.To, .int .i64 q13.Least, .int .i64 q13.Ban] 51 (0, 0))], [(b19, .cells #[.pointer (some ⟨b1, 0, none⟩)] 66 (0, 0))], [(b1, .cells #[.slice A4 x3.rows.length c5, .int .i64 x3.level, .slice A7 x3.roots.length c8, .slice A10 x3.loose.length c11] 109 (0, 0))]] fL HS198) (fun _ => St.only [] HS198 fL) (fun _ => St.only [s177] HS198 fL) (fun _ => St.only [s177, [(b45, .cells #[.slice A175 x174.length c176] 57 (0, 0))]] HS198 fL)), ?_⟩
          refine takeGL [1, 2] (n := 7) (fuel := 5) #[true, true, true, false, false, true, true, true, true, true, true, false, false, false] rfl kr kr kr hnp (Sg.g3 (Sx.of [s177, [(b45, .cells #[.slice A175 x174.length c176] 57 (0, 0))], [(b23, .cells #[.slice A14 q13.Cones.length c15, .int .i64 q13.From, .int .i64 q13.To, .int .i64 q13.Least, .int .i64 q13.Ban] 51 (0, 0))], [(b19, .cells #[.pointer (some ⟨b1, 0, none⟩)] 66 (0, 0))], [(b1, .cells #[.slice A4 x3.rows.length c5, .int .i64 x3.level, .slice A7 x3.roots.length c8, .slice A10 x3.loose.length c11] 109 (0, 0))]] fL HS198) (fun _ => St.only [] HS198 fL) (fun _ => St.only [s177] HS198 fL) (fun _ => St.only [s177, [(b45, .cells #[.slice A175 x174.length c176] 57 (0, 0))]] HS198 fL)) ?_
          refine takeEither 3 11 kr rfl rfl rfl rfl ?_ ?_
          · refine does_run (run_load rfl Tryz.underlying22 rfl (kv (.pointer (some ⟨b1, 3, none⟩))) (HS198.u4.cell 3)) ?_
            refine ⟨(Sg.g3 (Sx.of [s177, [(b45, .cells #[.slice A175 x174.length c176] 57 (0, 0))], [(b23, .cells #[.slice A14 q13.Cones.length c15, .int .i64 q13.From, .int .i64 q13.To, .int .i64 q13.Least, .int .i64 q13.Ban] 51 (0, 0))], [(b19, .cells #[.pointer (some ⟨b1, 0, none⟩)] 66 (0, 0))], [(b1, .cells #[.slice A4 x3.rows.length c5, .int .i64 x3.level, .slice A7 x3.roots.length c8, .slice A10 x3.loose.length c11] 109 (0, 0))]] fL HS198) (fun _ => St.only [] HS198 fL) (fun _ => St.only [s177] HS198 fL) (fun _ => St.only [s177, [(b45, .cells #[.slice A175 x174.length c176] 57 (0, 0))]] HS198 fL)), ?_⟩
            refine takeGL [4] (n := 4) (fuel := 3) #[true, true, true, true, true, true, true, true, true, true, true, false, false, false] rfl kr kr kr hnp (Sg.g3 (Sx.of [s177, [(b45, .cells #[.slice A175 x174.length c176] 57 (0, 0))], [(b23, .cells #[.slice A14 q13.Cones.length c15, .int .i64 q13.From, .int .i64 q13.To, .int .i64 q13.Least, .int .i64 q13.Ban] 51 (0, 0))], [(b19, .cells #[.pointer (some ⟨b1, 0, none⟩)] 66 (0, 0))], [(b1, .cells #[.slice A4 x3.rows.length c5, .int .i64 x3.level, .slice A7 x3.roots.length c8, .slice A10 x3.loose.length c11] 109 (0, 0))]] fL HS198) (fun _ => St.only [] HS198 fL) (fun _ => St.only [s177] HS198 fL) (fun _ => St.only [s177, [(b45, .cells #[.slice A175 x174.length c176] 57 (0, 0))]] HS198 fL)) ?_
            have HS315 := HS198.u1.u4.u4.u4
            refine takeGE 11 kr rfl kr (does_call (f := 52) (args := #[.slice A7 x3.roots.length c8, .func (.func 53) #[] #[.pointer (some ⟨b23, 0, none⟩)], .func (.func 51) #[] #[.pointer (some ⟨b19, 0, none⟩), .pointer (some ⟨b23, 0, none⟩), .pointer (some ⟨b45, 0, none⟩)]]) kr (query_walk__query_Index_Run_2__query_Index_Run_1.calls k b23 A14 c15 b19 b1 A4 c5 A7 c8 A10 c11 b45 A175 c176 s177 A7 c8 q13 x3 x174 x3.roots HS315 (HR16.mono (L34.trans L170)) (HR6.mono (L34.trans L170)) (HR9.mono (L34.trans L170)) (HR12.mono (L34.trans L170)) HO178 (HR9.mono (L34.trans L170)) vt203 vt204 hc205) ?_)
            rintro _ W318 ⟨f316, A320, c321, s322, rfl, L317, HS319, HO323⟩
            refine ⟨_, rfl, ?_⟩
            refine ⟨(Sg.g3 (Sx.of [s322, [(b23, .cells #[.slice A14 q13.Cones.length c15, .int .i64 q13.From, .int .i64 q13.To, .int .i64 q13.Least, .int .i64 q13.Ban] 51 (0, 0))], [(b19, .cells #[.pointer (some ⟨b1, 0, none⟩)] 66 (0, 0))], [(b1, .cells #[.slice A4 x3.rows.length c5, .int .i64 x3.level, .slice A7 x3.roots.length c8, .slice A10 x3.loose.length c11] 109 (0, 0))], [(b45, .cells #[.slice A320 vt204.length c321] 57 (0, 0))]] L317 HS319) (fun hl_ => Bool.noConfusion (show true = false from hl_)) (fun hl_ => Bool.noConfusion (show true = false from hl_)) (fun hl_ => Bool.noConfusion (show true = false from hl_))), ?_⟩
            refine takeGL [12, 13] (n := 2) (fuel := 0) #[true, true, true, true, true, true, true, true, true, true, true, true, true, true] rfl kr kr kr hnp (Sg.g3 (Sx.of [s322, [(b23, .cells #[.slice A14 q13.Cones.length c15, .int .i64 q13.From, .int .i64 q13.To, .int .i64 q13.Least, .int .i64 q13.Ban] 51 (0, 0))], [(b19, .cells #[.pointer (some ⟨b1, 0, none⟩)] 66 (0, 0))], [(b1, .cells #[.slice A4 x3.rows.length c5, .int .i64 x3.level, .slice A7 x3.roots.length c8, .slice A10 x3.loose.length c11] 109 (0, 0))], [(b45, .cells #[.slice A320 vt204.length c321] 57 (0, 0))]] L317 HS319) (fun hl_ => Bool.noConfusion (show true = false from hl_)) (fun hl_ => Bool.noConfusion (show true = false from hl_)) (fun hl_ => Bool.noConfusion (show true = false from hl_))) ?_
            refine hR217 _ _ ?_
            exact J218 f316 A320 c321 s322 W318 _ L317 HO323 HS319 kr
          · have HS325 := HS198.u1
            have HS328 := HS325.u4.u4.u4
            refine does_call (f := 52) (args := #[.slice A7 x3.roots.length c8, .func (.func 53) #[] #[.pointer (some ⟨b23, 0, none⟩)], .func (.func 51) #[] #[.pointer (some ⟨b19, 0, none⟩), .pointer (some ⟨b23, 0, none⟩), .pointer (some ⟨b45, 0, none⟩)]]) kr (query_walk__query_Index_Run_2__query_Index_Run_1.calls k b23 A14 c15 b19 b1 A4 c5 A7 c8 A10 c11 b45 A175 c176 s177 A7 c8 q13 x3 x174 x3.roots HS328 (HR16.mono (L34.trans L170)) (HR6.mono (L34.trans L170)) (HR9.mono (L34.trans L170)) (HR12.mono (L34.trans L170)) HO178 (HR9.mono (L34.trans L170)) vt203 vt204 hc205) ?_
            rintro _ W331 ⟨f329, A333, c334, s335, rfl, L330, HS332, HO336⟩
            refine ⟨_, rfl, ?_⟩
            refine ⟨(Sg.g3 (Sx.of [s335, [(b23, .cells #[.slice A14 q13.Cones.length c15, .int .i64 q13.From, .int .i64 q13.To, .int .i64 q13.Least, .int .i64 q13.Ban] 51 (0, 0))], [(b19, .cells #[.pointer (some ⟨b1, 0, none⟩)] 66 (0, 0))], [(b1, .cells #[.slice A4 x3.rows.length c5, .int .i64 x3.level, .slice A7 x3.roots.length c8, .slice A10 x3.loose.length c11] 109 (0, 0))], [(b45, .cells #[.slice A333 vt204.length c334] 57 (0, 0))]] L330 HS332) (fun hl_ => Bool.noConfusion (show true = false from hl_)) (fun hl_ => Bool.noConfusion (show true = false from hl_)) (fun hl_ => Bool.noConfusion (show true = false from hl_))), ?_⟩
            refine takeGE 3 kr rfl kr (does_run (run_load rfl Tryz.underlying22 rfl (kv (.pointer (some ⟨b1, 3, none⟩))) (HS332.u3.cell 3)) ?_)
            refine ⟨(Sg.g3 (Sx.of [s335, [(b23, .cells #[.slice A14 q13.Cones.length c15, .int .i64 q13.From, .int .i64 q13.To, .int .i64 q13.Least, .int .i64 q13.Ban] 51 (0, 0))], [(b19, .cells #[.pointer (some ⟨b1, 0, none⟩)] 66 (0, 0))], [(b1, .cells #[.slice A4 x3.rows.length c5, .int .i64 x3.level, .slice A7 x3.roots.length c8, .slice A10 x3.loose.length c11] 109 (0, 0))], [(b45, .cells #[.slice A333 vt204.length c334] 57 (0, 0))]] L330 HS332) (fun hl_ => Bool.noConfusion (show true = false from hl_)) (fun hl_ => Bool.noConfusion (show true = false from hl_)) (fun hl_ => Bool.noConfusion (show true = false from hl_))), ?_⟩
            refine takeGL [4, 12, 13] (n := 3) (fuel := 0) #[true, true, true, true, true, true, true, true, true, true, true, true, true, true] rfl kr kr kr hnp (Sg.g3 (Sx.of [s335, [(b23, .cells #[.slice A14 q13.Cones.length c15, .int .i64 q13.From, .int .i64 q13.To, .int .i64 q13.Least, .int .i64 q13.Ban] 51 (0, 0))], [(b19, .cells #[.pointer (some ⟨b1, 0, none⟩)] 66 (0, 0))], [(b1, .cells #[.slice A4 x3.rows.length c5, .int .i64 x3.level, .slice A7 x3.roots.length c8, .slice A10 x3.loose.length c11] 109 (0, 0))], [(b45, .cells #[.slice A333 vt204.length c334] 57 (0, 0))]] L330 HS332) (fun hl_ => Bool.noConfusion (show true = false from hl_)) (fun hl_ => Bool.noConfusion (show true = false from hl_)) (fun hl_ => Bool.noConfusion (show true = false from hl_))) ?_
            refine hR217 _ _ ?_
            exact J218 f329 A333 c334 s335 W331 _ L330 HO336 HS332 kr
        · have HS338 := HS198.u1
          have HS341 := HS338.u4.u4.u4
          refine does_call (f := 52) (args := #[.slice A7 x3.roots.length c8, .func (.func 53) #[] #[.pointer (some ⟨b23, 0, none⟩)], .func (.func 51) #[] #[.pointer (some ⟨b19, 0, none⟩), .pointer (some ⟨b23, 0, none⟩), .pointer (some ⟨b45, 0, none⟩)]]) kr (query_walk__query_Index_Run_2__query_Index_Run_1.calls k b23 A14 c15 b19 b1 A4 c5 A7 c8 A10 c11 b45 A175 c176 s177 A7 c8 q13 x3 x174 x3.roots HS341 (HR16.mono (L34.trans L170)) (HR6.mono (L34.trans L170)) (HR9.mono (L34.trans L170)) (HR12.mono (L34.trans L170)) HO178 (HR9.mono (L34.trans L170)) vt203 vt204 hc205) ?_
          rintro _ W344 ⟨f342, A346, c347, s348, rfl, L343, HS345, HO349⟩
          refine ⟨_, rfl, ?_⟩
          refine ⟨(Sg.g3 (Sx.of [s348, [(b23, .cells #[.slice A14 q13.Cones.length c15, .int .i64 q13.From, .int .i64 q13.To, .int .i64 q13.Least, .int .i64 q13.Ban] 51 (0, 0))], [(b19, .cells #[.pointer (some ⟨b1, 0, none⟩)] 66 (0, 0))], [(b1, .cells #[.slice A4 x3.rows.length c5, .int .i64 x3.level, .slice A7 x3.roots.length c8, .slice A10 x3.loose.length c11] 109 (0, 0))], [(b45, .cells #[.slice A346 vt204.length c347] 57 (0, 0))]] L343 HS345) (fun hl_ => Bool.noConfusion (show true = false from hl_)) (fun hl_ => Bool.noConfusion (show true = false from hl_)) (fun hl_ => Bool.noConfusion (show true = false from hl_))), ?_⟩
          refine takeGE 0 kr rfl kr (does_run (run_load rfl Tryz.underlying66 rfl (kv (.pointer (some ⟨b19, 0, none⟩))) (HS345.u2.cell 0)) ?_)
          refine ⟨(Sg.g3 (Sx.of [s348, [(b23, .cells #[.slice A14 q13.Cones.length c15, .int .i64 q13.From, .int .i64 q13.To, .int .i64 q13.Least, .int .i64 q13.Ban] 51 (0, 0))], [(b19, .cells #[.pointer (some ⟨b1, 0, none⟩)] 66 (0, 0))], [(b1, .cells #[.slice A4 x3.rows.length c5, .int .i64 x3.level, .slice A7 x3.roots.length c8, .slice A10 x3.loose.length c11] 109 (0, 0))], [(b45, .cells #[.slice A346 vt204.length c347] 57 (0, 0))]] L343 HS345) (fun hl_ => Bool.noConfusion (show true = false from hl_)) (fun hl_ => Bool.noConfusion (show true = false from hl_)) (fun hl_ => Bool.noConfusion (show true = false from hl_))), ?_⟩
          refine takeGL [1, 2] (n := 6) (fuel := 4) #[true, true, true, false, false, true, true, true, true, true, true, true, false, false] rfl kr kr kr hnp (Sg.g3 (Sx.of [s348, [(b23, .cells #[.slice A14 q13.Cones.length c15, .int .i64 q13.From, .int .i64 q13.To, .int .i64 q13.Least, .int .i64 q13.Ban] 51 (0, 0))], [(b19, .cells #[.pointer (some ⟨b1, 0, none⟩)] 66 (0, 0))], [(b1, .cells #[.slice A4 x3.rows.length c5, .int .i64 x3.level, .slice A7 x3.roots.length c8, .slice A10 x3.loose.length c11] 109 (0, 0))], [(b45, .cells #[.slice A346 vt204.length c347] 57 (0, 0))]] L343 HS345) (fun hl_ => Bool.noConfusion (show true = false from hl_)) (fun hl_ => Bool.noConfusion (show true = false from hl_)) (fun hl_ => Bool.noConfusion (show true = false from hl_))) ?_
          refine takeGE 3 kr rfl kr (does_run (run_load rfl Tryz.underlying22 rfl (kv (.pointer (some ⟨b1, 3, none⟩))) (HS345.u3.cell 3)) ?_)
          refine ⟨(Sg.g3 (Sx.of [s348, [(b23, .cells #[.slice A14 q13.Cones.length c15, .int .i64 q13.From, .int .i64 q13.To, .int .i64 q13.Least, .int .i64 q13.Ban] 51 (0, 0))], [(b19, .cells #[.pointer (some ⟨b1, 0, none⟩)] 66 (0, 0))], [(b1, .cells #[.slice A4 x3.rows.length c5, .int .i64 x3.level, .slice A7 x3.roots.length c8, .slice A10 x3.loose.length c11] 109 (0, 0))], [(b45, .cells #[.slice A346 vt204.length c347] 57 (0, 0))]] L343 HS345) (fun hl_ => Bool.noConfusion (show true = false from hl_)) (fun hl_ => Bool.noConfusion (show true = false from hl_)) (fun hl_ => Bool.noConfusion (show true = false from hl_))), ?_⟩
          refine takeGL [4, 12, 13] (n := 3) (fuel := 0) #[true, true, true, true, true, true, true, true, true, true, true, true, true, true] rfl kr kr kr hnp (Sg.g3 (Sx.of [s348, [(b23, .cells #[.slice A14 q13.Cones.length c15, .int .i64 q13.From, .int .i64 q13.To, .int .i64 q13.Least, .int .i64 q13.Ban] 51 (0, 0))], [(b19, .cells #[.pointer (some ⟨b1, 0, none⟩)] 66 (0, 0))], [(b1, .cells #[.slice A4 x3.rows.length c5, .int .i64 x3.level, .slice A7 x3.roots.length c8, .slice A10 x3.loose.length c11] 109 (0, 0))], [(b45, .cells #[.slice A346 vt204.length c347] 57 (0, 0))]] L343 HS345) (fun hl_ => Bool.noConfusion (show true = false from hl_)) (fun hl_ => Bool.noConfusion (show true = false from hl_)) (fun hl_ => Bool.noConfusion (show true = false from hl_))) ?_
          refine hR217 _ _ ?_
          exact J218 f342 A346 c347 s348 W344 _ L343 HO349 HS345 kr
   clear h; have h := hv180; clear hv180
   have HS183 := HS47.cons_nil
   refine loopK (fun n_ a_ w_ => ∃ (f118 : FM) (A125 : Option Addr) (c126 : Nat) (s127 : Seg) (x123 : Int) (x124 : List S_Answer) (j122 : Nat → Value), FM.le f33 f118 ∧ St t w_ f118 (s127 :: [(b45, .cells #[.slice A125 x124.length c126] 57 (0, 0))] :: [(b23, .cells #[.slice A14 q13.Cones.length c15, .int .i64 q13.From, .int .i64 q13.To, .int .i64 q13.Least, .int .i64 q13.Ban] 51 (0, 0))] :: [(b19, .cells #[.pointer (some ⟨b1, 0, none⟩)] 66 (0, 0))] :: [(b1, .cells #[.slice A4 x3.rows.length c5, .int .i64 x3.level, .slice A7 x3.roots.length c8, .slice A10 x3.loose.length c11] 109 (0, 0))] :: H) ∧ Own ty_Answer 62 f118 A125 c126 s127 x124 ∧ query_Index_Run.l0 k x3 q13 n_ x123 x124 = some o114 ∧ a_ = ⟨#[pV b1 0, (ag_Ask q13 A14 c15), pV b19 0, pV b23 0, .slice none 0 0, iV 0, iV 0, iV vt31, pV b45 0, .func (.func 51) #[] #[pV b19 0, pV b23 0, pV b45 0], uV, (j122 0), uV, (ag_Ask q13 A14 c15), iV vt31, iV vt31, fV, uV, .func (.func 51) #[] #[pV b19 0, pV b23 0, pV b45 0], pV b1 0, pV b1 0, pV b1 3, .slice A10 x3.loose.length c11, iV (x3.loose.length : Int), iV x123, (j122 1), (j122 2), (j122 3), (j122 4), (j122 5), (j122 6), (j122 7), uV, uV, uV, uV, uV, uV, uV, uV, uV, uV, uV, uV, uV, uV, uV, uV, uV], []⟩) k ⟨f33, none, 0, [], 0, ([] : List S_Answer), (jL []), fL, HS183, (Own.nil _), h, kr⟩ ?_
   clear h
   rintro n117 _ W120 ⟨f118, A125, c126, s127, x123, x124, j122, L119, HS121, HO128, h, rfl⟩ K115 hK116
   obtain _ | n117 := n117
   · exact nomatch h
   simp only [query_Index_Run.l0] at h
   refine wp_seq_k fun K130 hK131 => rl ?_
   refine seqL1 kr ?_
   refine nl (hK131 _ _ ?_)
   refine wp_seq_k (fun K132 hK133 => ?_)
   have hq_ := ite_some h; clear h; rcases hq_ with ⟨c135, h⟩ | ⟨c135, h⟩
   · have c135 : x123 < (x3.loose.length : Int) := c135
     refine wpRwI 25 kr (decide_eq_true c135) ?_
     refine condT kr ?_
     refine wp_skip ?_
     refine hK133 _ _ ?_
     refine wp_seq_k (fun K136 hK137 => ?_)
     refine blockK (fun B138 hx139 hn140 hr141 ho142 hp143 => ?_)
     refine wp_seq_k fun K145 hK146 => rl ?_
     have hq_ := guard_some h; clear h; obtain ⟨c147, h⟩ := hq_
     have c147 : 0 ≤ x123 := c147
     obtain ⟨b151, of152, cs148, hA153, hr149, hc150⟩ := (HR12.mono (L34.trans L119)).at (i := x123) c147 c135
     obtain rfl := hr149
     refine seqK rfl (does_run (run_indexE hA153 (sz := 1) rfl Tryz.underlying22 kr (kv (.slice A10 x3.loose.length c11)) (kv (.int .i64 x123)) c147 c135 W120) ?_)
     refine seqK rfl (does_run (run_load rfl Tryz.underlying3 rfl (kv (.pointer (some ⟨b151, of152 + (x123 : Int).toNat * 1, none⟩))) ((hc150 fL HS121) 0 (by decide))) ?_)
     refine seqL1 kr ?_
     refine nl (hK146 _ _ ?_)
     refine rl ?_
     have HS157 := HS121.u1.u2.u4.u4
     have hq_ := bind_some h; clear h; obtain ⟨vt158, hc159, h⟩ := hq_
     refine seqL2 kr ?_
     refine seqK rfl (does_call (f := 51) (args := #[.int .i64 (rd x3.loose x123), .pointer (some ⟨b19, 0, none⟩), .pointer (some ⟨b23, 0, none⟩), .pointer (some ⟨b45, 0, none⟩)]) kr (query_Index_Run_1.calls k b19 b1 A4 c5 A7 c8 A10 c11 b23 A14 c15 b45 A125 c126 s127 x3 q13 x124 (rd x3.loose x123) HS157 (HR6.mono (L34.trans L119)) (HR9.mono (L34.trans L119)) (HR12.mono (L34.trans L119)) (HR16.mono (L34.trans L119)) HO128 vt158 hc159) ?_)
     rintro _ W162 ⟨f160, A164, c165, s166, rfl, L161, HS163, HO167⟩
     refine ⟨_, rfl, ?_⟩
     refine nl ?_
     refine hn140 _ _ ?_
     refine hK137 _ _ ?_
     refine rl ?_
     refine seqL2 kr ?_
     refine nl ?_
     refine hK116 n117 _ _ (Nat.lt_succ_self _) ?_
     have HS189 := HS163.u2.u2.u3.u4.u4
     exact ⟨f160, A164, c165, s166, (w64 (x123 + 1)), vt158, (jL [iV (rd x3.loose x123), tV, .pointer (some ⟨b151, of152 + (x123 : Int).toNat * 1, none⟩), iV (rd x3.loose x123), .func (.func 51) #[] #[.pointer (some ⟨b19, 0, none⟩), .pointer (some ⟨b23, 0, none⟩), .pointer (some ⟨b45, 0, none⟩)], iV (rd x3.loose x123), .tuple #[], iV (w64 (x123 + 1))]), (L119.trans L161), HS189, HO167, h, kr⟩
   · have c135 : ¬ (x123 < (x3.loose.length : Int)) := c135
     refine wpRwI 25 kr (decide_eq_false c135) ?_
     refine condF kr ?_
     refine wp_exit ?_
     refine hx56 _ _ ?_
     exact J181 f118 A125 c126 s127 x124 (jL [(j122 0), iV x123, fV, (j122 2), (j122 3), (j122 4), (j122 5), (j122 6), (j122 7)]) W120 _ L119 h HS121 HO128 kr

set_option maxRecDepth 100000 in
set_option maxHeartbeats 4000000 in
theorem spykeep3_asked.calls (k : Nat)   {t w : World} {f : FM} {H : List Seg} (HS : St t w f (H)) (rr1 : Bool) (h : spykeep3_asked k = some rr1) :
    Calls Tryz.prog 12 #[] w (fun e w' => ∃ (g : FM), e = .returned (Value.bool rr1) ∧ FM.le f g ∧ St t w' g (H)) := by
 unfold spykeep3_asked at h
 refine enter Tryz.func12 rfl (tm := #[uV, uV, uV, uV, uV, uV, uV, uV, uV, uV, uV, uV, uV, uV, uV, uV, uV, uV, uV, uV, uV, uV, uV, uV, uV, uV, uV, uV, uV, uV, uV, uV, uV, uV, uV, uV, uV, uV, uV, uV, uV, uV, uV]) kr ?_
 intro B hret hnor hnp
 refine wp_seq_k fun K1 hK2 => rl ?_
 refine seqL1 kr ?_
 refine nl (hK2 _ _ ?_)
 refine wp_seq_k fun K3 hK4 => rl ?_
 have hq_ := bind_some h; clear h; obtain ⟨vt5, hc6, h⟩ := hq_
 refine seqK rfl (does_call (f := 38) (args := #[.int .i64 1]) kr (spykeep3_single.calls k 1 HS vt5 hc6) ?_)
 rintro _ W9 ⟨f7, A11, c12, s13, rfl, L8, HS10, HO14⟩
 refine ⟨_, rfl, ?_⟩
 obtain ⟨f16, L17, HS18, HR19⟩ := HO14.freeze HS10
 refine seqK rfl (does_lit (e := ty_Row) (E := 99) (vs := #[(0, Value.agg #[.int .i64 vt5.ID, .int .i64 vt5.Box.X.Lo, .int .i64 vt5.Box.X.Hi, .bool vt5.Box.X.Unknown, .int .i64 vt5.Box.Y.Lo, .int .i64 vt5.Box.Y.Hi, .bool vt5.Box.Y.Unknown, .int .i64 vt5.Box.Z.Lo, .int .i64 vt5.Box.Z.Hi, .bool vt5.Box.Z.Unknown, .int .i64 vt5.Flux.Lo, .int .i64 vt5.Flux.Hi, .bool vt5.Flux.Unknown, .int .i64 vt5.When.Lo, .int .i64 vt5.When.Hi, .bool vt5.When.Unknown, .slice A11 vt5.Frames.length c12, .int .i64 vt5.Marks])]) (cs := #[.int .i64 vt5.ID, .int .i64 vt5.Box.X.Lo, .int .i64 vt5.Box.X.Hi, .bool vt5.Box.X.Unknown, .int .i64 vt5.Box.Y.Lo, .int .i64 vt5.Box.Y.Hi, .bool vt5.Box.Y.Unknown, .int .i64 vt5.Box.Z.Lo, .int .i64 vt5.Box.Z.Hi, .bool vt5.Box.Z.Unknown, .int .i64 vt5.Flux.Lo, .int .i64 vt5.Flux.Hi, .bool vt5.Flux.Unknown, .int .i64 vt5.When.Lo, .int .i64 vt5.When.Hi, .bool vt5.When.Unknown, .slice A11 vt5.Frames.length c12, .int .i64 vt5.Marks]) (xs := ([vt5] : List S_Row)) rfl Tryz.underlying45 kr kr ⟨[.int .i64 vt5.ID, .int .i64 vt5.Box.X.Lo, .int .i64 vt5.Box.X.Hi, .bool vt5.Box.X.Unknown, .int .i64 vt5.Box.Y.Lo, .int .i64 vt5.Box.Y.Hi, .bool vt5.Box.Y.Unknown, .int .i64 vt5.Box.Z.Lo, .int .i64 vt5.Box.Z.Hi, .bool vt5.Box.Z.Unknown, .int .i64 vt5.Flux.Lo, .int .i64 vt5.Flux.Hi, .bool vt5.Flux.Unknown, .int .i64 vt5.When.Lo, .int .i64 vt5.When.Hi, .bool vt5.When.Unknown, .slice A11 vt5.Frames.length c12, .int .i64 vt5.Marks], _, rfl, ⟨A11, c12, rfl, HR19⟩, rfl⟩ rfl HS18 ?_ (by decide))
 intro b20 W21 s22 HS23 _ HO24
 obtain ⟨f26, L27, HS28, HR29⟩ := HO24.freeze HS23
 have hq_ := bind_some h; clear h; obtain ⟨⟨vt30, vt31⟩, hc32, h⟩ := hq_
 refine seqK rfl (does_call (f := 24) (args := #[.slice (some ⟨b20, 0, none⟩) ([vt5] : List S_Row).length 1, .int .i64 2]) kr (query_New.calls k (some ⟨b20, 0, none⟩) 1 ([vt5] : List S_Row) 2 HS28 HR29 vt30 vt31 hc32) ?_)
 rintro _ W35 ⟨f33, A37, c38, A40, c41, A43, c44, b46, rfl, L34, HS36, HR39, HR42, HR45⟩
 refine ⟨_, rfl, ?_⟩
 refine seqL5 kr ?_
 refine nl (hK4 _ _ ?_)
 refine wp_seq_k (fun K48 hK49 => ?_)
 refine wp_seq_k fun K50 hK51 => rl ?_
 refine seqL3 kr ?_
 have hq_ := ite_some h; clear h; rcases hq_ with ⟨c52, h⟩ | ⟨c52, h⟩
 · have c52 : vt31 ≠ 0 := c52
   refine seqRwI 13 kr (bne_iff_ne.mpr c52) ?_
   refine seqRwI 14 kr (bne_iff_ne.mpr c52) ?_
   refine seqL3 kr ?_
   refine nl (hK51 _ _ ?_)
   refine condT kr ?_
   refine wp_seq_k fun K53 hK54 => rl ?_
   refine seqL1 kr ?_
   refine nl (hK54 _ _ ?_)
   refine wp_ret ?_
   refine hret _ _ ?_
   refine ends_still (v := Value.bool false) kr kr ?_
   have HS82 := HS36.drop
   injection h with h
   subst h
   exact ⟨f33, rfl, (L8.trans (L17.trans (L27.trans L34))), HS82⟩
 · have c52 : ¬ (vt31 ≠ 0) := c52
   refine seqRwI 13 (x := (vt31 != 0)) (v := false) kr (bne_eq_false_iff_eq.mpr (Decidable.of_not_not c52)) ?_
   refine seqRwI 14 (x := (vt31 != 0)) (v := false) kr (bne_eq_false_iff_eq.mpr (Decidable.of_not_not c52)) ?_
   refine seqL3 kr ?_
   refine nl (hK51 _ _ ?_)
   refine condF kr ?_
   refine wp_skip ?_
   refine hK49 _ _ ?_
   refine wp_seq_k fun K55 hK56 => rl ?_
   have hq_ := bind_some h; clear h; obtain ⟨⟨vt57, vt58, vt59⟩, hc60, h⟩ := hq_
   refine seqL2 kr ?_
   refine seqK rfl (does_call (f := 25) (args := #[.pointer (some ⟨b46, 0, none⟩), .agg #[.slice none 0 0, .int .i64 0, .int .i64 0, .int .i64 0, .int .i64 0]]) kr (query_Index_Run.calls k b46 A37 c38 A40 c41 A43 c44 none 0 vt30 (⟨([] : List S_Cone), 0, 0, 0, 0⟩ : S_Ask) HS36 HR39 HR42 HR45 (SlR.nil _ _) vt57 vt58 vt59 hc60) ?_)
   rintro _ W63 ⟨f61, A65, c66, s67, rfl, L62, HS64, HO68⟩
   refine ⟨_, rfl, ?_⟩
   refine seqL7 kr ?_
   refine nl (hK56 _ _ ?_)
   refine wp_seq_k fun K70 hK71 => rl ?_
   refine seqL3 kr ?_
   have hq_ := ite_some h; clear h; rcases hq_ with ⟨c72, h⟩ | ⟨c72, h⟩
   · have c72 : vt59 = 0 := c72
     refine seqRwI 26 kr (beq_iff_eq.mpr c72) ?_
     refine seqRwI 27 kr (beq_iff_eq.mpr c72) ?_
     refine seqL4 kr ?_
     have hq_ := ite_some h; clear h; rcases hq_ with ⟨c73, h⟩ | ⟨c73, h⟩
     · have c73 : vt58 > 0 := c73
       refine seqRwI 29 kr (decide_eq_true c73) ?_
       refine seqRwI 30 kr (decide_eq_true c73) ?_
       refine seqRwI 31 kr (decide_eq_true c73) ?_
       refine seqL5 kr ?_
       have hq_ := ite_some h; clear h; rcases hq_ with ⟨c74, h⟩ | ⟨c74, h⟩
       · have c74 : (vt57.length : Int) = 1 := c74
         refine seqRwI 34 kr (beq_iff_eq.mpr c74) ?_
         refine seqRwI 35 kr (beq_iff_eq.mpr c74) ?_
         refine seqRwI 36 kr (beq_iff_eq.mpr c74) ?_
         have hq_ := guard_some h; clear h; obtain ⟨c75, h⟩ := hq_
         have c75 : 0 < (vt57.length : Int) := c75
         obtain ⟨b79, of80, cs76, hA81, hr77, hc78⟩ := HO68.at (i := 0) (by decide) c75
         obtain rfl := hr77
         refine seqL1 kr ?_
         refine seqG kr (does_run (run_indexE hA81 (sz := 2) rfl Tryz.underlying57 kr (kv (.slice A65 vt57.length c66)) (kv (.int .i64 0)) (by decide) c75 W63) ?_)
         refine seqL1 kr ?_
         refine seqG kr (does_run (run_load rfl Tryz.underlying3 rfl (kv (.pointer (some ⟨b79, of80 + (0 : Int).toNat * 2, none⟩))) ((hc78 HS64) 0 (by decide))) ?_)
         refine seqL3 kr ?_
         refine nl (hK71 _ _ ?_)
         refine wp_ret ?_
         refine hret _ _ ?_
         refine ends_still (v := Value.bool (((rd vt57 0).ID) == 1)) kr kr ?_
         have HS83 := HS64.drop
         have HS84 := HS83.drop
         injection h with h
         subst h
         exact ⟨f61, rfl, (L8.trans (L17.trans (L27.trans (L34.trans L62)))), HS84⟩
       · have c74 : ¬ ((vt57.length : Int) = 1) := c74
         refine seqRwI 34 kr (beq_eq_false_iff_ne.mpr c74) ?_
         refine seqRwI 35 kr (beq_eq_false_iff_ne.mpr c74) ?_
         refine seqRwI 36 kr (beq_eq_false_iff_ne.mpr c74) ?_
         refine seqL7 kr ?_
         refine nl (hK71 _ _ ?_)
         refine wp_ret ?_
         refine hret _ _ ?_
         refine ends_still (v := Value.bool false) kr kr ?_
         have HS85 := HS64.drop
         have HS86 := HS85.drop
         injection h with h
         subst h
         exact ⟨f61, rfl, (L8.trans (L17.trans (L27.trans (L34.trans L62)))), HS86⟩
     · have c73 : ¬ (vt58 > 0) := c73
       refine seqRwI 29 kr (decide_eq_false c73) ?_
       refine seqRwI 30 kr (decide_eq_false c73) ?_
       refine seqRwI 31 kr (decide_eq_false c73) ?_
       refine seqL12 kr ?_
       refine nl (hK71 _ _ ?_)
       refine wp_ret ?_
       refine hret _ _ ?_
       refine ends_still (v := Value.bool false) kr kr ?_
       have HS87 := HS64.drop
       have HS88 := HS87.drop
       injection h with h
       subst h
       exact ⟨f61, rfl, (L8.trans (L17.trans (L27.trans (L34.trans L62)))), HS88⟩
   · have c72 : ¬ (vt59 = 0) := c72
     refine seqRwI 26 kr (beq_eq_false_iff_ne.mpr c72) ?_
     refine seqRwI 27 kr (beq_eq_false_iff_ne.mpr c72) ?_
     refine seqL16 kr ?_
     refine nl (hK71 _ _ ?_)
     refine wp_ret ?_
     refine hret _ _ ?_
     refine ends_still (v := Value.bool false) kr kr ?_
     have HS89 := HS64.drop
     have HS90 := HS89.drop
     injection h with h
     subst h
     exact ⟨f61, rfl, (L8.trans (L17.trans (L27.trans (L34.trans L62)))), HS90⟩

set_option maxRecDepth 100000 in
set_option maxHeartbeats 4000000 in
theorem query_Index_Join_1.calls (k : Nat) (b1 : Nat) (b3 : Nat) (A12 : Option Addr) (c13 : Nat) (A15 : Option Addr) (c16 : Nat) (A18 : Option Addr) (c19 : Nat) (b5 : Nat) (A22 : Option Addr) (c23 : Nat) (b7 : Nat) (b9 : Nat) (A27 : Option Addr) (c28 : Nat) (s29 : Seg) (v11 : S_Index) (v21 : S_Row) (v25 : Int) (v26 : List S_Pair) (i32 : Int) {t w : World} {f : FM} {H : List Seg} (HS : St t w f ([(b1, .cells #[.pointer (some ⟨b3, 0, none⟩)] 66 (0, 0))] :: [(b3, .cells #[.slice A12 v11.rows.length c13, .int .i64 v11.level, .slice A15 v11.roots.length c16, .slice A18 v11.loose.length c19] 109 (0, 0))] :: [(b5, .cells #[.int .i64 v21.ID, .int .i64 v21.Box.X.Lo, .int .i64 v21.Box.X.Hi, .bool v21.Box.X.Unknown, .int .i64 v21.Box.Y.Lo, .int .i64 v21.Box.Y.Hi, .bool v21.Box.Y.Unknown, .int .i64 v21.Box.Z.Lo, .int .i64 v21.Box.Z.Hi, .bool v21.Box.Z.Unknown, .int .i64 v21.Flux.Lo, .int .i64 v21.Flux.Hi, .bool v21.Flux.Unknown, .int .i64 v21.When.Lo, .int .i64 v21.When.Hi, .bool v21.When.Unknown, .slice A22 v21.Frames.length c23, .int .i64 v21.Marks] 99 (0, 0))] :: [(b7, .cells #[.int .i64 v25] 23 (0, 0))] :: [(b9, .cells #[.slice A27 v26.length c28] 73 (0, 0))] :: s29 :: H)) (HR14 : SlR ty_Row f A12 c13 v11.rows) (HR17 : SlR fx_node.t f A15 c16 v11.roots) (HR20 : SlR (tInt .i64) f A18 c19 v11.loose) (HR24 : SlR (tInt .i64) f A22 c23 v21.Frames) (HO30 : Own ty_Pair 77 f A27 c28 s29 v26) (rr1 : List S_Pair) (h : query_Index_Join_1 k v11 v21 v25 v26 i32 = some rr1) :
    Calls Tryz.prog 58 #[.int .i64 i32, .pointer (some ⟨b1, 0, none⟩), .pointer (some ⟨b5, 0, none⟩), .pointer (some ⟨b7, 0, none⟩), .pointer (some ⟨b9, 0, none⟩)] w (fun e w' => ∃ (g : FM) (A93 : Option Addr) (c94 : Nat) (s95 : Seg), e = .returned (Value.tuple #[]) ∧ FM.le f g ∧ St t w' g (s95 :: [(b1, .cells #[.pointer (some ⟨b3, 0, none⟩)] 66 (0, 0))] :: [(b3, .cells #[.slice A12 v11.rows.length c13, .int .i64 v11.level, .slice A15 v11.roots.length c16, .slice A18 v11.loose.length c19] 109 (0, 0))] :: [(b5, .cells #[.int .i64 v21.ID, .int .i64 v21.Box.X.Lo, .int .i64 v21.Box.X.Hi, .bool v21.Box.X.Unknown, .int .i64 v21.Box.Y.Lo, .int .i64 v21.Box.Y.Hi, .bool v21.Box.Y.Unknown, .int .i64 v21.Box.Z.Lo, .int .i64 v21.Box.Z.Hi, .bool v21.Box.Z.Unknown, .int .i64 v21.Flux.Lo, .int .i64 v21.Flux.Hi, .bool v21.Flux.Unknown, .int .i64 v21.When.Lo, .int .i64 v21.When.Hi, .bool v21.When.Unknown, .slice A22 v21.Frames.length c23, .int .i64 v21.Marks] 99 (0, 0))] :: [(b7, .cells #[.int .i64 v25] 23 (0, 0))] :: [(b9, .cells #[.slice A93 rr1.length c94] 73 (0, 0))] :: H) ∧ Own ty_Pair 77 g A93 c94 s95 rr1) := by
 unfold query_Index_Join_1 at h
 refine enter Tryz.func58 rfl (tm := #[iV i32, pV b1 0, pV b5 0, pV b7 0, pV b9 0, uV, uV, uV, uV, uV, uV, uV, uV, uV, uV, uV, uV, uV, uV, uV, uV, uV, uV, uV, uV, uV, uV, uV, uV, uV, uV, uV, uV, uV, uV, uV]) kr ?_
 intro B hret hnor hnp
 refine wp_seq_k (fun K33 hK34 => ?_)
 refine heldG (S := Sg t f ([(b1, .cells #[.pointer (some ⟨b3, 0, none⟩)] 66 (0, 0))] :: [(b3, .cells #[.slice A12 v11.rows.length c13, .int .i64 v11.level, .slice A15 v11.roots.length c16, .slice A18 v11.loose.length c19] 109 (0, 0))] :: [(b5, .cells #[.int .i64 v21.ID, .int .i64 v21.Box.X.Lo, .int .i64 v21.Box.X.Hi, .bool v21.Box.X.Unknown, .int .i64 v21.Box.Y.Lo, .int .i64 v21.Box.Y.Hi, .bool v21.Box.Y.Unknown, .int .i64 v21.Box.Z.Lo, .int .i64 v21.Box.Z.Hi, .bool v21.Box.Z.Unknown, .int .i64 v21.Flux.Lo, .int .i64 v21.Flux.Hi, .bool v21.Flux.Unknown, .int .i64 v21.When.Lo, .int .i64 v21.When.Hi, .bool v21.When.Unknown, .slice A22 v21.Frames.length c23, .int .i64 v21.Marks] 99 (0, 0))] :: [(b7, .cells #[.int .i64 v25] 23 (0, 0))] :: [(b9, .cells #[.slice A27 v26.length c28] 73 (0, 0))] :: s29 :: H) []) (n := 13) kr rfl HS ?_
 intro W35 HS36
 refine takeGQ 0 [] rfl kr kr kr kr kr kr hnp (Sg.g0 (Sx.of [] fL HS36)) (fun w_ hw_ => by obtain ⟨g_, hl_, hS_⟩ := hw_.st; exact run_load rfl Tryz.underlying66 rfl (kv (.pointer (some ⟨b1, 0, none⟩))) (hS_.cell 0)) ?_
 refine takeGL [1, 2] (n := 12) (fuel := 10) #[true, true, true, false, false, false, false, false, false, false, false, false, false] rfl kr kr kr hnp (Sg.g0 (Sx.of [] fL HS36)) ?_
 refine takeGQ 3 [] rfl kr kr kr kr kr kr hnp (Sg.g0 (Sx.of [] fL HS36)) (fun w_ hw_ => by obtain ⟨g_, hl_, hS_⟩ := hw_.st; exact run_load rfl Tryz.underlying45 rfl (kv (.pointer (some ⟨b3, 0, none⟩))) (hS_.u1.cell 0)) ?_
 have hq_ := guard_some h; clear h; obtain ⟨c37, h⟩ := hq_
 have c37 : 0 ≤ i32 := c37
 have hq_ := guard_some h; clear h; obtain ⟨c38, h⟩ := hq_
 have c38 : i32 < (v11.rows.length : Int) := c38
 obtain ⟨b42, of43, cs39, hA44, hr40, hc41⟩ := HR14.at (i := i32) c37 c38
 obtain ⟨A45, c45, rfl, HR45⟩ := hr40
 refine takeGL [4] (n := 9) (fuel := 8) #[true, true, true, true, true, false, false, false, false, false, false, false, false] rfl kr kr kr hnp (Sg.g0 (Sx.of [] fL HS36)) ?_
 refine takeGQ 5 [] rfl kr kr kr kr kr kr hnp (Sg.g0 (Sx.of [] fL HS36)) (fun w_ hw_ => by obtain ⟨g_, hl_, hS_⟩ := hw_.st; exact run_indexE hA44 (sz := 18) rfl Tryz.underlying45 kr (kv (.slice A12 v11.rows.length c13)) (kv (.int .i64 i32)) c37 c38 w_) ?_
 refine takeGL [6] (n := 7) (fuel := 6) #[true, true, true, true, true, true, true, false, false, false, false, false, false] rfl kr kr kr hnp (Sg.g0 (Sx.of [] fL HS36)) ?_
 refine takeGQ 7 [] rfl kr kr kr kr kr kr hnp (Sg.g0 (Sx.of [] fL HS36)) (fun w_ hw_ => by obtain ⟨g_, hl_, hS_⟩ := hw_.st; exact run_loadN (n := 9) rfl Tryz.underlying31 rfl kr (kv (.pointer (some ⟨b42, of43 + (i32 : Int).toNat * 18 + 1, none⟩))) (cs := [.int .i64 ((((rd v11.rows i32).Box).X).Lo), .int .i64 ((((rd v11.rows i32).Box).X).Hi), .bool ((((rd v11.rows i32).Box).X).Unknown), .int .i64 ((((rd v11.rows i32).Box).Y).Lo), .int .i64 ((((rd v11.rows i32).Box).Y).Hi), .bool ((((rd v11.rows i32).Box).Y).Unknown), .int .i64 ((((rd v11.rows i32).Box).Z).Lo), .int .i64 ((((rd v11.rows i32).Box).Z).Hi), .bool ((((rd v11.rows i32).Box).Z).Unknown)]) rfl (part_cells (fo := 1) (n := 9) (full := [.int .i64 ((rd v11.rows i32).ID), .int .i64 ((((rd v11.rows i32).Box).X).Lo), .int .i64 ((((rd v11.rows i32).Box).X).Hi), .bool ((((rd v11.rows i32).Box).X).Unknown), .int .i64 ((((rd v11.rows i32).Box).Y).Lo), .int .i64 ((((rd v11.rows i32).Box).Y).Hi), .bool ((((rd v11.rows i32).Box).Y).Unknown), .int .i64 ((((rd v11.rows i32).Box).Z).Lo), .int .i64 ((((rd v11.rows i32).Box).Z).Hi), .bool ((((rd v11.rows i32).Box).Z).Unknown), .int .i64 (((rd v11.rows i32).Flux).Lo), .int .i64 (((rd v11.rows i32).Flux).Hi), .bool (((rd v11.rows i32).Flux).Unknown), .int .i64 (((rd v11.rows i32).When).Lo), .int .i64 (((rd v11.rows i32).When).Hi), .bool (((rd v11.rows i32).When).Unknown), .slice A45 ((rd v11.rows i32).Frames).length c45, .int .i64 ((rd v11.rows i32).Marks)]) (cs := [.int .i64 ((((rd v11.rows i32).Box).X).Lo), .int .i64 ((((rd v11.rows i32).Box).X).Hi), .bool ((((rd v11.rows i32).Box).X).Unknown), .int .i64 ((((rd v11.rows i32).Box).Y).Lo), .int .i64 ((((rd v11.rows i32).Box).Y).Hi), .bool ((((rd v11.rows i32).Box).Y).Unknown), .int .i64 ((((rd v11.rows i32).Box).Z).Lo), .int .i64 ((((rd v11.rows i32).Box).Z).Hi), .bool ((((rd v11.rows i32).Box).Z).Unknown)]) (fun j_ hj_ => (hc41 hl_ hS_) j_ hj_) rfl (Nat.le_of_ble_eq_true rfl))) ?_
 refine takeGL [8] (n := 5) (fuel := 4) #[true, true, true, true, true, true, true, true, true, false, false, false, false] rfl kr kr kr hnp (Sg.g0 (Sx.of [] fL HS36)) ?_
 refine takeGQ 9 [] rfl kr kr kr kr kr kr hnp (Sg.g0 (Sx.of [] fL HS36)) (fun w_ hw_ => by obtain ⟨g_, hl_, hS_⟩ := hw_.st; exact run_loadN (n := 9) rfl Tryz.underlying31 rfl kr (kv (.pointer (some ⟨b5, 1, none⟩))) (cs := [.int .i64 v21.Box.X.Lo, .int .i64 v21.Box.X.Hi, .bool v21.Box.X.Unknown, .int .i64 v21.Box.Y.Lo, .int .i64 v21.Box.Y.Hi, .bool v21.Box.Y.Unknown, .int .i64 v21.Box.Z.Lo, .int .i64 v21.Box.Z.Hi, .bool v21.Box.Z.Unknown]) rfl (hS_.u2.cells 1 9 _ rfl)) ?_
 refine takeGQ 10 [] rfl kr kr kr kr kr kr hnp (Sg.g0 (Sx.of [] fL HS36)) (fun w_ hw_ => by obtain ⟨g_, hl_, hS_⟩ := hw_.st; exact run_load rfl Tryz.underlying23 rfl (kv (.pointer (some ⟨b7, 0, none⟩))) (hS_.u3.cell 0)) ?_
 have hq_ := bind_some h; clear h; obtain ⟨vt46, hc47, h⟩ := hq_
 refine takeGE 11 kr rfl kr (does_call (f := 10) (args := #[.agg #[.int .i64 ((((rd v11.rows i32).Box).X).Lo), .int .i64 ((((rd v11.rows i32).Box).X).Hi), .bool ((((rd v11.rows i32).Box).X).Unknown), .int .i64 ((((rd v11.rows i32).Box).Y).Lo), .int .i64 ((((rd v11.rows i32).Box).Y).Hi), .bool ((((rd v11.rows i32).Box).Y).Unknown), .int .i64 ((((rd v11.rows i32).Box).Z).Lo), .int .i64 ((((rd v11.rows i32).Box).Z).Hi), .bool ((((rd v11.rows i32).Box).Z).Unknown)], .agg #[.int .i64 v21.Box.X.Lo, .int .i64 v21.Box.X.Hi, .bool v21.Box.X.Unknown, .int .i64 v21.Box.Y.Lo, .int .i64 v21.Box.Y.Hi, .bool v21.Box.Y.Unknown, .int .i64 v21.Box.Z.Lo, .int .i64 v21.Box.Z.Hi, .bool v21.Box.Z.Unknown], .int .i64 v25]) kr (query_Near.calls k ((rd v11.rows i32).Box) v21.Box v25 HS36 vt46 hc47) ?_)
 rintro _ W50 ⟨f48, rfl, L49, HS51⟩
 refine ⟨_, rfl, ?_⟩
 refine ⟨(Sg.g0 (Sx.of [] L49 HS51)), ?_⟩
 refine takeGL [12] (n := 1) (fuel := 0) #[true, true, true, true, true, true, true, true, true, true, true, true, true] rfl kr kr kr hnp (Sg.g0 (Sx.of [] L49 HS51)) ?_
 refine doneG kr ?_ _
 refine hK34 _ _ ?_
 refine wp_seq_k fun K52 hK53 => rl ?_
 refine seqL2 kr ?_
 refine nl (hK53 _ _ ?_)
 have hq_ := ite_some h; clear h; rcases hq_ with ⟨c55, h⟩ | ⟨c55, h⟩
 · have c55 : vt46 ≠ 0 := c55
   refine wpRwI 20 kr (bne_iff_ne.mpr c55) ?_
   refine condT kr ?_
   have HS61 := HS51.u3.u3.u3.u3.u5.u5
   refine heldG (S := Sg t f48 ([(b1, .cells #[.pointer (some ⟨b3, 0, none⟩)] 66 (0, 0))] :: [(b3, .cells #[.slice A12 v11.rows.length c13, .int .i64 v11.level, .slice A15 v11.roots.length c16, .slice A18 v11.loose.length c19] 109 (0, 0))] :: [(b5, .cells #[.int .i64 v21.ID, .int .i64 v21.Box.X.Lo, .int .i64 v21.Box.X.Hi, .bool v21.Box.X.Unknown, .int .i64 v21.Box.Y.Lo, .int .i64 v21.Box.Y.Hi, .bool v21.Box.Y.Unknown, .int .i64 v21.Box.Z.Lo, .int .i64 v21.Box.Z.Hi, .bool v21.Box.Z.Unknown, .int .i64 v21.Flux.Lo, .int .i64 v21.Flux.Hi, .bool v21.Flux.Unknown, .int .i64 v21.When.Lo, .int .i64 v21.When.Hi, .bool v21.When.Unknown, .slice A22 v21.Frames.length c23, .int .i64 v21.Marks] 99 (0, 0))] :: [(b7, .cells #[.int .i64 v25] 23 (0, 0))] :: H) [(14, [(b9, .cells #[.slice A27 v26.length c28] 73 (0, 0))]), (14, s29)]) (n := 16) kr rfl HS61 ?_
   intro W62 HS63
   refine takeGQ 0 [14] rfl kr kr kr kr kr kr hnp (Sg.g2 (Sx.of [[(b9, .cells #[.slice A27 v26.length c28] 73 (0, 0))], s29] fL HS63) (fun _ => St.only [] HS63 fL) (fun _ => St.only [[(b9, .cells #[.slice A27 v26.length c28] 73 (0, 0))]] HS63 fL)) (fun w_ hw_ => by obtain ⟨g_, hl_, hS_⟩ := hw_.seg (j := 14) (s := [(b9, .cells #[.slice A27 v26.length c28] 73 (0, 0))]) (by simp) (by simp); exact run_load rfl Tryz.underlying73 rfl (kv (.pointer (some ⟨b9, 0, none⟩))) (hS_.cell 0)) ?_
   refine takeGQ 1 [] rfl kr kr kr kr kr kr hnp (Sg.g2 (Sx.of [[(b9, .cells #[.slice A27 v26.length c28] 73 (0, 0))], s29] fL HS63) (fun _ => St.only [] HS63 fL) (fun _ => St.only [[(b9, .cells #[.slice A27 v26.length c28] 73 (0, 0))]] HS63 fL)) (fun w_ hw_ => by obtain ⟨g_, hl_, hS_⟩ := hw_.st; exact run_load rfl Tryz.underlying66 rfl (kv (.pointer (some ⟨b1, 0, none⟩))) (hS_.cell 0)) ?_
   refine takeGL [2, 3] (n := 14) (fuel := 12) #[true, true, true, true, false, false, false, false, false, false, false, false, false, false, false, false] rfl kr kr kr hnp (Sg.g2 (Sx.of [[(b9, .cells #[.slice A27 v26.length c28] 73 (0, 0))], s29] fL HS63) (fun _ => St.only [] HS63 fL) (fun _ => St.only [[(b9, .cells #[.slice A27 v26.length c28] 73 (0, 0))]] HS63 fL)) ?_
   refine takeGQ 4 [] rfl kr kr kr kr kr kr hnp (Sg.g2 (Sx.of [[(b9, .cells #[.slice A27 v26.length c28] 73 (0, 0))], s29] fL HS63) (fun _ => St.only [] HS63 fL) (fun _ => St.only [[(b9, .cells #[.slice A27 v26.length c28] 73 (0, 0))]] HS63 fL)) (fun w_ hw_ => by obtain ⟨g_, hl_, hS_⟩ := hw_.st; exact run_load rfl Tryz.underlying45 rfl (kv (.pointer (some ⟨b3, 0, none⟩))) (hS_.u1.cell 0)) ?_
   refine takeGL [5] (n := 11) (fuel := 10) #[true, true, true, true, true, true, false, false, false, false, false, false, false, false, false, false] rfl kr kr kr hnp (Sg.g2 (Sx.of [[(b9, .cells #[.slice A27 v26.length c28] 73 (0, 0))], s29] fL HS63) (fun _ => St.only [] HS63 fL) (fun _ => St.only [[(b9, .cells #[.slice A27 v26.length c28] 73 (0, 0))]] HS63 fL)) ?_
   refine takeGQ 6 [] rfl kr kr kr kr kr kr hnp (Sg.g2 (Sx.of [[(b9, .cells #[.slice A27 v26.length c28] 73 (0, 0))], s29] fL HS63) (fun _ => St.only [] HS63 fL) (fun _ => St.only [[(b9, .cells #[.slice A27 v26.length c28] 73 (0, 0))]] HS63 fL)) (fun w_ hw_ => by obtain ⟨g_, hl_, hS_⟩ := hw_.st; exact run_indexE hA44 (sz := 18) rfl Tryz.underlying45 kr (kv (.slice A12 v11.rows.length c13)) (kv (.int .i64 i32)) c37 c38 w_) ?_
   refine takeGL [7] (n := 9) (fuel := 8) #[true, true, true, true, true, true, true, true, false, false, false, false, false, false, false, false] rfl kr kr kr hnp (Sg.g2 (Sx.of [[(b9, .cells #[.slice A27 v26.length c28] 73 (0, 0))], s29] fL HS63) (fun _ => St.only [] HS63 fL) (fun _ => St.only [[(b9, .cells #[.slice A27 v26.length c28] 73 (0, 0))]] HS63 fL)) ?_
   refine takeGQ 8 [] rfl kr kr kr kr kr kr hnp (Sg.g2 (Sx.of [[(b9, .cells #[.slice A27 v26.length c28] 73 (0, 0))], s29] fL HS63) (fun _ => St.only [] HS63 fL) (fun _ => St.only [[(b9, .cells #[.slice A27 v26.length c28] 73 (0, 0))]] HS63 fL)) (fun w_ hw_ => by obtain ⟨g_, hl_, hS_⟩ := hw_.st; exact run_load rfl Tryz.underlying3 rfl (kv (.pointer (some ⟨b42, of43 + (i32 : Int).toNat * 18, none⟩))) ((hc41 (L49.trans hl_) hS_) 0 (by decide))) ?_
   refine takeGL [9] (n := 7) (fuel := 6) #[true, true, true, true, true, true, true, true, true, true, false, false, false, false, false, false] rfl kr kr kr hnp (Sg.g2 (Sx.of [[(b9, .cells #[.slice A27 v26.length c28] 73 (0, 0))], s29] fL HS63) (fun _ => St.only [] HS63 fL) (fun _ => St.only [[(b9, .cells #[.slice A27 v26.length c28] 73 (0, 0))]] HS63 fL)) ?_
   refine takeGQ 10 [] rfl kr kr kr kr kr kr hnp (Sg.g2 (Sx.of [[(b9, .cells #[.slice A27 v26.length c28] 73 (0, 0))], s29] fL HS63) (fun _ => St.only [] HS63 fL) (fun _ => St.only [[(b9, .cells #[.slice A27 v26.length c28] 73 (0, 0))]] HS63 fL)) (fun w_ hw_ => by obtain ⟨g_, hl_, hS_⟩ := hw_.st; exact run_load rfl Tryz.underlying3 rfl (kv (.pointer (some ⟨b5, 0, none⟩))) (hS_.u2.cell 0)) ?_
   refine takeGL [11, 12] (n := 5) (fuel := 3) #[true, true, true, true, true, true, true, true, true, true, true, true, true, false, false, false] rfl kr kr kr hnp (Sg.g2 (Sx.of [[(b9, .cells #[.slice A27 v26.length c28] 73 (0, 0))], s29] fL HS63) (fun _ => St.only [] HS63 fL) (fun _ => St.only [[(b9, .cells #[.slice A27 v26.length c28] 73 (0, 0))]] HS63 fL)) ?_
   refine takeGE 13 kr rfl kr (does_lit (e := ty_Pair) (E := 77) (vs := #[(0, Value.agg #[.int .i64 ((rd v11.rows i32).ID), .int .i64 v21.ID, .int .i64 vt46])]) (cs := #[.int .i64 ((rd v11.rows i32).ID), .int .i64 v21.ID, .int .i64 vt46]) (xs := ([(⟨(rd v11.rows i32).ID, v21.ID, vt46⟩ : S_Pair)] : List S_Pair)) rfl Tryz.underlying73 kr kr ⟨[.int .i64 ((rd v11.rows i32).ID), .int .i64 v21.ID, .int .i64 vt46], _, rfl, rfl, rfl⟩ rfl HS63 ?_ (by decide))
   intro b64 W65 s66 HS67 _ HO68
   refine ⟨(Sg.g2 (Sx.of [s66, [(b9, .cells #[.slice A27 v26.length c28] 73 (0, 0))], s29] fL HS67) (fun _ => St.only [s66] HS67 fL) (fun _ => St.only [s66, [(b9, .cells #[.slice A27 v26.length c28] 73 (0, 0))]] HS67 fL)), ?_⟩
   have hq_ := guard_some h; clear h; obtain ⟨c70, h⟩ := hq_
   have c70 : (v26.length + 1) * 24 ≤ 140737488355328 := c70
   have HS72 := HS67.u2.u1
   refine takeGE 14 kr rfl kr (does_append1 (e := ty_Pair) (E := 77) (xs := v26) (ys := ([(⟨(rd v11.rows i32).ID, v21.ID, vt46⟩ : S_Pair)] : List S_Pair)) rfl (kv (.slice A27 v26.length c28)) (kv (.slice (some ⟨b64, 0, none⟩) ([(⟨(rd v11.rows i32).ID, v21.ID, vt46⟩ : S_Pair)] : List S_Pair).length 1)) Tryz.underlying73 inf77 (HO30.mono L49) HO68 HS72 c70 (lim63 c70 (by decide)) ?_)
   intro A73 c74 s75 W76 HS77 HO78
   refine ⟨(Sg.g2 (Sx.of [s75, [(b9, .cells #[.slice A27 v26.length c28] 73 (0, 0))]] fL HS77) (fun hl_ => Bool.noConfusion (show true = false from hl_)) (fun hl_ => Bool.noConfusion (show true = false from hl_))), ?_⟩
   have HS79 := HS77.u1
   refine takeGE 15 kr rfl kr (does_store (n := 1) (vs := [.slice A73 (v26 ++ ([(⟨(rd v11.rows i32).ID, v21.ID, vt46⟩ : S_Pair)] : List S_Pair)).length c74]) (cs' := #[.slice A73 (v26 ++ ([(⟨(rd v11.rows i32).ID, v21.ID, vt46⟩ : S_Pair)] : List S_Pair)).length c74]) rfl kr (kv (.pointer (some ⟨b9, 0, none⟩))) (kv (.slice A73 (v26 ++ ([(⟨(rd v11.rows i32).ID, v21.ID, vt46⟩ : S_Pair)] : List S_Pair)).length c74)) rfl rfl (ones rfl) HS79 (Nat.le_of_ble_eq_true rfl) kr ?_)
   intro W80 HS81
   refine ⟨(Sg.g2 (Sx.of [[(b9, .cells #[.slice A73 (v26 ++ ([(⟨(rd v11.rows i32).ID, v21.ID, vt46⟩ : S_Pair)] : List S_Pair)).length c74] 73 (0, 0))], s75] fL HS81) (fun hl_ => Bool.noConfusion (show true = false from hl_)) (fun hl_ => Bool.noConfusion (show true = false from hl_))), ?_⟩
   refine doneG kr ?_ _
   refine hnor _ _ ?_
   refine ends_still (v := Value.tuple #[]) kr kr ?_
   have HS86 := HS81.u5.u5.u5.u5.u5
   injection h with h
   subst h
   exact ⟨f48, A73, c74, s75, rfl, L49, HS86, HO78⟩
 · have c55 : ¬ (vt46 ≠ 0) := c55
   refine wpRwI 20 (x := (vt46 != 0)) (v := false) kr (bne_eq_false_iff_eq.mpr (Decidable.of_not_not c55)) ?_
   refine condF kr ?_
   refine wp_skip ?_
   refine hnor _ _ ?_
   refine ends_still (v := Value.tuple #[]) kr kr ?_
   have HS92 := HS51.u4.u4.u4.u4.u4.u5
   injection h with h
   subst h
   exact ⟨f48, A27, c28, s29, rfl, L49, HS92, (HO30.mono L49)⟩

set_option maxRecDepth 100000 in
set_option maxHeartbeats 4000000 in
theorem query_Index_Join_2.calls (k : Nat) (b1 : Nat) (A6 : Option Addr) (c7 : Nat) (b3 : Nat) (b10 : Nat) (fr11 : Nat × Nat) (A13 : Option Addr) (c14 : Nat) (A16 : Option Addr) (c17 : Nat) (v5 : S_Row) (v9 : Int) (n12 : S_node) {t w : World} {f : FM} {H : List Seg} (HS : St t w f ([(b1, .cells #[.int .i64 v5.ID, .int .i64 v5.Box.X.Lo, .int .i64 v5.Box.X.Hi, .bool v5.Box.X.Unknown, .int .i64 v5.Box.Y.Lo, .int .i64 v5.Box.Y.Hi, .bool v5.Box.Y.Unknown, .int .i64 v5.Box.Z.Lo, .int .i64 v5.Box.Z.Hi, .bool v5.Box.Z.Unknown, .int .i64 v5.Flux.Lo, .int .i64 v5.Flux.Hi, .bool v5.Flux.Unknown, .int .i64 v5.When.Lo, .int .i64 v5.When.Hi, .bool v5.When.Unknown, .slice A6 v5.Frames.length c7, .int .i64 v5.Marks] 99 (0, 0))] :: [(b3, .cells #[.int .i64 v9] 23 (0, 0))] :: H)) (HR8 : SlR (tInt .i64) f A6 c7 v5.Frames) (HR15 : SlR fx_node.t f A13 c14 n12.kids) (HR18 : SlR (tInt .i64) f A16 c17 n12.rows) (hb19 : f b10 = some (.cells #[.int .i64 n12.box.X.Lo, .int .i64 n12.box.X.Hi, .bool n12.box.X.Unknown, .int .i64 n12.box.Y.Lo, .int .i64 n12.box.Y.Hi, .bool n12.box.Y.Unknown, .int .i64 n12.box.Z.Lo, .int .i64 n12.box.Z.Hi, .bool n12.box.Z.Unknown, .int .i64 n12.when.Lo, .int .i64 n12.when.Hi, .bool n12.when.Unknown, .slice A13 n12.kids.length c14, .slice A16 n12.rows.length c17] 119 fr11)) (hr20 : fx_node.t.rep f [.pointer (some ⟨b10, 0, none⟩)] n12) (rr1 : Bool) (h : query_Index_Join_2 k v5 v9 n12 = some rr1) :
    Calls Tryz.prog 59 #[.pointer (some ⟨b10, 0, none⟩), .pointer (some ⟨b1, 0, none⟩), .pointer (some ⟨b3, 0, none⟩)] w (fun e w' => ∃ (g : FM), e = .returned (Value.bool rr1) ∧ FM.le f g ∧ St t w' g ([(b1, .cells #[.int .i64 v5.ID, .int .i64 v5.Box.X.Lo, .int .i64 v5.Box.X.Hi, .bool v5.Box.X.Unknown, .int .i64 v5.Box.Y.Lo, .int .i64 v5.Box.Y.Hi, .bool v5.Box.Y.Unknown, .int .i64 v5.Box.Z.Lo, .int .i64 v5.Box.Z.Hi, .bool v5.Box.Z.Unknown, .int .i64 v5.Flux.Lo, .int .i64 v5.Flux.Hi, .bool v5.Flux.Unknown, .int .i64 v5.When.Lo, .int .i64 v5.When.Hi, .bool v5.When.Unknown, .slice A6 v5.Frames.length c7, .int .i64 v5.Marks] 99 (0, 0))] :: [(b3, .cells #[.int .i64 v9] 23 (0, 0))] :: H)) := by
 unfold query_Index_Join_2 at h
 refine enter Tryz.func59 rfl (tm := #[pV b10 0, pV b1 0, pV b3 0, uV, uV, uV, uV, uV, uV, uV, uV, uV, uV, uV]) kr ?_
 intro B hret hnor hnp
 refine wp_seq_k fun K21 hK22 => rl ?_
 refine seqL1 kr ?_
 refine nl (hK22 _ _ ?_)
 refine wp_seq_k (fun K23 hK24 => ?_)
 refine heldG (S := Sg t f ([(b1, .cells #[.int .i64 v5.ID, .int .i64 v5.Box.X.Lo, .int .i64 v5.Box.X.Hi, .bool v5.Box.X.Unknown, .int .i64 v5.Box.Y.Lo, .int .i64 v5.Box.Y.Hi, .bool v5.Box.Y.Unknown, .int .i64 v5.Box.Z.Lo, .int .i64 v5.Box.Z.Hi, .bool v5.Box.Z.Unknown, .int .i64 v5.Flux.Lo, .int .i64 v5.Flux.Hi, .bool v5.Flux.Unknown, .int .i64 v5.When.Lo, .int .i64 v5.When.Hi, .bool v5.When.Unknown, .slice A6 v5.Frames.length c7, .int .i64 v5.Marks] 99 (0, 0))] :: [(b3, .cells #[.int .i64 v9] 23 (0, 0))] :: H) []) (n := 10) kr rfl HS ?_
 intro W25 HS26
 refine takeGL [0, 1, 2] (n := 10) (fuel := 7) #[true, true, true, false, false, false, false, false, false, false] rfl kr kr kr hnp (Sg.g0 (Sx.of [] fL HS26)) ?_
 refine takeGQ 3 [] rfl kr kr kr kr kr kr hnp (Sg.g0 (Sx.of [] fL HS26)) (fun w_ hw_ => by obtain ⟨g_, hl_, hS_⟩ := hw_.st; exact run_loadN (n := 9) rfl Tryz.underlying31 rfl kr (kv (.pointer (some ⟨b10, 0, none⟩))) (cs := [.int .i64 n12.box.X.Lo, .int .i64 n12.box.X.Hi, .bool n12.box.X.Unknown, .int .i64 n12.box.Y.Lo, .int .i64 n12.box.Y.Hi, .bool n12.box.Y.Unknown, .int .i64 n12.box.Z.Lo, .int .i64 n12.box.Z.Hi, .bool n12.box.Z.Unknown]) rfl (hS_.fcells hb19 hl_ 0 9 _ rfl)) ?_
 refine takeGL [4] (n := 6) (fuel := 5) #[true, true, true, true, true, false, false, false, false, false] rfl kr kr kr hnp (Sg.g0 (Sx.of [] fL HS26)) ?_
 refine takeGQ 5 [] rfl kr kr kr kr kr kr hnp (Sg.g0 (Sx.of [] fL HS26)) (fun w_ hw_ => by obtain ⟨g_, hl_, hS_⟩ := hw_.st; exact run_loadN (n := 9) rfl Tryz.underlying31 rfl kr (kv (.pointer (some ⟨b1, 1, none⟩))) (cs := [.int .i64 v5.Box.X.Lo, .int .i64 v5.Box.X.Hi, .bool v5.Box.X.Unknown, .int .i64 v5.Box.Y.Lo, .int .i64 v5.Box.Y.Hi, .bool v5.Box.Y.Unknown, .int .i64 v5.Box.Z.Lo, .int .i64 v5.Box.Z.Hi, .bool v5.Box.Z.Unknown]) rfl (hS_.cells 1 9 _ rfl)) ?_
 refine takeGQ 6 [] rfl kr kr kr kr kr kr hnp (Sg.g0 (Sx.of [] fL HS26)) (fun w_ hw_ => by obtain ⟨g_, hl_, hS_⟩ := hw_.st; exact run_load rfl Tryz.underlying23 rfl (kv (.pointer (some ⟨b3, 0, none⟩))) (hS_.u1.cell 0)) ?_
 have hq_ := bind_some h; clear h; obtain ⟨vt27, hc28, h⟩ := hq_
 refine takeGE 7 kr rfl kr (does_call (f := 10) (args := #[.agg #[.int .i64 n12.box.X.Lo, .int .i64 n12.box.X.Hi, .bool n12.box.X.Unknown, .int .i64 n12.box.Y.Lo, .int .i64 n12.box.Y.Hi, .bool n12.box.Y.Unknown, .int .i64 n12.box.Z.Lo, .int .i64 n12.box.Z.Hi, .bool n12.box.Z.Unknown], .agg #[.int .i64 v5.Box.X.Lo, .int .i64 v5.Box.X.Hi, .bool v5.Box.X.Unknown, .int .i64 v5.Box.Y.Lo, .int .i64 v5.Box.Y.Hi, .bool v5.Box.Y.Unknown, .int .i64 v5.Box.Z.Lo, .int .i64 v5.Box.Z.Hi, .bool v5.Box.Z.Unknown], .int .i64 v9]) kr (query_Near.calls k n12.box v5.Box v9 HS26 vt27 hc28) ?_)
 rintro _ W31 ⟨f29, rfl, L30, HS32⟩
 refine ⟨_, rfl, ?_⟩
 refine ⟨(Sg.g0 (Sx.of [] L30 HS32)), ?_⟩
 refine takeGL [8, 9] (n := 2) (fuel := 0) #[true, true, true, true, true, true, true, true, true, true] rfl kr kr kr hnp (Sg.g0 (Sx.of [] L30 HS32)) ?_
 refine doneG kr ?_ _
 refine hK24 _ _ ?_
 refine wp_ret ?_
 refine hret _ _ ?_
 refine ends_still (v := Value.bool (vt27 != 0)) kr kr ?_
 injection h with h
 subst h
 exact ⟨f29, rfl, L30, HS32⟩

end Go.Sp.J7
