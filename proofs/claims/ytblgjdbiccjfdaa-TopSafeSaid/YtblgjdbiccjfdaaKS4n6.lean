import Derived.Test.YtblgjdbiccjfdaaProg
import Derived.Test.YtblgjdbiccjfdaaSpCopy
import Derived.Test.YtblgjdbiccjfdaaFS4
import Derived.Test.YtblgjdbiccjfdaaSpTake
import Derived.Test.YtblgjdbiccjfdaaKS4n0
import Derived.Test.YtblgjdbiccjfdaaKS4n1
import Derived.Test.YtblgjdbiccjfdaaKS4n2
import Derived.Test.YtblgjdbiccjfdaaKS4n3
import Derived.Test.YtblgjdbiccjfdaaKS4n4
import Derived.Test.YtblgjdbiccjfdaaKS4n5
namespace Go.Sp.S4
open Go Go.Sp Go.Proofs
set_option linter.unusedVariables false
attribute [local irreducible] wpList AnyL Code.wp Calls Does
set_option maxRecDepth 100000 in
set_option maxHeartbeats 4000000 in
theorem slew_Target.calls (k : Nat)  (a1 : S_Axis) (vfrom2 : Int) (angle3 : Int) {t w : World} {f : FM} {H : List Seg} (HS : St t w f (H)) (rr1 : Int) (rr2 : Int) (h : slew_Target k a1 vfrom2 angle3 = some (rr1, rr2)) :
    Calls Try.prog 72 #[.agg (cl_Axis a1), .int .i64 vfrom2, .int .i64 angle3] w (fun e w' => ∃ (g : FM), e = .returned (Value.tuple #[.int .i64 rr1, .int .i64 rr2]) ∧ FM.le f g ∧ St t w' g (H)) := by
 unfold slew_Target at h
 refine enter Try.func72 rfl (tm := ⟨[(ag_Axis a1), iV vfrom2, iV angle3] ++ (un 49 [])⟩) kr ?_
 intro B hret hnor hnp
 refine wp_seq_k fun K4 hK5 => rl ?_
 refine seqK rfl (does_box (cs := (cl_Axis a1)) rfl (kv (.agg (cl_Axis a1))) rfl HS ?_)
 intro b6 W7 HS8
 refine seqL2 kr ?_
 refine nl (hK5 _ _ ?_)
 refine wp_seq_k (fun K10 hK11 => ?_)
 refine wp_seq_k fun K12 hK13 => rl ?_
 refine seqK rfl (does_run (run_loadN (n := 4) rfl Try.underlying27 rfl kr (kv (pV b6 0)) (cs := (ll_Axis a1)) rfl (HS8.cells 0 4 _ rfl)) ?_)
 replace h := bind_some h; obtain ⟨vt14, hc15, h⟩ := h
 refine seqK rfl (does_call kr (slew_CheckAxis.calls k a1 HS8 vt14 hc15) ?_)
 rintro _ W18 ⟨f16, rfl, L17, HS19⟩
 refine ⟨_, rfl, ?_⟩
 refine seqL1 kr ?_
 refine nl (hK13 _ _ ?_)
 refine wp_seq_k fun K20 hK21 => rl ?_
 refine seqL2 kr ?_
 refine nl (hK21 _ _ ?_)
 replace h := ite_some h; rcases h with ⟨c23, h⟩ | ⟨c23, h⟩
 · have c23 : vt14 ≠ 0 := c23
   refine wpRwI 14 kr (bne_iff_ne.mpr c23) ?_
   refine condT kr ?_
   refine wp_seq_k (fun K24 hK25 => ?_)
   exact nomatch h
 have c23 : ¬ (vt14 ≠ 0) := c23
 refine wpRwI 14 (x := (vt14 != 0)) (v := false) kr (bne_eq_false_iff_eq.mpr (Decidable.of_not_not c23)) ?_
 refine condF kr ?_
 refine wp_skip ?_
 refine hK11 _ _ ?_
 refine wp_seq_k (fun K26 hK27 => ?_)
 refine wp_seq_k fun K28 hK29 => rl ?_
 refine seqK rfl (does_run (run_loadN (n := 4) rfl Try.underlying27 rfl kr (kv (pV b6 0)) (cs := (ll_Axis a1)) rfl (HS19.cells 0 4 _ rfl)) ?_)
 replace h := bind_some h; obtain ⟨vt30, hc31, h⟩ := h
 refine seqL1 kr ?_
 refine seqK rfl (does_call kr (slew_In.calls k a1 vfrom2 HS19 vt30 hc31) ?_)
 rintro _ W34 ⟨f32, rfl, L33, HS35⟩
 refine ⟨_, rfl, ?_⟩
 refine seqL1 kr ?_
 refine nl (hK29 _ _ ?_)
 replace h := ite_some h; rcases h with ⟨c37, h⟩ | ⟨c37, h⟩
 · have c37 : ¬ (vt30 = true) := c37
   refine wpRwI 19 kr (congrArg (fun b_ => !b_) (show vt30 = false from (Bool.eq_false_iff.mpr c37)) : (!vt30) = true) ?_
   refine condT kr ?_
   refine wp_seq_k (fun K38 hK39 => ?_)
   exact nomatch h
 have c37 : ¬ (¬ (vt30 = true)) := c37
 refine wpRwI 19 (x := (!vt30)) (v := false) kr (congrArg (fun b_ => !b_) (show vt30 = true from (Decidable.of_not_not c37)) : (!vt30) = false) ?_
 refine condF kr ?_
 refine wp_skip ?_
 refine hK27 _ _ ?_
 refine wp_seq_k (fun K40 hK41 => ?_)
 refine heldG (S := Sg t f32 ([(b6, .cells (cl_Axis a1) 27 (0, 0))] :: H) []) (n := 11) kr rfl HS35 ?_
 intro W42 HS43
 refine gL [0] (fuel := 10) (bA 11 1) rfl kr kr kr hnp (Sg.g0 (Sx.of [] fL HS43)) fun X44 => ?_
 refine gQ 1 rfl kr kr kr kr kr hnp X44 (fun hl_ hS_ => run_load rfl Try.underlying2 rfl (kv (pV b6 0)) (hS_.cell 0)) fun X45 => ?_
 refine gL [2, 4] (fuel := 7) (bA 11 23) rfl kr kr kr hnp X45 fun X46 => ?_
 refine gQ 5 rfl kr kr kr kr kr hnp X46 (fun hl_ hS_ => run_load rfl Try.underlying2 rfl (kv (pV b6 0)) (hS_.cell 0)) fun X47 => ?_
 replace h := bind_some h; obtain ⟨vt48, hc49, h⟩ := h
 refine takeGE 3 kr rfl kr (does_call kr (slew_mod.calls k angle3 HS43 vt48 hc49) ?_)
 rintro _ W52 ⟨f50, rfl, L51, HS53⟩
 refine ⟨_, rfl, ?_⟩
 refine kB (Sg.g0 (Sx.of [] L51 HS53)) fun X54 => ?_
 replace h := bind_some h; obtain ⟨vt55, hc56, h⟩ := h
 refine takeGE 6 kr rfl kr (does_call kr (slew_mod.calls k a1.Min HS53 vt55 hc56) ?_)
 rintro _ W59 ⟨f57, rfl, L58, HS60⟩
 refine ⟨_, rfl, ?_⟩
 refine kB (Sg.g0 (Sx.of [] (L51.trans L58) HS60)) fun X61 => ?_
 refine gL [7] (fuel := 3) (bA 11 255) rfl kr kr kr hnp X61 fun X62 => ?_
 replace h := bind_some h; obtain ⟨vt63, hc64, h⟩ := h
 refine takeGE 8 kr rfl kr (does_call kr (slew_mod.calls k (w64 (vt48 - vt55)) HS60 vt63 hc64) ?_)
 rintro _ W67 ⟨f65, rfl, L66, HS68⟩
 refine ⟨_, rfl, ?_⟩
 refine kB (Sg.g0 (Sx.of [] (L51.trans (L58.trans L66)) HS68)) fun X69 => ?_
 refine gL [9, 10] (fuel := 0) (bA 11 2047) rfl kr kr kr hnp X69 fun X70 => ?_
 refine doneG kr ?_ _
 refine hK41 _ _ ?_
 refine wp_seq_k (fun K71 hK72 => ?_)
 refine wp_seq_k fun K73 hK74 => rl ?_
 refine seqL2 kr ?_
 refine seqK rfl (does_run (run_load rfl Try.underlying2 rfl (kv (pV b6 1)) (HS68.cell 1)) ?_)
 refine seqL1 kr ?_
 refine nl (hK74 _ _ ?_)
 replace h := ite_some h; rcases h with ⟨c76, h⟩ | ⟨c76, h⟩
 · have c76 : (w64 (a1.Min + vt63)) > a1.Max := c76
   refine wpRwI 33 kr (decide_eq_true c76) ?_
   refine condT kr ?_
   refine wp_seq_k (fun K77 hK78 => ?_)
   exact nomatch h
 have c76 : ¬ ((w64 (a1.Min + vt63)) > a1.Max) := c76
 refine wpRwI 33 kr (decide_eq_false c76) ?_
 refine condF kr ?_
 refine wp_skip ?_
 refine hK72 _ _ ?_
 refine wp_seq_k fun K79 hK80 => rl ?_
 refine seqL2 kr ?_
 refine nl (hK80 _ _ ?_)
 refine wp_seq_k (fun K81 hK82 => ?_)
 refine blockK (fun B83 hx84 hn85 hr86 ho87 hp88 => ?_)
 replace h := bind_some h; obtain ⟨o89, hv137, h⟩ := h
 have J138 : ∀ (f131 : FM) (best136 : Int) (j135 : Nat → Value) (W133 : World) (a_ : Act), FM.le f65 f131 → some (best136) = some o89 → St t W133 f131 ([(b6, .cells (cl_Axis a1) 27 (0, 0))] :: H) → a_ = ⟨⟨[(ag_Axis a1), iV vfrom2, iV angle3, pV b6 0, uV, uV, iV 0, iV 0, iV vt14, (j135 0), iV best136, (ag_Axis a1), iV vt14, iV vt14, fV, uV, (ag_Axis a1), iV vfrom2, .bool vt30, fV, pV b6 0, iV a1.Min, iV angle3, iV vt48, pV b6 0, iV a1.Min, iV vt55, iV (w64 (vt48 - vt55)), iV vt63, iV (w64 (a1.Min + vt63)), iV (w64 (a1.Min + vt63)), pV b6 1, iV a1.Max, fV, iV (w64 (a1.Min + vt63))] ++ (jr j135 1 16 [uV])⟩, []⟩ → K81 a_ W133 := by
  intro f131 best136 j135 W133 a_ L132 hj139 HS134  hfr_; subst hfr_
  injection hj139 with hj139; subst hj139; try dsimp only at h
  refine hK82 _ _ ?_
  refine wp_seq_k fun K140 hK141 => rl ?_
  refine seqL3 kr ?_
  refine nl (hK141 _ _ ?_)
  refine wp_ret ?_
  refine hret _ _ ?_
  refine ends_still (v := Value.tuple #[.int .i64 best136, .int .i64 0]) kr kr ?_
  have HS142 := HS134.drop
  injection h with h
  injection h with h0_ h
  subst h0_ h
  exact ⟨f131, rfl, (L17.trans (L33.trans (L51.trans (L58.trans (L66.trans L132))))), HS142⟩
 clear h; have h := hv137; clear hv137
 refine loopK (fun n_ a_ w_ => ∃ (f93 : FM) (p98 : Int) (best99 : Int) (j97 : Nat → Value), FM.le f65 f93 ∧ St t w_ f93 ([(b6, .cells (cl_Axis a1) 27 (0, 0))] :: H) ∧ slew_Target.l0 k a1 vfrom2 n_ p98 best99 = some o89 ∧ a_ = ⟨⟨[(ag_Axis a1), iV vfrom2, iV angle3, pV b6 0, uV, uV, iV 0, iV 0, iV vt14, iV p98, iV best99, (ag_Axis a1), iV vt14, iV vt14, fV, uV, (ag_Axis a1), iV vfrom2, .bool vt30, fV, pV b6 0, iV a1.Min, iV angle3, iV vt48, pV b6 0, iV a1.Min, iV vt55, iV (w64 (vt48 - vt55)), iV vt63, iV (w64 (a1.Min + vt63)), iV (w64 (a1.Min + vt63)), pV b6 1, iV a1.Max, fV, iV (w64 (a1.Min + vt63))] ++ (jr j97 0 16 [uV])⟩, []⟩) k ⟨f65, (w64 (a1.Min + vt63)), (w64 (a1.Min + vt63)), (jL []), fL, HS68, h, kr⟩ ?_
 clear h
 rintro n92 _ W95 ⟨f93, p98, best99, j97, L94, HS96, h, rfl⟩ K90 hK91
 obtain _ | n92 := n92
 · exact nomatch h
 simp only [slew_Target.l0] at h
 refine wp_seq_k (fun K100 hK101 => ?_)
 refine wp_seq_k fun K102 hK103 => rl ?_
 refine seqL2 kr ?_
 refine seqK rfl (does_run (run_load rfl Try.underlying2 rfl (kv (pV b6 1)) (HS96.cell 1)) ?_)
 refine seqL1 kr ?_
 refine nl (hK103 _ _ ?_)
 replace h := ite_some h; rcases h with ⟨c105, h⟩ | ⟨c105, h⟩
 rotate_left
 · have c105 : ¬ (p98 ≤ a1.Max) := c105
   refine wpRwI 38 kr (decide_eq_false c105) ?_
   refine condF kr ?_
   refine wp_exit ?_
   refine hx84 _ _ ?_
   exact J138 f93 best99 (jL [iV p98, iV p98, pV b6 1, iV a1.Max, fV, (j97 4), (j97 5), (j97 6), (j97 7), (j97 8), (j97 9), (j97 10), (j97 11), (j97 12), (j97 13), (j97 14), (j97 15)]) W95 _ L94 h HS96 kr
 have c105 : p98 ≤ a1.Max := c105
 refine wpRwI 38 kr (decide_eq_true c105) ?_
 refine condT kr ?_
 refine wp_skip ?_
 refine hK101 _ _ ?_
 refine wp_seq_k (fun K106 hK107 => ?_)
 refine blockK (fun B108 hx109 hn110 hr111 ho112 hp113 => ?_)
 refine wp_seq_k fun K115 hK116 => rl ?_
 replace h := bind_some h; obtain ⟨vt117, hc118, h⟩ := h
 refine seqL3 kr ?_
 refine seqK rfl (does_call kr (slew_abs.calls k (w64 (p98 - vfrom2)) HS96 vt117 hc118) ?_)
 rintro _ W121 ⟨f119, rfl, L120, HS122⟩
 refine ⟨_, rfl, ?_⟩
 replace h := bind_some h; obtain ⟨vt123, hc124, h⟩ := h
 refine seqL3 kr ?_
 refine seqK rfl (does_call kr (slew_abs.calls k (w64 (best99 - vfrom2)) HS122 vt123 hc124) ?_)
 rintro _ W127 ⟨f125, rfl, L126, HS128⟩
 refine ⟨_, rfl, ?_⟩
 refine seqL1 kr ?_
 refine nl (hK116 _ _ ?_)
 replace h := ite_some h; rcases h with ⟨c130, h⟩ | ⟨c130, h⟩
 · have c130 : vt117 < vt123 := c130
   refine wpRwI 49 kr (decide_eq_true c130) ?_
   refine condT kr ?_
   refine rl ?_
   refine seqL2 kr ?_
   refine nl ?_
   refine hn110 _ _ ?_
   refine hK107 _ _ ?_
   refine rl ?_
   refine seqL3 kr ?_
   refine nl ?_
   refine hK91 n92 _ _ (Nat.lt_succ_self _) ?_
   exact ⟨f125, (w64 (p98 + 4294967296)), p98, (jL [iV p98, pV b6 1, iV a1.Max, tV, iV p98, iV (w64 (p98 + 4294967296)), iV p98, iV vfrom2, iV (w64 (p98 - vfrom2)), iV vt117, iV best99, iV vfrom2, iV (w64 (best99 - vfrom2)), iV vt123, tV, iV p98]), (L94.trans (L120.trans L126)), HS128, h, kr⟩
 have c130 : ¬ (vt117 < vt123) := c130
 refine wpRwI 49 kr (decide_eq_false c130) ?_
 refine condF kr ?_
 refine wp_skip ?_
 refine hn110 _ _ ?_
 refine hK107 _ _ ?_
 refine rl ?_
 refine seqL3 kr ?_
 refine nl ?_
 refine hK91 n92 _ _ (Nat.lt_succ_self _) ?_
 exact ⟨f125, (w64 (p98 + 4294967296)), best99, (jL [iV p98, pV b6 1, iV a1.Max, tV, iV p98, iV (w64 (p98 + 4294967296)), iV p98, iV vfrom2, iV (w64 (p98 - vfrom2)), iV vt117, iV best99, iV vfrom2, iV (w64 (best99 - vfrom2)), iV vt123, fV, (j97 15)]), (L94.trans (L120.trans L126)), HS128, h, kr⟩

set_option maxRecDepth 100000 in
set_option maxHeartbeats 4000000 in
theorem dome_Rotate.calls (k : Nat)  (s1 : S_State3) (az2 : Int) {t w : World} {f : FM} {H : List Seg} (HS : St t w f (H)) (rr1 : S_State3) (rr2 : Int) (h : dome_Rotate k s1 az2 = some (rr1, rr2)) :
    Calls Try.prog 57 #[.agg (cl_State3 s1), .int .i64 az2] w (fun e w' => ∃ (g : FM), e = .returned (Value.tuple #[.agg (cl_State3 rr1), .int .i64 rr2]) ∧ FM.le f g ∧ St t w' g (H)) := by
 unfold dome_Rotate at h
 refine enter Try.func57 rfl (tm := ⟨[(ag_State3 s1), iV az2] ++ (un 40 [])⟩) kr ?_
 intro B hret hnor hnp
 refine wp_seq_k fun K3 hK4 => rl ?_
 refine seqK rfl (does_box (cs := (cl_State3 s1)) rfl (kv (.agg (cl_State3 s1))) rfl HS ?_)
 intro b5 W6 HS7
 refine seqK rfl (does_alloc (z := Value.agg (cm_State3 0 0 false false ⟨0, 0, 0, false⟩)) (cs := (cm_State3 0 0 false false ⟨0, 0, 0, false⟩)) rfl kr rfl HS7 ?_)
 intro b9 W10 HS11
 refine seqL1 kr ?_
 refine nl (hK4 _ _ ?_)
 refine wp_seq_k (fun K13 hK14 => ?_)
 refine wp_seq_k fun K15 hK16 => rl ?_
 refine seqK rfl (does_run (run_loadN (n := 8) rfl Try.underlying53 rfl kr (kv (pV b5 0)) (cs := (ll_State3 s1)) rfl (HS11.u1.cells 0 8 _ rfl)) ?_)
 replace h := bind_some h; obtain ⟨vt17, hc18, h⟩ := h
 refine seqK rfl (does_call kr (dome_Check.calls k s1 HS11 vt17 hc18) ?_)
 rintro _ W21 ⟨f19, rfl, L20, HS22⟩
 refine ⟨_, rfl, ?_⟩
 refine seqL1 kr ?_
 refine nl (hK16 _ _ ?_)
 refine wp_seq_k fun K23 hK24 => rl ?_
 refine seqL2 kr ?_
 refine nl (hK24 _ _ ?_)
 replace h := ite_some h; rcases h with ⟨c26, h⟩ | ⟨c26, h⟩
 · have c26 : vt17 ≠ 0 := c26
   refine wpRwI 12 kr (bne_iff_ne.mpr c26) ?_
   refine condT kr ?_
   refine wp_seq_k (fun K27 hK28 => ?_)
   exact nomatch h
 have c26 : ¬ (vt17 ≠ 0) := c26
 refine wpRwI 12 (x := (vt17 != 0)) (v := false) kr (bne_eq_false_iff_eq.mpr (Decidable.of_not_not c26)) ?_
 refine condF kr ?_
 refine wp_skip ?_
 refine hK14 _ _ ?_
 refine wp_seq_k (fun K29 hK30 => ?_)
 refine heldG (S := Sg t f19 ([(b9, .cells (cm_State3 0 0 false false ⟨0, 0, 0, false⟩) 53 (0, 0))] :: [(b5, .cells (cl_State3 s1) 53 (0, 0))] :: H) []) (n := 11) kr rfl HS22 ?_
 intro W31 HS32
 refine gL [1, 2] (fuel := 9) (bA 11 6) rfl kr kr kr hnp (Sg.g0 (Sx.of [] fL HS32)) fun X33 => ?_
 refine gQ 3 rfl kr kr kr kr kr hnp X33 (fun hl_ hS_ => run_load rfl Try.underlying2 rfl (kv (pV b5 4)) (hS_.u1.cell 4)) fun X34 => ?_
 refine gL [4] (fuel := 7) (bA 11 30) rfl kr kr kr hnp X34 fun X35 => ?_
 replace h := bind_some h; obtain ⟨vt36, hc37, h⟩ := h
 refine takeGE 0 kr rfl kr (does_call kr (dome_Axis.calls k  HS32 vt36 hc37) ?_)
 rintro _ W40 ⟨f38, rfl, L39, HS41⟩
 refine ⟨_, rfl, ?_⟩
 refine kB (Sg.g0 (Sx.of [] L39 HS41)) fun X42 => ?_
 replace h := bind_some h; obtain ⟨⟨vt43, vt44⟩, hc45, h⟩ := h
 refine takeGE 5 kr rfl kr (does_call kr (slew_Target.calls k vt36 s1.Turn.At az2 HS41 vt43 vt44 hc45) ?_)
 rintro _ W48 ⟨f46, rfl, L47, HS49⟩
 refine ⟨_, rfl, ?_⟩
 refine kB (Sg.g0 (Sx.of [] (L39.trans L47) HS49)) fun X50 => ?_
 refine gL [6, 7, 8, 9, 10] (fuel := 0) (bA 11 2047) rfl kr kr kr hnp X50 fun X51 => ?_
 refine doneG kr ?_ _
 refine hK30 _ _ ?_
 refine wp_seq_k (fun K52 hK53 => ?_)
 refine wp_seq_k fun K54 hK55 => rl ?_
 refine seqL2 kr ?_
 refine nl (hK55 _ _ ?_)
 replace h := ite_some h; rcases h with ⟨c57, h⟩ | ⟨c57, h⟩
 · have c57 : vt44 ≠ 0 := c57
   refine wpRwI 25 kr (bne_iff_ne.mpr c57) ?_
   refine condT kr ?_
   refine wp_seq_k (fun K58 hK59 => ?_)
   exact nomatch h
 have c57 : ¬ (vt44 ≠ 0) := c57
 refine wpRwI 25 (x := (vt44 != 0)) (v := false) kr (bne_eq_false_iff_eq.mpr (Decidable.of_not_not c57)) ?_
 refine condF kr ?_
 refine wp_skip ?_
 refine hK53 _ _ ?_
 refine wp_seq_k (fun K60 hK61 => ?_)
 refine wp_seq_k (fun K62 hK63 => ?_)
 have HS64 := HS49.u1
 refine heldG (S := Sg t f46 ([(b9, .cells (cm_State3 0 0 false false ⟨0, 0, 0, false⟩) 53 (0, 0))] :: H) [(9, [(b5, .cells (cl_State3 s1) 53 (0, 0))])]) (n := 11) kr rfl HS64 ?_
 intro W65 HS66
 refine gL [1] (fuel := 10) (bA 11 2) rfl kr kr kr hnp (Sg.g1 (Sx.of [[(b5, .cells (cl_State3 s1) 53 (0, 0))]] fL HS66) (fun _ => St.only [] HS66 fL)) fun X67 => ?_
 refine gQs 2 9 rfl kr kr kr kr kr (.head _) kr hnp X67 (fun hl_ hS_ => run_loadN (n := 4) rfl Try.underlying49 rfl kr (kv (pV b5 4)) (cs := (ll_State s1.Turn)) rfl (hS_.cells 4 4 _ rfl)) fun X68 => ?_
 refine gL [3] (fuel := 8) (bA 11 14) rfl kr kr kr hnp X68 fun X69 => ?_
 replace h := bind_some h; obtain ⟨vt70, hc71, h⟩ := h
 refine takeGE 0 kr rfl kr (does_call kr (dome_Axis.calls k  HS66 vt70 hc71) ?_)
 rintro _ W74 ⟨f72, rfl, L73, HS75⟩
 refine ⟨_, rfl, ?_⟩
 refine kB (Sg.g1 (Sx.of [[(b5, .cells (cl_State3 s1) 53 (0, 0))]] L73 HS75) (fun _ => St.only [] HS75 L73)) fun X76 => ?_
 replace h := bind_some h; obtain ⟨⟨vt77, vt78⟩, hc79, h⟩ := h
 refine takeGE 4 kr rfl kr (does_call kr (axis_Send.calls k vt70 s1.Turn vt43 HS75 vt77 vt78 hc79) ?_)
 rintro _ W82 ⟨f80, rfl, L81, HS83⟩
 refine ⟨_, rfl, ?_⟩
 refine kB (Sg.g1 (Sx.of [[(b5, .cells (cl_State3 s1) 53 (0, 0))]] (L73.trans L81) HS83) (fun _ => St.only [] HS83 (L73.trans L81))) fun X84 => ?_
 refine gL [5, 6, 7, 8] (fuel := 2) (bA 11 511) rfl kr kr kr hnp X84 fun X85 => ?_
 refine takeGE 9 kr rfl kr (does_store (n := 4) (vs := (ll_State vt77)) (cs' := (cm_State3 s1.Shutter s1.Cover s1.Open s1.Lift vt77)) rfl kr (kv (pV b5 4)) (kv (.agg (cl_State vt77))) rfl rfl (ones rfl) HS83 (Nat.le_of_ble_eq_true rfl) kr ?_)
 intro W86 HS87
 refine kB (Sg.g1 (Sx.of [[(b5, .cells (cm_State3 s1.Shutter s1.Cover s1.Open s1.Lift vt77) 53 (0, 0))]] (L73.trans L81) HS87) (fun hl_ => Bool.noConfusion (show true = false from hl_))) fun X88 => ?_
 refine gL [10] (fuel := 0) (bA 11 2047) rfl kr kr kr hnp X88 fun X89 => ?_
 refine doneG kr ?_ _
 refine hK63 _ _ ?_
 refine wp_seq_k fun K90 hK91 => rl ?_
 refine seqL2 kr ?_
 refine nl (hK91 _ _ ?_)
 replace h := ite_some h; rcases h with ⟨c93, h⟩ | ⟨c93, h⟩
 · have c93 : vt78 ≠ 0 := c93
   refine wpRwI 38 kr (bne_iff_ne.mpr c93) ?_
   refine condT kr ?_
   refine wp_seq_k (fun K94 hK95 => ?_)
   exact nomatch h
 have c93 : ¬ (vt78 ≠ 0) := c93
 refine wpRwI 38 (x := (vt78 != 0)) (v := false) kr (bne_eq_false_iff_eq.mpr (Decidable.of_not_not c93)) ?_
 refine condF kr ?_
 refine wp_skip ?_
 refine hK61 _ _ ?_
 refine wp_seq_k fun K96 hK97 => rl ?_
 refine seqK rfl (does_run (run_loadN (n := 8) rfl Try.underlying53 rfl kr (kv (pV b5 0)) (cs := (lm_State3 s1.Shutter s1.Cover s1.Open s1.Lift vt77)) rfl (HS87.cells 0 8 _ rfl)) ?_)
 have HS98 := HS87.u1
 refine seqK rfl (does_storeA (vs := (lm_State3 s1.Shutter s1.Cover s1.Open s1.Lift vt77)) rfl kr kr kr rfl (ones rfl) HS98 kr ?_)
 intro W99 HS100
 refine seqL1 kr ?_
 refine nl (hK97 _ _ ?_)
 refine wp_ret ?_
 refine hret _ _ ?_
 refine ends (v := Value.tuple #[.agg (cm_State3 s1.Shutter s1.Cover s1.Open s1.Lift vt77), .int .i64 0]) (results2 (q1 := .cell 4 53) (q2 := .tmp 5) kr (resN (n := 8) (cs := (lm_State3 s1.Shutter s1.Cover s1.Open s1.Lift vt77)) (kv (pV b9 0)) Try.underlying53 rfl kr rfl (HS100.cells 0 8 _ rfl)) (resT (kv (.int .i64 0)))) kr ?_
 have HS101 := HS100.drop
 have HS102 := HS101.drop
 injection h with h
 injection h with h0_ h
 subst h0_ h
 exact ⟨f80, rfl, (L20.trans (L39.trans (L47.trans (L73.trans L81)))), HS102⟩

set_option maxRecDepth 100000 in
set_option maxHeartbeats 4000000 in
theorem dome_Clear.calls (k : Nat)  (s1 : S_State3) {t w : World} {f : FM} {H : List Seg} (HS : St t w f (H)) (rr1 : Bool) (h : dome_Clear k s1 = some rr1) :
    Calls Try.prog 74 #[.agg (cl_State3 s1)] w (fun e w' => ∃ (g : FM), e = .returned (Value.bool rr1) ∧ FM.le f g ∧ St t w' g (H)) := by
 unfold dome_Clear at h
 refine enter Try.func74 rfl (tm := ⟨[(ag_State3 s1)] ++ (un 18 [])⟩) kr ?_
 intro B hret hnor hnp
 refine wp_seq_k fun K2 hK3 => rl ?_
 refine seqK rfl (does_box (cs := (cl_State3 s1)) rfl (kv (.agg (cl_State3 s1))) rfl HS ?_)
 intro b4 W5 HS6
 refine seqL1 kr ?_
 refine nl (hK3 _ _ ?_)
 refine wp_seq_k fun K8 hK9 => rl ?_
 refine seqL1 kr ?_
 refine seqK rfl (does_run (run_load rfl Try.underlying3 rfl (kv (pV b4 0)) (HS6.cell 0)) ?_)
 refine seqL2 kr ?_
 replace h := ite_some h; rcases h with ⟨c11, h⟩ | ⟨c11, h⟩
 rotate_left
 · have c11 : ¬ (s1.Shutter = 100) := c11
   refine seqRwI 5 kr (beq_eq_false_iff_ne.mpr c11) ?_
   refine seqRwI 6 kr (beq_eq_false_iff_ne.mpr c11) ?_
   refine seqL13 kr ?_
   refine nl (hK9 _ _ ?_)
   refine wp_ret ?_
   refine hret _ _ ?_
   refine ends_still (v := Value.bool false) kr kr ?_
   have HS17 := HS6.drop
   injection h with h
   subst h
   exact ⟨f, rfl, FM.le.refl _, HS17⟩
 have c11 : s1.Shutter = 100 := c11
 refine seqRwI 5 kr (beq_iff_eq.mpr c11) ?_
 refine seqRwI 6 kr (beq_iff_eq.mpr c11) ?_
 refine seqL1 kr ?_
 refine seqG kr (does_run (run_load rfl Try.underlying3 rfl (kv (pV b4 1)) (HS6.cell 1)) ?_)
 refine seqL3 kr ?_
 replace h := ite_some h; rcases h with ⟨c12, h⟩ | ⟨c12, h⟩
 rotate_left
 · have c12 : ¬ (s1.Cover = 20) := c12
   refine seqRwI 9 kr (beq_eq_false_iff_ne.mpr c12) ?_
   refine seqRwI 10 kr (beq_eq_false_iff_ne.mpr c12) ?_
   refine seqRwI 11 kr (beq_eq_false_iff_ne.mpr c12) ?_
   refine seqL8 kr ?_
   refine nl (hK9 _ _ ?_)
   refine wp_ret ?_
   refine hret _ _ ?_
   refine ends_still (v := Value.bool false) kr kr ?_
   have HS16 := HS6.drop
   injection h with h
   subst h
   exact ⟨f, rfl, FM.le.refl _, HS16⟩
 have c12 : s1.Cover = 20 := c12
 refine seqRwI 9 kr (beq_iff_eq.mpr c12) ?_
 refine seqRwI 10 kr (beq_iff_eq.mpr c12) ?_
 refine seqRwI 11 kr (beq_iff_eq.mpr c12) ?_
 refine seqL1 kr ?_
 refine seqG kr (does_run (run_load rfl Try.underlying4 rfl (kv (pV b4 2)) (HS6.cell 2)) ?_)
 refine seqL2 kr ?_
 replace h := ite_some h; rcases h with ⟨c13, h⟩ | ⟨c13, h⟩
 · have c13 : s1.Open = true := c13
   refine seqRwI 13 kr c13 ?_
   refine seqRwI 14 kr c13 ?_
   refine seqRwI 15 kr c13 ?_
   refine seqL1 kr ?_
   refine seqG kr (does_run (run_load rfl Try.underlying4 rfl (kv (pV b4 3)) (HS6.cell 3)) ?_)
   refine seqL2 kr ?_
   refine nl (hK9 _ _ ?_)
   refine wp_ret ?_
   refine hret _ _ ?_
   refine ends_still (v := Value.bool s1.Lift) kr kr ?_
   have HS14 := HS6.drop
   injection h with h
   subst h
   exact ⟨f, rfl, FM.le.refl _, HS14⟩
 have c13 : ¬ (s1.Open = true) := c13
 refine seqRwI 13 kr (Bool.eq_false_iff.mpr c13) ?_
 refine seqRwI 14 kr (Bool.eq_false_iff.mpr c13) ?_
 refine seqRwI 15 kr (Bool.eq_false_iff.mpr c13) ?_
 refine seqL4 kr ?_
 refine nl (hK9 _ _ ?_)
 refine wp_ret ?_
 refine hret _ _ ?_
 refine ends_still (v := Value.bool false) kr kr ?_
 have HS15 := HS6.drop
 injection h with h
 subst h
 exact ⟨f, rfl, FM.le.refl _, HS15⟩

set_option maxRecDepth 100000 in
set_option maxHeartbeats 4000000 in
theorem dome_Covers.calls (k : Nat)  (s1 : S_State3) (az2 : Int) {t w : World} {f : FM} {H : List Seg} (HS : St t w f (H)) (rr1 : Bool) (h : dome_Covers k s1 az2 = some rr1) :
    Calls Try.prog 75 #[.agg (cl_State3 s1), .int .i64 az2] w (fun e w' => ∃ (g : FM), e = .returned (Value.bool rr1) ∧ FM.le f g ∧ St t w' g (H)) := by
 unfold dome_Covers at h
 refine enter Try.func75 rfl (tm := ⟨[(ag_State3 s1), iV az2] ++ (un 22 [])⟩) kr ?_
 intro B hret hnor hnp
 refine wp_seq_k fun K3 hK4 => rl ?_
 refine seqK rfl (does_box (cs := (cl_State3 s1)) rfl (kv (.agg (cl_State3 s1))) rfl HS ?_)
 intro b5 W6 HS7
 refine seqL1 kr ?_
 refine nl (hK4 _ _ ?_)
 refine wp_seq_k fun K9 hK10 => rl ?_
 refine seqL2 kr ?_
 refine seqK rfl (does_run (run_load rfl Try.underlying2 rfl (kv (pV b5 4)) (HS7.cell 4)) ?_)
 refine seqL6 kr ?_
 refine nl (hK10 _ _ ?_)
 refine wp_seq_k (fun K11 hK12 => ?_)
 refine wp_seq_k fun K13 hK14 => rl ?_
 refine seqL2 kr ?_
 refine nl (hK14 _ _ ?_)
 replace h := ite_some h; rcases h with ⟨c16, h⟩ | ⟨c16, h⟩
 · have c16 : (Int.tmod (w64 ((Int.tmod s1.Turn.At 4294967296) - (Int.tmod az2 4294967296))) 4294967296) < 0 := c16
   refine wpRwI 15 kr (decide_eq_true c16) ?_
   refine condT kr ?_
   refine rl ?_
   refine seqL3 kr ?_
   refine nl (hK12 _ _ ?_)
   refine wp_seq_k fun K17 hK18 => rl ?_
   refine seqL3 kr ?_
   replace h := ite_some h; rcases h with ⟨c20, h⟩ | ⟨c20, h⟩
   · have c20 : (w64 ((Int.tmod (w64 ((Int.tmod s1.Turn.At 4294967296) - (Int.tmod az2 4294967296))) 4294967296) + 4294967296)) ≤ 178956970 := c20
     refine seqRwI 19 kr (decide_eq_true c20) ?_
     refine seqRwI 20 kr (decide_eq_true c20) ?_
     refine seqL4 kr ?_
     refine nl (hK18 _ _ ?_)
     refine wp_ret ?_
     refine hret _ _ ?_
     refine ends_still (v := Value.bool true) kr kr ?_
     have HS25 := HS7.drop
     injection h with h
     subst h
     exact ⟨f, rfl, FM.le.refl _, HS25⟩
   have c20 : ¬ ((w64 ((Int.tmod (w64 ((Int.tmod s1.Turn.At 4294967296) - (Int.tmod az2 4294967296))) 4294967296) + 4294967296)) ≤ 178956970) := c20
   refine seqRwI 19 kr (decide_eq_false c20) ?_
   refine seqRwI 20 kr (decide_eq_false c20) ?_
   refine seqL4 kr ?_
   refine nl (hK18 _ _ ?_)
   refine wp_ret ?_
   refine hret _ _ ?_
   refine ends_still (v := Value.bool (decide ((w64 ((Int.tmod (w64 ((Int.tmod s1.Turn.At 4294967296) - (Int.tmod az2 4294967296))) 4294967296) + 4294967296)) ≥ 4116010326))) kr kr ?_
   have HS26 := HS7.drop
   injection h with h
   subst h
   exact ⟨f, rfl, FM.le.refl _, HS26⟩
 have c16 : ¬ ((Int.tmod (w64 ((Int.tmod s1.Turn.At 4294967296) - (Int.tmod az2 4294967296))) 4294967296) < 0) := c16
 refine wpRwI 15 kr (decide_eq_false c16) ?_
 refine condF kr ?_
 refine wp_skip ?_
 refine hK12 _ _ ?_
 refine wp_seq_k fun K21 hK22 => rl ?_
 refine seqL3 kr ?_
 replace h := ite_some h; rcases h with ⟨c24, h⟩ | ⟨c24, h⟩
 · have c24 : (Int.tmod (w64 ((Int.tmod s1.Turn.At 4294967296) - (Int.tmod az2 4294967296))) 4294967296) ≤ 178956970 := c24
   refine seqRwI 19 kr (decide_eq_true c24) ?_
   refine seqRwI 20 kr (decide_eq_true c24) ?_
   refine seqL4 kr ?_
   refine nl (hK22 _ _ ?_)
   refine wp_ret ?_
   refine hret _ _ ?_
   refine ends_still (v := Value.bool true) kr kr ?_
   have HS27 := HS7.drop
   injection h with h
   subst h
   exact ⟨f, rfl, FM.le.refl _, HS27⟩
 have c24 : ¬ ((Int.tmod (w64 ((Int.tmod s1.Turn.At 4294967296) - (Int.tmod az2 4294967296))) 4294967296) ≤ 178956970) := c24
 refine seqRwI 19 kr (decide_eq_false c24) ?_
 refine seqRwI 20 kr (decide_eq_false c24) ?_
 refine seqL4 kr ?_
 refine nl (hK22 _ _ ?_)
 refine wp_ret ?_
 refine hret _ _ ?_
 refine ends_still (v := Value.bool (decide ((Int.tmod (w64 ((Int.tmod s1.Turn.At 4294967296) - (Int.tmod az2 4294967296))) 4294967296) ≥ 4116010326))) kr kr ?_
 have HS28 := HS7.drop
 injection h with h
 subst h
 exact ⟨f, rfl, FM.le.refl _, HS28⟩

set_option maxRecDepth 100000 in
set_option maxHeartbeats 4000000 in
theorem camera_Expose.calls (k : Nat)  (s1 : S_State4) (beats2 : Int) {t w : World} {f : FM} {H : List Seg} (HS : St t w f (H)) (rr1 : S_State4) (rr2 : Int) (h : camera_Expose k s1 beats2 = some (rr1, rr2)) :
    Calls Try.prog 76 #[.agg (cl_State4 s1), .int .i64 beats2] w (fun e w' => ∃ (g : FM), e = .returned (Value.tuple #[.agg (cl_State4 rr1), .int .i64 rr2]) ∧ FM.le f g ∧ St t w' g (H)) := by
 unfold camera_Expose at h
 refine enter Try.func76 rfl (tm := ⟨[(ag_State4 s1), iV beats2] ++ (un 40 [])⟩) kr ?_
 intro B hret hnor hnp
 refine wp_seq_k fun K3 hK4 => rl ?_
 refine seqK rfl (does_box (cs := (cl_State4 s1)) rfl (kv (.agg (cl_State4 s1))) rfl HS ?_)
 intro b5 W6 HS7
 refine seqK rfl (does_alloc (z := Value.agg (cm_Axis 0 0 0 0)) (cs := (cm_Axis 0 0 0 0)) rfl kr rfl HS7 ?_)
 intro b9 W10 HS11
 refine seqL1 kr ?_
 refine nl (hK4 _ _ ?_)
 refine wp_seq_k (fun K13 hK14 => ?_)
 refine wp_seq_k fun K15 hK16 => rl ?_
 refine seqK rfl (does_run (run_loadN (n := 4) rfl Try.underlying55 rfl kr (kv (pV b5 0)) (cs := (ll_State4 s1)) rfl (HS11.u1.cells 0 4 _ rfl)) ?_)
 replace h := bind_some h; obtain ⟨vt17, hc18, h⟩ := h
 refine seqK rfl (does_call kr (camera_Check.calls k s1 HS11 vt17 hc18) ?_)
 rintro _ W21 ⟨f19, rfl, L20, HS22⟩
 refine ⟨_, rfl, ?_⟩
 refine seqL1 kr ?_
 refine nl (hK16 _ _ ?_)
 refine wp_seq_k fun K23 hK24 => rl ?_
 refine seqL2 kr ?_
 refine nl (hK24 _ _ ?_)
 replace h := ite_some h; rcases h with ⟨c26, h⟩ | ⟨c26, h⟩
 · have c26 : vt17 ≠ 0 := c26
   refine wpRwI 10 kr (bne_iff_ne.mpr c26) ?_
   refine condT kr ?_
   refine wp_seq_k (fun K27 hK28 => ?_)
   exact nomatch h
 have c26 : ¬ (vt17 ≠ 0) := c26
 refine wpRwI 10 (x := (vt17 != 0)) (v := false) kr (bne_eq_false_iff_eq.mpr (Decidable.of_not_not c26)) ?_
 refine condF kr ?_
 refine wp_skip ?_
 refine hK14 _ _ ?_
 refine wp_seq_k (fun K29 hK30 => ?_)
 refine wp_seq_k fun K31 hK32 => rl ?_
 refine seqL1 kr ?_
 refine seqK rfl (does_run (run_load rfl Try.underlying3 rfl (kv (pV b5 0)) (HS22.u1.cell 0)) ?_)
 refine seqL1 kr ?_
 refine nl (hK32 _ _ ?_)
 replace h := ite_some h; rcases h with ⟨c34, h⟩ | ⟨c34, h⟩
 · have c34 : s1.Mode ≠ 0 := c34
   refine wpRwI 15 kr (bne_iff_ne.mpr c34) ?_
   refine condT kr ?_
   refine wp_seq_k fun K35 hK36 => rl ?_
   refine seqL1 kr ?_
   refine seqK rfl (does_storeA (vs := (lm_Axis 0 0 0 0)) rfl kr kr kr rfl (ones rfl) HS22 kr ?_)
   intro W37 HS38
   refine seqL1 kr ?_
   refine nl (hK36 _ _ ?_)
   refine wp_ret ?_
   refine hret _ _ ?_
   refine ends (v := Value.tuple #[.agg (cm_Axis 0 0 0 0), .int .i64 10]) (results2 (q1 := .cell 4 55) (q2 := .tmp 5) kr (resN (n := 4) (cs := (lm_Axis 0 0 0 0)) (kv (pV b9 0)) Try.underlying55 rfl kr rfl (HS38.cells 0 4 _ rfl)) (resT (kv (.int .i64 10)))) kr ?_
   have HS99 := HS38.drop
   have HS100 := HS99.drop
   injection h with h
   injection h with h0_ h
   subst h0_ h
   exact ⟨f19, rfl, L20, HS100⟩
 have c34 : ¬ (s1.Mode ≠ 0) := c34
 refine wpRwI 15 (x := (s1.Mode != 0)) (v := false) kr (bne_eq_false_iff_eq.mpr (Decidable.of_not_not c34)) ?_
 refine condF kr ?_
 refine wp_skip ?_
 refine hK30 _ _ ?_
 refine wp_seq_k (fun K39 hK40 => ?_)
 refine wp_seq_k (fun K41 hK42 => ?_)
 replace h := bind_some h; obtain ⟨v43, hv51, h⟩ := h
 have J52 : ∀ (f45 : FM) (x50 : Bool) (j49 : Nat → Value) (W47 : World) (a_ : Act), FM.le f19 f45 → some (x50) = some v43 → St t W47 f45 ([(b9, .cells (cm_Axis 0 0 0 0) 55 (0, 0))] :: [(b5, .cells (cl_State4 s1) 55 (0, 0))] :: H) → a_ = ⟨⟨[(ag_State4 s1), iV beats2, pV b5 0, uV, pV b9 0, iV 0, iV vt17, (ag_State4 s1), iV vt17, iV vt17, fV, uV, uV, pV b5 0, iV s1.Mode, fV, uV] ++ (jr j49 0 5 ([.bool x50] ++ (un 19 [])))⟩, []⟩ → K41 a_ W47 := by
  intro f45 x50 j49 W47 a_ L46 hj53 HS48  hfr_; subst hfr_
  injection hj53 with hj53; subst hj53; try dsimp only at h
  refine hK42 _ _ ?_
  replace h := ite_some h; rcases h with ⟨c55, h⟩ | ⟨c55, h⟩
  · have c55 : x50 = true := c55
    refine wpRwI 22 kr c55 ?_
    refine condT kr ?_
    refine wp_seq_k (fun K56 hK57 => ?_)
    exact nomatch h
  have c55 : ¬ (x50 = true) := c55
  refine wpRwI 22 kr (Bool.eq_false_iff.mpr c55) ?_
  refine condF kr ?_
  refine wp_skip ?_
  refine hK40 _ _ ?_
  refine wp_seq_k (fun K58 hK59 => ?_)
  refine wp_seq_k fun K60 hK61 => rl ?_
  refine seqL1 kr ?_
  refine seqK rfl (does_run (run_load rfl Try.underlying3 rfl (kv (pV b5 3)) (HS48.u1.cell 3)) ?_)
  refine seqL1 kr ?_
  refine nl (hK61 _ _ ?_)
  replace h := ite_some h; rcases h with ⟨c63, h⟩ | ⟨c63, h⟩
  · have c63 : s1.Number = 1073741824 := c63
    refine wpRwI 26 kr (beq_iff_eq.mpr c63) ?_
    refine condT kr ?_
    refine wp_seq_k fun K64 hK65 => rl ?_
    refine seqL1 kr ?_
    refine seqK rfl (does_storeA (vs := (lm_Axis 0 0 0 0)) rfl kr kr kr rfl (ones rfl) HS48 kr ?_)
    intro W66 HS67
    refine seqL1 kr ?_
    refine nl (hK65 _ _ ?_)
    refine wp_ret ?_
    refine hret _ _ ?_
    refine ends (v := Value.tuple #[.agg (cm_Axis 0 0 0 0), .int .i64 9]) (results2 (q1 := .cell 4 55) (q2 := .tmp 5) kr (resN (n := 4) (cs := (lm_Axis 0 0 0 0)) (kv (pV b9 0)) Try.underlying55 rfl kr rfl (HS67.cells 0 4 _ rfl)) (resT (kv (.int .i64 9)))) kr ?_
    have HS101 := HS67.drop
    have HS102 := HS101.drop
    injection h with h
    injection h with h0_ h
    subst h0_ h
    exact ⟨f45, rfl, (L20.trans L46), HS102⟩
  have c63 : ¬ (s1.Number = 1073741824) := c63
  refine wpRwI 26 kr (beq_eq_false_iff_ne.mpr c63) ?_
  refine condF kr ?_
  refine wp_skip ?_
  refine hK59 _ _ ?_
  refine wp_seq_k fun K68 hK69 => rl ?_
  refine seqL3 kr ?_
  refine seqK rfl (does_run (run_load rfl Try.underlying3 rfl (kv (pV b5 3)) (HS48.u1.cell 3)) ?_)
  have HS70 := HS48.u1
  refine seqL2 kr ?_
  refine seqK rfl (does_store (n := 1) (vs := [.int .i64 1]) (cs' := (cm_Axis 1 s1.Left s1.Beats s1.Number)) rfl kr (kv (pV b5 0)) (kv (.int .i64 1)) rfl rfl (ones rfl) HS70 (Nat.le_of_ble_eq_true rfl) kr ?_)
  intro W71 HS72
  refine seqL1 kr ?_
  refine seqK rfl (does_store (n := 1) (vs := [.int .i64 beats2]) (cs' := (cm_Axis 1 beats2 s1.Beats s1.Number)) rfl kr (kv (pV b5 1)) (kv (.int .i64 beats2)) rfl rfl (ones rfl) HS72 (Nat.le_of_ble_eq_true rfl) kr ?_)
  intro W73 HS74
  refine seqL1 kr ?_
  refine seqK rfl (does_store (n := 1) (vs := [.int .i64 beats2]) (cs' := (cm_Axis 1 beats2 beats2 s1.Number)) rfl kr (kv (pV b5 2)) (kv (.int .i64 beats2)) rfl rfl (ones rfl) HS74 (Nat.le_of_ble_eq_true rfl) kr ?_)
  intro W75 HS76
  refine seqL1 kr ?_
  refine seqK rfl (does_store (n := 1) (vs := [.int .i64 (w64 (s1.Number + 1))]) (cs' := (cm_Axis 1 beats2 beats2 (w64 (s1.Number + 1)))) rfl kr (kv (pV b5 3)) (kv (.int .i64 (w64 (s1.Number + 1)))) rfl rfl (ones rfl) HS76 (Nat.le_of_ble_eq_true rfl) kr ?_)
  intro W77 HS78
  refine nl (hK69 _ _ ?_)
  refine wp_seq_k (fun K79 hK80 => ?_)
  refine wp_seq_k fun K81 hK82 => rl ?_
  refine seqL2 kr ?_
  refine nl (hK82 _ _ ?_)
  replace h := ite_some h; rcases h with ⟨c84, h⟩ | ⟨c84, h⟩
  rotate_left
  · have c84 : ¬ (beats2 = 0) := c84
    refine wpRwI 38 kr (beq_eq_false_iff_ne.mpr c84) ?_
    refine condF kr ?_
    refine wp_skip ?_
    refine hK80 _ _ ?_
    refine wp_seq_k fun K94 hK95 => rl ?_
    refine seqK rfl (does_run (run_loadN (n := 4) rfl Try.underlying55 rfl kr (kv (pV b5 0)) (cs := (lm_Axis 1 beats2 beats2 (w64 (s1.Number + 1)))) rfl (HS78.cells 0 4 _ rfl)) ?_)
    have HS96 := HS78.u1
    refine seqK rfl (does_storeA (vs := (lm_Axis 1 beats2 beats2 (w64 (s1.Number + 1)))) rfl kr kr kr rfl (ones rfl) HS96 kr ?_)
    intro W97 HS98
    refine seqL1 kr ?_
    refine nl (hK95 _ _ ?_)
    refine wp_ret ?_
    refine hret _ _ ?_
    refine ends (v := Value.tuple #[.agg (cm_Axis 1 beats2 beats2 (w64 (s1.Number + 1))), .int .i64 0]) (results2 (q1 := .cell 4 55) (q2 := .tmp 5) kr (resN (n := 4) (cs := (lm_Axis 1 beats2 beats2 (w64 (s1.Number + 1)))) (kv (pV b9 0)) Try.underlying55 rfl kr rfl (HS98.cells 0 4 _ rfl)) (resT (kv (.int .i64 0)))) kr ?_
    have HS105 := HS98.drop
    have HS106 := HS105.drop
    injection h with h
    injection h with h0_ h
    subst h0_ h
    exact ⟨f45, rfl, (L20.trans L46), HS106⟩
  have c84 : beats2 = 0 := c84
  refine wpRwI 38 kr (beq_iff_eq.mpr c84) ?_
  refine condT kr ?_
  refine rl ?_
  refine seqL1 kr ?_
  refine seqK rfl (does_store (n := 1) (vs := [.int .i64 2]) (cs' := (cm_Axis 2 beats2 beats2 (w64 (s1.Number + 1)))) rfl kr (kv (pV b5 0)) (kv (.int .i64 2)) rfl rfl (ones rfl) HS78 (Nat.le_of_ble_eq_true rfl) kr ?_)
  intro W85 HS86
  refine seqL1 kr ?_
  refine seqK rfl (does_store (n := 1) (vs := [.int .i64 3]) (cs' := (cm_Axis 2 3 beats2 (w64 (s1.Number + 1)))) rfl kr (kv (pV b5 1)) (kv (.int .i64 3)) rfl rfl (ones rfl) HS86 (Nat.le_of_ble_eq_true rfl) kr ?_)
  intro W87 HS88
  refine nl (hK80 _ _ ?_)
  refine wp_seq_k fun K89 hK90 => rl ?_
  refine seqK rfl (does_run (run_loadN (n := 4) rfl Try.underlying55 rfl kr (kv (pV b5 0)) (cs := (lm_Axis 2 3 beats2 (w64 (s1.Number + 1)))) rfl (HS88.cells 0 4 _ rfl)) ?_)
  have HS91 := HS88.u1
  refine seqK rfl (does_storeA (vs := (lm_Axis 2 3 beats2 (w64 (s1.Number + 1)))) rfl kr kr kr rfl (ones rfl) HS91 kr ?_)
  intro W92 HS93
  refine seqL1 kr ?_
  refine nl (hK90 _ _ ?_)
  refine wp_ret ?_
  refine hret _ _ ?_
  refine ends (v := Value.tuple #[.agg (cm_Axis 2 3 beats2 (w64 (s1.Number + 1))), .int .i64 0]) (results2 (q1 := .cell 4 55) (q2 := .tmp 5) kr (resN (n := 4) (cs := (lm_Axis 2 3 beats2 (w64 (s1.Number + 1)))) (kv (pV b9 0)) Try.underlying55 rfl kr rfl (HS93.cells 0 4 _ rfl)) (resT (kv (.int .i64 0)))) kr ?_
  have HS103 := HS93.drop
  have HS104 := HS103.drop
  injection h with h
  injection h with h0_ h
  subst h0_ h
  exact ⟨f45, rfl, (L20.trans L46), HS104⟩
 clear h; have h := hv51; clear hv51
 refine rl ?_
 refine seqL3 kr ?_
 replace h := ite_some h; rcases h with ⟨c44, h⟩ | ⟨c44, h⟩
 · have c44 : beats2 < 0 := c44
   refine seqRwI 18 kr (decide_eq_true c44) ?_
   refine seqRwI 19 kr (decide_eq_true c44) ?_
   refine seqL3 kr ?_
   refine nl ?_
   exact J52 f19 true (jL [iV beats2, tV, tV]) W21 _ fL h HS22 kr
 have c44 : ¬ (beats2 < 0) := c44
 refine seqRwI 18 kr (decide_eq_false c44) ?_
 refine seqRwI 19 kr (decide_eq_false c44) ?_
 refine seqL3 kr ?_
 refine nl ?_
 exact J52 f19 (decide (beats2 > 16)) (jL [iV beats2, fV, fV, iV beats2, .bool (decide (beats2 > 16))]) W21 _ fL h HS22 kr

set_option maxRecDepth 100000 in
set_option maxHeartbeats 4000000 in
theorem guard_expose.calls (k : Nat)  (vw1 : S_World) (beats2 : Int) {t w : World} {f : FM} {H : List Seg} (HS : St t w f (H)) (rr1 : S_World) (rr2 : Int) (h : guard_expose k vw1 beats2 = some (rr1, rr2)) :
    Calls Try.prog 58 #[.agg (cl_World vw1), .int .i64 beats2] w (fun e w' => ∃ (g : FM), e = .returned (Value.tuple #[.agg (cl_World rr1), .int .i64 rr2]) ∧ FM.le f g ∧ St t w' g (H)) := by
 unfold guard_expose at h
 refine enter Try.func58 rfl (tm := ⟨[(ag_World vw1), iV beats2] ++ (un 43 [])⟩) kr ?_
 intro B hret hnor hnp
 refine wp_seq_k fun K3 hK4 => rl ?_
 refine seqK rfl (does_box (cs := (cl_World vw1)) rfl (kv (.agg (cl_World vw1))) rfl HS ?_)
 intro b5 W6 HS7
 refine seqK rfl (does_alloc (z := Value.agg (cm_World ⟨⟨0, 0, 0, false⟩, ⟨0, 0, 0, false⟩, 0⟩ ⟨0, 0, false, false, ⟨0, 0, 0, false⟩⟩ ⟨0, 0, 0, 0⟩ ⟨false, false, false, false, false⟩ ⟨0, 0⟩ 0 0 0)) (cs := (cm_World ⟨⟨0, 0, 0, false⟩, ⟨0, 0, 0, false⟩, 0⟩ ⟨0, 0, false, false, ⟨0, 0, 0, false⟩⟩ ⟨0, 0, 0, 0⟩ ⟨false, false, false, false, false⟩ ⟨0, 0⟩ 0 0 0)) rfl kr rfl HS7 ?_)
 intro b9 W10 HS11
 refine seqL1 kr ?_
 refine nl (hK4 _ _ ?_)
 refine wp_seq_k (fun K13 hK14 => ?_)
 refine wp_seq_k (fun K15 hK16 => ?_)
 replace h := bind_some h; obtain ⟨v17, hv25, h⟩ := h
 have J26 : ∀ (f19 : FM) (x24 : Bool) (j23 : Nat → Value) (W21 : World) (a_ : Act), FM.le f f19 → some (x24) = some v17 → St t W21 f19 ([(b9, .cells (cm_World ⟨⟨0, 0, 0, false⟩, ⟨0, 0, 0, false⟩, 0⟩ ⟨0, 0, false, false, ⟨0, 0, 0, false⟩⟩ ⟨0, 0, 0, 0⟩ ⟨false, false, false, false, false⟩ ⟨0, 0⟩ 0 0 0) 59 (0, 0))] :: [(b5, .cells (cl_World vw1) 59 (0, 0))] :: H) → a_ = ⟨⟨[(ag_World vw1), iV beats2, pV b5 0, uV, pV b9 0, iV 0, uV] ++ (jr j23 0 5 ([.bool x24] ++ (un 32 [])))⟩, []⟩ → K15 a_ W21 := by
  intro f19 x24 j23 W21 a_ L20 hj27 HS22  hfr_; subst hfr_
  injection hj27 with hj27; subst hj27; try dsimp only at h
  refine hK16 _ _ ?_
  replace h := ite_some h; rcases h with ⟨c29, h⟩ | ⟨c29, h⟩
  · have c29 : x24 = true := c29
    refine wpRwI 12 kr c29 ?_
    refine condT kr ?_
    refine wp_seq_k fun K30 hK31 => rl ?_
    refine seqL1 kr ?_
    refine seqK rfl (does_storeA (vs := (lm_World ⟨⟨0, 0, 0, false⟩, ⟨0, 0, 0, false⟩, 0⟩ ⟨0, 0, false, false, ⟨0, 0, 0, false⟩⟩ ⟨0, 0, 0, 0⟩ ⟨false, false, false, false, false⟩ ⟨0, 0⟩ 0 0 0)) rfl kr kr kr rfl (ones rfl) HS22 kr ?_)
    intro W32 HS33
    refine seqL1 kr ?_
    refine nl (hK31 _ _ ?_)
    refine wp_ret ?_
    refine hret _ _ ?_
    refine ends (v := Value.tuple #[.agg (cm_World ⟨⟨0, 0, 0, false⟩, ⟨0, 0, 0, false⟩, 0⟩ ⟨0, 0, false, false, ⟨0, 0, 0, false⟩⟩ ⟨0, 0, 0, 0⟩ ⟨false, false, false, false, false⟩ ⟨0, 0⟩ 0 0 0), .int .i64 4]) (results2 (q1 := .cell 4 59) (q2 := .tmp 5) kr (resN (n := 31) (cs := (lm_World ⟨⟨0, 0, 0, false⟩, ⟨0, 0, 0, false⟩, 0⟩ ⟨0, 0, false, false, ⟨0, 0, 0, false⟩⟩ ⟨0, 0, 0, 0⟩ ⟨false, false, false, false, false⟩ ⟨0, 0⟩ 0 0 0)) (kv (pV b9 0)) Try.underlying59 rfl kr rfl (HS33.cells 0 31 _ rfl)) (resT (kv (.int .i64 4)))) kr ?_
    have HS87 := HS33.drop
    have HS88 := HS87.drop
    injection h with h
    injection h with h0_ h
    subst h0_ h
    exact ⟨f19, rfl, L20, HS88⟩
  have c29 : ¬ (x24 = true) := c29
  refine wpRwI 12 kr (Bool.eq_false_iff.mpr c29) ?_
  refine condF kr ?_
  refine wp_skip ?_
  refine hK14 _ _ ?_
  refine wp_seq_k (fun K34 hK35 => ?_)
  refine wp_seq_k (fun K36 hK37 => ?_)
  replace h := bind_some h; obtain ⟨v38, hv59, h⟩ := h
  have J60 : ∀ (f53 : FM) (x58 : Bool) (j57 : Nat → Value) (W55 : World) (a_ : Act), FM.le f19 f53 → some (x58) = some v38 → St t W55 f53 ([(b9, .cells (cm_World ⟨⟨0, 0, 0, false⟩, ⟨0, 0, 0, false⟩, 0⟩ ⟨0, 0, false, false, ⟨0, 0, 0, false⟩⟩ ⟨0, 0, 0, 0⟩ ⟨false, false, false, false, false⟩ ⟨0, 0⟩ 0 0 0) 59 (0, 0))] :: [(b5, .cells (cl_World vw1) 59 (0, 0))] :: H) → a_ = ⟨⟨[(ag_World vw1), iV beats2, pV b5 0, uV, pV b9 0, iV 0, uV] ++ (jr j23 0 5 ([fV, uV] ++ (jr j57 0 19 ([.bool x58] ++ (un 11 [])))))⟩, []⟩ → K36 a_ W55 := by
   intro f53 x58 j57 W55 a_ L54 hj61 HS56  hfr_; subst hfr_
   injection hj61 with hj61; subst hj61; try dsimp only at h
   refine hK37 _ _ ?_
   replace h := ite_some h; rcases h with ⟨c63, h⟩ | ⟨c63, h⟩
   · have c63 : x58 = true := c63
     refine wpRwI 33 kr c63 ?_
     refine condT kr ?_
     refine wp_seq_k fun K64 hK65 => rl ?_
     refine seqL1 kr ?_
     refine seqK rfl (does_storeA (vs := (lm_World ⟨⟨0, 0, 0, false⟩, ⟨0, 0, 0, false⟩, 0⟩ ⟨0, 0, false, false, ⟨0, 0, 0, false⟩⟩ ⟨0, 0, 0, 0⟩ ⟨false, false, false, false, false⟩ ⟨0, 0⟩ 0 0 0)) rfl kr kr kr rfl (ones rfl) HS56 kr ?_)
     intro W66 HS67
     refine seqL1 kr ?_
     refine nl (hK65 _ _ ?_)
     refine wp_ret ?_
     refine hret _ _ ?_
     refine ends (v := Value.tuple #[.agg (cm_World ⟨⟨0, 0, 0, false⟩, ⟨0, 0, 0, false⟩, 0⟩ ⟨0, 0, false, false, ⟨0, 0, 0, false⟩⟩ ⟨0, 0, 0, 0⟩ ⟨false, false, false, false, false⟩ ⟨0, 0⟩ 0 0 0), .int .i64 16]) (results2 (q1 := .cell 4 59) (q2 := .tmp 5) kr (resN (n := 31) (cs := (lm_World ⟨⟨0, 0, 0, false⟩, ⟨0, 0, 0, false⟩, 0⟩ ⟨0, 0, false, false, ⟨0, 0, 0, false⟩⟩ ⟨0, 0, 0, 0⟩ ⟨false, false, false, false, false⟩ ⟨0, 0⟩ 0 0 0)) (kv (pV b9 0)) Try.underlying59 rfl kr rfl (HS67.cells 0 31 _ rfl)) (resT (kv (.int .i64 16)))) kr ?_
     have HS89 := HS67.drop
     have HS90 := HS89.drop
     injection h with h
     injection h with h0_ h
     subst h0_ h
     exact ⟨f53, rfl, (L20.trans L54), HS90⟩
   have c63 : ¬ (x58 = true) := c63
   refine wpRwI 33 kr (Bool.eq_false_iff.mpr c63) ?_
   refine condF kr ?_
   refine wp_skip ?_
   refine hK35 _ _ ?_
   refine wp_seq_k fun K68 hK69 => rl ?_
   refine seqL1 kr ?_
   refine nl (hK69 _ _ ?_)
   refine wp_seq_k fun K70 hK71 => rl ?_
   refine seqL1 kr ?_
   refine seqK rfl (does_run (run_loadN (n := 4) rfl Try.underlying55 rfl kr (kv (pV b5 17)) (cs := (ll_State4 vw1.Camera)) rfl (HS56.u1.cells 17 4 _ rfl)) ?_)
   replace h := bind_some h; obtain ⟨⟨vt72, vt73⟩, hc74, h⟩ := h
   refine seqL1 kr ?_
   refine seqK rfl (does_call kr (camera_Expose.calls k vw1.Camera beats2 HS56 vt72 vt73 hc74) ?_)
   rintro _ W77 ⟨f75, rfl, L76, HS78⟩
   refine ⟨_, rfl, ?_⟩
   have HS79 := HS78.u1
   refine seqL4 kr ?_
   refine seqK rfl (does_store (n := 4) (vs := (ll_State4 vt72)) (cs' := (cm_World vw1.Mount vw1.Dome vt72 vw1.Sensors vw1.Aim vw1.Mode vw1.Hazard vw1.Key)) rfl kr (kv (pV b5 17)) (kv (.agg (cl_State4 vt72))) rfl rfl (ones rfl) HS79 (Nat.le_of_ble_eq_true rfl) kr ?_)
   intro W80 HS81
   refine seqL1 kr ?_
   refine nl (hK71 _ _ ?_)
   refine wp_seq_k fun K82 hK83 => rl ?_
   refine seqK rfl (does_run (run_loadN (n := 31) rfl Try.underlying59 rfl kr (kv (pV b5 0)) (cs := (lm_World vw1.Mount vw1.Dome vt72 vw1.Sensors vw1.Aim vw1.Mode vw1.Hazard vw1.Key)) rfl (HS81.cells 0 31 _ rfl)) ?_)
   have HS84 := HS81.u1
   refine seqL1 kr ?_
   refine seqK rfl (does_storeA (vs := (lm_World vw1.Mount vw1.Dome vt72 vw1.Sensors vw1.Aim vw1.Mode vw1.Hazard vw1.Key)) rfl kr kr kr rfl (ones rfl) HS84 kr ?_)
   intro W85 HS86
   refine seqL1 kr ?_
   refine nl (hK83 _ _ ?_)
   refine wp_ret ?_
   refine hret _ _ ?_
   refine ends (v := Value.tuple #[.agg (cm_World vw1.Mount vw1.Dome vt72 vw1.Sensors vw1.Aim vw1.Mode vw1.Hazard vw1.Key), .int .i64 vt73]) (results2 (q1 := .cell 4 59) (q2 := .tmp 5) kr (resN (n := 31) (cs := (lm_World vw1.Mount vw1.Dome vt72 vw1.Sensors vw1.Aim vw1.Mode vw1.Hazard vw1.Key)) (kv (pV b9 0)) Try.underlying59 rfl kr rfl (HS86.cells 0 31 _ rfl)) (resT (kv (.int .i64 vt73)))) kr ?_
   have HS91 := HS86.drop
   have HS92 := HS91.drop
   injection h with h
   injection h with h0_ h
   subst h0_ h
   exact ⟨f75, rfl, (L20.trans (L54.trans L76)), HS92⟩
  clear h; have h := hv59; clear hv59
  refine rl ?_
  refine seqL2 kr ?_
  refine seqK rfl (does_run (run_load rfl Try.underlying3 rfl (kv (pV b5 8)) (HS22.u1.cell 8)) ?_)
  refine seqL2 kr ?_
  replace h := ite_some h; rcases h with ⟨c39, h⟩ | ⟨c39, h⟩
  · have c39 : vw1.Mount.Mode ≠ 3 := c39
    refine seqRwI 17 kr (bne_iff_ne.mpr c39) ?_
    refine seqRwI 18 kr (bne_iff_ne.mpr c39) ?_
    refine seqL15 kr ?_
    refine nl ?_
    exact J60 f19 true (jL [pV b5 0, pV b5 8, iV vw1.Mount.Mode, tV, tV, uV, uV, uV, uV, tV, tV]) W21 _ fL h HS22 kr
  have c39 : ¬ (vw1.Mount.Mode ≠ 3) := c39
  refine seqRwI 17 (x := (vw1.Mount.Mode != 3)) (v := false) kr (bne_eq_false_iff_eq.mpr (Decidable.of_not_not c39)) ?_
  refine seqRwI 18 (x := (vw1.Mount.Mode != 3)) (v := false) kr (bne_eq_false_iff_eq.mpr (Decidable.of_not_not c39)) ?_
  refine seqL1 kr ?_
  refine seqG kr (does_run (run_loadN (n := 8) rfl Try.underlying53 rfl kr (kv (pV b5 9)) (cs := (ll_State3 vw1.Dome)) rfl (HS22.u1.cells 9 8 _ rfl)) ?_)
  replace h := bind_some h; obtain ⟨vt40, hc41, h⟩ := h
  refine seqG kr (does_call kr (dome_Clear.calls k vw1.Dome HS22 vt40 hc41) ?_)
  rintro _ W44 ⟨f42, rfl, L43, HS45⟩
  refine ⟨_, rfl, ?_⟩
  refine seqL3 kr ?_
  replace h := ite_some h; rcases h with ⟨c46, h⟩ | ⟨c46, h⟩
  · have c46 : ¬ (vt40 = true) := c46
    refine seqRwI 22 kr (congrArg (fun b_ => !b_) (show vt40 = false from (Bool.eq_false_iff.mpr c46)) : (!vt40) = true) ?_
    refine seqRwI 23 kr (congrArg (fun b_ => !b_) (show vt40 = false from (Bool.eq_false_iff.mpr c46)) : (!vt40) = true) ?_
    refine seqRwI 24 kr (congrArg (fun b_ => !b_) (show vt40 = false from (Bool.eq_false_iff.mpr c46)) : (!vt40) = true) ?_
    refine seqL9 kr ?_
    refine nl ?_
    exact J60 f42 true (jL [pV b5 0, pV b5 8, iV vw1.Mount.Mode, fV, fV, pV b5 9, (ag_State3 vw1.Dome), .bool vt40, tV, tV, tV]) W44 _ L43 h HS45 kr
  have c46 : ¬ (¬ (vt40 = true)) := c46
  refine seqRwI 22 (x := (!vt40)) (v := false) kr (congrArg (fun b_ => !b_) (show vt40 = true from (Decidable.of_not_not c46)) : (!vt40) = false) ?_
  refine seqRwI 23 (x := (!vt40)) (v := false) kr (congrArg (fun b_ => !b_) (show vt40 = true from (Decidable.of_not_not c46)) : (!vt40) = false) ?_
  refine seqRwI 24 (x := (!vt40)) (v := false) kr (congrArg (fun b_ => !b_) (show vt40 = true from (Decidable.of_not_not c46)) : (!vt40) = false) ?_
  refine seqL1 kr ?_
  refine seqG kr (does_run (run_loadN (n := 8) rfl Try.underlying53 rfl kr (kv (pV b5 9)) (cs := (ll_State3 vw1.Dome)) rfl (HS45.u1.cells 9 8 _ rfl)) ?_)
  refine seqL3 kr ?_
  refine seqG kr (does_run (run_load rfl Try.underlying2 rfl (kv (pV b5 0)) (HS45.u1.cell 0)) ?_)
  replace h := bind_some h; obtain ⟨vt47, hc48, h⟩ := h
  refine seqG kr (does_call kr (dome_Covers.calls k vw1.Dome vw1.Mount.Az.At HS45 vt47 hc48) ?_)
  rintro _ W51 ⟨f49, rfl, L50, HS52⟩
  refine ⟨_, rfl, ?_⟩
  refine seqL2 kr ?_
  refine nl ?_
  exact J60 f49 (!vt47) (jL [pV b5 0, pV b5 8, iV vw1.Mount.Mode, fV, fV, pV b5 9, (ag_State3 vw1.Dome), .bool vt40, fV, fV, fV, pV b5 9, (ag_State3 vw1.Dome), pV b5 0, pV b5 0, pV b5 0, iV vw1.Mount.Az.At, .bool vt47, .bool (!vt47)]) W51 _ (L43.trans L50) h HS52 kr
 clear h; have h := hv25; clear hv25
 refine rl ?_
 refine seqL3 kr ?_
 replace h := ite_some h; rcases h with ⟨c18, h⟩ | ⟨c18, h⟩
 · have c18 : beats2 < 1 := c18
   refine seqRwI 8 kr (decide_eq_true c18) ?_
   refine seqRwI 9 kr (decide_eq_true c18) ?_
   refine seqL3 kr ?_
   refine nl ?_
   exact J26 f true (jL [iV beats2, tV, tV]) W10 _ fL h HS11 kr
 have c18 : ¬ (beats2 < 1) := c18
 refine seqRwI 8 kr (decide_eq_false c18) ?_
 refine seqRwI 9 kr (decide_eq_false c18) ?_
 refine seqL3 kr ?_
 refine nl ?_
 exact J26 f (decide (beats2 > 16)) (jL [iV beats2, fV, fV, iV beats2, .bool (decide (beats2 > 16))]) W10 _ fL h HS11 kr

set_option maxRecDepth 100000 in
set_option maxHeartbeats 4000000 in
theorem camera_Abort.calls (k : Nat)  (s1 : S_State4) {t w : World} {f : FM} {H : List Seg} (HS : St t w f (H)) (rr1 : S_State4) (rr2 : Int) (h : camera_Abort k s1 = some (rr1, rr2)) :
    Calls Try.prog 59 #[.agg (cl_State4 s1)] w (fun e w' => ∃ (g : FM), e = .returned (Value.tuple #[.agg (cl_State4 rr1), .int .i64 rr2]) ∧ FM.le f g ∧ St t w' g (H)) := by
 unfold camera_Abort at h
 refine enter Try.func59 rfl (tm := ⟨[(ag_State4 s1)] ++ (un 17 [])⟩) kr ?_
 intro B hret hnor hnp
 refine wp_seq_k fun K2 hK3 => rl ?_
 refine seqK rfl (does_box (cs := (cl_State4 s1)) rfl (kv (.agg (cl_State4 s1))) rfl HS ?_)
 intro b4 W5 HS6
 refine seqK rfl (does_alloc (z := Value.agg (cm_Axis 0 0 0 0)) (cs := (cm_Axis 0 0 0 0)) rfl kr rfl HS6 ?_)
 intro b8 W9 HS10
 refine seqL1 kr ?_
 refine nl (hK3 _ _ ?_)
 refine wp_seq_k (fun K12 hK13 => ?_)
 refine wp_seq_k fun K14 hK15 => rl ?_
 refine seqK rfl (does_run (run_loadN (n := 4) rfl Try.underlying55 rfl kr (kv (pV b4 0)) (cs := (ll_State4 s1)) rfl (HS10.u1.cells 0 4 _ rfl)) ?_)
 replace h := bind_some h; obtain ⟨vt16, hc17, h⟩ := h
 refine seqK rfl (does_call kr (camera_Check.calls k s1 HS10 vt16 hc17) ?_)
 rintro _ W20 ⟨f18, rfl, L19, HS21⟩
 refine ⟨_, rfl, ?_⟩
 refine seqL1 kr ?_
 refine nl (hK15 _ _ ?_)
 refine wp_seq_k fun K22 hK23 => rl ?_
 refine seqL2 kr ?_
 refine nl (hK23 _ _ ?_)
 replace h := ite_some h; rcases h with ⟨c25, h⟩ | ⟨c25, h⟩
 · have c25 : vt16 ≠ 0 := c25
   refine wpRwI 8 kr (bne_iff_ne.mpr c25) ?_
   refine condT kr ?_
   refine wp_seq_k (fun K26 hK27 => ?_)
   exact nomatch h
 have c25 : ¬ (vt16 ≠ 0) := c25
 refine wpRwI 8 (x := (vt16 != 0)) (v := false) kr (bne_eq_false_iff_eq.mpr (Decidable.of_not_not c25)) ?_
 refine condF kr ?_
 refine wp_skip ?_
 refine hK13 _ _ ?_
 refine wp_seq_k (fun K28 hK29 => ?_)
 refine wp_seq_k fun K30 hK31 => rl ?_
 refine seqL1 kr ?_
 refine seqK rfl (does_run (run_load rfl Try.underlying3 rfl (kv (pV b4 0)) (HS21.u1.cell 0)) ?_)
 refine seqL1 kr ?_
 refine nl (hK31 _ _ ?_)
 replace h := ite_some h; rcases h with ⟨c33, h⟩ | ⟨c33, h⟩
 · have c33 : s1.Mode ≠ 1 := c33
   refine wpRwI 13 kr (bne_iff_ne.mpr c33) ?_
   refine condT kr ?_
   refine wp_seq_k fun K34 hK35 => rl ?_
   refine seqL1 kr ?_
   refine seqK rfl (does_storeA (vs := (lm_Axis 0 0 0 0)) rfl kr kr kr rfl (ones rfl) HS21 kr ?_)
   intro W36 HS37
   refine seqL1 kr ?_
   refine nl (hK35 _ _ ?_)
   refine wp_ret ?_
   refine hret _ _ ?_
   refine ends (v := Value.tuple #[.agg (cm_Axis 0 0 0 0), .int .i64 10]) (results2 (q1 := .cell 2 55) (q2 := .tmp 3) kr (resN (n := 4) (cs := (lm_Axis 0 0 0 0)) (kv (pV b8 0)) Try.underlying55 rfl kr rfl (HS37.cells 0 4 _ rfl)) (resT (kv (.int .i64 10)))) kr ?_
   have HS42 := HS37.drop
   have HS43 := HS42.drop
   injection h with h
   injection h with h0_ h
   subst h0_ h
   exact ⟨f18, rfl, L19, HS43⟩
 have c33 : ¬ (s1.Mode ≠ 1) := c33
 refine wpRwI 13 (x := (s1.Mode != 1)) (v := false) kr (bne_eq_false_iff_eq.mpr (Decidable.of_not_not c33)) ?_
 refine condF kr ?_
 refine wp_skip ?_
 refine hK29 _ _ ?_
 refine wp_seq_k fun K38 hK39 => rl ?_
 refine seqL1 kr ?_
 refine seqK rfl (does_run (run_load rfl Try.underlying3 rfl (kv (pV b4 3)) (HS21.u1.cell 3)) ?_)
 refine seqL1 kr ?_
 refine seqK rfl (does_storeA (vs := (lm_Axis 0 0 0 s1.Number)) rfl kr kr kr rfl (ones rfl) HS21 kr ?_)
 intro W40 HS41
 refine seqL1 kr ?_
 refine nl (hK39 _ _ ?_)
 refine wp_ret ?_
 refine hret _ _ ?_
 refine ends (v := Value.tuple #[.agg (cm_Axis 0 0 0 s1.Number), .int .i64 0]) (results2 (q1 := .cell 2 55) (q2 := .tmp 3) kr (resN (n := 4) (cs := (lm_Axis 0 0 0 s1.Number)) (kv (pV b8 0)) Try.underlying55 rfl kr rfl (HS41.cells 0 4 _ rfl)) (resT (kv (.int .i64 0)))) kr ?_
 have HS44 := HS41.drop
 have HS45 := HS44.drop
 injection h with h
 injection h with h0_ h
 subst h0_ h
 exact ⟨f18, rfl, L19, HS45⟩

set_option maxRecDepth 100000 in
set_option maxHeartbeats 4000000 in
theorem camera_Fetch.calls (k : Nat)  (s1 : S_State4) {t w : World} {f : FM} {H : List Seg} (HS : St t w f (H)) (rr1 : S_State4) (rr2 : Int) (rr3 : Int) (rr4 : Int) (h : camera_Fetch k s1 = some (rr1, rr2, rr3, rr4)) :
    Calls Try.prog 60 #[.agg (cl_State4 s1)] w (fun e w' => ∃ (g : FM), e = .returned (Value.tuple #[.agg (cl_State4 rr1), .int .i64 rr2, .int .i64 rr3, .int .i64 rr4]) ∧ FM.le f g ∧ St t w' g (H)) := by
 unfold camera_Fetch at h
 refine enter Try.func60 rfl (tm := ⟨[(ag_State4 s1)] ++ (un 23 [])⟩) kr ?_
 intro B hret hnor hnp
 refine wp_seq_k fun K2 hK3 => rl ?_
 refine seqK rfl (does_box (cs := (cl_State4 s1)) rfl (kv (.agg (cl_State4 s1))) rfl HS ?_)
 intro b4 W5 HS6
 refine seqK rfl (does_alloc (z := Value.agg (cm_Axis 0 0 0 0)) (cs := (cm_Axis 0 0 0 0)) rfl kr rfl HS6 ?_)
 intro b8 W9 HS10
 refine seqL3 kr ?_
 refine nl (hK3 _ _ ?_)
 refine wp_seq_k (fun K12 hK13 => ?_)
 refine wp_seq_k fun K14 hK15 => rl ?_
 refine seqK rfl (does_run (run_loadN (n := 4) rfl Try.underlying55 rfl kr (kv (pV b4 0)) (cs := (ll_State4 s1)) rfl (HS10.u1.cells 0 4 _ rfl)) ?_)
 replace h := bind_some h; obtain ⟨vt16, hc17, h⟩ := h
 refine seqK rfl (does_call kr (camera_Check.calls k s1 HS10 vt16 hc17) ?_)
 rintro _ W20 ⟨f18, rfl, L19, HS21⟩
 refine ⟨_, rfl, ?_⟩
 refine seqL1 kr ?_
 refine nl (hK15 _ _ ?_)
 refine wp_seq_k fun K22 hK23 => rl ?_
 refine seqL2 kr ?_
 refine nl (hK23 _ _ ?_)
 replace h := ite_some h; rcases h with ⟨c25, h⟩ | ⟨c25, h⟩
 · have c25 : vt16 ≠ 0 := c25
   refine wpRwI 10 kr (bne_iff_ne.mpr c25) ?_
   refine condT kr ?_
   refine wp_seq_k (fun K26 hK27 => ?_)
   exact nomatch h
 have c25 : ¬ (vt16 ≠ 0) := c25
 refine wpRwI 10 (x := (vt16 != 0)) (v := false) kr (bne_eq_false_iff_eq.mpr (Decidable.of_not_not c25)) ?_
 refine condF kr ?_
 refine wp_skip ?_
 refine hK13 _ _ ?_
 refine wp_seq_k (fun K28 hK29 => ?_)
 refine wp_seq_k fun K30 hK31 => rl ?_
 refine seqL1 kr ?_
 refine seqK rfl (does_run (run_load rfl Try.underlying3 rfl (kv (pV b4 0)) (HS21.u1.cell 0)) ?_)
 refine seqL1 kr ?_
 refine nl (hK31 _ _ ?_)
 replace h := ite_some h; rcases h with ⟨c33, h⟩ | ⟨c33, h⟩
 · have c33 : s1.Mode ≠ 3 := c33
   refine wpRwI 15 kr (bne_iff_ne.mpr c33) ?_
   refine condT kr ?_
   refine wp_seq_k fun K34 hK35 => rl ?_
   refine seqL1 kr ?_
   refine seqK rfl (does_storeA (vs := (lm_Axis 0 0 0 0)) rfl kr kr kr rfl (ones rfl) HS21 kr ?_)
   intro W36 HS37
   refine seqL3 kr ?_
   refine nl (hK35 _ _ ?_)
   refine wp_ret ?_
   refine hret _ _ ?_
   refine ends (v := Value.tuple #[.agg (cm_Axis 0 0 0 0), .int .i64 0, .int .i64 0, .int .i64 10]) (results4 (q1 := .cell 2 55) (q2 := .tmp 3) (q3 := .tmp 4) (q4 := .tmp 5) kr (resN (n := 4) (cs := (lm_Axis 0 0 0 0)) (kv (pV b8 0)) Try.underlying55 rfl kr rfl (HS37.cells 0 4 _ rfl)) (resT (kv (.int .i64 0))) (resT (kv (.int .i64 0))) (resT (kv (.int .i64 10)))) kr ?_
   have HS54 := HS37.drop
   have HS55 := HS54.drop
   injection h with h
   injection h with h0_ h
   injection h with h1_ h
   injection h with h2_ h
   subst h0_ h1_ h2_ h
   exact ⟨f18, rfl, L19, HS55⟩
 have c33 : ¬ (s1.Mode ≠ 3) := c33
 refine wpRwI 15 (x := (s1.Mode != 3)) (v := false) kr (bne_eq_false_iff_eq.mpr (Decidable.of_not_not c33)) ?_
 refine condF kr ?_
 refine wp_skip ?_
 refine hK29 _ _ ?_
 refine wp_seq_k (fun K38 hK39 => ?_)
 have HS41 := HS21.u1.u1
 refine heldG (S := Sg t f18 ([(b4, .cells (cl_State4 s1) 55 (0, 0))] :: H) [(7, [(b8, .cells (cm_Axis 0 0 0 0) 55 (0, 0))])]) (n := 11) kr rfl HS41 ?_
 intro W42 HS43
 refine gL [0] (fuel := 10) (bA 11 1) rfl kr kr kr hnp (Sg.g1 (Sx.of [[(b8, .cells (cm_Axis 0 0 0 0) 55 (0, 0))]] fL HS43) (fun _ => St.only [] HS43 fL)) fun X44 => ?_
 refine gQ 1 rfl kr kr kr kr kr hnp X44 (fun hl_ hS_ => run_load rfl Try.underlying3 rfl (kv (pV b4 3)) (hS_.cell 3)) fun X45 => ?_
 refine gL [2, 3] (fuel := 7) (bA 11 15) rfl kr kr kr hnp X45 fun X46 => ?_
 refine gQ 4 rfl kr kr kr kr kr hnp X46 (fun hl_ hS_ => run_load rfl Try.underlying3 rfl (kv (pV b4 3)) (hS_.cell 3)) fun X47 => ?_
 refine gL [5] (fuel := 5) (bA 11 63) rfl kr kr kr hnp X47 fun X48 => ?_
 refine gQ 6 rfl kr kr kr kr kr hnp X48 (fun hl_ hS_ => run_load rfl Try.underlying3 rfl (kv (pV b4 2)) (hS_.cell 2)) fun X49 => ?_
 refine takeGE 7 kr rfl kr (does_storeA (vs := (lm_Axis 0 0 0 s1.Number)) rfl kr kr kr rfl (ones rfl) HS43 kr ?_)
 intro W50 HS51
 refine kB (Sg.g1 (Sx.of [[(b8, .cells (cm_Axis 0 0 0 s1.Number) 55 (0, 0))]] fL HS51) (fun hl_ => Bool.noConfusion (show true = false from hl_))) fun X52 => ?_
 refine gL [8, 9, 10] (fuel := 0) (bA 11 2047) rfl kr kr kr hnp X52 fun X53 => ?_
 refine doneG kr ?_ _
 refine hK39 _ _ ?_
 refine wp_ret ?_
 refine hret _ _ ?_
 refine ends (v := Value.tuple #[.agg (cm_Axis 0 0 0 s1.Number), .int .i64 s1.Number, .int .i64 s1.Beats, .int .i64 0]) (results4 (q1 := .cell 2 55) (q2 := .tmp 3) (q3 := .tmp 4) (q4 := .tmp 5) kr (resN (n := 4) (cs := (lm_Axis 0 0 0 s1.Number)) (kv (pV b8 0)) Try.underlying55 rfl kr rfl (HS51.cells 0 4 _ rfl)) (resT (kv (.int .i64 s1.Number))) (resT (kv (.int .i64 s1.Beats))) (resT (kv (.int .i64 0)))) kr ?_
 have HS56 := HS51.drop
 have HS57 := HS56.drop
 injection h with h
 injection h with h0_ h
 injection h with h1_ h
 injection h with h2_ h
 subst h0_ h1_ h2_ h
 exact ⟨f18, rfl, L19, HS57⟩

set_option maxRecDepth 100000 in
set_option maxHeartbeats 4000000 in
theorem guard_begin.calls (k : Nat)  (m1 : S_Mount) (vw2 : S_World) {t w : World} {f : FM} {H : List Seg} (HS : St t w f (H)) (rr1 : S_World) (h : guard_begin k m1 vw2 = some rr1) :
    Calls Try.prog 34 #[.agg (cl_Mount m1), .agg (cl_World vw2)] w (fun e w' => ∃ (g : FM), e = .returned (Value.agg (cl_World rr1)) ∧ FM.le f g ∧ St t w' g (H)) := by
 unfold guard_begin at h
 refine enter Try.func34 rfl (tm := ⟨[(ag_Mount m1), (ag_World vw2)] ++ (un 38 [])⟩) kr ?_
 intro B hret hnor hnp
 refine wp_seq_k fun K3 hK4 => rl ?_
 refine seqK rfl (does_box (cs := (cl_Mount m1)) rfl (kv (.agg (cl_Mount m1))) rfl HS ?_)
 intro b5 W6 HS7
 refine seqK rfl (does_box (cs := (cl_World vw2)) rfl (kv (.agg (cl_World vw2))) rfl HS7 ?_)
 intro b9 W10 HS11
 refine seqK rfl (does_alloc (z := Value.agg (cm_World ⟨⟨0, 0, 0, false⟩, ⟨0, 0, 0, false⟩, 0⟩ ⟨0, 0, false, false, ⟨0, 0, 0, false⟩⟩ ⟨0, 0, 0, 0⟩ ⟨false, false, false, false, false⟩ ⟨0, 0⟩ 0 0 0)) (cs := (cm_World ⟨⟨0, 0, 0, false⟩, ⟨0, 0, 0, false⟩, 0⟩ ⟨0, 0, false, false, ⟨0, 0, 0, false⟩⟩ ⟨0, 0, 0, 0⟩ ⟨false, false, false, false, false⟩ ⟨0, 0⟩ 0 0 0)) rfl kr rfl HS11 ?_)
 intro b13 W14 HS15
 refine nl (hK4 _ _ ?_)
 refine wp_seq_k fun K17 hK18 => rl ?_
 have HS19 := HS15.u1
 refine seqL1 kr ?_
 refine seqK rfl (does_store (n := 1) (vs := [.int .i64 1]) (cs' := (cm_World vw2.Mount vw2.Dome vw2.Camera vw2.Sensors vw2.Aim 1 vw2.Hazard vw2.Key)) rfl kr (kv (pV b9 28)) (kv (.int .i64 1)) rfl rfl (ones rfl) HS19 (Nat.le_of_ble_eq_true rfl) kr ?_)
 intro W20 HS21
 refine nl (hK18 _ _ ?_)
 refine wp_seq_k (fun K22 hK23 => ?_)
 refine wp_seq_k fun K24 hK25 => rl ?_
 refine seqL2 kr ?_
 refine seqK rfl (does_run (run_load rfl Try.underlying3 rfl (kv (pV b9 17)) (HS21.cell 17)) ?_)
 refine seqL1 kr ?_
 refine nl (hK25 _ _ ?_)
 replace h := bind_some h; obtain ⟨v26, hv43, h⟩ := h
 have J44 : ∀ (f37 : FM) (x42 : S_World) (j41 : Nat → Value) (W39 : World) (a_ : Act), FM.le f f37 → some (x42) = some v26 → St t W39 f37 ([(b9, .cells (cl_World x42) 59 (0, 0))] :: [(b13, .cells (cm_World ⟨⟨0, 0, 0, false⟩, ⟨0, 0, 0, false⟩, 0⟩ ⟨0, 0, false, false, ⟨0, 0, 0, false⟩⟩ ⟨0, 0, 0, 0⟩ ⟨false, false, false, false, false⟩ ⟨0, 0⟩ 0 0 0) 59 (0, 0))] :: [(b5, .cells (cl_Mount m1) 31 (0, 0))] :: H) → a_ = ⟨⟨[(ag_Mount m1), (ag_World vw2), pV b5 0, pV b9 0, pV b13 0, pV b9 28, pV b9 17, pV b9 17, iV vw2.Camera.Mode, .bool (vw2.Camera.Mode == 1)] ++ (jr j41 0 7 (un 23 []))⟩, []⟩ → K22 a_ W39 := by
  intro f37 x42 j41 W39 a_ L38 hj45 HS40  hfr_; subst hfr_
  injection hj45 with hj45; subst hj45; try dsimp only at h
  refine hK23 _ _ ?_
  refine wp_seq_k fun K46 hK47 => rl ?_
  refine seqK rfl (does_run (run_loadN (n := 10) rfl Try.underlying31 rfl kr (kv (pV b5 0)) (cs := (ll_Mount m1)) rfl (HS40.u2.cells 0 10 _ rfl)) ?_)
  refine seqL1 kr ?_
  refine seqK rfl (does_run (run_loadN (n := 9) rfl Try.underlying51 rfl kr (kv (pV b9 0)) (cs := (ll_State2 x42.Mount)) rfl (HS40.cells 0 9 _ rfl)) ?_)
  replace h := bind_some h; obtain ⟨⟨vt48, vt49⟩, hc50, h⟩ := h
  refine seqK rfl (does_call kr (mount_Stop.calls k m1 x42.Mount HS40 vt48 vt49 hc50) ?_)
  rintro _ W53 ⟨f51, rfl, L52, HS54⟩
  refine ⟨_, rfl, ?_⟩
  refine seqL4 kr ?_
  refine seqK rfl (does_store (n := 9) (vs := (ll_State2 vt48)) (cs' := (cm_World vt48 x42.Dome x42.Camera x42.Sensors x42.Aim x42.Mode x42.Hazard x42.Key)) rfl kr (kv (pV b9 0)) (kv (.agg (cl_State2 vt48))) rfl rfl (ones rfl) HS54 (Nat.le_of_ble_eq_true rfl) kr ?_)
  intro W55 HS56
  refine nl (hK47 _ _ ?_)
  refine wp_seq_k fun K57 hK58 => rl ?_
  refine seqL1 kr ?_
  refine seqK rfl (does_run (run_loadN (n := 8) rfl Try.underlying53 rfl kr (kv (pV b9 9)) (cs := (ll_State3 x42.Dome)) rfl (HS56.cells 9 8 _ rfl)) ?_)
  replace h := bind_some h; obtain ⟨⟨vt59, vt60⟩, hc61, h⟩ := h
  refine seqK rfl (does_call kr (dome_Set.calls k x42.Dome false false HS56 vt59 vt60 hc61) ?_)
  rintro _ W64 ⟨f62, rfl, L63, HS65⟩
  refine ⟨_, rfl, ?_⟩
  refine seqL4 kr ?_
  refine seqK rfl (does_store (n := 8) (vs := (ll_State3 vt59)) (cs' := (cm_World vt48 vt59 x42.Camera x42.Sensors x42.Aim x42.Mode x42.Hazard x42.Key)) rfl kr (kv (pV b9 9)) (kv (.agg (cl_State3 vt59))) rfl rfl (ones rfl) HS65 (Nat.le_of_ble_eq_true rfl) kr ?_)
  intro W66 HS67
  refine nl (hK58 _ _ ?_)
  refine wp_seq_k fun K68 hK69 => rl ?_
  refine seqL1 kr ?_
  refine seqK rfl (does_run (run_loadN (n := 8) rfl Try.underlying53 rfl kr (kv (pV b9 9)) (cs := (ll_State3 vt59)) rfl (HS67.cells 9 8 _ rfl)) ?_)
  replace h := bind_some h; obtain ⟨⟨vt70, vt71⟩, hc72, h⟩ := h
  refine seqK rfl (does_call kr (dome_Brake.calls k vt59 HS67 vt70 vt71 hc72) ?_)
  rintro _ W75 ⟨f73, rfl, L74, HS76⟩
  refine ⟨_, rfl, ?_⟩
  refine seqL4 kr ?_
  refine seqK rfl (does_store (n := 8) (vs := (ll_State3 vt70)) (cs' := (cm_World vt48 vt70 x42.Camera x42.Sensors x42.Aim x42.Mode x42.Hazard x42.Key)) rfl kr (kv (pV b9 9)) (kv (.agg (cl_State3 vt70))) rfl rfl (ones rfl) HS76 (Nat.le_of_ble_eq_true rfl) kr ?_)
  intro W77 HS78
  refine nl (hK69 _ _ ?_)
  refine wp_seq_k fun K79 hK80 => rl ?_
  refine seqK rfl (does_run (run_loadN (n := 31) rfl Try.underlying59 rfl kr (kv (pV b9 0)) (cs := (lm_World vt48 vt70 x42.Camera x42.Sensors x42.Aim x42.Mode x42.Hazard x42.Key)) rfl (HS78.cells 0 31 _ rfl)) ?_)
  have HS81 := HS78.u1
  refine seqK rfl (does_storeA (vs := (lm_World vt48 vt70 x42.Camera x42.Sensors x42.Aim x42.Mode x42.Hazard x42.Key)) rfl kr kr kr rfl (ones rfl) HS81 kr ?_)
  intro W82 HS83
  refine nl (hK80 _ _ ?_)
  refine wp_ret ?_
  refine hret _ _ ?_
  refine ends (v := Value.agg (cm_World vt48 vt70 x42.Camera x42.Sensors x42.Aim x42.Mode x42.Hazard x42.Key)) (results1 (q1 := .cell 4 59) kr (resN (n := 31) (cs := (lm_World vt48 vt70 x42.Camera x42.Sensors x42.Aim x42.Mode x42.Hazard x42.Key)) (kv (pV b13 0)) Try.underlying59 rfl kr rfl (HS83.cells 0 31 _ rfl))) kr ?_
  have HS84 := HS83.drop
  have HS85 := HS84.drop
  have HS86 := HS85.drop
  injection h with h
  subst h
  exact ⟨f73, rfl, (L38.trans (L52.trans (L63.trans L74))), HS86⟩
 clear h; have h := hv43; clear hv43
 replace h := ite_some h; rcases h with ⟨c27, h⟩ | ⟨c27, h⟩
 rotate_left
 · have c27 : ¬ (vw2.Camera.Mode = 1) := c27
   refine wpRwI 9 kr (beq_eq_false_iff_ne.mpr c27) ?_
   refine condF kr ?_
   refine wp_skip ?_
   refine fnRwI (F := K22) 9 (x := false) (v := (vw2.Camera.Mode == 1)) kr (Eq.symm (beq_eq_false_iff_ne.mpr c27)) ?_
   exact J44 f (⟨vw2.Mount, vw2.Dome, vw2.Camera, vw2.Sensors, (⟨vw2.Aim.Az, vw2.Aim.Alt⟩ : S_Pose), 1, vw2.Hazard, vw2.Key⟩ : S_World) (jL []) W20 _ fL h HS21 kr
 have c27 : vw2.Camera.Mode = 1 := c27
 refine wpRwI 9 kr (beq_iff_eq.mpr c27) ?_
 refine condT kr ?_
 refine rl ?_
 refine seqL1 kr ?_
 refine seqK rfl (does_run (run_loadN (n := 4) rfl Try.underlying55 rfl kr (kv (pV b9 17)) (cs := (ll_State4 vw2.Camera)) rfl (HS21.cells 17 4 _ rfl)) ?_)
 replace h := bind_some h; obtain ⟨⟨vt28, vt29⟩, hc30, h⟩ := h
 refine seqK rfl (does_call kr (camera_Abort.calls k vw2.Camera HS21 vt28 vt29 hc30) ?_)
 rintro _ W33 ⟨f31, rfl, L32, HS34⟩
 refine ⟨_, rfl, ?_⟩
 refine seqL4 kr ?_
 refine seqK rfl (does_store (n := 4) (vs := (ll_State4 vt28)) (cs' := (cm_World vw2.Mount vw2.Dome vt28 vw2.Sensors vw2.Aim 1 vw2.Hazard vw2.Key)) rfl kr (kv (pV b9 17)) (kv (.agg (cl_State4 vt28))) rfl rfl (ones rfl) HS34 (Nat.le_of_ble_eq_true rfl) kr ?_)
 intro W35 HS36
 refine nl ?_
 refine fnRwI (F := K22) 9 (x := true) (v := (vw2.Camera.Mode == 1)) kr (Eq.symm (beq_iff_eq.mpr c27)) ?_
 exact J44 f31 (⟨vw2.Mount, vw2.Dome, vt28, vw2.Sensors, (⟨vw2.Aim.Az, vw2.Aim.Alt⟩ : S_Pose), 1, vw2.Hazard, vw2.Key⟩ : S_World) (jL [.tuple #[(ag_State4 vt28), .int .i64 vt29], pV b9 17, (ag_State4 vw2.Camera), .tuple #[(ag_State4 vt28), .int .i64 vt29], (ag_State4 vt28), iV vt29, pV b9 17]) W35 _ L32 h HS36 kr

set_option maxRecDepth 100000 in
set_option maxHeartbeats 4000000 in
theorem guard_carry.calls (k : Nat)  (m1 : S_Mount) (vw2 : S_World) (o3 : S_Order) {t w : World} {f : FM} {H : List Seg} (HS : St t w f (H)) (rr1 : S_World) (rr2 : Int) (h : guard_carry k m1 vw2 o3 = some (rr1, rr2)) :
    Calls Try.prog 31 #[.agg (cl_Mount m1), .agg (cl_World vw2), .agg #[.int .i64 o3.Kind, .int .i64 o3.Arg]] w (fun e w' => ∃ (g : FM), e = .returned (Value.tuple #[.agg (cl_World rr1), .int .i64 rr2]) ∧ FM.le f g ∧ St t w' g (H)) := by
 unfold guard_carry at h
 refine enter Try.func31 rfl (tm := ⟨[(ag_Mount m1), (ag_World vw2), .agg #[iV o3.Kind, iV o3.Arg]] ++ (un 150 [])⟩) kr ?_
 intro B hret hnor hnp
 refine wp_seq_k fun K4 hK5 => rl ?_
 refine seqK rfl (does_box (cs := (cl_Mount m1)) rfl (kv (.agg (cl_Mount m1))) rfl HS ?_)
 intro b6 W7 HS8
 refine seqK rfl (does_box (cs := (cl_World vw2)) rfl (kv (.agg (cl_World vw2))) rfl HS8 ?_)
 intro b10 W11 HS12
 refine seqK rfl (does_box (cs := #[.int .i64 o3.Kind, .int .i64 o3.Arg]) rfl (kv (.agg #[.int .i64 o3.Kind, .int .i64 o3.Arg])) rfl HS12 ?_)
 intro b14 W15 HS16
 refine seqK rfl (does_alloc (z := Value.agg (cm_World ⟨⟨0, 0, 0, false⟩, ⟨0, 0, 0, false⟩, 0⟩ ⟨0, 0, false, false, ⟨0, 0, 0, false⟩⟩ ⟨0, 0, 0, 0⟩ ⟨false, false, false, false, false⟩ ⟨0, 0⟩ 0 0 0)) (cs := (cm_World ⟨⟨0, 0, 0, false⟩, ⟨0, 0, 0, false⟩, 0⟩ ⟨0, 0, false, false, ⟨0, 0, 0, false⟩⟩ ⟨0, 0, 0, 0⟩ ⟨false, false, false, false, false⟩ ⟨0, 0⟩ 0 0 0)) rfl kr rfl HS16 ?_)
 intro b18 W19 HS20
 refine seqL1 kr ?_
 refine nl (hK5 _ _ ?_)
 refine wp_seq_k fun K22 hK23 => rl ?_
 refine seqL1 kr ?_
 refine nl (hK23 _ _ ?_)
 refine wp_seq_k (fun K24 hK25 => ?_)
 refine wp_seq_k fun K26 hK27 => rl ?_
 refine seqL1 kr ?_
 refine seqK rfl (does_run (run_load rfl Try.underlying3 rfl (kv (pV b14 0)) (HS20.u1.cell 0)) ?_)
 refine nl (hK27 _ _ ?_)
 refine blockK (fun B28 hx29 hn30 hr31 ho32 hp33 => ?_)
 refine wp_seq_k (fun K35 hK36 => ?_)
 refine wp_seq_k fun K37 hK38 => rl ?_
 refine seqL2 kr ?_
 refine nl (hK38 _ _ ?_)
 replace h := bind_some h; obtain ⟨v39, hv47, h⟩ := h
 have J48 : ∀ (f41 : FM) (x46 : Bool) (j45 : Nat → Value) (W43 : World) (a_ : Act), FM.le f f41 → some (x46) = some v39 → St t W43 f41 ([(b18, .cells (cm_World ⟨⟨0, 0, 0, false⟩, ⟨0, 0, 0, false⟩, 0⟩ ⟨0, 0, false, false, ⟨0, 0, 0, false⟩⟩ ⟨0, 0, 0, 0⟩ ⟨false, false, false, false, false⟩ ⟨0, 0⟩ 0 0 0) 59 (0, 0))] :: [(b14, .cells #[.int .i64 o3.Kind, .int .i64 o3.Arg] 67 (0, 0))] :: [(b10, .cells (cl_World vw2) 59 (0, 0))] :: [(b6, .cells (cl_Mount m1) 31 (0, 0))] :: H) → a_ = ⟨⟨[(ag_Mount m1), (ag_World vw2), .agg #[iV o3.Kind, iV o3.Arg], pV b6 0, pV b10 0, pV b14 0, pV b18 0, iV 0, iV 0, pV b14 0, iV o3.Kind, .bool x46, .bool (o3.Kind == 0), (j45 0)] ++ (un 139 [])⟩, []⟩ → K35 a_ W43 := by
  intro f41 x46 j45 W43 a_ L42 hj49 HS44  hfr_; subst hfr_
  injection hj49 with hj49; subst hj49; try dsimp only at h
  refine hK36 _ _ ?_
  replace h := bind_some h; obtain ⟨v50, hv293, h⟩ := h
  have JR295 : ∀ z_, some (Sum.inl z_) = some v50 → some z_ = some (rr1, rr2) := by
   intro z_ e_; injection e_ with e_; subst e_; exact h
  have J294 : ∀ (f286 : FM) (e291 : Int) (x292 : S_World) (j290 : Nat → Value) (W288 : World) (a_ : Act), FM.le f41 f286 → some (Sum.inr (e291, x292)) = some v50 → St t W288 f286 ([(b18, .cells (cm_World ⟨⟨0, 0, 0, false⟩, ⟨0, 0, 0, false⟩, 0⟩ ⟨0, 0, false, false, ⟨0, 0, 0, false⟩⟩ ⟨0, 0, 0, 0⟩ ⟨false, false, false, false, false⟩ ⟨0, 0⟩ 0 0 0) 59 (0, 0))] :: [(b14, .cells #[.int .i64 o3.Kind, .int .i64 o3.Arg] 67 (0, 0))] :: [(b10, .cells (cl_World x292) 59 (0, 0))] :: [(b6, .cells (cl_Mount m1) 31 (0, 0))] :: H) → a_ = ⟨⟨[(ag_Mount m1), (ag_World vw2), .agg #[iV o3.Kind, iV o3.Arg], pV b6 0, pV b10 0, pV b14 0, pV b18 0, iV 0, iV e291, pV b14 0, iV o3.Kind, .bool x46, .bool (o3.Kind == 0), (j45 0)] ++ (jr j290 0 8 ([uV] ++ (jr j290 8 91 (un 6 (jr j290 99 31 [uV, uV])))))⟩, []⟩ → B28 Exit.normal a_ W288 := by
   intro f286 e291 x292 j290 W288 a_ L287 hj296 HS289  hfr_; subst hfr_
   injection hj296 with hj296; subst hj296; try dsimp only at h
   simp only [Sum.elim_inr] at h
   refine hn30 _ _ ?_
   refine hK25 _ _ ?_
   refine wp_seq_k fun K325 hK326 => rl ?_
   refine seqK rfl (does_run (run_loadN (n := 31) rfl Try.underlying59 rfl kr (kv (pV b10 0)) (cs := (ll_World x292)) rfl (HS289.u2.cells 0 31 _ rfl)) ?_)
   refine seqL1 kr ?_
   refine seqK rfl (does_storeA (vs := (ll_World x292)) rfl kr kr kr rfl (ones rfl) HS289 kr ?_)
   intro W327 HS328
   refine seqL1 kr ?_
   refine nl (hK326 _ _ ?_)
   refine wp_ret ?_
   refine hret _ _ ?_
   refine ends (v := Value.tuple #[.agg (cl_World x292), .int .i64 e291]) (results2 (q1 := .cell 6 59) (q2 := .tmp 7) kr (resN (n := 31) (cs := (ll_World x292)) (kv (pV b18 0)) Try.underlying59 rfl kr rfl (HS328.cells 0 31 _ rfl)) (resT (kv (.int .i64 e291)))) kr ?_
   have HS341 := HS328.drop
   have HS342 := HS341.drop
   have HS343 := HS342.drop
   have HS344 := HS343.drop
   injection h with h
   injection h with h0_ h
   subst h0_ h
   exact ⟨f286, rfl, (L42.trans L287), HS344⟩
  clear h; have h := hv293; clear hv293
  replace h := ite_some h; rcases h with ⟨c51, h⟩ | ⟨c51, h⟩
  · have c51 : x46 = true := c51
    refine wpRwI 11 kr c51 ?_
    refine condT kr ?_
    refine wp_seq_k (fun K52 hK53 => ?_)
    refine wp_seq_k fun K54 hK55 => rl ?_
    refine seqL1 kr ?_
    refine seqK rfl (does_run (run_load rfl Try.underlying2 rfl (kv (pV b14 1)) (HS44.u1.cell 1)) ?_)
    refine seqL2 kr ?_
    replace h := ite_some h; rcases h with ⟨c57, h⟩ | ⟨c57, h⟩
    · have c57 : o3.Arg < (-17179869184) := c57
      refine seqRwI 16 kr (decide_eq_true c57) ?_
      refine seqRwI 17 kr (decide_eq_true c57) ?_
      refine seqL4 kr ?_
      refine nl (hK55 _ _ ?_)
      refine condT kr ?_
      refine wp_seq_k fun K58 hK59 => rl ?_
      refine seqL1 kr ?_
      refine seqK rfl (does_storeA (vs := (lm_World ⟨⟨0, 0, 0, false⟩, ⟨0, 0, 0, false⟩, 0⟩ ⟨0, 0, false, false, ⟨0, 0, 0, false⟩⟩ ⟨0, 0, 0, 0⟩ ⟨false, false, false, false, false⟩ ⟨0, 0⟩ 0 0 0)) rfl kr kr kr rfl (ones rfl) HS44 kr ?_)
      intro W60 HS61
      refine seqL1 kr ?_
      refine nl (hK59 _ _ ?_)
      refine wp_ret ?_
      refine hr31 _ _ ?_
      refine hret _ _ ?_
      refine ends (v := Value.tuple #[.agg (cm_World ⟨⟨0, 0, 0, false⟩, ⟨0, 0, 0, false⟩, 0⟩ ⟨0, 0, false, false, ⟨0, 0, 0, false⟩⟩ ⟨0, 0, 0, 0⟩ ⟨false, false, false, false, false⟩ ⟨0, 0⟩ 0 0 0), .int .i64 4]) (results2 (q1 := .cell 6 59) (q2 := .tmp 7) kr (resN (n := 31) (cs := (lm_World ⟨⟨0, 0, 0, false⟩, ⟨0, 0, 0, false⟩, 0⟩ ⟨0, 0, false, false, ⟨0, 0, 0, false⟩⟩ ⟨0, 0, 0, 0⟩ ⟨false, false, false, false, false⟩ ⟨0, 0⟩ 0 0 0)) (kv (pV b18 0)) Try.underlying59 rfl kr rfl (HS61.cells 0 31 _ rfl)) (resT (kv (.int .i64 4)))) kr ?_
      have HS329 := HS61.drop
      have HS330 := HS329.drop
      have HS331 := HS330.drop
      have HS332 := HS331.drop
      replace h := JR295 _ h
      injection h with h
      injection h with h0_ h
      subst h0_ h
      exact ⟨f41, rfl, L42, HS332⟩
    have c57 : ¬ (o3.Arg < (-17179869184)) := c57
    refine seqRwI 16 kr (decide_eq_false c57) ?_
    refine seqRwI 17 kr (decide_eq_false c57) ?_
    refine seqL1 kr ?_
    refine seqG kr (does_run (run_load rfl Try.underlying2 rfl (kv (pV b14 1)) (HS44.u1.cell 1)) ?_)
    refine seqL2 kr ?_
    refine nl (hK55 _ _ ?_)
    replace h := ite_some h; rcases h with ⟨c63, h⟩ | ⟨c63, h⟩
    · have c63 : o3.Arg > 17179869184 := c63
      refine wpRwI 20 kr (decide_eq_true c63) ?_
      refine wpRwI 21 kr (decide_eq_true c63) ?_
      refine condT kr ?_
      refine wp_seq_k fun K64 hK65 => rl ?_
      refine seqL1 kr ?_
      refine seqK rfl (does_storeA (vs := (lm_World ⟨⟨0, 0, 0, false⟩, ⟨0, 0, 0, false⟩, 0⟩ ⟨0, 0, false, false, ⟨0, 0, 0, false⟩⟩ ⟨0, 0, 0, 0⟩ ⟨false, false, false, false, false⟩ ⟨0, 0⟩ 0 0 0)) rfl kr kr kr rfl (ones rfl) HS44 kr ?_)
      intro W66 HS67
      refine seqL1 kr ?_
      refine nl (hK65 _ _ ?_)
      refine wp_ret ?_
      refine hr31 _ _ ?_
      refine hret _ _ ?_
      refine ends (v := Value.tuple #[.agg (cm_World ⟨⟨0, 0, 0, false⟩, ⟨0, 0, 0, false⟩, 0⟩ ⟨0, 0, false, false, ⟨0, 0, 0, false⟩⟩ ⟨0, 0, 0, 0⟩ ⟨false, false, false, false, false⟩ ⟨0, 0⟩ 0 0 0), .int .i64 4]) (results2 (q1 := .cell 6 59) (q2 := .tmp 7) kr (resN (n := 31) (cs := (lm_World ⟨⟨0, 0, 0, false⟩, ⟨0, 0, 0, false⟩, 0⟩ ⟨0, 0, false, false, ⟨0, 0, 0, false⟩⟩ ⟨0, 0, 0, 0⟩ ⟨false, false, false, false, false⟩ ⟨0, 0⟩ 0 0 0)) (kv (pV b18 0)) Try.underlying59 rfl kr rfl (HS67.cells 0 31 _ rfl)) (resT (kv (.int .i64 4)))) kr ?_
      have HS333 := HS67.drop
      have HS334 := HS333.drop
      have HS335 := HS334.drop
      have HS336 := HS335.drop
      replace h := JR295 _ h
      injection h with h
      injection h with h0_ h
      subst h0_ h
      exact ⟨f41, rfl, L42, HS336⟩
    have c63 : ¬ (o3.Arg > 17179869184) := c63
    refine wpRwI 20 kr (decide_eq_false c63) ?_
    refine wpRwI 21 kr (decide_eq_false c63) ?_
    refine condF kr ?_
    refine wp_skip ?_
    refine hK53 _ _ ?_
    refine wp_seq_k fun K68 hK69 => rl ?_
    refine seqL1 kr ?_
    refine seqK rfl (does_run (run_load rfl Try.underlying3 rfl (kv (pV b14 0)) (HS44.u1.cell 0)) ?_)
    refine seqL1 kr ?_
    refine nl (hK69 _ _ ?_)
    replace h := ite_some h; rcases h with ⟨c71, h⟩ | ⟨c71, h⟩
    · have c71 : o3.Kind = 0 := c71
      refine wpRwI 12 kr (beq_iff_eq.mpr c71) ?_
      refine wpRwI 25 kr (beq_iff_eq.mpr c71) ?_
      refine condT kr ?_
      refine rl ?_
      refine seqL1 kr ?_
      refine seqK rfl (does_run (run_load rfl Try.underlying2 rfl (kv (pV b14 1)) (HS44.u1.cell 1)) ?_)
      have HS72 := HS44.u2
      refine seqL2 kr ?_
      refine seqK rfl (does_store (n := 1) (vs := [.int .i64 o3.Arg]) (cs' := (cm_World vw2.Mount vw2.Dome vw2.Camera vw2.Sensors ⟨o3.Arg, vw2.Aim.Alt⟩ vw2.Mode vw2.Hazard vw2.Key)) rfl kr (kv (pV b10 26)) (kv (.int .i64 o3.Arg)) rfl rfl (ones rfl) HS72 (Nat.le_of_ble_eq_true rfl) kr ?_)
      intro W73 HS74
      refine nl ?_
      refine fnRwI (F := (B28 Exit.normal)) 11 (x := true) (v := x46) kr (Eq.symm c51) ?_
      refine fnRwI (F := (B28 Exit.normal)) 12 (x := true) (v := (o3.Kind == 0)) kr (Eq.symm (beq_iff_eq.mpr c71)) ?_
      have HS300 := HS74.u3.u1.u3.u3
      exact J294 f41 0 (⟨vw2.Mount, vw2.Dome, vw2.Camera, vw2.Sensors, (⟨o3.Arg, vw2.Aim.Alt⟩ : S_Pose), vw2.Mode, vw2.Hazard, vw2.Key⟩ : S_World) (jL [pV b14 1, iV o3.Arg, fV, fV, pV b14 1, iV o3.Arg, fV, fV, pV b14 0, iV o3.Kind, tV, pV b14 1, iV o3.Arg, pV b10 26, pV b10 26]) W73 _ fL h HS300 kr
    have c71 : ¬ (o3.Kind = 0) := c71
    refine wpRwI 12 kr (beq_eq_false_iff_ne.mpr c71) ?_
    refine wpRwI 25 kr (beq_eq_false_iff_ne.mpr c71) ?_
    refine condF kr ?_
    refine rl ?_
    refine seqL1 kr ?_
    refine seqK rfl (does_run (run_load rfl Try.underlying2 rfl (kv (pV b14 1)) (HS44.u1.cell 1)) ?_)
    have HS75 := HS44.u2
    refine seqL2 kr ?_
    refine seqK rfl (does_store (n := 1) (vs := [.int .i64 o3.Arg]) (cs' := (cm_World vw2.Mount vw2.Dome vw2.Camera vw2.Sensors ⟨vw2.Aim.Az, o3.Arg⟩ vw2.Mode vw2.Hazard vw2.Key)) rfl kr (kv (pV b10 27)) (kv (.int .i64 o3.Arg)) rfl rfl (ones rfl) HS75 (Nat.le_of_ble_eq_true rfl) kr ?_)
    intro W76 HS77
    refine nl ?_
    refine fnRwI (F := (B28 Exit.normal)) 11 (x := true) (v := x46) kr (Eq.symm c51) ?_
    refine fnRwI (F := (B28 Exit.normal)) 12 (x := false) (v := (o3.Kind == 0)) kr (Eq.symm (beq_eq_false_iff_ne.mpr c71)) ?_
    have HS304 := HS77.u3.u1.u3.u3
    exact J294 f41 0 (⟨vw2.Mount, vw2.Dome, vw2.Camera, vw2.Sensors, (⟨vw2.Aim.Az, o3.Arg⟩ : S_Pose), vw2.Mode, vw2.Hazard, vw2.Key⟩ : S_World) (jL [pV b14 1, iV o3.Arg, fV, fV, pV b14 1, iV o3.Arg, fV, fV, pV b14 0, iV o3.Kind, fV, uV, uV, uV, uV, pV b14 1, iV o3.Arg, pV b10 26, pV b10 27]) W76 _ fL h HS304 kr
  have c51 : ¬ (x46 = true) := c51
  refine wpRwI 11 kr (Bool.eq_false_iff.mpr c51) ?_
  refine condF kr ?_
  refine wp_seq_k fun K78 hK79 => rl ?_
  refine seqL2 kr ?_
  refine nl (hK79 _ _ ?_)
  replace h := ite_some h; rcases h with ⟨c81, h⟩ | ⟨c81, h⟩
  · have c81 : o3.Kind = 2 := c81
    refine wpRwI 34 kr (beq_iff_eq.mpr c81) ?_
    refine wpRwI 35 kr (beq_iff_eq.mpr c81) ?_
    refine condT kr ?_
    refine rl ?_
    refine seqK rfl (does_run (run_loadN (n := 10) rfl Try.underlying31 rfl kr (kv (pV b6 0)) (cs := (ll_Mount m1)) rfl (HS44.u3.cells 0 10 _ rfl)) ?_)
    refine seqL1 kr ?_
    refine seqK rfl (does_run (run_loadN (n := 9) rfl Try.underlying51 rfl kr (kv (pV b10 0)) (cs := (ll_State2 vw2.Mount)) rfl (HS44.u2.cells 0 9 _ rfl)) ?_)
    refine seqL1 kr ?_
    refine seqK rfl (does_run (run_loadN (n := 2) rfl Try.underlying29 rfl kr (kv (pV b10 26)) (cs := [.int .i64 vw2.Aim.Az, .int .i64 vw2.Aim.Alt]) rfl (HS44.u2.cells 26 2 _ rfl)) ?_)
    replace h := bind_some h; obtain ⟨⟨vt82, vt83⟩, hc84, h⟩ := h
    refine seqK rfl (does_call kr (mount_Goto.calls k m1 vw2.Mount (⟨vw2.Aim.Az, vw2.Aim.Alt⟩ : S_Pose) HS44 vt82 vt83 hc84) ?_)
    rintro _ W87 ⟨f85, rfl, L86, HS88⟩
    refine ⟨_, rfl, ?_⟩
    have HS89 := HS88.u2
    refine seqL4 kr ?_
    refine seqK rfl (does_store (n := 9) (vs := (ll_State2 vt82)) (cs' := (cm_World vt82 vw2.Dome vw2.Camera vw2.Sensors vw2.Aim vw2.Mode vw2.Hazard vw2.Key)) rfl kr (kv (pV b10 0)) (kv (.agg (cl_State2 vt82))) rfl rfl (ones rfl) HS89 (Nat.le_of_ble_eq_true rfl) kr ?_)
    intro W90 HS91
    refine seqL1 kr ?_
    refine nl ?_
    refine fnRwI (F := (B28 Exit.normal)) 11 (x := false) (v := x46) kr (Eq.symm (Bool.eq_false_iff.mpr c51)) ?_
    have HS308 := HS91.u3.u1.u3.u3
    exact J294 f85 vt83 (⟨vt82, vw2.Dome, vw2.Camera, vw2.Sensors, (⟨vw2.Aim.Az, vw2.Aim.Alt⟩ : S_Pose), vw2.Mode, vw2.Hazard, vw2.Key⟩ : S_World) (jL [uV, uV, uV, uV, uV, uV, uV, uV, uV, uV, uV, uV, uV, uV, uV, uV, uV, uV, uV, tV, tV, .tuple #[(ag_State2 vt82), .int .i64 vt83], (ag_Mount m1), pV b10 0, (ag_State2 vw2.Mount), pV b10 26, .agg #[.int .i64 vw2.Aim.Az, .int .i64 vw2.Aim.Alt], .tuple #[(ag_State2 vt82), .int .i64 vt83], (ag_State2 vt82), iV vt83, pV b10 0]) W90 _ L86 h HS308 kr
  have c81 : ¬ (o3.Kind = 2) := c81
  refine wpRwI 34 kr (beq_eq_false_iff_ne.mpr c81) ?_
  refine wpRwI 35 kr (beq_eq_false_iff_ne.mpr c81) ?_
  refine condF kr ?_
  refine wp_seq_k fun K92 hK93 => rl ?_
  refine seqL2 kr ?_
  refine nl (hK93 _ _ ?_)
  replace h := ite_some h; rcases h with ⟨c95, h⟩ | ⟨c95, h⟩
  · have c95 : o3.Kind = 3 := c95
    refine wpRwI 46 kr (beq_iff_eq.mpr c95) ?_
    refine wpRwI 47 kr (beq_iff_eq.mpr c95) ?_
    refine condT kr ?_
    refine rl ?_
    refine seqK rfl (does_run (run_loadN (n := 10) rfl Try.underlying31 rfl kr (kv (pV b6 0)) (cs := (ll_Mount m1)) rfl (HS44.u3.cells 0 10 _ rfl)) ?_)
    refine seqL1 kr ?_
    refine seqK rfl (does_run (run_loadN (n := 9) rfl Try.underlying51 rfl kr (kv (pV b10 0)) (cs := (ll_State2 vw2.Mount)) rfl (HS44.u2.cells 0 9 _ rfl)) ?_)
    refine seqL1 kr ?_
    refine seqK rfl (does_run (run_loadN (n := 2) rfl Try.underlying29 rfl kr (kv (pV b10 26)) (cs := [.int .i64 vw2.Aim.Az, .int .i64 vw2.Aim.Alt]) rfl (HS44.u2.cells 26 2 _ rfl)) ?_)
    replace h := bind_some h; obtain ⟨⟨vt96, vt97⟩, hc98, h⟩ := h
    refine seqK rfl (does_call kr (mount_Follow.calls k m1 vw2.Mount (⟨vw2.Aim.Az, vw2.Aim.Alt⟩ : S_Pose) HS44 vt96 vt97 hc98) ?_)
    rintro _ W101 ⟨f99, rfl, L100, HS102⟩
    refine ⟨_, rfl, ?_⟩
    have HS103 := HS102.u2
    refine seqL4 kr ?_
    refine seqK rfl (does_store (n := 9) (vs := (ll_State2 vt96)) (cs' := (cm_World vt96 vw2.Dome vw2.Camera vw2.Sensors vw2.Aim vw2.Mode vw2.Hazard vw2.Key)) rfl kr (kv (pV b10 0)) (kv (.agg (cl_State2 vt96))) rfl rfl (ones rfl) HS103 (Nat.le_of_ble_eq_true rfl) kr ?_)
    intro W104 HS105
    refine seqL1 kr ?_
    refine nl ?_
    refine fnRwI (F := (B28 Exit.normal)) 11 (x := false) (v := x46) kr (Eq.symm (Bool.eq_false_iff.mpr c51)) ?_
    have HS312 := HS105.u3.u1.u3.u3
    exact J294 f99 vt97 (⟨vt96, vw2.Dome, vw2.Camera, vw2.Sensors, (⟨vw2.Aim.Az, vw2.Aim.Alt⟩ : S_Pose), vw2.Mode, vw2.Hazard, vw2.Key⟩ : S_World) (jL [uV, uV, uV, uV, uV, uV, uV, uV, uV, uV, uV, uV, uV, uV, uV, uV, uV, uV, uV, fV, fV, uV, uV, uV, uV, uV, uV, uV, uV, uV, uV, tV, tV, .tuple #[(ag_State2 vt96), .int .i64 vt97], (ag_Mount m1), pV b10 0, (ag_State2 vw2.Mount), pV b10 26, .agg #[.int .i64 vw2.Aim.Az, .int .i64 vw2.Aim.Alt], .tuple #[(ag_State2 vt96), .int .i64 vt97], (ag_State2 vt96), iV vt97, pV b10 0]) W104 _ L100 h HS312 kr
  have c95 : ¬ (o3.Kind = 3) := c95
  refine wpRwI 46 kr (beq_eq_false_iff_ne.mpr c95) ?_
  refine wpRwI 47 kr (beq_eq_false_iff_ne.mpr c95) ?_
  refine condF kr ?_
  refine wp_seq_k fun K106 hK107 => rl ?_
  refine seqL2 kr ?_
  refine nl (hK107 _ _ ?_)
  replace h := ite_some h; rcases h with ⟨c109, h⟩ | ⟨c109, h⟩
  · have c109 : o3.Kind = 4 := c109
    refine wpRwI 58 kr (beq_iff_eq.mpr c109) ?_
    refine wpRwI 59 kr (beq_iff_eq.mpr c109) ?_
    refine condT kr ?_
    refine rl ?_
    refine seqK rfl (does_run (run_loadN (n := 10) rfl Try.underlying31 rfl kr (kv (pV b6 0)) (cs := (ll_Mount m1)) rfl (HS44.u3.cells 0 10 _ rfl)) ?_)
    refine seqL1 kr ?_
    refine seqK rfl (does_run (run_loadN (n := 9) rfl Try.underlying51 rfl kr (kv (pV b10 0)) (cs := (ll_State2 vw2.Mount)) rfl (HS44.u2.cells 0 9 _ rfl)) ?_)
    replace h := bind_some h; obtain ⟨⟨vt110, vt111⟩, hc112, h⟩ := h
    refine seqK rfl (does_call kr (mount_Park.calls k m1 vw2.Mount HS44 vt110 vt111 hc112) ?_)
    rintro _ W115 ⟨f113, rfl, L114, HS116⟩
    refine ⟨_, rfl, ?_⟩
    have HS117 := HS116.u2
    refine seqL4 kr ?_
    refine seqK rfl (does_store (n := 9) (vs := (ll_State2 vt110)) (cs' := (cm_World vt110 vw2.Dome vw2.Camera vw2.Sensors vw2.Aim vw2.Mode vw2.Hazard vw2.Key)) rfl kr (kv (pV b10 0)) (kv (.agg (cl_State2 vt110))) rfl rfl (ones rfl) HS117 (Nat.le_of_ble_eq_true rfl) kr ?_)
    intro W118 HS119
    refine seqL1 kr ?_
    refine nl ?_
    refine fnRwI (F := (B28 Exit.normal)) 11 (x := false) (v := x46) kr (Eq.symm (Bool.eq_false_iff.mpr c51)) ?_
    have HS316 := HS119.u3.u1.u3.u3
    exact J294 f113 vt111 (⟨vt110, vw2.Dome, vw2.Camera, vw2.Sensors, (⟨vw2.Aim.Az, vw2.Aim.Alt⟩ : S_Pose), vw2.Mode, vw2.Hazard, vw2.Key⟩ : S_World) (jL [uV, uV, uV, uV, uV, uV, uV, uV, uV, uV, uV, uV, uV, uV, uV, uV, uV, uV, uV, fV, fV, uV, uV, uV, uV, uV, uV, uV, uV, uV, uV, fV, fV, uV, uV, uV, uV, uV, uV, uV, uV, uV, uV, tV, tV, .tuple #[(ag_State2 vt110), .int .i64 vt111], (ag_Mount m1), pV b10 0, (ag_State2 vw2.Mount), .tuple #[(ag_State2 vt110), .int .i64 vt111], (ag_State2 vt110), iV vt111, pV b10 0]) W118 _ L114 h HS316 kr
  have c109 : ¬ (o3.Kind = 4) := c109
  refine wpRwI 58 kr (beq_eq_false_iff_ne.mpr c109) ?_
  refine wpRwI 59 kr (beq_eq_false_iff_ne.mpr c109) ?_
  refine condF kr ?_
  refine wp_seq_k fun K120 hK121 => rl ?_
  refine seqL2 kr ?_
  refine nl (hK121 _ _ ?_)
  replace h := ite_some h; rcases h with ⟨c123, h⟩ | ⟨c123, h⟩
  · have c123 : o3.Kind = 5 := c123
    refine wpRwI 68 kr (beq_iff_eq.mpr c123) ?_
    refine wpRwI 69 kr (beq_iff_eq.mpr c123) ?_
    refine condT kr ?_
    refine wp_seq_k fun K124 hK125 => rl ?_
    refine seqK rfl (does_run (run_loadN (n := 10) rfl Try.underlying31 rfl kr (kv (pV b6 0)) (cs := (ll_Mount m1)) rfl (HS44.u3.cells 0 10 _ rfl)) ?_)
    refine seqL1 kr ?_
    refine seqK rfl (does_run (run_loadN (n := 9) rfl Try.underlying51 rfl kr (kv (pV b10 0)) (cs := (ll_State2 vw2.Mount)) rfl (HS44.u2.cells 0 9 _ rfl)) ?_)
    replace h := bind_some h; obtain ⟨⟨vt126, vt127⟩, hc128, h⟩ := h
    refine seqK rfl (does_call kr (mount_Stop.calls k m1 vw2.Mount HS44 vt126 vt127 hc128) ?_)
    rintro _ W131 ⟨f129, rfl, L130, HS132⟩
    refine ⟨_, rfl, ?_⟩
    have HS133 := HS132.u2
    refine seqL4 kr ?_
    refine seqK rfl (does_store (n := 9) (vs := (ll_State2 vt126)) (cs' := (cm_World vt126 vw2.Dome vw2.Camera vw2.Sensors vw2.Aim vw2.Mode vw2.Hazard vw2.Key)) rfl kr (kv (pV b10 0)) (kv (.agg (cl_State2 vt126))) rfl rfl (ones rfl) HS133 (Nat.le_of_ble_eq_true rfl) kr ?_)
    intro W134 HS135
    refine nl (hK125 _ _ ?_)
    refine rl ?_
    refine seqL1 kr ?_
    refine seqK rfl (does_run (run_loadN (n := 8) rfl Try.underlying53 rfl kr (kv (pV b10 9)) (cs := (ll_State3 vw2.Dome)) rfl (HS135.cells 9 8 _ rfl)) ?_)
    replace h := bind_some h; obtain ⟨⟨vt136, vt137⟩, hc138, h⟩ := h
    refine seqK rfl (does_call kr (dome_Brake.calls k vw2.Dome HS135 vt136 vt137 hc138) ?_)
    rintro _ W141 ⟨f139, rfl, L140, HS142⟩
    refine ⟨_, rfl, ?_⟩
    refine seqL4 kr ?_
    refine seqK rfl (does_store (n := 8) (vs := (ll_State3 vt136)) (cs' := (cm_World vt126 vt136 vw2.Camera vw2.Sensors vw2.Aim vw2.Mode vw2.Hazard vw2.Key)) rfl kr (kv (pV b10 9)) (kv (.agg (cl_State3 vt136))) rfl rfl (ones rfl) HS142 (Nat.le_of_ble_eq_true rfl) kr ?_)
    intro W143 HS144
    refine nl ?_
    refine fnRwI (F := (B28 Exit.normal)) 11 (x := false) (v := x46) kr (Eq.symm (Bool.eq_false_iff.mpr c51)) ?_
    have HS320 := HS144.u3.u1.u3.u3
    exact J294 f139 0 (⟨vt126, vt136, vw2.Camera, vw2.Sensors, (⟨vw2.Aim.Az, vw2.Aim.Alt⟩ : S_Pose), vw2.Mode, vw2.Hazard, vw2.Key⟩ : S_World) (jL [uV, uV, uV, uV, uV, uV, uV, uV, uV, uV, uV, uV, uV, uV, uV, uV, uV, uV, uV, fV, fV, uV, uV, uV, uV, uV, uV, uV, uV, uV, uV, fV, fV, uV, uV, uV, uV, uV, uV, uV, uV, uV, uV, fV, fV, uV, uV, uV, uV, uV, uV, uV, uV, tV, tV, .tuple #[(ag_State2 vt126), .int .i64 vt127], (ag_Mount m1), pV b10 0, (ag_State2 vw2.Mount), .tuple #[(ag_State2 vt126), .int .i64 vt127], (ag_State2 vt126), iV vt127, pV b10 0, .tuple #[(ag_State3 vt136), .int .i64 vt137], pV b10 9, (ag_State3 vw2.Dome), .tuple #[(ag_State3 vt136), .int .i64 vt137], (ag_State3 vt136), iV vt137, pV b10 9]) W143 _ (L130.trans L140) h HS320 kr
  have c123 : ¬ (o3.Kind = 5) := c123
  refine wpRwI 68 kr (beq_eq_false_iff_ne.mpr c123) ?_
  refine wpRwI 69 kr (beq_eq_false_iff_ne.mpr c123) ?_
  refine condF kr ?_
  refine wp_seq_k (fun K145 hK146 => ?_)
  refine wp_seq_k fun K147 hK148 => rl ?_
  refine seqL2 kr ?_
  refine nl (hK148 _ _ ?_)
  replace h := bind_some h; obtain ⟨v149, hv157, h⟩ := h
  have J158 : ∀ (f151 : FM) (x156 : Bool) (j155 : Nat → Value) (W153 : World) (a_ : Act), FM.le f41 f151 → some (x156) = some v149 → St t W153 f151 ([(b18, .cells (cm_World ⟨⟨0, 0, 0, false⟩, ⟨0, 0, 0, false⟩, 0⟩ ⟨0, 0, false, false, ⟨0, 0, 0, false⟩⟩ ⟨0, 0, 0, 0⟩ ⟨false, false, false, false, false⟩ ⟨0, 0⟩ 0 0 0) 59 (0, 0))] :: [(b14, .cells #[.int .i64 o3.Kind, .int .i64 o3.Arg] 67 (0, 0))] :: [(b10, .cells (cl_World vw2) 59 (0, 0))] :: [(b6, .cells (cl_Mount m1) 31 (0, 0))] :: H) → a_ = ⟨⟨[(ag_Mount m1), (ag_World vw2), .agg #[iV o3.Kind, iV o3.Arg], pV b6 0, pV b10 0, pV b14 0, pV b18 0, iV 0, iV 0, pV b14 0, iV o3.Kind, fV, .bool (o3.Kind == 0), (j45 0)] ++ (un 20 ([fV, fV] ++ (un 10 ([fV, fV] ++ (un 10 ([fV, fV] ++ (un 8 ([fV, fV] ++ (un 15 ([.bool x156, .bool (o3.Kind == 6), (j155 0)] ++ (un 65 [])))))))))))⟩, []⟩ → K145 a_ W153 := by
   intro f151 x156 j155 W153 a_ L152 hj159 HS154  hfr_; subst hfr_
   injection hj159 with hj159; subst hj159; try dsimp only at h
   refine hK146 _ _ ?_
   replace h := ite_some h; rcases h with ⟨c161, h⟩ | ⟨c161, h⟩
   · have c161 : x156 = true := c161
     refine wpRwI 85 kr c161 ?_
     refine condT kr ?_
     refine rl ?_
     refine seqL1 kr ?_
     refine seqK rfl (does_run (run_loadN (n := 8) rfl Try.underlying53 rfl kr (kv (pV b10 9)) (cs := (ll_State3 vw2.Dome)) rfl (HS154.u2.cells 9 8 _ rfl)) ?_)
     refine seqL1 kr ?_
     refine seqK rfl (does_run (run_load rfl Try.underlying3 rfl (kv (pV b14 0)) (HS154.u1.cell 0)) ?_)
     refine seqL2 kr ?_
     refine seqK rfl (does_run (run_load rfl Try.underlying3 rfl (kv (pV b14 0)) (HS154.u1.cell 0)) ?_)
     replace h := bind_some h; obtain ⟨⟨vt162, vt163⟩, hc164, h⟩ := h
     refine seqL1 kr ?_
     refine seqK rfl (does_call kr (dome_Set.calls k vw2.Dome (o3.Kind == 6) (o3.Kind == 6) HS154 vt162 vt163 hc164) ?_)
     rintro _ W167 ⟨f165, rfl, L166, HS168⟩
     refine ⟨_, rfl, ?_⟩
     have HS169 := HS168.u2
     refine seqL4 kr ?_
     refine seqK rfl (does_store (n := 8) (vs := (ll_State3 vt162)) (cs' := (cm_World vw2.Mount vt162 vw2.Camera vw2.Sensors vw2.Aim vw2.Mode vw2.Hazard vw2.Key)) rfl kr (kv (pV b10 9)) (kv (.agg (cl_State3 vt162))) rfl rfl (ones rfl) HS169 (Nat.le_of_ble_eq_true rfl) kr ?_)
     intro W170 HS171
     refine seqL1 kr ?_
     refine nl ?_
     refine fnRwI (F := (B28 Exit.normal)) 11 (x := false) (v := x46) kr (Eq.symm (Bool.eq_false_iff.mpr c51)) ?_
     have HS324 := HS171.u3.u1.u3.u3
     exact J294 f165 vt163 (⟨vw2.Mount, vt162, vw2.Camera, vw2.Sensors, (⟨vw2.Aim.Az, vw2.Aim.Alt⟩ : S_Pose), vw2.Mode, vw2.Hazard, vw2.Key⟩ : S_World) (jL [uV, uV, uV, uV, uV, uV, uV, uV, uV, uV, uV, uV, uV, uV, uV, uV, uV, uV, uV, fV, fV, uV, uV, uV, uV, uV, uV, uV, uV, uV, uV, fV, fV, uV, uV, uV, uV, uV, uV, uV, uV, uV, uV, fV, fV, uV, uV, uV, uV, uV, uV, uV, uV, fV, fV, uV, uV, uV, uV, uV, uV, uV, uV, uV, uV, uV, uV, uV, uV, uV, tV, .bool (o3.Kind == 6), (j155 0), .tuple #[(ag_State3 vt162), .int .i64 vt163], pV b10 9, (ag_State3 vw2.Dome), pV b14 0, iV o3.Kind, .bool (o3.Kind == 6), pV b14 0, iV o3.Kind, .bool (o3.Kind == 6), .tuple #[(ag_State3 vt162), .int .i64 vt163], (ag_State3 vt162), iV vt163, pV b10 9]) W170 _ (L152.trans L166) h HS324 kr
   have c161 : ¬ (x156 = true) := c161
   refine wpRwI 85 kr (Bool.eq_false_iff.mpr c161) ?_
   refine condF kr ?_
   refine wp_seq_k fun K172 hK173 => rl ?_
   refine seqL2 kr ?_
   refine nl (hK173 _ _ ?_)
   replace h := bind_some h; obtain ⟨v174, hv262, h⟩ := h
   have JR264 : ∀ z_, some (Sum.inl z_) = some v174 → some z_ = some v50 := by
    intro z_ e_; injection e_ with e_; subst e_; exact h
   have J263 : ∀ (f255 : FM) (e260 : Int) (x261 : S_World) (j259 : Nat → Value) (W257 : World) (a_ : Act), FM.le f151 f255 → some (Sum.inr (e260, x261)) = some v174 → St t W257 f255 ([(b18, .cells (cm_World ⟨⟨0, 0, 0, false⟩, ⟨0, 0, 0, false⟩, 0⟩ ⟨0, 0, false, false, ⟨0, 0, 0, false⟩⟩ ⟨0, 0, 0, 0⟩ ⟨false, false, false, false, false⟩ ⟨0, 0⟩ 0 0 0) 59 (0, 0))] :: [(b14, .cells #[.int .i64 o3.Kind, .int .i64 o3.Arg] 67 (0, 0))] :: [(b10, .cells (cl_World x261) 59 (0, 0))] :: [(b6, .cells (cl_Mount m1) 31 (0, 0))] :: H) → a_ = ⟨⟨[(ag_Mount m1), (ag_World vw2), .agg #[iV o3.Kind, iV o3.Arg], pV b6 0, pV b10 0, pV b14 0, pV b18 0, iV 0, iV e260, pV b14 0, iV o3.Kind, fV, .bool (o3.Kind == 0), (j45 0)] ++ (un 20 ([fV, fV] ++ (un 10 ([fV, fV] ++ (un 10 ([fV, fV] ++ (un 8 ([fV, fV] ++ (un 15 ([fV, .bool (o3.Kind == 6), (j155 0)] ++ (un 13 ([.bool (o3.Kind == 8), .bool (o3.Kind == 8)] ++ (jr j259 0 11 (un 6 (jr j259 11 31 [uV, uV])))))))))))))))⟩, []⟩ → B28 Exit.normal a_ W257 := by
    intro f255 e260 x261 j259 W257 a_ L256 hj265 HS258  hfr_; subst hfr_
    injection hj265 with hj265; subst hj265; try dsimp only at h
    simp only [Sum.elim_inr] at h
    refine fnRwI (F := (B28 Exit.normal)) 11 (x := false) (v := x46) kr (Eq.symm (Bool.eq_false_iff.mpr c51)) ?_
    exact J294 f255 e260 x261 (jL [uV, uV, uV, uV, uV, uV, uV, uV, uV, uV, uV, uV, uV, uV, uV, uV, uV, uV, uV, fV, fV, uV, uV, uV, uV, uV, uV, uV, uV, uV, uV, fV, fV, uV, uV, uV, uV, uV, uV, uV, uV, uV, uV, fV, fV, uV, uV, uV, uV, uV, uV, uV, uV, fV, fV, uV, uV, uV, uV, uV, uV, uV, uV, uV, uV, uV, uV, uV, uV, uV, fV, .bool (o3.Kind == 6), (j155 0), uV, uV, uV, uV, uV, uV, uV, uV, uV, uV, uV, uV, uV, .bool (o3.Kind == 8), .bool (o3.Kind == 8), (j259 0), (j259 1), (j259 2), (j259 3), (j259 4), (j259 5), (j259 6), (j259 7), (j259 8), (j259 9), (j259 10), (j259 11), (j259 12), (j259 13), (j259 14), (j259 15), (j259 16), (j259 17), (j259 18), (j259 19), (j259 20), (j259 21), (j259 22), (j259 23), (j259 24), (j259 25), (j259 26), (j259 27), (j259 28), (j259 29), (j259 30), (j259 31), (j259 32), (j259 33), (j259 34), (j259 35), (j259 36), (j259 37), (j259 38), (j259 39), (j259 40), (j259 41)]) W257 _ (L152.trans L256) h HS258 kr
   clear h; have h := hv262; clear hv262
   replace h := ite_some h; rcases h with ⟨c175, h⟩ | ⟨c175, h⟩
   · have c175 : o3.Kind = 8 := c175
     refine wpRwI 101 kr (beq_iff_eq.mpr c175) ?_
     refine wpRwI 102 kr (beq_iff_eq.mpr c175) ?_
     refine condT kr ?_
     refine rl ?_
     refine seqL1 kr ?_
     refine seqK rfl (does_run (run_loadN (n := 8) rfl Try.underlying53 rfl kr (kv (pV b10 9)) (cs := (ll_State3 vw2.Dome)) rfl (HS154.u2.cells 9 8 _ rfl)) ?_)
     refine seqL1 kr ?_
     refine seqK rfl (does_run (run_load rfl Try.underlying2 rfl (kv (pV b14 1)) (HS154.u1.cell 1)) ?_)
     replace h := bind_some h; obtain ⟨⟨vt176, vt177⟩, hc178, h⟩ := h
     refine seqK rfl (does_call kr (dome_Rotate.calls k vw2.Dome o3.Arg HS154 vt176 vt177 hc178) ?_)
     rintro _ W181 ⟨f179, rfl, L180, HS182⟩
     refine ⟨_, rfl, ?_⟩
     have HS183 := HS182.u2
     refine seqL4 kr ?_
     refine seqK rfl (does_store (n := 8) (vs := (ll_State3 vt176)) (cs' := (cm_World vw2.Mount vt176 vw2.Camera vw2.Sensors vw2.Aim vw2.Mode vw2.Hazard vw2.Key)) rfl kr (kv (pV b10 9)) (kv (.agg (cl_State3 vt176))) rfl rfl (ones rfl) HS183 (Nat.le_of_ble_eq_true rfl) kr ?_)
     intro W184 HS185
     refine seqL1 kr ?_
     refine nl ?_
     refine fnRwI (F := (B28 Exit.normal)) 102 (x := true) (v := (o3.Kind == 8)) kr (Eq.symm (beq_iff_eq.mpr c175)) ?_
     refine fnRwI (F := (B28 Exit.normal)) 101 (x := true) (v := (o3.Kind == 8)) kr (Eq.symm (beq_iff_eq.mpr c175)) ?_
     have HS269 := HS185.u3.u1.u3.u3
     exact J263 f179 vt177 (⟨vw2.Mount, vt176, vw2.Camera, vw2.Sensors, (⟨vw2.Aim.Az, vw2.Aim.Alt⟩ : S_Pose), vw2.Mode, vw2.Hazard, vw2.Key⟩ : S_World) (jL [.tuple #[(ag_State3 vt176), .int .i64 vt177], pV b10 9, (ag_State3 vw2.Dome), pV b14 1, iV o3.Arg, .tuple #[(ag_State3 vt176), .int .i64 vt177], (ag_State3 vt176), iV vt177, pV b10 9]) W184 _ L180 h HS269 kr
   have c175 : ¬ (o3.Kind = 8) := c175
   refine wpRwI 101 kr (beq_eq_false_iff_ne.mpr c175) ?_
   refine wpRwI 102 kr (beq_eq_false_iff_ne.mpr c175) ?_
   refine condF kr ?_
   refine wp_seq_k fun K186 hK187 => rl ?_
   refine seqL2 kr ?_
   refine nl (hK187 _ _ ?_)
   replace h := ite_some h; rcases h with ⟨c189, h⟩ | ⟨c189, h⟩
   · have c189 : o3.Kind = 9 := c189
     refine wpRwI 112 kr (beq_iff_eq.mpr c189) ?_
     refine wpRwI 113 kr (beq_iff_eq.mpr c189) ?_
     refine condT kr ?_
     refine wp_seq_k fun K190 hK191 => rl ?_
     refine seqK rfl (does_run (run_loadN (n := 31) rfl Try.underlying59 rfl kr (kv (pV b10 0)) (cs := (ll_World vw2)) rfl (HS154.u2.cells 0 31 _ rfl)) ?_)
     refine seqL1 kr ?_
     refine seqK rfl (does_run (run_load rfl Try.underlying2 rfl (kv (pV b14 1)) (HS154.u1.cell 1)) ?_)
     replace h := bind_some h; obtain ⟨⟨vt192, vt193⟩, hc194, h⟩ := h
     refine seqK rfl (does_call kr (guard_expose.calls k vw2 o3.Arg HS154 vt192 vt193 hc194) ?_)
     rintro _ W197 ⟨f195, rfl, L196, HS198⟩
     refine ⟨_, rfl, ?_⟩
     refine seqL2 kr ?_
     refine seqK rfl (does_storeA (vs := (ll_World vt192)) rfl kr kr kr rfl (ones rfl) HS198 kr ?_)
     intro W199 HS200
     refine seqL1 kr ?_
     refine nl (hK191 _ _ ?_)
     refine wp_ret ?_
     refine hr31 _ _ ?_
     refine hret _ _ ?_
     refine ends (v := Value.tuple #[.agg (cl_World vt192), .int .i64 vt193]) (results2 (q1 := .cell 6 59) (q2 := .tmp 7) kr (resN (n := 31) (cs := (ll_World vt192)) (kv (pV b18 0)) Try.underlying59 rfl kr rfl (HS200.cells 0 31 _ rfl)) (resT (kv (.int .i64 vt193)))) kr ?_
     have HS337 := HS200.drop
     have HS338 := HS337.drop
     have HS339 := HS338.drop
     have HS340 := HS339.drop
     replace h := JR264 _ h
     replace h := JR295 _ h
     injection h with h
     injection h with h0_ h
     subst h0_ h
     exact ⟨f195, rfl, (L42.trans (L152.trans L196)), HS340⟩
   have c189 : ¬ (o3.Kind = 9) := c189
   refine wpRwI 112 kr (beq_eq_false_iff_ne.mpr c189) ?_
   refine wpRwI 113 kr (beq_eq_false_iff_ne.mpr c189) ?_
   refine condF kr ?_
   refine wp_seq_k fun K201 hK202 => rl ?_
   refine seqL2 kr ?_
   refine nl (hK202 _ _ ?_)
   replace h := ite_some h; rcases h with ⟨c204, h⟩ | ⟨c204, h⟩
   · have c204 : o3.Kind = 10 := c204
     refine wpRwI 120 kr (beq_iff_eq.mpr c204) ?_
     refine wpRwI 121 kr (beq_iff_eq.mpr c204) ?_
     refine condT kr ?_
     refine rl ?_
     refine seqL1 kr ?_
     refine seqK rfl (does_run (run_loadN (n := 4) rfl Try.underlying55 rfl kr (kv (pV b10 17)) (cs := (ll_State4 vw2.Camera)) rfl (HS154.u2.cells 17 4 _ rfl)) ?_)
     replace h := bind_some h; obtain ⟨⟨vt205, vt206⟩, hc207, h⟩ := h
     refine seqK rfl (does_call kr (camera_Abort.calls k vw2.Camera HS154 vt205 vt206 hc207) ?_)
     rintro _ W210 ⟨f208, rfl, L209, HS211⟩
     refine ⟨_, rfl, ?_⟩
     have HS212 := HS211.u2
     refine seqL4 kr ?_
     refine seqK rfl (does_store (n := 4) (vs := (ll_State4 vt205)) (cs' := (cm_World vw2.Mount vw2.Dome vt205 vw2.Sensors vw2.Aim vw2.Mode vw2.Hazard vw2.Key)) rfl kr (kv (pV b10 17)) (kv (.agg (cl_State4 vt205))) rfl rfl (ones rfl) HS212 (Nat.le_of_ble_eq_true rfl) kr ?_)
     intro W213 HS214
     refine seqL1 kr ?_
     refine nl ?_
     refine fnRwI (F := (B28 Exit.normal)) 102 (x := false) (v := (o3.Kind == 8)) kr (Eq.symm (beq_eq_false_iff_ne.mpr c175)) ?_
     refine fnRwI (F := (B28 Exit.normal)) 101 (x := false) (v := (o3.Kind == 8)) kr (Eq.symm (beq_eq_false_iff_ne.mpr c175)) ?_
     have HS273 := HS214.u3.u1.u3.u3
     exact J263 f208 vt206 (⟨vw2.Mount, vw2.Dome, vt205, vw2.Sensors, (⟨vw2.Aim.Az, vw2.Aim.Alt⟩ : S_Pose), vw2.Mode, vw2.Hazard, vw2.Key⟩ : S_World) (jL [uV, uV, uV, uV, uV, uV, uV, uV, uV, fV, fV, tV, tV, .tuple #[(ag_State4 vt205), .int .i64 vt206], pV b10 17, (ag_State4 vw2.Camera), .tuple #[(ag_State4 vt205), .int .i64 vt206], (ag_State4 vt205), iV vt206, pV b10 17]) W213 _ L209 h HS273 kr
   have c204 : ¬ (o3.Kind = 10) := c204
   refine wpRwI 120 kr (beq_eq_false_iff_ne.mpr c204) ?_
   refine wpRwI 121 kr (beq_eq_false_iff_ne.mpr c204) ?_
   refine condF kr ?_
   refine wp_seq_k fun K215 hK216 => rl ?_
   refine seqL2 kr ?_
   refine nl (hK216 _ _ ?_)
   replace h := ite_some h; rcases h with ⟨c218, h⟩ | ⟨c218, h⟩
   · have c218 : o3.Kind = 11 := c218
     refine wpRwI 129 kr (beq_iff_eq.mpr c218) ?_
     refine wpRwI 130 kr (beq_iff_eq.mpr c218) ?_
     refine condT kr ?_
     refine rl ?_
     refine seqL1 kr ?_
     refine seqK rfl (does_run (run_loadN (n := 4) rfl Try.underlying55 rfl kr (kv (pV b10 17)) (cs := (ll_State4 vw2.Camera)) rfl (HS154.u2.cells 17 4 _ rfl)) ?_)
     replace h := bind_some h; obtain ⟨⟨vt219, vt220, vt221, vt222⟩, hc223, h⟩ := h
     refine seqK rfl (does_call kr (camera_Fetch.calls k vw2.Camera HS154 vt219 vt220 vt221 vt222 hc223) ?_)
     rintro _ W226 ⟨f224, rfl, L225, HS227⟩
     refine ⟨_, rfl, ?_⟩
     have HS228 := HS227.u2
     refine seqL6 kr ?_
     refine seqK rfl (does_store (n := 4) (vs := (ll_State4 vt219)) (cs' := (cm_World vw2.Mount vw2.Dome vt219 vw2.Sensors vw2.Aim vw2.Mode vw2.Hazard vw2.Key)) rfl kr (kv (pV b10 17)) (kv (.agg (cl_State4 vt219))) rfl rfl (ones rfl) HS228 (Nat.le_of_ble_eq_true rfl) kr ?_)
     intro W229 HS230
     refine seqL1 kr ?_
     refine nl ?_
     refine fnRwI (F := (B28 Exit.normal)) 102 (x := false) (v := (o3.Kind == 8)) kr (Eq.symm (beq_eq_false_iff_ne.mpr c175)) ?_
     refine fnRwI (F := (B28 Exit.normal)) 101 (x := false) (v := (o3.Kind == 8)) kr (Eq.symm (beq_eq_false_iff_ne.mpr c175)) ?_
     have HS277 := HS230.u3.u1.u3.u3
     exact J263 f224 vt222 (⟨vw2.Mount, vw2.Dome, vt219, vw2.Sensors, (⟨vw2.Aim.Az, vw2.Aim.Alt⟩ : S_Pose), vw2.Mode, vw2.Hazard, vw2.Key⟩ : S_World) (jL [uV, uV, uV, uV, uV, uV, uV, uV, uV, fV, fV, fV, fV, uV, uV, uV, uV, uV, uV, uV, tV, tV, .tuple #[(ag_State4 vt219), .int .i64 vt220, .int .i64 vt221, .int .i64 vt222], pV b10 17, (ag_State4 vw2.Camera), .tuple #[(ag_State4 vt219), .int .i64 vt220, .int .i64 vt221, .int .i64 vt222], (ag_State4 vt219), iV vt220, iV vt221, iV vt222, pV b10 17]) W229 _ L225 h HS277 kr
   have c218 : ¬ (o3.Kind = 11) := c218
   refine wpRwI 129 kr (beq_eq_false_iff_ne.mpr c218) ?_
   refine wpRwI 130 kr (beq_eq_false_iff_ne.mpr c218) ?_
   refine condF kr ?_
   refine wp_seq_k fun K231 hK232 => rl ?_
   refine seqL2 kr ?_
   refine nl (hK232 _ _ ?_)
   replace h := ite_some h; rcases h with ⟨c234, h⟩ | ⟨c234, h⟩
   rotate_left
   · have c234 : ¬ (o3.Kind = 12) := c234
     refine wpRwI 140 kr (beq_eq_false_iff_ne.mpr c234) ?_
     refine wpRwI 141 kr (beq_eq_false_iff_ne.mpr c234) ?_
     refine condF kr ?_
     refine wp_seq_k fun K248 hK249 => rl ?_
     refine seqL2 kr ?_
     refine nl (hK249 _ _ ?_)
     replace h := ite_some h; rcases h with ⟨c251, h⟩ | ⟨c251, h⟩
     rotate_left
     · have c251 : ¬ (o3.Kind = 13) := c251
       refine wpRwI 148 kr (beq_eq_false_iff_ne.mpr c251) ?_
       refine wpRwI 149 kr (beq_eq_false_iff_ne.mpr c251) ?_
       refine condF kr ?_
       refine wp_skip ?_
       refine fnRwI (F := (B28 Exit.normal)) 102 (x := false) (v := (o3.Kind == 8)) kr (Eq.symm (beq_eq_false_iff_ne.mpr c175)) ?_
       refine fnRwI (F := (B28 Exit.normal)) 101 (x := false) (v := (o3.Kind == 8)) kr (Eq.symm (beq_eq_false_iff_ne.mpr c175)) ?_
       exact J263 f151 0 vw2 (jL [uV, uV, uV, uV, uV, uV, uV, uV, uV, fV, fV, fV, fV, uV, uV, uV, uV, uV, uV, uV, fV, fV, uV, uV, uV, uV, uV, uV, uV, uV, uV, fV, fV, uV, uV, uV, uV, uV, uV, fV, fV]) W153 _ fL h HS154 kr
     have c251 : o3.Kind = 13 := c251
     refine wpRwI 148 kr (beq_iff_eq.mpr c251) ?_
     refine wpRwI 149 kr (beq_iff_eq.mpr c251) ?_
     refine condT kr ?_
     refine rl ?_
     have HS252 := HS154.u2
     refine seqL1 kr ?_
     refine seqK rfl (does_store (n := 1) (vs := [.int .i64 0]) (cs' := (cm_World vw2.Mount vw2.Dome vw2.Camera vw2.Sensors vw2.Aim 0 vw2.Hazard vw2.Key)) rfl kr (kv (pV b10 28)) (kv (.int .i64 0)) rfl rfl (ones rfl) HS252 (Nat.le_of_ble_eq_true rfl) kr ?_)
     intro W253 HS254
     refine nl ?_
     refine fnRwI (F := (B28 Exit.normal)) 102 (x := false) (v := (o3.Kind == 8)) kr (Eq.symm (beq_eq_false_iff_ne.mpr c175)) ?_
     refine fnRwI (F := (B28 Exit.normal)) 101 (x := false) (v := (o3.Kind == 8)) kr (Eq.symm (beq_eq_false_iff_ne.mpr c175)) ?_
     have HS285 := HS254.u3.u1.u3.u3
     exact J263 f151 0 (⟨vw2.Mount, vw2.Dome, vw2.Camera, vw2.Sensors, (⟨vw2.Aim.Az, vw2.Aim.Alt⟩ : S_Pose), 0, vw2.Hazard, vw2.Key⟩ : S_World) (jL [uV, uV, uV, uV, uV, uV, uV, uV, uV, fV, fV, fV, fV, uV, uV, uV, uV, uV, uV, uV, fV, fV, uV, uV, uV, uV, uV, uV, uV, uV, uV, fV, fV, uV, uV, uV, uV, uV, uV, tV, tV, pV b10 28]) W253 _ fL h HS285 kr
   have c234 : o3.Kind = 12 := c234
   refine wpRwI 140 kr (beq_iff_eq.mpr c234) ?_
   refine wpRwI 141 kr (beq_iff_eq.mpr c234) ?_
   refine condT kr ?_
   refine wp_seq_k fun K235 hK236 => rl ?_
   refine seqL1 kr ?_
   refine seqK rfl (does_run (run_load rfl Try.underlying3 rfl (kv (pV b10 28)) (HS154.u2.cell 28)) ?_)
   refine seqL1 kr ?_
   refine nl (hK236 _ _ ?_)
   replace h := ite_some h; rcases h with ⟨c238, h⟩ | ⟨c238, h⟩
   rotate_left
   · have c238 : ¬ (vw2.Mode = 0) := c238
     refine wpRwI 144 kr (beq_eq_false_iff_ne.mpr c238) ?_
     refine condF kr ?_
     refine wp_skip ?_
     refine fnRwI (F := (B28 Exit.normal)) 102 (x := false) (v := (o3.Kind == 8)) kr (Eq.symm (beq_eq_false_iff_ne.mpr c175)) ?_
     refine fnRwI (F := (B28 Exit.normal)) 101 (x := false) (v := (o3.Kind == 8)) kr (Eq.symm (beq_eq_false_iff_ne.mpr c175)) ?_
     exact J263 f151 0 vw2 (jL [uV, uV, uV, uV, uV, uV, uV, uV, uV, fV, fV, fV, fV, uV, uV, uV, uV, uV, uV, uV, fV, fV, uV, uV, uV, uV, uV, uV, uV, uV, uV, tV, tV, pV b10 28, iV vw2.Mode, fV]) W153 _ fL h HS154 kr
   have c238 : vw2.Mode = 0 := c238
   refine wpRwI 144 kr (beq_iff_eq.mpr c238) ?_
   refine condT kr ?_
   refine rl ?_
   refine seqK rfl (does_run (run_loadN (n := 10) rfl Try.underlying31 rfl kr (kv (pV b6 0)) (cs := (ll_Mount m1)) rfl (HS154.u3.cells 0 10 _ rfl)) ?_)
   refine seqK rfl (does_run (run_loadN (n := 31) rfl Try.underlying59 rfl kr (kv (pV b10 0)) (cs := (ll_World vw2)) rfl (HS154.u2.cells 0 31 _ rfl)) ?_)
   replace h := bind_some h; obtain ⟨vt239, hc240, h⟩ := h
   refine seqK rfl (does_call kr (guard_begin.calls k m1 vw2 HS154 vt239 hc240) ?_)
   rintro _ W243 ⟨f241, rfl, L242, HS244⟩
   refine ⟨_, rfl, ?_⟩
   have HS245 := HS244.u2
   refine seqK rfl (does_storeA (vs := (ll_World vt239)) rfl kr kr kr rfl (ones rfl) HS245 kr ?_)
   intro W246 HS247
   refine nl ?_
   refine fnRwI (F := (B28 Exit.normal)) 102 (x := false) (v := (o3.Kind == 8)) kr (Eq.symm (beq_eq_false_iff_ne.mpr c175)) ?_
   refine fnRwI (F := (B28 Exit.normal)) 101 (x := false) (v := (o3.Kind == 8)) kr (Eq.symm (beq_eq_false_iff_ne.mpr c175)) ?_
   have HS281 := HS247.u3.u1.u3.u3
   exact J263 f241 0 vt239 (jL [uV, uV, uV, uV, uV, uV, uV, uV, uV, fV, fV, fV, fV, uV, uV, uV, uV, uV, uV, uV, fV, fV, uV, uV, uV, uV, uV, uV, uV, uV, uV, tV, tV, pV b10 28, iV vw2.Mode, tV, (ag_Mount m1), (ag_World vw2), (ag_World vt239)]) W246 _ L242 h HS281 kr
  clear h; have h := hv157; clear hv157
  replace h := ite_some h; rcases h with ⟨c150, h⟩ | ⟨c150, h⟩
  · have c150 : o3.Kind = 6 := c150
    refine wpRwI 85 kr (beq_iff_eq.mpr c150) ?_
    refine wpRwI 86 kr (beq_iff_eq.mpr c150) ?_
    refine condT kr ?_
    refine wp_skip ?_
    refine fnRwI (F := K145) 86 (x := true) (v := (o3.Kind == 6)) kr (Eq.symm (beq_iff_eq.mpr c150)) ?_
    refine fnRwI (F := K145) 85 (x := true) (v := (o3.Kind == 6)) kr (Eq.symm (beq_iff_eq.mpr c150)) ?_
    exact J158 f41 (o3.Kind == 6) (jL []) W43 _ fL h HS44 kr
  have c150 : ¬ (o3.Kind = 6) := c150
  refine wpRwI 85 kr (beq_eq_false_iff_ne.mpr c150) ?_
  refine wpRwI 86 kr (beq_eq_false_iff_ne.mpr c150) ?_
  refine condF kr ?_
  refine rl ?_
  refine seqL2 kr ?_
  refine nl ?_
  refine fnRwI (F := K145) 86 (x := false) (v := (o3.Kind == 6)) kr (Eq.symm (beq_eq_false_iff_ne.mpr c150)) ?_
  exact J158 f41 (o3.Kind == 7) (jL [.bool (o3.Kind == 7)]) W43 _ fL h HS44 kr
 clear h; have h := hv47; clear hv47
 replace h := ite_some h; rcases h with ⟨c40, h⟩ | ⟨c40, h⟩
 · have c40 : o3.Kind = 0 := c40
   refine wpRwI 11 kr (beq_iff_eq.mpr c40) ?_
   refine wpRwI 12 kr (beq_iff_eq.mpr c40) ?_
   refine condT kr ?_
   refine wp_skip ?_
   refine fnRwI (F := K35) 12 (x := true) (v := (o3.Kind == 0)) kr (Eq.symm (beq_iff_eq.mpr c40)) ?_
   refine fnRwI (F := K35) 11 (x := true) (v := (o3.Kind == 0)) kr (Eq.symm (beq_iff_eq.mpr c40)) ?_
   exact J48 f (o3.Kind == 0) (jL []) W19 _ fL h HS20 kr
 have c40 : ¬ (o3.Kind = 0) := c40
 refine wpRwI 11 kr (beq_eq_false_iff_ne.mpr c40) ?_
 refine wpRwI 12 kr (beq_eq_false_iff_ne.mpr c40) ?_
 refine condF kr ?_
 refine rl ?_
 refine seqL2 kr ?_
 refine nl ?_
 refine fnRwI (F := K35) 12 (x := false) (v := (o3.Kind == 0)) kr (Eq.symm (beq_eq_false_iff_ne.mpr c40)) ?_
 exact J48 f (o3.Kind == 1) (jL [.bool (o3.Kind == 1)]) W19 _ fL h HS20 kr

end Go.Sp.S4
