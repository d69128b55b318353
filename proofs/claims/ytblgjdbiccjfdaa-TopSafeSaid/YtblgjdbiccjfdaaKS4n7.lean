import Derived.Test.YtblgjdbiccjfdaaProg
import Derived.Test.YtblgjdbiccjfdaaSpCopy
import Derived.Test.YtblgjdbiccjfdaaFS4
import Derived.Test.YtblgjdbiccjfdaaSpTake
import Derived.Test.YtblgjdbiccjfdaaKS4n0
import Derived.Test.YtblgjdbiccjfdaaKS4n1
import Derived.Test.YtblgjdbiccjfdaaKS4n2
import Derived.Test.YtblgjdbiccjfdaaKS4n3
import Derived.Test.YtblgjdbiccjfdaaKS4n4
import Derived.Test.YtblgjdbiccjfdaaKS4n5
import Derived.Test.YtblgjdbiccjfdaaKS4n6
namespace Go.Sp.S4
open Go Go.Sp Go.Proofs
set_option linter.unusedVariables false
attribute [local irreducible] wpList AnyL Code.wp Calls Does
set_option maxRecDepth 100000 in
set_option maxHeartbeats 4000000 in
theorem guard_Give.calls (k : Nat)  (m1 : S_Mount) (vw2 : S_World) (o3 : S_Order) {t w : World} {f : FM} {H : List Seg} (HS : St t w f (H)) (rr1 : S_World) (rr2 : Int) (h : guard_Give k m1 vw2 o3 = some (rr1, rr2)) :
    Calls Try.prog 13 #[.agg (cl_Mount m1), .agg (cl_World vw2), .agg #[.int .i64 o3.Kind, .int .i64 o3.Arg]] w (fun e w' => ∃ (g : FM), e = .returned (Value.tuple #[.agg (cl_World rr1), .int .i64 rr2]) ∧ FM.le f g ∧ St t w' g (H)) := by
 unfold guard_Give at h
 refine enter Try.func13 rfl (tm := ⟨[(ag_Mount m1), (ag_World vw2), .agg #[iV o3.Kind, iV o3.Arg]] ++ (un 85 [])⟩) kr ?_
 intro B hret hnor hnp
 refine wp_seq_k fun K4 hK5 => rl ?_
 refine seqK rfl (does_box (cs := (cl_Mount m1)) rfl (kv (.agg (cl_Mount m1))) rfl HS ?_)
 intro b6 W7 HS8
 refine seqK rfl (does_box (cs := (cl_World vw2)) rfl (kv (.agg (cl_World vw2))) rfl HS8 ?_)
 intro b10 W11 HS12
 refine seqK rfl (does_box (cs := #[.int .i64 o3.Kind, .int .i64 o3.Arg]) rfl (kv (.agg #[.int .i64 o3.Kind, .int .i64 o3.Arg])) rfl HS12 ?_)
 intro b14 W15 HS16
 refine seqK rfl (does_alloc (z := Value.agg (cm_World ⟨⟨0, 0, 0, false⟩, ⟨0, 0, 0, false⟩, 0⟩ ⟨0, 0, false, false, ⟨0, 0, 0, false⟩⟩ ⟨0, 0, 0, 0⟩ ⟨false, false, false, false, false⟩ ⟨0, 0⟩ 0 0 0)) (cs := (cm_World ⟨⟨0, 0, 0, false⟩, ⟨0, 0, 0, false⟩, 0⟩ ⟨0, 0, false, false, ⟨0, 0, 0, false⟩⟩ ⟨0, 0, 0, 0⟩ ⟨false, false, false, false, false⟩ ⟨0, 0⟩ 0 0 0)) rfl kr rfl HS16 ?_)
 intro b18 W19 HS20
 refine seqL1 kr ?_
 refine nl (hK5 _ _ ?_)
 refine wp_seq_k (fun K22 hK23 => ?_)
 refine wp_seq_k fun K24 hK25 => rl ?_
 refine seqK rfl (does_run (run_loadN (n := 10) rfl Try.underlying31 rfl kr (kv (pV b6 0)) (cs := (ll_Mount m1)) rfl (HS20.u3.cells 0 10 _ rfl)) ?_)
 refine seqK rfl (does_run (run_loadN (n := 31) rfl Try.underlying59 rfl kr (kv (pV b10 0)) (cs := (ll_World vw2)) rfl (HS20.u2.cells 0 31 _ rfl)) ?_)
 replace h := bind_some h; obtain ⟨vt26, hc27, h⟩ := h
 refine seqK rfl (does_call kr (guard_Check.calls k m1 vw2 HS20 vt26 hc27) ?_)
 rintro _ W30 ⟨f28, rfl, L29, HS31⟩
 refine ⟨_, rfl, ?_⟩
 refine seqL1 kr ?_
 refine nl (hK25 _ _ ?_)
 refine wp_seq_k fun K32 hK33 => rl ?_
 refine seqL2 kr ?_
 refine nl (hK33 _ _ ?_)
 replace h := ite_some h; rcases h with ⟨c35, h⟩ | ⟨c35, h⟩
 · have c35 : vt26 ≠ 0 := c35
   refine wpRwI 16 kr (bne_iff_ne.mpr c35) ?_
   refine condT kr ?_
   refine wp_seq_k (fun K36 hK37 => ?_)
   exact nomatch h
 have c35 : ¬ (vt26 ≠ 0) := c35
 refine wpRwI 16 (x := (vt26 != 0)) (v := false) kr (bne_eq_false_iff_eq.mpr (Decidable.of_not_not c35)) ?_
 refine condF kr ?_
 refine wp_skip ?_
 refine hK23 _ _ ?_
 refine wp_seq_k (fun K38 hK39 => ?_)
 refine wp_seq_k (fun K40 hK41 => ?_)
 replace h := bind_some h; obtain ⟨v42, hv58, h⟩ := h
 have J59 : ∀ (f52 : FM) (x57 : Bool) (j56 : Nat → Value) (W54 : World) (a_ : Act), FM.le f28 f52 → some (x57) = some v42 → St t W54 f52 ([(b18, .cells (cm_World ⟨⟨0, 0, 0, false⟩, ⟨0, 0, 0, false⟩, 0⟩ ⟨0, 0, false, false, ⟨0, 0, 0, false⟩⟩ ⟨0, 0, 0, 0⟩ ⟨false, false, false, false, false⟩ ⟨0, 0⟩ 0 0 0) 59 (0, 0))] :: [(b14, .cells #[.int .i64 o3.Kind, .int .i64 o3.Arg] 67 (0, 0))] :: [(b10, .cells (cl_World vw2) 59 (0, 0))] :: [(b6, .cells (cl_Mount m1) 31 (0, 0))] :: H) → a_ = ⟨⟨[(ag_Mount m1), (ag_World vw2), .agg #[iV o3.Kind, iV o3.Arg], pV b6 0, pV b10 0, pV b14 0, pV b18 0, iV 0, iV vt26, uV, uV, uV, (ag_Mount m1), (ag_World vw2), iV vt26, iV vt26, fV, uV, uV] ++ (jr j56 0 18 ([.bool x57] ++ (un 50 [])))⟩, []⟩ → K40 a_ W54 := by
  intro f52 x57 j56 W54 a_ L53 hj60 HS55  hfr_; subst hfr_
  injection hj60 with hj60; subst hj60; try dsimp only at h
  refine hK41 _ _ ?_
  replace h := ite_some h; rcases h with ⟨c62, h⟩ | ⟨c62, h⟩
  · have c62 : x57 = true := c62
    refine wpRwI 37 kr c62 ?_
    refine condT kr ?_
    refine wp_seq_k fun K63 hK64 => rl ?_
    refine seqL1 kr ?_
    refine seqK rfl (does_storeA (vs := (lm_World ⟨⟨0, 0, 0, false⟩, ⟨0, 0, 0, false⟩, 0⟩ ⟨0, 0, false, false, ⟨0, 0, 0, false⟩⟩ ⟨0, 0, 0, 0⟩ ⟨false, false, false, false, false⟩ ⟨0, 0⟩ 0 0 0)) rfl kr kr kr rfl (ones rfl) HS55 kr ?_)
    intro W65 HS66
    refine seqL1 kr ?_
    refine nl (hK64 _ _ ?_)
    refine wp_ret ?_
    refine hret _ _ ?_
    refine ends (v := Value.tuple #[.agg (cm_World ⟨⟨0, 0, 0, false⟩, ⟨0, 0, 0, false⟩, 0⟩ ⟨0, 0, false, false, ⟨0, 0, 0, false⟩⟩ ⟨0, 0, 0, 0⟩ ⟨false, false, false, false, false⟩ ⟨0, 0⟩ 0 0 0), .int .i64 3]) (results2 (q1 := .cell 6 59) (q2 := .tmp 7) kr (resN (n := 31) (cs := (lm_World ⟨⟨0, 0, 0, false⟩, ⟨0, 0, 0, false⟩, 0⟩ ⟨0, 0, false, false, ⟨0, 0, 0, false⟩⟩ ⟨0, 0, 0, 0⟩ ⟨false, false, false, false, false⟩ ⟨0, 0⟩ 0 0 0)) (kv (pV b18 0)) Try.underlying59 rfl kr rfl (HS66.cells 0 31 _ rfl)) (resT (kv (.int .i64 3)))) kr ?_
    have HS141 := HS66.drop
    have HS142 := HS141.drop
    have HS143 := HS142.drop
    have HS144 := HS143.drop
    injection h with h
    injection h with h0_ h
    subst h0_ h
    exact ⟨f52, rfl, (L29.trans L53), HS144⟩
  have c62 : ¬ (x57 = true) := c62
  refine wpRwI 37 kr (Bool.eq_false_iff.mpr c62) ?_
  refine condF kr ?_
  refine wp_skip ?_
  refine hK39 _ _ ?_
  refine wp_seq_k (fun K67 hK68 => ?_)
  refine wp_seq_k fun K69 hK70 => rl ?_
  refine seqK rfl (does_run (run_loadN (n := 31) rfl Try.underlying59 rfl kr (kv (pV b10 0)) (cs := (ll_World vw2)) rfl (HS55.u2.cells 0 31 _ rfl)) ?_)
  refine seqL1 kr ?_
  refine seqK rfl (does_run (run_load rfl Try.underlying3 rfl (kv (pV b14 0)) (HS55.u1.cell 0)) ?_)
  replace h := bind_some h; obtain ⟨vt71, hc72, h⟩ := h
  refine seqK rfl (does_call kr (guard_permitted.calls k vw2 o3.Kind HS55 vt71 hc72) ?_)
  rintro _ W75 ⟨f73, rfl, L74, HS76⟩
  refine ⟨_, rfl, ?_⟩
  refine seqL1 kr ?_
  refine nl (hK70 _ _ ?_)
  replace h := ite_some h; rcases h with ⟨c78, h⟩ | ⟨c78, h⟩
  · have c78 : ¬ (vt71 = true) := c78
    refine wpRwI 43 kr (congrArg (fun b_ => !b_) (show vt71 = false from (Bool.eq_false_iff.mpr c78)) : (!vt71) = true) ?_
    refine condT kr ?_
    refine wp_seq_k fun K79 hK80 => rl ?_
    refine seqL1 kr ?_
    refine seqK rfl (does_storeA (vs := (lm_World ⟨⟨0, 0, 0, false⟩, ⟨0, 0, 0, false⟩, 0⟩ ⟨0, 0, false, false, ⟨0, 0, 0, false⟩⟩ ⟨0, 0, 0, 0⟩ ⟨false, false, false, false, false⟩ ⟨0, 0⟩ 0 0 0)) rfl kr kr kr rfl (ones rfl) HS76 kr ?_)
    intro W81 HS82
    refine seqL1 kr ?_
    refine nl (hK80 _ _ ?_)
    refine wp_ret ?_
    refine hret _ _ ?_
    refine ends (v := Value.tuple #[.agg (cm_World ⟨⟨0, 0, 0, false⟩, ⟨0, 0, 0, false⟩, 0⟩ ⟨0, 0, false, false, ⟨0, 0, 0, false⟩⟩ ⟨0, 0, 0, 0⟩ ⟨false, false, false, false, false⟩ ⟨0, 0⟩ 0 0 0), .int .i64 16]) (results2 (q1 := .cell 6 59) (q2 := .tmp 7) kr (resN (n := 31) (cs := (lm_World ⟨⟨0, 0, 0, false⟩, ⟨0, 0, 0, false⟩, 0⟩ ⟨0, 0, false, false, ⟨0, 0, 0, false⟩⟩ ⟨0, 0, 0, 0⟩ ⟨false, false, false, false, false⟩ ⟨0, 0⟩ 0 0 0)) (kv (pV b18 0)) Try.underlying59 rfl kr rfl (HS82.cells 0 31 _ rfl)) (resT (kv (.int .i64 16)))) kr ?_
    have HS145 := HS82.drop
    have HS146 := HS145.drop
    have HS147 := HS146.drop
    have HS148 := HS147.drop
    injection h with h
    injection h with h0_ h
    subst h0_ h
    exact ⟨f73, rfl, (L29.trans (L53.trans L74)), HS148⟩
  have c78 : ¬ (¬ (vt71 = true)) := c78
  refine wpRwI 43 (x := (!vt71)) (v := false) kr (congrArg (fun b_ => !b_) (show vt71 = true from (Decidable.of_not_not c78)) : (!vt71) = false) ?_
  refine condF kr ?_
  refine wp_skip ?_
  refine hK68 _ _ ?_
  refine wp_seq_k fun K83 hK84 => rl ?_
  refine seqL2 kr ?_
  refine seqK rfl (does_run (run_load rfl Try.underlying3 rfl (kv (pV b10 17)) (HS76.u2.cell 17)) ?_)
  refine seqL2 kr ?_
  refine nl (hK84 _ _ ?_)
  refine wp_seq_k (fun K85 hK86 => ?_)
  refine wp_seq_k (fun K87 hK88 => ?_)
  replace h := bind_some h; obtain ⟨v89, hv101, h⟩ := h
  have J102 : ∀ (f95 : FM) (x100 : Bool) (j99 : Nat → Value) (W97 : World) (a_ : Act), FM.le f73 f95 → some (x100) = some v89 → St t W97 f95 ([(b18, .cells (cm_World ⟨⟨0, 0, 0, false⟩, ⟨0, 0, 0, false⟩, 0⟩ ⟨0, 0, false, false, ⟨0, 0, 0, false⟩⟩ ⟨0, 0, 0, 0⟩ ⟨false, false, false, false, false⟩ ⟨0, 0⟩ 0 0 0) 59 (0, 0))] :: [(b14, .cells #[.int .i64 o3.Kind, .int .i64 o3.Arg] 67 (0, 0))] :: [(b10, .cells (cl_World vw2) 59 (0, 0))] :: [(b6, .cells (cl_Mount m1) 31 (0, 0))] :: H) → a_ = ⟨⟨[(ag_Mount m1), (ag_World vw2), .agg #[iV o3.Kind, iV o3.Arg], pV b6 0, pV b10 0, pV b14 0, pV b18 0, iV 0, iV vt26, .bool (vw2.Camera.Mode == 1), uV, uV, (ag_Mount m1), (ag_World vw2), iV vt26, iV vt26, fV, uV, uV] ++ (jr j56 0 18 ([fV, uV, (ag_World vw2), pV b14 0, iV o3.Kind, .bool vt71, fV, uV, pV b10 17, pV b10 17, iV vw2.Camera.Mode, .bool (vw2.Camera.Mode == 1)] ++ (jr j99 0 25 ([.bool x100] ++ (un 13 [])))))⟩, []⟩ → K87 a_ W97 := by
   intro f95 x100 j99 W97 a_ L96 hj103 HS98  hfr_; subst hfr_
   injection hj103 with hj103; subst hj103; try dsimp only at h
   refine hK88 _ _ ?_
   replace h := ite_some h; rcases h with ⟨c105, h⟩ | ⟨c105, h⟩
   · have c105 : x100 = true := c105
     refine wpRwI 74 kr c105 ?_
     refine condT kr ?_
     refine wp_seq_k fun K106 hK107 => rl ?_
     refine seqL1 kr ?_
     refine seqK rfl (does_storeA (vs := (lm_World ⟨⟨0, 0, 0, false⟩, ⟨0, 0, 0, false⟩, 0⟩ ⟨0, 0, false, false, ⟨0, 0, 0, false⟩⟩ ⟨0, 0, 0, 0⟩ ⟨false, false, false, false, false⟩ ⟨0, 0⟩ 0 0 0)) rfl kr kr kr rfl (ones rfl) HS98 kr ?_)
     intro W108 HS109
     refine seqL1 kr ?_
     refine nl (hK107 _ _ ?_)
     refine wp_ret ?_
     refine hret _ _ ?_
     refine ends (v := Value.tuple #[.agg (cm_World ⟨⟨0, 0, 0, false⟩, ⟨0, 0, 0, false⟩, 0⟩ ⟨0, 0, false, false, ⟨0, 0, 0, false⟩⟩ ⟨0, 0, 0, 0⟩ ⟨false, false, false, false, false⟩ ⟨0, 0⟩ 0 0 0), .int .i64 16]) (results2 (q1 := .cell 6 59) (q2 := .tmp 7) kr (resN (n := 31) (cs := (lm_World ⟨⟨0, 0, 0, false⟩, ⟨0, 0, 0, false⟩, 0⟩ ⟨0, 0, false, false, ⟨0, 0, 0, false⟩⟩ ⟨0, 0, 0, 0⟩ ⟨false, false, false, false, false⟩ ⟨0, 0⟩ 0 0 0)) (kv (pV b18 0)) Try.underlying59 rfl kr rfl (HS109.cells 0 31 _ rfl)) (resT (kv (.int .i64 16)))) kr ?_
     have HS149 := HS109.drop
     have HS150 := HS149.drop
     have HS151 := HS150.drop
     have HS152 := HS151.drop
     injection h with h
     injection h with h0_ h
     subst h0_ h
     exact ⟨f95, rfl, (L29.trans (L53.trans (L74.trans L96))), HS152⟩
   have c105 : ¬ (x100 = true) := c105
   refine wpRwI 74 kr (Bool.eq_false_iff.mpr c105) ?_
   refine condF kr ?_
   refine wp_skip ?_
   refine hK86 _ _ ?_
   refine wp_seq_k fun K110 hK111 => rl ?_
   refine seqK rfl (does_run (run_loadN (n := 10) rfl Try.underlying31 rfl kr (kv (pV b6 0)) (cs := (ll_Mount m1)) rfl (HS98.u3.cells 0 10 _ rfl)) ?_)
   refine seqK rfl (does_run (run_loadN (n := 31) rfl Try.underlying59 rfl kr (kv (pV b10 0)) (cs := (ll_World vw2)) rfl (HS98.u2.cells 0 31 _ rfl)) ?_)
   refine seqK rfl (does_run (run_loadN (n := 2) rfl Try.underlying67 rfl kr (kv (pV b14 0)) (cs := [.int .i64 o3.Kind, .int .i64 o3.Arg]) rfl (HS98.u1.cells 0 2 _ rfl)) ?_)
   replace h := bind_some h; obtain ⟨⟨vt112, vt113⟩, hc114, h⟩ := h
   refine seqK rfl (does_call kr (guard_carry.calls k m1 vw2 o3 HS98 vt112 vt113 hc114) ?_)
   rintro _ W117 ⟨f115, rfl, L116, HS118⟩
   refine ⟨_, rfl, ?_⟩
   refine seqL3 kr ?_
   refine seqK rfl (does_alloc (z := Value.agg (cm_World ⟨⟨0, 0, 0, false⟩, ⟨0, 0, 0, false⟩, 0⟩ ⟨0, 0, false, false, ⟨0, 0, 0, false⟩⟩ ⟨0, 0, 0, 0⟩ ⟨false, false, false, false, false⟩ ⟨0, 0⟩ 0 0 0)) (cs := (cm_World ⟨⟨0, 0, 0, false⟩, ⟨0, 0, 0, false⟩, 0⟩ ⟨0, 0, false, false, ⟨0, 0, 0, false⟩⟩ ⟨0, 0, 0, 0⟩ ⟨false, false, false, false, false⟩ ⟨0, 0⟩ 0 0 0)) rfl kr rfl HS118 ?_)
   intro b119 W120 HS121
   refine seqK rfl (does_storeA (vs := (ll_World vt112)) rfl kr kr kr rfl (ones rfl) HS121 kr ?_)
   intro W123 HS124
   refine seqL1 kr ?_
   refine nl (hK111 _ _ ?_)
   refine wp_seq_k (fun K125 hK126 => ?_)
   refine wp_seq_k fun K127 hK128 => rl ?_
   refine seqL2 kr ?_
   refine nl (hK128 _ _ ?_)
   replace h := ite_some h; rcases h with ⟨c130, h⟩ | ⟨c130, h⟩
   · have c130 : vt113 ≠ 0 := c130
     refine wpRwI 84 kr (bne_iff_ne.mpr c130) ?_
     refine condT kr ?_
     refine wp_seq_k fun K131 hK132 => rl ?_
     have HS133 := HS124.u1
     refine seqL2 kr ?_
     refine seqK rfl (does_storeA (vs := (lm_World ⟨⟨0, 0, 0, false⟩, ⟨0, 0, 0, false⟩, 0⟩ ⟨0, 0, false, false, ⟨0, 0, 0, false⟩⟩ ⟨0, 0, 0, 0⟩ ⟨false, false, false, false, false⟩ ⟨0, 0⟩ 0 0 0)) rfl kr kr kr rfl (ones rfl) HS133 kr ?_)
     intro W134 HS135
     refine seqL1 kr ?_
     refine nl (hK132 _ _ ?_)
     refine wp_ret ?_
     refine hret _ _ ?_
     refine ends (v := Value.tuple #[.agg (cm_World ⟨⟨0, 0, 0, false⟩, ⟨0, 0, 0, false⟩, 0⟩ ⟨0, 0, false, false, ⟨0, 0, 0, false⟩⟩ ⟨0, 0, 0, 0⟩ ⟨false, false, false, false, false⟩ ⟨0, 0⟩ 0 0 0), .int .i64 vt113]) (results2 (q1 := .cell 6 59) (q2 := .tmp 7) kr (resN (n := 31) (cs := (lm_World ⟨⟨0, 0, 0, false⟩, ⟨0, 0, 0, false⟩, 0⟩ ⟨0, 0, false, false, ⟨0, 0, 0, false⟩⟩ ⟨0, 0, 0, 0⟩ ⟨false, false, false, false, false⟩ ⟨0, 0⟩ 0 0 0)) (kv (pV b18 0)) Try.underlying59 rfl kr rfl (HS135.cells 0 31 _ rfl)) (resT (kv (.int .i64 vt113)))) kr ?_
     have HS153 := HS135.drop
     have HS154 := HS153.drop
     have HS155 := HS154.drop
     have HS156 := HS155.drop
     have HS157 := HS156.drop
     injection h with h
     injection h with h0_ h
     subst h0_ h
     exact ⟨f115, rfl, (L29.trans (L53.trans (L74.trans (L96.trans L116)))), HS157⟩
   have c130 : ¬ (vt113 ≠ 0) := c130
   refine wpRwI 84 (x := (vt113 != 0)) (v := false) kr (bne_eq_false_iff_eq.mpr (Decidable.of_not_not c130)) ?_
   refine condF kr ?_
   refine wp_skip ?_
   refine hK126 _ _ ?_
   refine wp_seq_k fun K136 hK137 => rl ?_
   refine seqK rfl (does_run (run_loadN (n := 31) rfl Try.underlying59 rfl kr (kv (pV b119 0)) (cs := (ll_World vt112)) rfl (HS124.cells 0 31 _ rfl)) ?_)
   have HS138 := HS124.u1
   refine seqK rfl (does_storeA (vs := (ll_World vt112)) rfl kr kr kr rfl (ones rfl) HS138 kr ?_)
   intro W139 HS140
   refine seqL1 kr ?_
   refine nl (hK137 _ _ ?_)
   refine wp_ret ?_
   refine hret _ _ ?_
   refine ends (v := Value.tuple #[.agg (cl_World vt112), .int .i64 0]) (results2 (q1 := .cell 6 59) (q2 := .tmp 7) kr (resN (n := 31) (cs := (ll_World vt112)) (kv (pV b18 0)) Try.underlying59 rfl kr rfl (HS140.cells 0 31 _ rfl)) (resT (kv (.int .i64 0)))) kr ?_
   have HS158 := HS140.drop
   have HS159 := HS158.drop
   have HS160 := HS159.drop
   have HS161 := HS160.drop
   have HS162 := HS161.drop
   injection h with h
   injection h with h0_ h
   subst h0_ h
   exact ⟨f115, rfl, (L29.trans (L53.trans (L74.trans (L96.trans L116)))), HS162⟩
  clear h; have h := hv101; clear hv101
  refine rl ?_
  refine seqL2 kr ?_
  replace h := ite_some h; rcases h with ⟨c90, h⟩ | ⟨c90, h⟩
  rotate_left
  · have c90 : ¬ (vw2.Camera.Mode = 1) := c90
    refine seqRwI 9 kr (beq_eq_false_iff_ne.mpr c90) ?_
    refine seqRwI 48 kr (beq_eq_false_iff_ne.mpr c90) ?_
    refine seqRwI 49 kr (beq_eq_false_iff_ne.mpr c90) ?_
    refine seqRwI 50 kr (beq_eq_false_iff_ne.mpr c90) ?_
    refine seqL24 kr ?_
    refine nl ?_
    refine fnRwI (F := K87) 48 (x := false) (v := (vw2.Camera.Mode == 1)) kr (Eq.symm (beq_eq_false_iff_ne.mpr c90)) ?_
    refine fnRwI (F := K87) 9 (x := false) (v := (vw2.Camera.Mode == 1)) kr (Eq.symm (beq_eq_false_iff_ne.mpr c90)) ?_
    exact J102 f73 false (jL [fV, fV]) W75 _ fL h HS76 kr
  have c90 : vw2.Camera.Mode = 1 := c90
  refine seqRwI 9 kr (beq_iff_eq.mpr c90) ?_
  refine seqRwI 48 kr (beq_iff_eq.mpr c90) ?_
  refine seqRwI 49 kr (beq_iff_eq.mpr c90) ?_
  refine seqRwI 50 kr (beq_iff_eq.mpr c90) ?_
  refine seqL1 kr ?_
  refine seqG kr (does_run (run_load rfl Try.underlying3 rfl (kv (pV b14 0)) (HS76.u1.cell 0)) ?_)
  refine seqL2 kr ?_
  replace h := ite_some h; rcases h with ⟨c91, h⟩ | ⟨c91, h⟩
  · have c91 : o3.Kind = 2 := c91
    refine seqRwI 53 kr (beq_iff_eq.mpr c91) ?_
    refine seqRwI 54 kr (beq_iff_eq.mpr c91) ?_
    refine seqL20 kr ?_
    refine nl ?_
    refine fnRwI (F := K87) 48 (x := true) (v := (vw2.Camera.Mode == 1)) kr (Eq.symm (beq_iff_eq.mpr c90)) ?_
    refine fnRwI (F := K87) 9 (x := true) (v := (vw2.Camera.Mode == 1)) kr (Eq.symm (beq_iff_eq.mpr c90)) ?_
    exact J102 f73 true (jL [tV, tV, pV b14 0, iV o3.Kind, tV, tV, uV, uV, uV, tV, tV, uV, uV, uV, tV, tV, uV, uV, uV, tV, tV, uV, uV, uV, tV]) W75 _ fL h HS76 kr
  have c91 : ¬ (o3.Kind = 2) := c91
  refine seqRwI 53 kr (beq_eq_false_iff_ne.mpr c91) ?_
  refine seqRwI 54 kr (beq_eq_false_iff_ne.mpr c91) ?_
  refine seqL1 kr ?_
  refine seqG kr (does_run (run_load rfl Try.underlying3 rfl (kv (pV b14 0)) (HS76.u1.cell 0)) ?_)
  refine seqL3 kr ?_
  replace h := ite_some h; rcases h with ⟨c92, h⟩ | ⟨c92, h⟩
  · have c92 : o3.Kind = 4 := c92
    refine seqRwI 57 kr (beq_iff_eq.mpr c92) ?_
    refine seqRwI 58 kr (beq_iff_eq.mpr c92) ?_
    refine seqRwI 59 kr (beq_iff_eq.mpr c92) ?_
    refine seqL15 kr ?_
    refine nl ?_
    refine fnRwI (F := K87) 48 (x := true) (v := (vw2.Camera.Mode == 1)) kr (Eq.symm (beq_iff_eq.mpr c90)) ?_
    refine fnRwI (F := K87) 9 (x := true) (v := (vw2.Camera.Mode == 1)) kr (Eq.symm (beq_iff_eq.mpr c90)) ?_
    exact J102 f73 true (jL [tV, tV, pV b14 0, iV o3.Kind, fV, fV, pV b14 0, iV o3.Kind, tV, tV, tV, uV, uV, uV, tV, tV, uV, uV, uV, tV, tV, uV, uV, uV, tV]) W75 _ fL h HS76 kr
  have c92 : ¬ (o3.Kind = 4) := c92
  refine seqRwI 57 kr (beq_eq_false_iff_ne.mpr c92) ?_
  refine seqRwI 58 kr (beq_eq_false_iff_ne.mpr c92) ?_
  refine seqRwI 59 kr (beq_eq_false_iff_ne.mpr c92) ?_
  refine seqL1 kr ?_
  refine seqG kr (does_run (run_load rfl Try.underlying3 rfl (kv (pV b14 0)) (HS76.u1.cell 0)) ?_)
  refine seqL3 kr ?_
  replace h := ite_some h; rcases h with ⟨c93, h⟩ | ⟨c93, h⟩
  · have c93 : o3.Kind = 5 := c93
    refine seqRwI 62 kr (beq_iff_eq.mpr c93) ?_
    refine seqRwI 63 kr (beq_iff_eq.mpr c93) ?_
    refine seqRwI 64 kr (beq_iff_eq.mpr c93) ?_
    refine seqL10 kr ?_
    refine nl ?_
    refine fnRwI (F := K87) 48 (x := true) (v := (vw2.Camera.Mode == 1)) kr (Eq.symm (beq_iff_eq.mpr c90)) ?_
    refine fnRwI (F := K87) 9 (x := true) (v := (vw2.Camera.Mode == 1)) kr (Eq.symm (beq_iff_eq.mpr c90)) ?_
    exact J102 f73 true (jL [tV, tV, pV b14 0, iV o3.Kind, fV, fV, pV b14 0, iV o3.Kind, fV, fV, fV, pV b14 0, iV o3.Kind, tV, tV, tV, uV, uV, uV, tV, tV, uV, uV, uV, tV]) W75 _ fL h HS76 kr
  have c93 : ¬ (o3.Kind = 5) := c93
  refine seqRwI 62 kr (beq_eq_false_iff_ne.mpr c93) ?_
  refine seqRwI 63 kr (beq_eq_false_iff_ne.mpr c93) ?_
  refine seqRwI 64 kr (beq_eq_false_iff_ne.mpr c93) ?_
  refine seqL1 kr ?_
  refine seqG kr (does_run (run_load rfl Try.underlying3 rfl (kv (pV b14 0)) (HS76.u1.cell 0)) ?_)
  refine seqL3 kr ?_
  replace h := ite_some h; rcases h with ⟨c94, h⟩ | ⟨c94, h⟩
  · have c94 : o3.Kind = 7 := c94
    refine seqRwI 67 kr (beq_iff_eq.mpr c94) ?_
    refine seqRwI 68 kr (beq_iff_eq.mpr c94) ?_
    refine seqRwI 69 kr (beq_iff_eq.mpr c94) ?_
    refine seqL5 kr ?_
    refine nl ?_
    refine fnRwI (F := K87) 48 (x := true) (v := (vw2.Camera.Mode == 1)) kr (Eq.symm (beq_iff_eq.mpr c90)) ?_
    refine fnRwI (F := K87) 9 (x := true) (v := (vw2.Camera.Mode == 1)) kr (Eq.symm (beq_iff_eq.mpr c90)) ?_
    exact J102 f73 true (jL [tV, tV, pV b14 0, iV o3.Kind, fV, fV, pV b14 0, iV o3.Kind, fV, fV, fV, pV b14 0, iV o3.Kind, fV, fV, fV, pV b14 0, iV o3.Kind, tV, tV, tV, uV, uV, uV, tV]) W75 _ fL h HS76 kr
  have c94 : ¬ (o3.Kind = 7) := c94
  refine seqRwI 67 kr (beq_eq_false_iff_ne.mpr c94) ?_
  refine seqRwI 68 kr (beq_eq_false_iff_ne.mpr c94) ?_
  refine seqRwI 69 kr (beq_eq_false_iff_ne.mpr c94) ?_
  refine seqL1 kr ?_
  refine seqG kr (does_run (run_load rfl Try.underlying3 rfl (kv (pV b14 0)) (HS76.u1.cell 0)) ?_)
  refine seqL3 kr ?_
  refine nl ?_
  refine fnRwI (F := K87) 48 (x := true) (v := (vw2.Camera.Mode == 1)) kr (Eq.symm (beq_iff_eq.mpr c90)) ?_
  refine fnRwI (F := K87) 9 (x := true) (v := (vw2.Camera.Mode == 1)) kr (Eq.symm (beq_iff_eq.mpr c90)) ?_
  exact J102 f73 (o3.Kind == 8) (jL [tV, tV, pV b14 0, iV o3.Kind, fV, fV, pV b14 0, iV o3.Kind, fV, fV, fV, pV b14 0, iV o3.Kind, fV, fV, fV, pV b14 0, iV o3.Kind, fV, fV, fV, pV b14 0, iV o3.Kind, .bool (o3.Kind == 8), .bool (o3.Kind == 8)]) W75 _ fL h HS76 kr
 clear h; have h := hv58; clear hv58
 refine rl ?_
 refine seqL1 kr ?_
 refine seqK rfl (does_run (run_load rfl Try.underlying3 rfl (kv (pV b14 0)) (HS31.u1.cell 0)) ?_)
 refine seqL2 kr ?_
 replace h := ite_some h; rcases h with ⟨c43, h⟩ | ⟨c43, h⟩
 · have c43 : o3.Kind < 0 := c43
   refine seqRwI 21 kr (decide_eq_true c43) ?_
   refine seqRwI 22 kr (decide_eq_true c43) ?_
   refine seqL15 kr ?_
   refine nl ?_
   exact J59 f28 true (jL [pV b14 0, iV o3.Kind, tV, tV, uV, uV, uV, tV, tV]) W30 _ fL h HS31 kr
 have c43 : ¬ (o3.Kind < 0) := c43
 refine seqRwI 21 kr (decide_eq_false c43) ?_
 refine seqRwI 22 kr (decide_eq_false c43) ?_
 refine seqL1 kr ?_
 refine seqG kr (does_run (run_load rfl Try.underlying3 rfl (kv (pV b14 0)) (HS31.u1.cell 0)) ?_)
 refine seqL3 kr ?_
 replace h := ite_some h; rcases h with ⟨c44, h⟩ | ⟨c44, h⟩
 · have c44 : o3.Kind ≥ 14 := c44
   refine seqRwI 25 kr (decide_eq_true c44) ?_
   refine seqRwI 26 kr (decide_eq_true c44) ?_
   refine seqRwI 27 kr (decide_eq_true c44) ?_
   refine seqL10 kr ?_
   refine nl ?_
   exact J59 f28 true (jL [pV b14 0, iV o3.Kind, fV, fV, pV b14 0, iV o3.Kind, tV, tV, tV]) W30 _ fL h HS31 kr
 have c44 : ¬ (o3.Kind ≥ 14) := c44
 refine seqRwI 25 kr (decide_eq_false c44) ?_
 refine seqRwI 26 kr (decide_eq_false c44) ?_
 refine seqRwI 27 kr (decide_eq_false c44) ?_
 refine seqL1 kr ?_
 refine seqG kr (does_run (run_load rfl Try.underlying3 rfl (kv (pV b14 0)) (HS31.u1.cell 0)) ?_)
 replace h := bind_some h; obtain ⟨vt45, hc46, h⟩ := h
 refine seqG kr (does_call kr (guard_uses.calls k o3.Kind HS31 vt45 hc46) ?_)
 rintro _ W49 ⟨f47, rfl, L48, HS50⟩
 refine ⟨_, rfl, ?_⟩
 refine seqL2 kr ?_
 replace h := ite_some h; rcases h with ⟨c51, h⟩ | ⟨c51, h⟩
 · have c51 : ¬ (vt45 = true) := c51
   refine seqRwI 31 kr (congrArg (fun b_ => !b_) (show vt45 = false from (Bool.eq_false_iff.mpr c51)) : (!vt45) = true) ?_
   refine seqRwI 32 kr (congrArg (fun b_ => !b_) (show vt45 = false from (Bool.eq_false_iff.mpr c51)) : (!vt45) = true) ?_
   refine seqL1 kr ?_
   refine seqG kr (does_run (run_load rfl Try.underlying2 rfl (kv (pV b14 1)) (HS50.u1.cell 1)) ?_)
   refine seqL3 kr ?_
   refine nl ?_
   exact J59 f47 (o3.Arg != 0) (jL [pV b14 0, iV o3.Kind, fV, fV, pV b14 0, iV o3.Kind, fV, fV, fV, pV b14 0, iV o3.Kind, .bool vt45, tV, tV, pV b14 1, iV o3.Arg, .bool (o3.Arg != 0), .bool (o3.Arg != 0)]) W49 _ L48 h HS50 kr
 have c51 : ¬ (¬ (vt45 = true)) := c51
 refine seqRwI 31 (x := (!vt45)) (v := false) kr (congrArg (fun b_ => !b_) (show vt45 = true from (Decidable.of_not_not c51)) : (!vt45) = false) ?_
 refine seqRwI 32 (x := (!vt45)) (v := false) kr (congrArg (fun b_ => !b_) (show vt45 = true from (Decidable.of_not_not c51)) : (!vt45) = false) ?_
 refine seqL5 kr ?_
 refine nl ?_
 exact J59 f47 false (jL [pV b14 0, iV o3.Kind, fV, fV, pV b14 0, iV o3.Kind, fV, fV, fV, pV b14 0, iV o3.Kind, .bool vt45, fV, fV, uV, uV, uV, fV]) W49 _ L48 h HS50 kr

set_option maxRecDepth 100000 in
set_option maxHeartbeats 4000000 in
theorem guard_count.calls (k : Nat)  (n1 : Int) (on2 : Bool) {t w : World} {f : FM} {H : List Seg} (HS : St t w f (H)) (rr1 : Int) (h : guard_count k n1 on2 = some rr1) :
    Calls Try.prog 32 #[.int .i64 n1, .bool on2] w (fun e w' => ∃ (g : FM), e = .returned (Value.int .i64 rr1) ∧ FM.le f g ∧ St t w' g (H)) := by
 unfold guard_count at h
 refine enter Try.func32 rfl (tm := ⟨[iV n1, .bool on2] ++ (un 8 [])⟩) kr ?_
 intro B hret hnor hnp
 refine wp_seq_k fun K3 hK4 => rl ?_
 refine seqL1 kr ?_
 refine nl (hK4 _ _ ?_)
 refine wp_seq_k (fun K5 hK6 => ?_)
 refine wp_seq_k fun K7 hK8 => rl ?_
 refine seqL2 kr ?_
 refine nl (hK8 _ _ ?_)
 replace h := ite_some h; rcases h with ⟨c10, h⟩ | ⟨c10, h⟩
 · have c10 : ¬ (on2 = true) := c10
   refine wpRwI 6 kr (congrArg (fun b_ => !b_) (show on2 = false from (Bool.eq_false_iff.mpr c10)) : (!on2) = true) ?_
   refine condT kr ?_
   refine wp_seq_k fun K11 hK12 => rl ?_
   refine seqL1 kr ?_
   refine nl (hK12 _ _ ?_)
   refine wp_ret ?_
   refine hret _ _ ?_
   refine ends_still (v := Value.int .i64 0) kr kr ?_
   injection h with h
   subst h
   exact ⟨f, rfl, FM.le.refl _, HS⟩
 have c10 : ¬ (¬ (on2 = true)) := c10
 refine wpRwI 6 (x := (!on2)) (v := false) kr (congrArg (fun b_ => !b_) (show on2 = true from (Decidable.of_not_not c10)) : (!on2) = false) ?_
 refine condF kr ?_
 refine wp_skip ?_
 refine hK6 _ _ ?_
 refine wp_seq_k fun K13 hK14 => rl ?_
 refine seqL4 kr ?_
 refine nl (hK14 _ _ ?_)
 refine wp_ret ?_
 refine hret _ _ ?_
 refine ends_still (v := Value.int .i64 (mn (w64 (n1 + 1)) 17592186044416)) kr kr ?_
 injection h with h
 subst h
 exact ⟨f, rfl, FM.le.refl _, HS⟩

set_option maxRecDepth 100000 in
set_option maxHeartbeats 4000000 in
theorem guard_lock.calls (k : Nat)  (m1 : S_Mount) (vw2 : S_World) {t w : World} {f : FM} {H : List Seg} (HS : St t w f (H)) (rr1 : S_World) (h : guard_lock k m1 vw2 = some rr1) :
    Calls Try.prog 35 #[.agg (cl_Mount m1), .agg (cl_World vw2)] w (fun e w' => ∃ (g : FM), e = .returned (Value.agg (cl_World rr1)) ∧ FM.le f g ∧ St t w' g (H)) := by
 unfold guard_lock at h
 refine enter Try.func35 rfl (tm := ⟨[(ag_Mount m1), (ag_World vw2)] ++ (un 30 [])⟩) kr ?_
 intro B hret hnor hnp
 refine wp_seq_k fun K3 hK4 => rl ?_
 refine seqK rfl (does_box (cs := (cl_Mount m1)) rfl (kv (.agg (cl_Mount m1))) rfl HS ?_)
 intro b5 W6 HS7
 refine seqK rfl (does_box (cs := (cl_World vw2)) rfl (kv (.agg (cl_World vw2))) rfl HS7 ?_)
 intro b9 W10 HS11
 refine seqK rfl (does_alloc (z := Value.agg (cm_World ⟨⟨0, 0, 0, false⟩, ⟨0, 0, 0, false⟩, 0⟩ ⟨0, 0, false, false, ⟨0, 0, 0, false⟩⟩ ⟨0, 0, 0, 0⟩ ⟨false, false, false, false, false⟩ ⟨0, 0⟩ 0 0 0)) (cs := (cm_World ⟨⟨0, 0, 0, false⟩, ⟨0, 0, 0, false⟩, 0⟩ ⟨0, 0, false, false, ⟨0, 0, 0, false⟩⟩ ⟨0, 0, 0, 0⟩ ⟨false, false, false, false, false⟩ ⟨0, 0⟩ 0 0 0)) rfl kr rfl HS11 ?_)
 intro b13 W14 HS15
 refine nl (hK4 _ _ ?_)
 refine wp_seq_k (fun K17 hK18 => ?_)
 refine wp_seq_k fun K19 hK20 => rl ?_
 refine seqL2 kr ?_
 refine seqK rfl (does_run (run_load rfl Try.underlying3 rfl (kv (pV b9 17)) (HS15.u1.cell 17)) ?_)
 refine seqL1 kr ?_
 refine nl (hK20 _ _ ?_)
 replace h := bind_some h; obtain ⟨v21, hv39, h⟩ := h
 have J40 : ∀ (f33 : FM) (x38 : S_World) (j37 : Nat → Value) (W35 : World) (a_ : Act), FM.le f f33 → some (x38) = some v21 → St t W35 f33 ([(b13, .cells (cm_World ⟨⟨0, 0, 0, false⟩, ⟨0, 0, 0, false⟩, 0⟩ ⟨0, 0, false, false, ⟨0, 0, 0, false⟩⟩ ⟨0, 0, 0, 0⟩ ⟨false, false, false, false, false⟩ ⟨0, 0⟩ 0 0 0) 59 (0, 0))] :: [(b9, .cells (cl_World x38) 59 (0, 0))] :: [(b5, .cells (cl_Mount m1) 31 (0, 0))] :: H) → a_ = ⟨⟨[(ag_Mount m1), (ag_World vw2), pV b5 0, pV b9 0, pV b13 0, pV b9 17, pV b9 17, iV vw2.Camera.Mode, .bool (vw2.Camera.Mode == 1)] ++ (jr j37 0 7 (un 16 []))⟩, []⟩ → K17 a_ W35 := by
  intro f33 x38 j37 W35 a_ L34 hj41 HS36  hfr_; subst hfr_
  injection hj41 with hj41; subst hj41; try dsimp only at h
  refine hK18 _ _ ?_
  refine wp_seq_k fun K45 hK46 => rl ?_
  refine seqK rfl (does_run (run_loadN (n := 10) rfl Try.underlying31 rfl kr (kv (pV b5 0)) (cs := (ll_Mount m1)) rfl (HS36.u2.cells 0 10 _ rfl)) ?_)
  refine seqL1 kr ?_
  refine seqK rfl (does_run (run_loadN (n := 9) rfl Try.underlying51 rfl kr (kv (pV b9 0)) (cs := (ll_State2 x38.Mount)) rfl (HS36.u1.cells 0 9 _ rfl)) ?_)
  replace h := bind_some h; obtain ⟨⟨vt47, vt48⟩, hc49, h⟩ := h
  refine seqK rfl (does_call kr (mount_Stop.calls k m1 x38.Mount HS36 vt47 vt48 hc49) ?_)
  rintro _ W52 ⟨f50, rfl, L51, HS53⟩
  refine ⟨_, rfl, ?_⟩
  have HS54 := HS53.u1
  refine seqL4 kr ?_
  refine seqK rfl (does_store (n := 9) (vs := (ll_State2 vt47)) (cs' := (cm_World vt47 x38.Dome x38.Camera x38.Sensors x38.Aim x38.Mode x38.Hazard x38.Key)) rfl kr (kv (pV b9 0)) (kv (.agg (cl_State2 vt47))) rfl rfl (ones rfl) HS54 (Nat.le_of_ble_eq_true rfl) kr ?_)
  intro W55 HS56
  refine nl (hK46 _ _ ?_)
  refine wp_seq_k fun K57 hK58 => rl ?_
  refine seqL1 kr ?_
  refine seqK rfl (does_run (run_loadN (n := 8) rfl Try.underlying53 rfl kr (kv (pV b9 9)) (cs := (ll_State3 x38.Dome)) rfl (HS56.cells 9 8 _ rfl)) ?_)
  replace h := bind_some h; obtain ⟨⟨vt59, vt60⟩, hc61, h⟩ := h
  refine seqK rfl (does_call kr (dome_Brake.calls k x38.Dome HS56 vt59 vt60 hc61) ?_)
  rintro _ W64 ⟨f62, rfl, L63, HS65⟩
  refine ⟨_, rfl, ?_⟩
  refine seqL4 kr ?_
  refine seqK rfl (does_store (n := 8) (vs := (ll_State3 vt59)) (cs' := (cm_World vt47 vt59 x38.Camera x38.Sensors x38.Aim x38.Mode x38.Hazard x38.Key)) rfl kr (kv (pV b9 9)) (kv (.agg (cl_State3 vt59))) rfl rfl (ones rfl) HS65 (Nat.le_of_ble_eq_true rfl) kr ?_)
  intro W66 HS67
  refine nl (hK58 _ _ ?_)
  refine wp_seq_k fun K68 hK69 => rl ?_
  refine seqK rfl (does_run (run_loadN (n := 31) rfl Try.underlying59 rfl kr (kv (pV b9 0)) (cs := (lm_World vt47 vt59 x38.Camera x38.Sensors x38.Aim x38.Mode x38.Hazard x38.Key)) rfl (HS67.cells 0 31 _ rfl)) ?_)
  have HS70 := HS67.u1
  refine seqK rfl (does_storeA (vs := (lm_World vt47 vt59 x38.Camera x38.Sensors x38.Aim x38.Mode x38.Hazard x38.Key)) rfl kr kr kr rfl (ones rfl) HS70 kr ?_)
  intro W71 HS72
  refine nl (hK69 _ _ ?_)
  refine wp_ret ?_
  refine hret _ _ ?_
  refine ends (v := Value.agg (cm_World vt47 vt59 x38.Camera x38.Sensors x38.Aim x38.Mode x38.Hazard x38.Key)) (results1 (q1 := .cell 4 59) kr (resN (n := 31) (cs := (lm_World vt47 vt59 x38.Camera x38.Sensors x38.Aim x38.Mode x38.Hazard x38.Key)) (kv (pV b13 0)) Try.underlying59 rfl kr rfl (HS72.cells 0 31 _ rfl))) kr ?_
  have HS73 := HS72.drop
  have HS74 := HS73.drop
  have HS75 := HS74.drop
  injection h with h
  subst h
  exact ⟨f62, rfl, (L34.trans (L51.trans L63)), HS75⟩
 clear h; have h := hv39; clear hv39
 replace h := ite_some h; rcases h with ⟨c22, h⟩ | ⟨c22, h⟩
 rotate_left
 · have c22 : ¬ (vw2.Camera.Mode = 1) := c22
   refine wpRwI 8 kr (beq_eq_false_iff_ne.mpr c22) ?_
   refine condF kr ?_
   refine wp_skip ?_
   refine fnRwI (F := K17) 8 (x := false) (v := (vw2.Camera.Mode == 1)) kr (Eq.symm (beq_eq_false_iff_ne.mpr c22)) ?_
   exact J40 f vw2 (jL []) W14 _ fL h HS15 kr
 have c22 : vw2.Camera.Mode = 1 := c22
 refine wpRwI 8 kr (beq_iff_eq.mpr c22) ?_
 refine condT kr ?_
 refine rl ?_
 refine seqL1 kr ?_
 refine seqK rfl (does_run (run_loadN (n := 4) rfl Try.underlying55 rfl kr (kv (pV b9 17)) (cs := (ll_State4 vw2.Camera)) rfl (HS15.u1.cells 17 4 _ rfl)) ?_)
 replace h := bind_some h; obtain ⟨⟨vt23, vt24⟩, hc25, h⟩ := h
 refine seqK rfl (does_call kr (camera_Abort.calls k vw2.Camera HS15 vt23 vt24 hc25) ?_)
 rintro _ W28 ⟨f26, rfl, L27, HS29⟩
 refine ⟨_, rfl, ?_⟩
 have HS30 := HS29.u1
 refine seqL4 kr ?_
 refine seqK rfl (does_store (n := 4) (vs := (ll_State4 vt23)) (cs' := (cm_World vw2.Mount vw2.Dome vt23 vw2.Sensors vw2.Aim vw2.Mode vw2.Hazard vw2.Key)) rfl kr (kv (pV b9 17)) (kv (.agg (cl_State4 vt23))) rfl rfl (ones rfl) HS30 (Nat.le_of_ble_eq_true rfl) kr ?_)
 intro W31 HS32
 refine nl ?_
 refine fnRwI (F := K17) 8 (x := true) (v := (vw2.Camera.Mode == 1)) kr (Eq.symm (beq_iff_eq.mpr c22)) ?_
 have HS44 := HS32.u2.u1.u2
 exact J40 f26 (⟨vw2.Mount, vw2.Dome, vt23, vw2.Sensors, (⟨vw2.Aim.Az, vw2.Aim.Alt⟩ : S_Pose), vw2.Mode, vw2.Hazard, vw2.Key⟩ : S_World) (jL [.tuple #[(ag_State4 vt23), .int .i64 vt24], pV b9 17, (ag_State4 vw2.Camera), .tuple #[(ag_State4 vt23), .int .i64 vt24], (ag_State4 vt23), iV vt24, pV b9 17]) W31 _ L27 h HS44 kr

set_option maxRecDepth 100000 in
set_option maxHeartbeats 4000000 in
theorem slew_fastest.calls (k : Nat)  (a1 : S_Axis) (d2 : Int) {t w : World} {f : FM} {H : List Seg} (HS : St t w f (H)) (rr1 : Int) (h : slew_fastest k a1 d2 = some rr1) :
    Calls Try.prog 89 #[.agg (cl_Axis a1), .int .i64 d2] w (fun e w' => ∃ (g : FM), e = .returned (Value.int .i64 rr1) ∧ FM.le f g ∧ St t w' g (H)) := by
 unfold slew_fastest at h
 refine enter Try.func89 rfl (tm := ⟨[(ag_Axis a1), iV d2] ++ (un 35 [])⟩) kr ?_
 intro B hret hnor hnp
 refine wp_seq_k fun K3 hK4 => rl ?_
 refine seqK rfl (does_box (cs := (cl_Axis a1)) rfl (kv (.agg (cl_Axis a1))) rfl HS ?_)
 intro b5 W6 HS7
 refine seqL1 kr ?_
 refine nl (hK4 _ _ ?_)
 refine wp_seq_k (fun K9 hK10 => ?_)
 refine wp_seq_k fun K11 hK12 => rl ?_
 refine seqL1 kr ?_
 refine nl (hK12 _ _ ?_)
 refine blockK (fun B13 hx14 hn15 hr16 ho17 hp18 => ?_)
 replace h := bind_some h; obtain ⟨o19, hv65, h⟩ := h
 have JR67 : ∀ z_, some (Sum.inl z_) = some o19 → some z_ = some rr1 := by
  intro z_ e_; injection e_ with e_; subst e_; exact h
 have J66 : ∀ (f60 : FM) (j64 : Nat → Value) (W62 : World) (a_ : Act), FM.le f f60 → some (Sum.inr ()) = some o19 → St t W62 f60 ([(b5, .cells (cl_Axis a1) 27 (0, 0))] :: H) → a_ = ⟨⟨[(ag_Axis a1), iV d2, pV b5 0, uV] ++ (jr j64 0 31 [uV, uV])⟩, []⟩ → K9 a_ W62 := by
  intro f60 j64 W62 a_ L61 hj68 HS63  hfr_; subst hfr_
  injection hj68 with hj68; subst hj68; try dsimp only at h
  simp only [Sum.elim_inr] at h
  refine hK10 _ _ ?_
  refine wp_seq_k fun K69 hK70 => rl ?_
  refine seqL1 kr ?_
  refine seqK rfl (does_run (run_load rfl Try.underlying2 rfl (kv (pV b5 2)) (HS63.cell 2)) ?_)
  refine seqL1 kr ?_
  refine nl (hK70 _ _ ?_)
  refine wp_ret ?_
  refine hret _ _ ?_
  refine ends_still (v := Value.int .i64 a1.Speed) kr kr ?_
  have HS72 := HS63.drop
  injection h with h
  subst h
  exact ⟨f60, rfl, L61, HS72⟩
 clear h; have h := hv65; clear hv65
 refine loopK (fun n_ a_ w_ => ∃ (f23 : FM) (vk28 : Int) (j27 : Nat → Value), FM.le f f23 ∧ St t w_ f23 ([(b5, .cells (cl_Axis a1) 27 (0, 0))] :: H) ∧ slew_fastest.l0 k d2 a1 n_ vk28 = some o19 ∧ a_ = ⟨⟨[(ag_Axis a1), iV d2, pV b5 0, uV, (j27 0), iV vk28] ++ (jr j27 1 29 [uV, uV])⟩, []⟩) k ⟨f, 1, (jL [iV 0]), fL, HS7, h, kr⟩ ?_
 clear h
 rintro n22 _ W25 ⟨f23, vk28, j27, L24, HS26, h, rfl⟩ K20 hK21
 obtain _ | n22 := n22
 · exact nomatch h
 simp only [slew_fastest.l0] at h
 refine wp_seq_k (fun K29 hK30 => ?_)
 refine wp_seq_k fun K31 hK32 => rl ?_
 refine seqL2 kr ?_
 refine nl (hK32 _ _ ?_)
 replace h := ite_some h; rcases h with ⟨c34, h⟩ | ⟨c34, h⟩
 rotate_left
 · have c34 : ¬ (vk28 ≤ 64) := c34
   refine wpRwI 7 kr (decide_eq_false c34) ?_
   refine condF kr ?_
   refine wp_exit ?_
   refine hx14 _ _ ?_
   exact J66 f23 (jL [(j27 0), iV vk28, iV vk28, fV, (j27 3), (j27 4), (j27 5), (j27 6), (j27 7), (j27 8), (j27 9), (j27 10), (j27 11), (j27 12), (j27 13), (j27 14), (j27 15), (j27 16), (j27 17), (j27 18), (j27 19), (j27 20), (j27 21), (j27 22), (j27 23), (j27 24), (j27 25), (j27 26), (j27 27), (j27 28), (j27 29)]) W25 _ L24 h HS26 kr
 have c34 : vk28 ≤ 64 := c34
 refine wpRwI 7 kr (decide_eq_true c34) ?_
 refine condT kr ?_
 refine wp_skip ?_
 refine hK30 _ _ ?_
 refine wp_seq_k (fun K35 hK36 => ?_)
 refine blockK (fun B37 hx38 hn39 hr40 ho41 hp42 => ?_)
 refine wp_seq_k fun K44 hK45 => rl ?_
 refine seqL2 kr ?_
 refine seqK rfl (does_run (run_load rfl Try.underlying2 rfl (kv (pV b5 3)) (HS26.cell 3)) ?_)
 refine seqL7 kr ?_
 refine nl (hK45 _ _ ?_)
 replace h := ite_some h; rcases h with ⟨c47, h⟩ | ⟨c47, h⟩
 rotate_left
 · have c47 : ¬ (d2 ≤ (w64 (a1.Accel * (w64 (Int.tdiv (w64 (vk28 * (w64 (vk28 + 1)))) 2))))) := c47
   refine wpRwI 19 kr (decide_eq_false c47) ?_
   refine condF kr ?_
   refine wp_skip ?_
   refine hn39 _ _ ?_
   refine hK36 _ _ ?_
   refine rl ?_
   refine seqL3 kr ?_
   refine nl ?_
   refine hK21 n22 _ _ (Nat.lt_succ_self _) ?_
   exact ⟨f23, (w64 (vk28 + 1)), (jL [(j27 0), iV vk28, tV, iV vk28, iV (w64 (vk28 + 1)), iV d2, pV b5 3, iV a1.Accel, iV vk28, iV vk28, iV (w64 (vk28 + 1)), iV (w64 (vk28 * (w64 (vk28 + 1)))), iV (w64 (Int.tdiv (w64 (vk28 * (w64 (vk28 + 1)))) 2)), iV (w64 (a1.Accel * (w64 (Int.tdiv (w64 (vk28 * (w64 (vk28 + 1)))) 2)))), fV, (j27 15), (j27 16), (j27 17), (j27 18), (j27 19), (j27 20), (j27 21), (j27 22), (j27 23), (j27 24), (j27 25), (j27 26), (j27 27), (j27 28), (j27 29)]), L24, HS26, h, kr⟩
 have c47 : d2 ≤ (w64 (a1.Accel * (w64 (Int.tdiv (w64 (vk28 * (w64 (vk28 + 1)))) 2)))) := c47
 refine wpRwI 19 kr (decide_eq_true c47) ?_
 refine condT kr ?_
 refine wp_seq_k (fun K48 hK49 => ?_)
 refine heldG (S := Sg t f23 ([(b5, .cells (cl_Axis a1) 27 (0, 0))] :: H) []) (n := 16) kr rfl HS26 ?_
 intro W50 HS51
 refine gL [0] (fuel := 15) (bA 16 1) rfl kr kr kr (fun ch_ a_ w_ q_ => (fun ch_ a_ w_ q_ => hnp ch_ a_ w_ (hp18 ch_ a_ w_ q_)) ch_ a_ w_ (hp42 ch_ a_ w_ q_)) (Sg.g0 (Sx.of [] fL HS51)) fun X52 => ?_
 refine gQ 1 rfl kr kr kr kr kr (fun ch_ a_ w_ q_ => (fun ch_ a_ w_ q_ => hnp ch_ a_ w_ (hp18 ch_ a_ w_ q_)) ch_ a_ w_ (hp42 ch_ a_ w_ q_)) X52 (fun hl_ hS_ => run_load rfl Try.underlying2 rfl (kv (pV b5 2)) (hS_.cell 2)) fun X53 => ?_
 refine gL [2, 3] (fuel := 12) (bA 16 15) rfl kr kr kr (fun ch_ a_ w_ q_ => (fun ch_ a_ w_ q_ => hnp ch_ a_ w_ (hp18 ch_ a_ w_ q_)) ch_ a_ w_ (hp42 ch_ a_ w_ q_)) X53 fun X54 => ?_
 refine gQ 4 rfl kr kr kr kr kr (fun ch_ a_ w_ q_ => (fun ch_ a_ w_ q_ => hnp ch_ a_ w_ (hp18 ch_ a_ w_ q_)) ch_ a_ w_ (hp42 ch_ a_ w_ q_)) X54 (fun hl_ hS_ => run_load rfl Try.underlying2 rfl (kv (pV b5 3)) (hS_.cell 3)) fun X55 => ?_
 replace h := guard_some h; obtain ⟨c56, h⟩ := h
 have c56 : ¬ (vk28 = 0) := c56
 refine gL [5, 6, 7, 8, 9, 10, 11, 12] (fuel := 3) (bA 16 8191) rfl kr kr kr (fun ch_ a_ w_ q_ => (fun ch_ a_ w_ q_ => hnp ch_ a_ w_ (hp18 ch_ a_ w_ q_)) ch_ a_ w_ (hp42 ch_ a_ w_ q_)) X55 fun X57 => ?_
 refine gQ 13 rfl kr kr kr kr kr (fun ch_ a_ w_ q_ => (fun ch_ a_ w_ q_ => hnp ch_ a_ w_ (hp18 ch_ a_ w_ q_)) ch_ a_ w_ (hp42 ch_ a_ w_ q_)) X57 (fun hl_ hS_ => run_div rfl (kv (.int .i64 (w64 (d2 + (w64 (a1.Accel * (w64 (Int.tdiv (w64 (vk28 * (w64 (vk28 - 1)))) 2)))))))) (kv (.int .i64 vk28)) c56 _) fun X58 => ?_
 refine gL [14, 15] (fuel := 0) (bA 16 65535) rfl kr kr kr (fun ch_ a_ w_ q_ => (fun ch_ a_ w_ q_ => hnp ch_ a_ w_ (hp18 ch_ a_ w_ q_)) ch_ a_ w_ (hp42 ch_ a_ w_ q_)) X58 fun X59 => ?_
 refine doneG kr ?_ _
 refine hK49 _ _ ?_
 refine wp_ret ?_
 refine hr40 _ _ ?_
 refine hr16 _ _ ?_
 refine hret _ _ ?_
 refine ends_still (v := Value.int .i64 (mn a1.Speed (w64 (Int.tdiv (w64 (d2 + (w64 (a1.Accel * (w64 (Int.tdiv (w64 (vk28 * (w64 (vk28 - 1)))) 2)))))) vk28)))) kr kr ?_
 have HS71 := HS51.drop
 replace h := JR67 _ h
 injection h with h
 subst h
 exact ⟨f23, rfl, L24, HS71⟩

set_option maxRecDepth 100000 in
set_option maxHeartbeats 4000000 in
theorem slew_Fastest.calls (k : Nat)  (a1 : S_Axis) (d2 : Int) {t w : World} {f : FM} {H : List Seg} (HS : St t w f (H)) (rr1 : Int) (h : slew_Fastest k a1 d2 = some rr1) :
    Calls Try.prog 87 #[.agg (cl_Axis a1), .int .i64 d2] w (fun e w' => ∃ (g : FM), e = .returned (Value.int .i64 rr1) ∧ FM.le f g ∧ St t w' g (H)) := by
 unfold slew_Fastest at h
 refine enter Try.func87 rfl (tm := ⟨[(ag_Axis a1), iV d2] ++ (un 13 [])⟩) kr ?_
 intro B hret hnor hnp
 refine wp_seq_k fun K3 hK4 => rl ?_
 refine seqK rfl (does_box (cs := (cl_Axis a1)) rfl (kv (.agg (cl_Axis a1))) rfl HS ?_)
 intro b5 W6 HS7
 refine seqL1 kr ?_
 refine nl (hK4 _ _ ?_)
 refine wp_seq_k (fun K9 hK10 => ?_)
 refine wp_seq_k fun K11 hK12 => rl ?_
 refine seqK rfl (does_run (run_loadN (n := 4) rfl Try.underlying27 rfl kr (kv (pV b5 0)) (cs := (ll_Axis a1)) rfl (HS7.cells 0 4 _ rfl)) ?_)
 replace h := bind_some h; obtain ⟨vt14, hc15, h⟩ := h
 refine seqK rfl (does_call kr (slew_CheckAxis.calls k a1 HS7 vt14 hc15) ?_)
 rintro _ W18 ⟨f16, rfl, L17, HS19⟩
 refine ⟨_, rfl, ?_⟩
 refine seqL2 kr ?_
 replace h := ite_some h; rcases h with ⟨c20, h⟩ | ⟨c20, h⟩
 · have c20 : vt14 ≠ 0 := c20
   refine seqRwI 7 kr (bne_iff_ne.mpr c20) ?_
   refine seqRwI 8 kr (bne_iff_ne.mpr c20) ?_
   refine seqL3 kr ?_
   refine nl (hK12 _ _ ?_)
   refine condT kr ?_
   refine wp_seq_k (fun K21 hK22 => ?_)
   exact nomatch h
 have c20 : ¬ (vt14 ≠ 0) := c20
 refine seqRwI 7 (x := (vt14 != 0)) (v := false) kr (bne_eq_false_iff_eq.mpr (Decidable.of_not_not c20)) ?_
 refine seqRwI 8 (x := (vt14 != 0)) (v := false) kr (bne_eq_false_iff_eq.mpr (Decidable.of_not_not c20)) ?_
 refine seqL3 kr ?_
 refine nl (hK12 _ _ ?_)
 replace h := ite_some h; rcases h with ⟨c24, h⟩ | ⟨c24, h⟩
 · have c24 : d2 < 0 := c24
   refine wpRwI 10 kr (decide_eq_true c24) ?_
   refine wpRwI 11 kr (decide_eq_true c24) ?_
   refine condT kr ?_
   refine wp_seq_k (fun K25 hK26 => ?_)
   exact nomatch h
 have c24 : ¬ (d2 < 0) := c24
 refine wpRwI 10 kr (decide_eq_false c24) ?_
 refine wpRwI 11 kr (decide_eq_false c24) ?_
 refine condF kr ?_
 refine wp_skip ?_
 refine hK10 _ _ ?_
 refine wp_seq_k fun K27 hK28 => rl ?_
 refine seqK rfl (does_run (run_loadN (n := 4) rfl Try.underlying27 rfl kr (kv (pV b5 0)) (cs := (ll_Axis a1)) rfl (HS19.cells 0 4 _ rfl)) ?_)
 replace h := bind_some h; obtain ⟨vt29, hc30, h⟩ := h
 refine seqL1 kr ?_
 refine seqK rfl (does_call kr (slew_fastest.calls k a1 d2 HS19 vt29 hc30) ?_)
 rintro _ W33 ⟨f31, rfl, L32, HS34⟩
 refine ⟨_, rfl, ?_⟩
 refine seqL1 kr ?_
 refine nl (hK28 _ _ ?_)
 refine wp_ret ?_
 refine hret _ _ ?_
 refine ends_still (v := Value.int .i64 vt29) kr kr ?_
 have HS35 := HS34.drop
 injection h with h
 subst h
 exact ⟨f31, rfl, (L17.trans L32), HS35⟩

set_option maxRecDepth 100000 in
set_option maxHeartbeats 4000000 in
theorem axis_next.calls (k : Nat)  (a1 : S_Axis) (d2 : Int) (v3 : Int) {t w : World} {f : FM} {H : List Seg} (HS : St t w f (H)) (rr1 : Int) (h : axis_next k a1 d2 v3 = some rr1) :
    Calls Try.prog 77 #[.agg (cl_Axis a1), .int .i64 d2, .int .i64 v3] w (fun e w' => ∃ (g : FM), e = .returned (Value.int .i64 rr1) ∧ FM.le f g ∧ St t w' g (H)) := by
 unfold axis_next at h
 refine enter Try.func77 rfl (tm := ⟨[(ag_Axis a1), iV d2, iV v3] ++ (un 27 [])⟩) kr ?_
 intro B hret hnor hnp
 refine wp_seq_k fun K4 hK5 => rl ?_
 refine seqK rfl (does_box (cs := (cl_Axis a1)) rfl (kv (.agg (cl_Axis a1))) rfl HS ?_)
 intro b6 W7 HS8
 refine seqL1 kr ?_
 refine nl (hK5 _ _ ?_)
 refine wp_seq_k (fun K10 hK11 => ?_)
 refine wp_seq_k fun K12 hK13 => rl ?_
 refine seqL2 kr ?_
 refine nl (hK13 _ _ ?_)
 replace h := ite_some h; rcases h with ⟨c15, h⟩ | ⟨c15, h⟩
 · have c15 : v3 < 0 := c15
   refine wpRwI 9 kr (decide_eq_true c15) ?_
   refine condT kr ?_
   refine wp_seq_k fun K16 hK17 => rl ?_
   refine seqL2 kr ?_
   refine seqK rfl (does_run (run_load rfl Try.underlying2 rfl (kv (pV b6 3)) (HS8.cell 3)) ?_)
   refine seqL3 kr ?_
   refine nl (hK17 _ _ ?_)
   refine wp_ret ?_
   refine hret _ _ ?_
   refine ends_still (v := Value.int .i64 (mn (w64 (v3 + a1.Accel)) 0)) kr kr ?_
   have HS37 := HS8.drop
   injection h with h
   subst h
   exact ⟨f, rfl, FM.le.refl _, HS37⟩
 have c15 : ¬ (v3 < 0) := c15
 refine wpRwI 9 kr (decide_eq_false c15) ?_
 refine condF kr ?_
 refine wp_skip ?_
 refine hK11 _ _ ?_
 refine wp_seq_k fun K18 hK19 => rl ?_
 refine seqL2 kr ?_
 refine seqK rfl (does_run (run_load rfl Try.underlying2 rfl (kv (pV b6 3)) (HS8.cell 3)) ?_)
 refine seqL3 kr ?_
 refine nl (hK19 _ _ ?_)
 refine wp_seq_k (fun K20 hK21 => ?_)
 refine heldG (S := Sg t f ([(b6, .cells (cl_Axis a1) 27 (0, 0))] :: H) []) (n := 11) kr rfl HS8 ?_
 intro W22 HS23
 refine gL [0, 1, 2] (fuel := 8) (bA 11 7) rfl kr kr kr hnp (Sg.g0 (Sx.of [] fL HS23)) fun X24 => ?_
 refine gQ 3 rfl kr kr kr kr kr hnp X24 (fun hl_ hS_ => run_load rfl Try.underlying2 rfl (kv (pV b6 3)) (hS_.cell 3)) fun X25 => ?_
 refine gL [4] (fuel := 6) (bA 11 31) rfl kr kr kr hnp X25 fun X26 => ?_
 refine gQ 5 rfl kr kr kr kr kr hnp X26 (fun hl_ hS_ => run_loadN (n := 4) rfl Try.underlying27 rfl kr (kv (pV b6 0)) (cs := (ll_Axis a1)) rfl (hS_.cells 0 4 _ rfl)) fun X27 => ?_
 refine gL [6] (fuel := 4) (bA 11 127) rfl kr kr kr hnp X27 fun X28 => ?_
 replace h := bind_some h; obtain ⟨vt29, hc30, h⟩ := h
 refine takeGE 7 kr rfl kr (does_call kr (slew_Fastest.calls k a1 d2 HS23 vt29 hc30) ?_)
 rintro _ W33 ⟨f31, rfl, L32, HS34⟩
 refine ⟨_, rfl, ?_⟩
 refine kB (Sg.g0 (Sx.of [] L32 HS34)) fun X35 => ?_
 refine gL [8, 9, 10] (fuel := 0) (bA 11 2047) rfl kr kr kr hnp X35 fun X36 => ?_
 refine doneG kr ?_ _
 refine hK21 _ _ ?_
 refine wp_ret ?_
 refine hret _ _ ?_
 refine ends_still (v := Value.int .i64 (mx (mx (w64 (v3 - a1.Accel)) 0) (mn (w64 (v3 + a1.Accel)) vt29))) kr kr ?_
 have HS38 := HS34.drop
 injection h with h
 subst h
 exact ⟨f31, rfl, L32, HS38⟩

set_option maxRecDepth 100000 in
set_option maxHeartbeats 4000000 in
theorem axis_Step.calls (k : Nat)  (a1 : S_Axis) (s2 : S_State) {t w : World} {f : FM} {H : List Seg} (HS : St t w f (H)) (rr1 : S_State) (h : axis_Step k a1 s2 = some rr1) :
    Calls Try.prog 61 #[.agg (cl_Axis a1), .agg (cl_State s2)] w (fun e w' => ∃ (g : FM), e = .returned (Value.agg (cl_State rr1)) ∧ FM.le f g ∧ St t w' g (H)) := by
 unfold axis_Step at h
 refine enter Try.func61 rfl (tm := ⟨[(ag_Axis a1), (ag_State s2)] ++ (un 79 [])⟩) kr ?_
 intro B hret hnor hnp
 refine wp_seq_k fun K3 hK4 => rl ?_
 refine seqK rfl (does_box (cs := (cl_Axis a1)) rfl (kv (.agg (cl_Axis a1))) rfl HS ?_)
 intro b5 W6 HS7
 refine seqK rfl (does_box (cs := (cl_State s2)) rfl (kv (.agg (cl_State s2))) rfl HS7 ?_)
 intro b9 W10 HS11
 refine seqK rfl (does_alloc (z := Value.agg (cm_State 0 0 0 false)) (cs := (cm_State 0 0 0 false)) rfl kr rfl HS11 ?_)
 intro b13 W14 HS15
 refine nl (hK4 _ _ ?_)
 refine wp_seq_k (fun K17 hK18 => ?_)
 refine wp_seq_k fun K19 hK20 => rl ?_
 refine seqK rfl (does_run (run_loadN (n := 4) rfl Try.underlying27 rfl kr (kv (pV b5 0)) (cs := (ll_Axis a1)) rfl (HS15.u2.cells 0 4 _ rfl)) ?_)
 refine seqK rfl (does_run (run_loadN (n := 4) rfl Try.underlying49 rfl kr (kv (pV b9 0)) (cs := (ll_State s2)) rfl (HS15.u1.cells 0 4 _ rfl)) ?_)
 replace h := bind_some h; obtain ⟨vt21, hc22, h⟩ := h
 refine seqK rfl (does_call kr (axis_Check.calls k a1 s2 HS15 vt21 hc22) ?_)
 rintro _ W25 ⟨f23, rfl, L24, HS26⟩
 refine ⟨_, rfl, ?_⟩
 refine seqL1 kr ?_
 refine nl (hK20 _ _ ?_)
 replace h := ite_some h; rcases h with ⟨c28, h⟩ | ⟨c28, h⟩
 · have c28 : vt21 ≠ 0 := c28
   refine wpRwI 8 kr (bne_iff_ne.mpr c28) ?_
   refine condT kr ?_
   refine wp_seq_k (fun K29 hK30 => ?_)
   exact nomatch h
 have c28 : ¬ (vt21 ≠ 0) := c28
 refine wpRwI 8 (x := (vt21 != 0)) (v := false) kr (bne_eq_false_iff_eq.mpr (Decidable.of_not_not c28)) ?_
 refine condF kr ?_
 refine wp_skip ?_
 refine hK18 _ _ ?_
 refine wp_seq_k (fun K31 hK32 => ?_)
 refine blockK (fun B33 hx34 hn35 hr36 ho37 hp38 => ?_)
 refine wp_seq_k (fun K40 hK41 => ?_)
 replace h := bind_some h; obtain ⟨v42, hv50, h⟩ := h
 have J51 : ∀ (f44 : FM) (x49 : Bool) (j48 : Nat → Value) (W46 : World) (a_ : Act), FM.le f23 f44 → some (x49) = some v42 → St t W46 f44 ([(b13, .cells (cm_State 0 0 0 false) 49 (0, 0))] :: [(b9, .cells (cl_State s2) 49 (0, 0))] :: [(b5, .cells (cl_Axis a1) 27 (0, 0))] :: H) → a_ = ⟨⟨[(ag_Axis a1), (ag_State s2), pV b5 0, pV b9 0, pV b13 0, (ag_Axis a1), (ag_State s2), iV vt21, fV] ++ (un 13 ([.bool x49] ++ (jr j48 0 7 (un 51 []))))⟩, []⟩ → K40 a_ W46 := by
  intro f44 x49 j48 W46 a_ L45 hj52 HS47  hfr_; subst hfr_
  injection hj52 with hj52; subst hj52; try dsimp only at h
  refine hK41 _ _ ?_
  replace h := bind_some h; obtain ⟨v53, hv120, h⟩ := h
  have J121 : ∀ (f114 : FM) (x119 : Int) (j118 : Nat → Value) (W116 : World) (a_ : Act), FM.le f44 f114 → some (x119) = some v53 → St t W116 f114 ([(b13, .cells (cm_State 0 0 0 false) 49 (0, 0))] :: [(b9, .cells (cm_State s2.At x119 s2.Goal s2.Halt) 49 (0, 0))] :: [(b5, .cells (cl_Axis a1) 27 (0, 0))] :: H) → a_ = ⟨⟨[(ag_Axis a1), (ag_State s2), pV b5 0, pV b9 0, pV b13 0, (ag_Axis a1), (ag_State s2), iV vt21, fV, uV] ++ (jr j118 0 12 ([.bool x49] ++ (jr j48 0 7 (jr j118 12 33 (un 18 [])))))⟩, []⟩ → B33 Exit.normal a_ W116 := by
   intro f114 x119 j118 W116 a_ L115 hj122 HS117  hfr_; subst hfr_
   injection hj122 with hj122; subst hj122; try dsimp only at h
   refine hn35 _ _ ?_
   refine hK32 _ _ ?_
   refine wp_seq_k fun K126 hK127 => rl ?_
   refine seqL1 kr ?_
   refine seqK rfl (does_run (run_load rfl Try.underlying2 rfl (kv (pV b9 0)) (HS117.u1.cell 0)) ?_)
   refine seqL1 kr ?_
   refine seqK rfl (does_run (run_load rfl Try.underlying2 rfl (kv (pV b9 1)) (HS117.u1.cell 1)) ?_)
   have HS128 := HS117.u1
   refine seqL2 kr ?_
   refine seqK rfl (does_store (n := 1) (vs := [.int .i64 (w64 (s2.At + x119))]) (cs' := (cm_State (w64 (s2.At + x119)) x119 s2.Goal s2.Halt)) rfl kr (kv (pV b9 0)) (kv (.int .i64 (w64 (s2.At + x119)))) rfl rfl (ones rfl) HS128 (Nat.le_of_ble_eq_true rfl) kr ?_)
   intro W129 HS130
   refine nl (hK127 _ _ ?_)
   refine wp_seq_k (fun K131 hK132 => ?_)
   refine wp_seq_k fun K133 hK134 => rl ?_
   refine seqL1 kr ?_
   refine seqK rfl (does_run (run_load rfl Try.underlying4 rfl (kv (pV b9 3)) (HS130.cell 3)) ?_)
   refine seqL1 kr ?_
   replace h := ite_some h; rcases h with ⟨c136, h⟩ | ⟨c136, h⟩
   rotate_left
   · have c136 : ¬ (s2.Halt = true) := c136
     refine seqRwI 70 kr (Bool.eq_false_iff.mpr c136) ?_
     refine seqRwI 71 kr (Bool.eq_false_iff.mpr c136) ?_
     refine seqL4 kr ?_
     refine nl (hK134 _ _ ?_)
     refine condF kr ?_
     refine wp_skip ?_
     refine hK132 _ _ ?_
     refine wp_seq_k fun K153 hK154 => rl ?_
     refine seqK rfl (does_run (run_loadN (n := 4) rfl Try.underlying49 rfl kr (kv (pV b9 0)) (cs := (lm_State (w64 (s2.At + x119)) x119 s2.Goal s2.Halt)) rfl (HS130.cells 0 4 _ rfl)) ?_)
     have HS155 := HS130.u1
     refine seqK rfl (does_storeA (vs := (lm_State (w64 (s2.At + x119)) x119 s2.Goal s2.Halt)) rfl kr kr kr rfl (ones rfl) HS155 kr ?_)
     intro W156 HS157
     refine nl (hK154 _ _ ?_)
     refine wp_ret ?_
     refine hret _ _ ?_
     refine ends (v := Value.agg (cm_State (w64 (s2.At + x119)) x119 s2.Goal s2.Halt)) (results1 (q1 := .cell 4 49) kr (resN (n := 4) (cs := (lm_State (w64 (s2.At + x119)) x119 s2.Goal s2.Halt)) (kv (pV b13 0)) Try.underlying49 rfl kr rfl (HS157.cells 0 4 _ rfl))) kr ?_
     have HS164 := HS157.drop
     have HS165 := HS164.drop
     have HS166 := HS165.drop
     injection h with h
     subst h
     exact ⟨f114, rfl, (L24.trans (L45.trans L115)), HS166⟩
   have c136 : s2.Halt = true := c136
   refine seqRwI 70 kr c136 ?_
   refine seqRwI 71 kr c136 ?_
   refine seqL1 kr ?_
   refine seqG kr (does_run (run_load rfl Try.underlying2 rfl (kv (pV b9 1)) (HS130.cell 1)) ?_)
   refine seqL2 kr ?_
   refine nl (hK134 _ _ ?_)
   replace h := ite_some h; rcases h with ⟨c138, h⟩ | ⟨c138, h⟩
   rotate_left
   · have c138 : ¬ (x119 = 0) := c138
     refine wpRwI 74 kr (beq_eq_false_iff_ne.mpr c138) ?_
     refine wpRwI 75 kr (beq_eq_false_iff_ne.mpr c138) ?_
     refine condF kr ?_
     refine wp_skip ?_
     refine hK132 _ _ ?_
     refine wp_seq_k fun K148 hK149 => rl ?_
     refine seqK rfl (does_run (run_loadN (n := 4) rfl Try.underlying49 rfl kr (kv (pV b9 0)) (cs := (lm_State (w64 (s2.At + x119)) x119 s2.Goal s2.Halt)) rfl (HS130.cells 0 4 _ rfl)) ?_)
     have HS150 := HS130.u1
     refine seqK rfl (does_storeA (vs := (lm_State (w64 (s2.At + x119)) x119 s2.Goal s2.Halt)) rfl kr kr kr rfl (ones rfl) HS150 kr ?_)
     intro W151 HS152
     refine nl (hK149 _ _ ?_)
     refine wp_ret ?_
     refine hret _ _ ?_
     refine ends (v := Value.agg (cm_State (w64 (s2.At + x119)) x119 s2.Goal s2.Halt)) (results1 (q1 := .cell 4 49) kr (resN (n := 4) (cs := (lm_State (w64 (s2.At + x119)) x119 s2.Goal s2.Halt)) (kv (pV b13 0)) Try.underlying49 rfl kr rfl (HS152.cells 0 4 _ rfl))) kr ?_
     have HS161 := HS152.drop
     have HS162 := HS161.drop
     have HS163 := HS162.drop
     injection h with h
     subst h
     exact ⟨f114, rfl, (L24.trans (L45.trans L115)), HS163⟩
   have c138 : x119 = 0 := c138
   refine wpRwI 74 kr (beq_iff_eq.mpr c138) ?_
   refine wpRwI 75 kr (beq_iff_eq.mpr c138) ?_
   refine condT kr ?_
   refine rl ?_
   refine seqL1 kr ?_
   refine seqK rfl (does_run (run_load rfl Try.underlying2 rfl (kv (pV b9 0)) (HS130.cell 0)) ?_)
   refine seqL1 kr ?_
   refine seqK rfl (does_store (n := 1) (vs := [.bool false]) (cs' := (cm_State (w64 (s2.At + x119)) x119 s2.Goal false)) rfl kr (kv (pV b9 3)) (kv (.bool false)) rfl rfl (ones rfl) HS130 (Nat.le_of_ble_eq_true rfl) kr ?_)
   intro W139 HS140
   refine seqL1 kr ?_
   refine seqK rfl (does_store (n := 1) (vs := [.int .i64 (w64 (s2.At + x119))]) (cs' := (cm_State (w64 (s2.At + x119)) x119 (w64 (s2.At + x119)) false)) rfl kr (kv (pV b9 2)) (kv (.int .i64 (w64 (s2.At + x119)))) rfl rfl (ones rfl) HS140 (Nat.le_of_ble_eq_true rfl) kr ?_)
   intro W141 HS142
   refine nl (hK132 _ _ ?_)
   refine wp_seq_k fun K143 hK144 => rl ?_
   refine seqK rfl (does_run (run_loadN (n := 4) rfl Try.underlying49 rfl kr (kv (pV b9 0)) (cs := (lm_State (w64 (s2.At + x119)) x119 (w64 (s2.At + x119)) false)) rfl (HS142.cells 0 4 _ rfl)) ?_)
   have HS145 := HS142.u1
   refine seqK rfl (does_storeA (vs := (lm_State (w64 (s2.At + x119)) x119 (w64 (s2.At + x119)) false)) rfl kr kr kr rfl (ones rfl) HS145 kr ?_)
   intro W146 HS147
   refine nl (hK144 _ _ ?_)
   refine wp_ret ?_
   refine hret _ _ ?_
   refine ends (v := Value.agg (cm_State (w64 (s2.At + x119)) x119 (w64 (s2.At + x119)) false)) (results1 (q1 := .cell 4 49) kr (resN (n := 4) (cs := (lm_State (w64 (s2.At + x119)) x119 (w64 (s2.At + x119)) false)) (kv (pV b13 0)) Try.underlying49 rfl kr rfl (HS147.cells 0 4 _ rfl))) kr ?_
   have HS158 := HS147.drop
   have HS159 := HS158.drop
   have HS160 := HS159.drop
   injection h with h
   subst h
   exact ⟨f114, rfl, (L24.trans (L45.trans L115)), HS160⟩
  clear h; have h := hv120; clear hv120
  replace h := ite_some h; rcases h with ⟨c54, h⟩ | ⟨c54, h⟩
  · have c54 : x49 = true := c54
    refine wpRwI 22 kr c54 ?_
    refine condT kr ?_
    refine rl ?_
    refine seqL1 kr ?_
    refine seqK rfl (does_run (run_load rfl Try.underlying2 rfl (kv (pV b9 1)) (HS47.u1.cell 1)) ?_)
    refine seqL1 kr ?_
    refine seqK rfl (does_run (run_load rfl Try.underlying2 rfl (kv (pV b5 3)) (HS47.u2.cell 3)) ?_)
    have HS55 := HS47.u1
    refine seqL3 kr ?_
    refine seqK rfl (does_store (n := 1) (vs := [.int .i64 (mx (w64 (s2.Speed - a1.Accel)) 0)]) (cs' := (cm_State s2.At (mx (w64 (s2.Speed - a1.Accel)) 0) s2.Goal s2.Halt)) rfl kr (kv (pV b9 1)) (kv (.int .i64 (mx (w64 (s2.Speed - a1.Accel)) 0))) rfl rfl (ones rfl) HS55 (Nat.le_of_ble_eq_true rfl) kr ?_)
    intro W56 HS57
    refine nl ?_
    refine fnRwI (F := (B33 Exit.normal)) 22 (x := true) (v := x49) kr (Eq.symm c54) ?_
    have HS125 := HS57.u2.u1.u2
    exact J121 f44 (mx (w64 (s2.Speed - a1.Accel)) 0) (jL [uV, uV, uV, uV, uV, uV, uV, uV, uV, uV, uV, uV, pV b9 1, iV s2.Speed, pV b5 3, iV a1.Accel, iV (w64 (s2.Speed - a1.Accel)), iV (mx (w64 (s2.Speed - a1.Accel)) 0), pV b9 1]) W56 _ fL h HS125 kr
  have c54 : ¬ (x49 = true) := c54
  refine wpRwI 22 kr (Bool.eq_false_iff.mpr c54) ?_
  refine condF kr ?_
  refine wp_seq_k fun K58 hK59 => rl ?_
  refine seqL1 kr ?_
  refine seqK rfl (does_run (run_load rfl Try.underlying4 rfl (kv (pV b9 3)) (HS47.u1.cell 3)) ?_)
  refine seqL1 kr ?_
  refine nl (hK59 _ _ ?_)
  replace h := bind_some h; obtain ⟨v60, hv108, h⟩ := h
  have J109 : ∀ (f102 : FM) (x107 : Int) (j106 : Nat → Value) (W104 : World) (a_ : Act), FM.le f44 f102 → some (x107) = some v60 → St t W104 f102 ([(b13, .cells (cm_State 0 0 0 false) 49 (0, 0))] :: [(b9, .cells (cm_State s2.At x107 s2.Goal s2.Halt) 49 (0, 0))] :: [(b5, .cells (cl_Axis a1) 27 (0, 0))] :: H) → a_ = ⟨⟨[(ag_Axis a1), (ag_State s2), pV b5 0, pV b9 0, pV b13 0, (ag_Axis a1), (ag_State s2), iV vt21, fV, uV] ++ (jr j106 0 12 ([fV] ++ (jr j48 0 7 (un 7 ([.bool s2.Halt, pV b9 3, .bool s2.Halt] ++ (jr j106 12 23 (un 18 [])))))))⟩, []⟩ → B33 Exit.normal a_ W104 := by
   intro f102 x107 j106 W104 a_ L103 hj110 HS105  hfr_; subst hfr_
   injection hj110 with hj110; subst hj110; try dsimp only at h
   refine fnRwI (F := (B33 Exit.normal)) 22 (x := false) (v := x49) kr (Eq.symm (Bool.eq_false_iff.mpr c54)) ?_
   exact J121 f102 x107 (jL [(j106 0), (j106 1), (j106 2), (j106 3), (j106 4), (j106 5), (j106 6), (j106 7), (j106 8), (j106 9), (j106 10), (j106 11), uV, uV, uV, uV, uV, uV, uV, .bool s2.Halt, pV b9 3, .bool s2.Halt, (j106 12), (j106 13), (j106 14), (j106 15), (j106 16), (j106 17), (j106 18), (j106 19), (j106 20), (j106 21), (j106 22), (j106 23), (j106 24), (j106 25), (j106 26), (j106 27), (j106 28), (j106 29), (j106 30), (j106 31), (j106 32), (j106 33), (j106 34)]) W104 _ L103 h HS105 kr
  clear h; have h := hv108; clear hv108
  replace h := ite_some h; rcases h with ⟨c61, h⟩ | ⟨c61, h⟩
  · have c61 : s2.Halt = true := c61
    refine wpRwI 37 kr c61 ?_
    refine wpRwI 39 kr c61 ?_
    refine condT kr ?_
    refine rl ?_
    refine seqL1 kr ?_
    refine seqK rfl (does_run (run_load rfl Try.underlying2 rfl (kv (pV b9 1)) (HS47.u1.cell 1)) ?_)
    refine seqL1 kr ?_
    refine seqK rfl (does_run (run_load rfl Try.underlying2 rfl (kv (pV b5 3)) (HS47.u2.cell 3)) ?_)
    have HS62 := HS47.u1
    refine seqL3 kr ?_
    refine seqK rfl (does_store (n := 1) (vs := [.int .i64 (mn (w64 (s2.Speed + a1.Accel)) 0)]) (cs' := (cm_State s2.At (mn (w64 (s2.Speed + a1.Accel)) 0) s2.Goal s2.Halt)) rfl kr (kv (pV b9 1)) (kv (.int .i64 (mn (w64 (s2.Speed + a1.Accel)) 0))) rfl rfl (ones rfl) HS62 (Nat.le_of_ble_eq_true rfl) kr ?_)
    intro W63 HS64
    refine nl ?_
    refine fnRwI (F := (B33 Exit.normal)) 39 (x := true) (v := s2.Halt) kr (Eq.symm c61) ?_
    refine fnRwI (F := (B33 Exit.normal)) 37 (x := true) (v := s2.Halt) kr (Eq.symm c61) ?_
    have HS113 := HS64.u2.u1.u2
    exact J109 f44 (mn (w64 (s2.Speed + a1.Accel)) 0) (jL [uV, uV, uV, uV, uV, uV, uV, uV, uV, uV, uV, uV, pV b9 1, iV s2.Speed, pV b5 3, iV a1.Accel, iV (w64 (s2.Speed + a1.Accel)), iV (mn (w64 (s2.Speed + a1.Accel)) 0), pV b9 1]) W63 _ fL h HS113 kr
  have c61 : ¬ (s2.Halt = true) := c61
  refine wpRwI 37 kr (Bool.eq_false_iff.mpr c61) ?_
  refine wpRwI 39 kr (Bool.eq_false_iff.mpr c61) ?_
  refine condF kr ?_
  refine wp_seq_k fun K65 hK66 => rl ?_
  refine seqL1 kr ?_
  refine seqK rfl (does_run (run_load rfl Try.underlying2 rfl (kv (pV b9 2)) (HS47.u1.cell 2)) ?_)
  refine seqL1 kr ?_
  refine seqK rfl (does_run (run_load rfl Try.underlying2 rfl (kv (pV b9 0)) (HS47.u1.cell 0)) ?_)
  refine seqL2 kr ?_
  refine nl (hK66 _ _ ?_)
  replace h := bind_some h; obtain ⟨v67, hv93, h⟩ := h
  have J94 : ∀ (f87 : FM) (x92 : Int) (j91 : Nat → Value) (W89 : World) (a_ : Act), FM.le f44 f87 → some (x92) = some v67 → St t W89 f87 ([(b13, .cells (cm_State 0 0 0 false) 49 (0, 0))] :: [(b9, .cells (cm_State s2.At x92 s2.Goal s2.Halt) 49 (0, 0))] :: [(b5, .cells (cl_Axis a1) 27 (0, 0))] :: H) → a_ = ⟨⟨[(ag_Axis a1), (ag_State s2), pV b5 0, pV b9 0, pV b13 0, (ag_Axis a1), (ag_State s2), iV vt21, fV, uV] ++ (jr j91 0 12 ([fV] ++ (jr j48 0 7 (un 7 ([fV, pV b9 3, fV] ++ (un 7 ([.bool (decide (s2.Goal ≥ s2.At)), pV b9 2, iV s2.Goal, pV b9 0, iV s2.At, .bool (decide (s2.Goal ≥ s2.At))] ++ (jr j91 12 10 (un 18 [])))))))))⟩, []⟩ → B33 Exit.normal a_ W89 := by
   intro f87 x92 j91 W89 a_ L88 hj95 HS90  hfr_; subst hfr_
   injection hj95 with hj95; subst hj95; try dsimp only at h
   refine fnRwI (F := (B33 Exit.normal)) 39 (x := false) (v := s2.Halt) kr (Eq.symm (Bool.eq_false_iff.mpr c61)) ?_
   refine fnRwI (F := (B33 Exit.normal)) 37 (x := false) (v := s2.Halt) kr (Eq.symm (Bool.eq_false_iff.mpr c61)) ?_
   exact J109 f87 x92 (jL [(j91 0), (j91 1), (j91 2), (j91 3), (j91 4), (j91 5), (j91 6), (j91 7), (j91 8), (j91 9), (j91 10), (j91 11), uV, uV, uV, uV, uV, uV, uV, .bool (decide (s2.Goal ≥ s2.At)), pV b9 2, iV s2.Goal, pV b9 0, iV s2.At, .bool (decide (s2.Goal ≥ s2.At)), (j91 12), (j91 13), (j91 14), (j91 15), (j91 16), (j91 17), (j91 18), (j91 19), (j91 20), (j91 21)]) W89 _ L88 h HS90 kr
  clear h; have h := hv93; clear hv93
  replace h := ite_some h; rcases h with ⟨c68, h⟩ | ⟨c68, h⟩
  · have c68 : s2.Goal ≥ s2.At := c68
    refine wpRwI 47 kr (decide_eq_true c68) ?_
    refine wpRwI 52 kr (decide_eq_true c68) ?_
    refine condT kr ?_
    refine rl ?_
    refine seqK rfl (does_run (run_loadN (n := 4) rfl Try.underlying27 rfl kr (kv (pV b5 0)) (cs := (ll_Axis a1)) rfl (HS47.u2.cells 0 4 _ rfl)) ?_)
    refine seqL1 kr ?_
    refine seqK rfl (does_run (run_load rfl Try.underlying2 rfl (kv (pV b9 2)) (HS47.u1.cell 2)) ?_)
    refine seqL1 kr ?_
    refine seqK rfl (does_run (run_load rfl Try.underlying2 rfl (kv (pV b9 0)) (HS47.u1.cell 0)) ?_)
    refine seqL2 kr ?_
    refine seqK rfl (does_run (run_load rfl Try.underlying2 rfl (kv (pV b9 1)) (HS47.u1.cell 1)) ?_)
    replace h := bind_some h; obtain ⟨vt69, hc70, h⟩ := h
    refine seqK rfl (does_call kr (axis_next.calls k a1 (w64 (s2.Goal - s2.At)) s2.Speed HS47 vt69 hc70) ?_)
    rintro _ W73 ⟨f71, rfl, L72, HS74⟩
    refine ⟨_, rfl, ?_⟩
    have HS75 := HS74.u1
    refine seqL1 kr ?_
    refine seqK rfl (does_store (n := 1) (vs := [.int .i64 vt69]) (cs' := (cm_State s2.At vt69 s2.Goal s2.Halt)) rfl kr (kv (pV b9 1)) (kv (.int .i64 vt69)) rfl rfl (ones rfl) HS75 (Nat.le_of_ble_eq_true rfl) kr ?_)
    intro W76 HS77
    refine nl ?_
    refine fnRwI (F := (B33 Exit.normal)) 52 (x := true) (v := (decide (s2.Goal ≥ s2.At))) kr (Eq.symm (decide_eq_true c68)) ?_
    refine fnRwI (F := (B33 Exit.normal)) 47 (x := true) (v := (decide (s2.Goal ≥ s2.At))) kr (Eq.symm (decide_eq_true c68)) ?_
    have HS98 := HS77.u2.u1.u2
    exact J94 f71 vt69 (jL [uV, uV, uV, uV, uV, uV, uV, uV, uV, uV, uV, uV, (ag_Axis a1), pV b9 2, iV s2.Goal, pV b9 0, iV s2.At, iV (w64 (s2.Goal - s2.At)), pV b9 1, iV s2.Speed, iV vt69, pV b9 1]) W76 _ L72 h HS98 kr
  have c68 : ¬ (s2.Goal ≥ s2.At) := c68
  refine wpRwI 47 kr (decide_eq_false c68) ?_
  refine wpRwI 52 kr (decide_eq_false c68) ?_
  refine condF kr ?_
  refine rl ?_
  refine seqK rfl (does_run (run_loadN (n := 4) rfl Try.underlying27 rfl kr (kv (pV b5 0)) (cs := (ll_Axis a1)) rfl (HS47.u2.cells 0 4 _ rfl)) ?_)
  refine seqL1 kr ?_
  refine seqK rfl (does_run (run_load rfl Try.underlying2 rfl (kv (pV b9 0)) (HS47.u1.cell 0)) ?_)
  refine seqL1 kr ?_
  refine seqK rfl (does_run (run_load rfl Try.underlying2 rfl (kv (pV b9 2)) (HS47.u1.cell 2)) ?_)
  refine seqL2 kr ?_
  refine seqK rfl (does_run (run_load rfl Try.underlying2 rfl (kv (pV b9 1)) (HS47.u1.cell 1)) ?_)
  replace h := bind_some h; obtain ⟨vt78, hc79, h⟩ := h
  refine seqL1 kr ?_
  refine seqK rfl (does_call kr (axis_next.calls k a1 (w64 (s2.At - s2.Goal)) (w64 (0 - s2.Speed)) HS47 vt78 hc79) ?_)
  rintro _ W82 ⟨f80, rfl, L81, HS83⟩
  refine ⟨_, rfl, ?_⟩
  have HS84 := HS83.u1
  refine seqL2 kr ?_
  refine seqK rfl (does_store (n := 1) (vs := [.int .i64 (w64 (0 - vt78))]) (cs' := (cm_State s2.At (w64 (0 - vt78)) s2.Goal s2.Halt)) rfl kr (kv (pV b9 1)) (kv (.int .i64 (w64 (0 - vt78)))) rfl rfl (ones rfl) HS84 (Nat.le_of_ble_eq_true rfl) kr ?_)
  intro W85 HS86
  refine nl ?_
  refine fnRwI (F := (B33 Exit.normal)) 52 (x := false) (v := (decide (s2.Goal ≥ s2.At))) kr (Eq.symm (decide_eq_false c68)) ?_
  refine fnRwI (F := (B33 Exit.normal)) 47 (x := false) (v := (decide (s2.Goal ≥ s2.At))) kr (Eq.symm (decide_eq_false c68)) ?_
  have HS101 := HS86.u2.u1.u2
  exact J94 f80 (w64 (0 - vt78)) (jL [(ag_Axis a1), pV b9 0, iV s2.At, pV b9 2, iV s2.Goal, iV (w64 (s2.At - s2.Goal)), pV b9 1, iV s2.Speed, iV (w64 (0 - s2.Speed)), iV vt78, iV (w64 (0 - vt78)), pV b9 1]) W85 _ L81 h HS101 kr
 clear h; have h := hv50; clear hv50
 refine rl ?_
 refine seqL1 kr ?_
 refine seqK rfl (does_run (run_load rfl Try.underlying4 rfl (kv (pV b9 3)) (HS26.u1.cell 3)) ?_)
 refine seqL1 kr ?_
 replace h := ite_some h; rcases h with ⟨c43, h⟩ | ⟨c43, h⟩
 · have c43 : s2.Halt = true := c43
   refine seqRwI 24 kr c43 ?_
   refine seqRwI 25 kr c43 ?_
   refine seqL1 kr ?_
   refine seqG kr (does_run (run_load rfl Try.underlying2 rfl (kv (pV b9 1)) (HS26.u1.cell 1)) ?_)
   refine seqL3 kr ?_
   refine nl ?_
   exact J51 f23 (decide (s2.Speed > 0)) (jL [pV b9 3, tV, tV, pV b9 1, iV s2.Speed, .bool (decide (s2.Speed > 0)), .bool (decide (s2.Speed > 0))]) W25 _ fL h HS26 kr
 have c43 : ¬ (s2.Halt = true) := c43
 refine seqRwI 24 kr (Bool.eq_false_iff.mpr c43) ?_
 refine seqRwI 25 kr (Bool.eq_false_iff.mpr c43) ?_
 refine seqL5 kr ?_
 refine nl ?_
 exact J51 f23 false (jL [pV b9 3, fV, fV, uV, uV, uV, fV]) W25 _ fL h HS26 kr

set_option maxRecDepth 100000 in
set_option maxHeartbeats 4000000 in
theorem mount_Step.calls (k : Nat)  (m1 : S_Mount) (s2 : S_State2) {t w : World} {f : FM} {H : List Seg} (HS : St t w f (H)) (rr1 : S_State2) (h : mount_Step k m1 s2 = some rr1) :
    Calls Try.prog 36 #[.agg (cl_Mount m1), .agg (cl_State2 s2)] w (fun e w' => ∃ (g : FM), e = .returned (Value.agg (cl_State2 rr1)) ∧ FM.le f g ∧ St t w' g (H)) := by
 unfold mount_Step at h
 refine enter Try.func36 rfl (tm := ⟨[(ag_Mount m1), (ag_State2 s2)] ++ (un 43 [])⟩) kr ?_
 intro B hret hnor hnp
 refine wp_seq_k fun K3 hK4 => rl ?_
 refine seqK rfl (does_box (cs := (cl_Mount m1)) rfl (kv (.agg (cl_Mount m1))) rfl HS ?_)
 intro b5 W6 HS7
 refine seqK rfl (does_box (cs := (cl_State2 s2)) rfl (kv (.agg (cl_State2 s2))) rfl HS7 ?_)
 intro b9 W10 HS11
 refine seqK rfl (does_alloc (z := Value.agg (cm_State2 ⟨0, 0, 0, false⟩ ⟨0, 0, 0, false⟩ 0)) (cs := (cm_State2 ⟨0, 0, 0, false⟩ ⟨0, 0, 0, false⟩ 0)) rfl kr rfl HS11 ?_)
 intro b13 W14 HS15
 refine nl (hK4 _ _ ?_)
 refine wp_seq_k (fun K17 hK18 => ?_)
 refine wp_seq_k fun K19 hK20 => rl ?_
 refine seqK rfl (does_run (run_loadN (n := 10) rfl Try.underlying31 rfl kr (kv (pV b5 0)) (cs := (ll_Mount m1)) rfl (HS15.u2.cells 0 10 _ rfl)) ?_)
 refine seqK rfl (does_run (run_loadN (n := 9) rfl Try.underlying51 rfl kr (kv (pV b9 0)) (cs := (ll_State2 s2)) rfl (HS15.u1.cells 0 9 _ rfl)) ?_)
 replace h := bind_some h; obtain ⟨vt21, hc22, h⟩ := h
 refine seqK rfl (does_call kr (mount_Check.calls k m1 s2 HS15 vt21 hc22) ?_)
 rintro _ W25 ⟨f23, rfl, L24, HS26⟩
 refine ⟨_, rfl, ?_⟩
 refine seqL1 kr ?_
 refine nl (hK20 _ _ ?_)
 replace h := ite_some h; rcases h with ⟨c28, h⟩ | ⟨c28, h⟩
 · have c28 : vt21 ≠ 0 := c28
   refine wpRwI 8 kr (bne_iff_ne.mpr c28) ?_
   refine condT kr ?_
   refine wp_seq_k (fun K29 hK30 => ?_)
   exact nomatch h
 have c28 : ¬ (vt21 ≠ 0) := c28
 refine wpRwI 8 (x := (vt21 != 0)) (v := false) kr (bne_eq_false_iff_eq.mpr (Decidable.of_not_not c28)) ?_
 refine condF kr ?_
 refine wp_skip ?_
 refine hK18 _ _ ?_
 refine wp_seq_k (fun K31 hK32 => ?_)
 have HS35 := HS26.u2.u1.u2
 refine heldG (S := Sg t f23 ([(b13, .cells (cm_State2 ⟨0, 0, 0, false⟩ ⟨0, 0, 0, false⟩ 0) 51 (0, 0))] :: [(b5, .cells (cl_Mount m1) 31 (0, 0))] :: H) [(11, [(b9, .cells (cl_State2 s2) 51 (0, 0))])]) (n := 14) kr rfl HS35 ?_
 intro W36 HS37
 refine gL [0] (fuel := 13) (bA 14 1) rfl kr kr kr hnp (Sg.g1 (Sx.of [[(b9, .cells (cl_State2 s2) 51 (0, 0))]] fL HS37) (fun _ => St.only [] HS37 fL)) fun X38 => ?_
 refine gQ 1 rfl kr kr kr kr kr hnp X38 (fun hl_ hS_ => run_loadN (n := 4) rfl Try.underlying27 rfl kr (kv (pV b5 0)) (cs := (ll_Axis m1.Az)) rfl (hS_.u1.cells 0 4 _ rfl)) fun X39 => ?_
 refine gL [2] (fuel := 11) (bA 14 7) rfl kr kr kr hnp X39 fun X40 => ?_
 refine gQs 3 11 rfl kr kr kr kr kr (.head _) kr hnp X40 (fun hl_ hS_ => run_loadN (n := 4) rfl Try.underlying49 rfl kr (kv (pV b9 0)) (cs := (ll_State s2.Az)) rfl (hS_.cells 0 4 _ rfl)) fun X41 => ?_
 refine gL [5] (fuel := 9) (bA 14 47) rfl kr kr kr hnp X41 fun X42 => ?_
 refine gQ 6 rfl kr kr kr kr kr hnp X42 (fun hl_ hS_ => run_loadN (n := 4) rfl Try.underlying27 rfl kr (kv (pV b5 4)) (cs := (ll_Axis m1.Alt)) rfl (hS_.u1.cells 4 4 _ rfl)) fun X43 => ?_
 refine gL [7] (fuel := 7) (bA 14 239) rfl kr kr kr hnp X43 fun X44 => ?_
 refine gQs 8 11 rfl kr kr kr kr kr (.head _) kr hnp X44 (fun hl_ hS_ => run_loadN (n := 4) rfl Try.underlying49 rfl kr (kv (pV b9 4)) (cs := (ll_State s2.Alt)) rfl (hS_.cells 4 4 _ rfl)) fun X45 => ?_
 replace h := bind_some h; obtain ⟨vt46, hc47, h⟩ := h
 refine takeGE 4 kr rfl kr (does_call kr (axis_Step.calls k m1.Az s2.Az HS37 vt46 hc47) ?_)
 rintro _ W50 ⟨f48, rfl, L49, HS51⟩
 refine ⟨_, rfl, ?_⟩
 refine kB (Sg.g1 (Sx.of [[(b9, .cells (cl_State2 s2) 51 (0, 0))]] L49 HS51) (fun _ => St.only [] HS51 L49)) fun X52 => ?_
 refine gL [10] (fuel := 4) (bA 14 1535) rfl kr kr kr hnp X52 fun X53 => ?_
 replace h := bind_some h; obtain ⟨vt54, hc55, h⟩ := h
 refine takeGE 9 kr rfl kr (does_call kr (axis_Step.calls k m1.Alt s2.Alt HS51 vt54 hc55) ?_)
 rintro _ W58 ⟨f56, rfl, L57, HS59⟩
 refine ⟨_, rfl, ?_⟩
 refine kB (Sg.g1 (Sx.of [[(b9, .cells (cl_State2 s2) 51 (0, 0))]] (L49.trans L57) HS59) (fun _ => St.only [] HS59 (L49.trans L57))) fun X60 => ?_
 refine takeGE 11 kr rfl kr (does_store (n := 4) (vs := (ll_State vt46)) (cs' := (cm_State2 vt46 s2.Alt s2.Mode)) rfl kr (kv (pV b9 0)) (kv (.agg (cl_State vt46))) rfl rfl (ones rfl) HS59 (Nat.le_of_ble_eq_true rfl) kr ?_)
 intro W61 HS62
 refine kB (Sg.g1 (Sx.of [[(b9, .cells (cm_State2 vt46 s2.Alt s2.Mode) 51 (0, 0))]] (L49.trans L57) HS62) (fun hl_ => Bool.noConfusion (show true = false from hl_))) fun X63 => ?_
 refine gL [12] (fuel := 1) (bA 14 8191) rfl kr kr kr hnp X63 fun X64 => ?_
 refine takeGE 13 kr rfl kr (does_store (n := 4) (vs := (ll_State vt54)) (cs' := (cm_State2 vt46 vt54 s2.Mode)) rfl kr (kv (pV b9 4)) (kv (.agg (cl_State vt54))) rfl rfl (ones rfl) HS62 (Nat.le_of_ble_eq_true rfl) kr ?_)
 intro W65 HS66
 refine kB (Sg.g1 (Sx.of [[(b9, .cells (cm_State2 vt46 vt54 s2.Mode) 51 (0, 0))]] (L49.trans L57) HS66) (fun hl_ => Bool.noConfusion (show true = false from hl_))) fun X67 => ?_
 refine doneG kr ?_ _
 refine hK32 _ _ ?_
 refine wp_seq_k (fun K68 hK69 => ?_)
 refine wp_seq_k (fun K70 hK71 => ?_)
 replace h := bind_some h; obtain ⟨v72, hv92, h⟩ := h
 have J93 : ∀ (f86 : FM) (x91 : Bool) (j90 : Nat → Value) (W88 : World) (a_ : Act), FM.le f56 f86 → some (x91) = some v72 → St t W88 f86 ([(b9, .cells (cm_State2 vt46 vt54 s2.Mode) 51 (0, 0))] :: [(b13, .cells (cm_State2 ⟨0, 0, 0, false⟩ ⟨0, 0, 0, false⟩ 0) 51 (0, 0))] :: [(b5, .cells (cl_Mount m1) 31 (0, 0))] :: H) → a_ = ⟨⟨[(ag_Mount m1), (ag_State2 s2), pV b5 0, pV b9 0, pV b13 0, (ag_Mount m1), (ag_State2 s2), iV vt21, fV, uV, pV b5 0, (ag_Axis m1.Az), pV b9 0, (ag_State s2.Az), (ag_State vt46), pV b5 4, (ag_Axis m1.Alt), pV b9 4, (ag_State s2.Alt), (ag_State vt54), pV b9 0, pV b9 4] ++ (jr j90 0 9 ([.bool x91] ++ (un 13 [])))⟩, []⟩ → K70 a_ W88 := by
  intro f86 x91 j90 W88 a_ L87 hj94 HS89  hfr_; subst hfr_
  injection hj94 with hj94; subst hj94; try dsimp only at h
  refine hK71 _ _ ?_
  replace h := ite_some h; rcases h with ⟨c96, h⟩ | ⟨c96, h⟩
  · have c96 : x91 = true := c96
    refine wpRwI 31 kr c96 ?_
    refine condT kr ?_
    refine wp_seq_k fun K97 hK98 => rl ?_
    refine seqK rfl (does_run (run_loadN (n := 9) rfl Try.underlying51 rfl kr (kv (pV b9 0)) (cs := (lm_State2 vt46 vt54 s2.Mode)) rfl (HS89.cells 0 9 _ rfl)) ?_)
    have HS99 := HS89.u1
    refine seqK rfl (does_storeA (vs := (lm_State2 vt46 vt54 s2.Mode)) rfl kr kr kr rfl (ones rfl) HS99 kr ?_)
    intro W100 HS101
    refine nl (hK98 _ _ ?_)
    refine wp_ret ?_
    refine hret _ _ ?_
    refine ends (v := Value.agg (cm_State2 vt46 vt54 s2.Mode)) (results1 (q1 := .cell 4 51) kr (resN (n := 9) (cs := (lm_State2 vt46 vt54 s2.Mode)) (kv (pV b13 0)) Try.underlying51 rfl kr rfl (HS101.cells 0 9 _ rfl))) kr ?_
    have HS151 := HS101.drop
    have HS152 := HS151.drop
    have HS153 := HS152.drop
    injection h with h
    subst h
    exact ⟨f86, rfl, (L24.trans (L49.trans (L57.trans L87))), HS153⟩
  have c96 : ¬ (x91 = true) := c96
  refine wpRwI 31 kr (Bool.eq_false_iff.mpr c96) ?_
  refine condF kr ?_
  refine wp_skip ?_
  refine hK69 _ _ ?_
  refine wp_seq_k (fun K102 hK103 => ?_)
  refine wp_seq_k fun K104 hK105 => rl ?_
  refine seqL1 kr ?_
  refine seqK rfl (does_run (run_load rfl Try.underlying3 rfl (kv (pV b9 8)) (HS89.cell 8)) ?_)
  refine nl (hK105 _ _ ?_)
  refine blockK (fun B106 hx107 hn108 hr109 ho110 hp111 => ?_)
  refine wp_seq_k fun K113 hK114 => rl ?_
  refine seqL2 kr ?_
  refine nl (hK114 _ _ ?_)
  replace h := ite_some h; rcases h with ⟨c116, h⟩ | ⟨c116, h⟩
  · have c116 : s2.Mode = 2 := c116
    refine wpRwI 35 kr (beq_iff_eq.mpr c116) ?_
    refine wpRwI 36 kr (beq_iff_eq.mpr c116) ?_
    refine condT kr ?_
    refine rl ?_
    refine seqL1 kr ?_
    refine seqK rfl (does_store (n := 1) (vs := [.int .i64 3]) (cs' := (cm_State2 vt46 vt54 3)) rfl kr (kv (pV b9 8)) (kv (.int .i64 3)) rfl rfl (ones rfl) HS89 (Nat.le_of_ble_eq_true rfl) kr ?_)
    intro W117 HS118
    refine nl ?_
    refine hn108 _ _ ?_
    refine hK103 _ _ ?_
    refine wp_seq_k fun K131 hK132 => rl ?_
    refine seqK rfl (does_run (run_loadN (n := 9) rfl Try.underlying51 rfl kr (kv (pV b9 0)) (cs := (lm_State2 vt46 vt54 3)) rfl (HS118.cells 0 9 _ rfl)) ?_)
    have HS133 := HS118.u1
    refine seqK rfl (does_storeA (vs := (lm_State2 vt46 vt54 3)) rfl kr kr kr rfl (ones rfl) HS133 kr ?_)
    intro W134 HS135
    refine nl (hK132 _ _ ?_)
    refine wp_ret ?_
    refine hret _ _ ?_
    refine ends (v := Value.agg (cm_State2 vt46 vt54 3)) (results1 (q1 := .cell 4 51) kr (resN (n := 9) (cs := (lm_State2 vt46 vt54 3)) (kv (pV b13 0)) Try.underlying51 rfl kr rfl (HS135.cells 0 9 _ rfl))) kr ?_
    have HS154 := HS135.drop
    have HS155 := HS154.drop
    have HS156 := HS155.drop
    injection h with h
    subst h
    exact ⟨f86, rfl, (L24.trans (L49.trans (L57.trans L87))), HS156⟩
  have c116 : ¬ (s2.Mode = 2) := c116
  refine wpRwI 35 kr (beq_eq_false_iff_ne.mpr c116) ?_
  refine wpRwI 36 kr (beq_eq_false_iff_ne.mpr c116) ?_
  refine condF kr ?_
  refine wp_seq_k fun K119 hK120 => rl ?_
  refine seqL2 kr ?_
  refine nl (hK120 _ _ ?_)
  replace h := ite_some h; rcases h with ⟨c122, h⟩ | ⟨c122, h⟩
  · have c122 : s2.Mode = 4 := c122
    refine wpRwI 38 kr (beq_iff_eq.mpr c122) ?_
    refine wpRwI 39 kr (beq_iff_eq.mpr c122) ?_
    refine condT kr ?_
    refine rl ?_
    refine seqL1 kr ?_
    refine seqK rfl (does_store (n := 1) (vs := [.int .i64 0]) (cs' := (cm_State2 vt46 vt54 0)) rfl kr (kv (pV b9 8)) (kv (.int .i64 0)) rfl rfl (ones rfl) HS89 (Nat.le_of_ble_eq_true rfl) kr ?_)
    intro W123 HS124
    refine nl ?_
    refine hn108 _ _ ?_
    refine hK103 _ _ ?_
    refine wp_seq_k fun K136 hK137 => rl ?_
    refine seqK rfl (does_run (run_loadN (n := 9) rfl Try.underlying51 rfl kr (kv (pV b9 0)) (cs := (lm_State2 vt46 vt54 0)) rfl (HS124.cells 0 9 _ rfl)) ?_)
    have HS138 := HS124.u1
    refine seqK rfl (does_storeA (vs := (lm_State2 vt46 vt54 0)) rfl kr kr kr rfl (ones rfl) HS138 kr ?_)
    intro W139 HS140
    refine nl (hK137 _ _ ?_)
    refine wp_ret ?_
    refine hret _ _ ?_
    refine ends (v := Value.agg (cm_State2 vt46 vt54 0)) (results1 (q1 := .cell 4 51) kr (resN (n := 9) (cs := (lm_State2 vt46 vt54 0)) (kv (pV b13 0)) Try.underlying51 rfl kr rfl (HS140.cells 0 9 _ rfl))) kr ?_
    have HS157 := HS140.drop
    have HS158 := HS157.drop
    have HS159 := HS158.drop
    injection h with h
    subst h
    exact ⟨f86, rfl, (L24.trans (L49.trans (L57.trans L87))), HS159⟩
  have c122 : ¬ (s2.Mode = 4) := c122
  refine wpRwI 38 kr (beq_eq_false_iff_ne.mpr c122) ?_
  refine wpRwI 39 kr (beq_eq_false_iff_ne.mpr c122) ?_
  refine condF kr ?_
  refine wp_seq_k fun K125 hK126 => rl ?_
  refine seqL2 kr ?_
  refine nl (hK126 _ _ ?_)
  replace h := ite_some h; rcases h with ⟨c128, h⟩ | ⟨c128, h⟩
  · have c128 : s2.Mode = 5 := c128
    refine wpRwI 41 kr (beq_iff_eq.mpr c128) ?_
    refine wpRwI 42 kr (beq_iff_eq.mpr c128) ?_
    refine condT kr ?_
    refine rl ?_
    refine seqL1 kr ?_
    refine seqK rfl (does_store (n := 1) (vs := [.int .i64 1]) (cs' := (cm_State2 vt46 vt54 1)) rfl kr (kv (pV b9 8)) (kv (.int .i64 1)) rfl rfl (ones rfl) HS89 (Nat.le_of_ble_eq_true rfl) kr ?_)
    intro W129 HS130
    refine nl ?_
    refine hn108 _ _ ?_
    refine hK103 _ _ ?_
    refine wp_seq_k fun K141 hK142 => rl ?_
    refine seqK rfl (does_run (run_loadN (n := 9) rfl Try.underlying51 rfl kr (kv (pV b9 0)) (cs := (lm_State2 vt46 vt54 1)) rfl (HS130.cells 0 9 _ rfl)) ?_)
    have HS143 := HS130.u1
    refine seqK rfl (does_storeA (vs := (lm_State2 vt46 vt54 1)) rfl kr kr kr rfl (ones rfl) HS143 kr ?_)
    intro W144 HS145
    refine nl (hK142 _ _ ?_)
    refine wp_ret ?_
    refine hret _ _ ?_
    refine ends (v := Value.agg (cm_State2 vt46 vt54 1)) (results1 (q1 := .cell 4 51) kr (resN (n := 9) (cs := (lm_State2 vt46 vt54 1)) (kv (pV b13 0)) Try.underlying51 rfl kr rfl (HS145.cells 0 9 _ rfl))) kr ?_
    have HS160 := HS145.drop
    have HS161 := HS160.drop
    have HS162 := HS161.drop
    injection h with h
    subst h
    exact ⟨f86, rfl, (L24.trans (L49.trans (L57.trans L87))), HS162⟩
  have c128 : ¬ (s2.Mode = 5) := c128
  refine wpRwI 41 kr (beq_eq_false_iff_ne.mpr c128) ?_
  refine wpRwI 42 kr (beq_eq_false_iff_ne.mpr c128) ?_
  refine condF kr ?_
  refine wp_skip ?_
  refine hn108 _ _ ?_
  refine hK103 _ _ ?_
  refine wp_seq_k fun K146 hK147 => rl ?_
  refine seqK rfl (does_run (run_loadN (n := 9) rfl Try.underlying51 rfl kr (kv (pV b9 0)) (cs := (lm_State2 vt46 vt54 s2.Mode)) rfl (HS89.cells 0 9 _ rfl)) ?_)
  have HS148 := HS89.u1
  refine seqK rfl (does_storeA (vs := (lm_State2 vt46 vt54 s2.Mode)) rfl kr kr kr rfl (ones rfl) HS148 kr ?_)
  intro W149 HS150
  refine nl (hK147 _ _ ?_)
  refine wp_ret ?_
  refine hret _ _ ?_
  refine ends (v := Value.agg (cm_State2 vt46 vt54 s2.Mode)) (results1 (q1 := .cell 4 51) kr (resN (n := 9) (cs := (lm_State2 vt46 vt54 s2.Mode)) (kv (pV b13 0)) Try.underlying51 rfl kr rfl (HS150.cells 0 9 _ rfl))) kr ?_
  have HS163 := HS150.drop
  have HS164 := HS163.drop
  have HS165 := HS164.drop
  injection h with h
  subst h
  exact ⟨f86, rfl, (L24.trans (L49.trans (L57.trans L87))), HS165⟩
 clear h; have h := hv92; clear hv92
 refine rl ?_
 refine seqL1 kr ?_
 refine seqK rfl (does_run (run_loadN (n := 4) rfl Try.underlying49 rfl kr (kv (pV b9 0)) (cs := (ll_State vt46)) rfl (HS66.cells 0 4 _ rfl)) ?_)
 replace h := bind_some h; obtain ⟨vt73, hc74, h⟩ := h
 refine seqK rfl (does_call kr (axis_Resting.calls k vt46 HS66 vt73 hc74) ?_)
 rintro _ W77 ⟨f75, rfl, L76, HS78⟩
 refine ⟨_, rfl, ?_⟩
 refine seqL2 kr ?_
 replace h := ite_some h; rcases h with ⟨c79, h⟩ | ⟨c79, h⟩
 · have c79 : ¬ (vt73 = true) := c79
   refine seqRwI 25 kr (congrArg (fun b_ => !b_) (show vt73 = false from (Bool.eq_false_iff.mpr c79)) : (!vt73) = true) ?_
   refine seqRwI 26 kr (congrArg (fun b_ => !b_) (show vt73 = false from (Bool.eq_false_iff.mpr c79)) : (!vt73) = true) ?_
   refine seqL5 kr ?_
   refine nl ?_
   exact J93 f75 true (jL [pV b9 0, (ag_State vt46), .bool vt73, tV, tV]) W77 _ L76 h HS78 kr
 have c79 : ¬ (¬ (vt73 = true)) := c79
 refine seqRwI 25 (x := (!vt73)) (v := false) kr (congrArg (fun b_ => !b_) (show vt73 = true from (Decidable.of_not_not c79)) : (!vt73) = false) ?_
 refine seqRwI 26 (x := (!vt73)) (v := false) kr (congrArg (fun b_ => !b_) (show vt73 = true from (Decidable.of_not_not c79)) : (!vt73) = false) ?_
 refine seqL1 kr ?_
 refine seqG kr (does_run (run_loadN (n := 4) rfl Try.underlying49 rfl kr (kv (pV b9 4)) (cs := (ll_State vt54)) rfl (HS78.cells 4 4 _ rfl)) ?_)
 replace h := bind_some h; obtain ⟨vt80, hc81, h⟩ := h
 refine seqG kr (does_call kr (axis_Resting.calls k vt54 HS78 vt80 hc81) ?_)
 rintro _ W84 ⟨f82, rfl, L83, HS85⟩
 refine ⟨_, rfl, ?_⟩
 refine seqL2 kr ?_
 refine nl ?_
 exact J93 f82 (!vt80) (jL [pV b9 0, (ag_State vt46), .bool vt73, fV, fV, pV b9 4, (ag_State vt54), .bool vt80, .bool (!vt80)]) W84 _ (L76.trans L83) h HS85 kr

set_option maxRecDepth 100000 in
set_option maxHeartbeats 4000000 in
theorem dome_Step.calls (k : Nat)  (s1 : S_State3) {t w : World} {f : FM} {H : List Seg} (HS : St t w f (H)) (rr1 : S_State3) (h : dome_Step k s1 = some rr1) :
    Calls Try.prog 37 #[.agg (cl_State3 s1)] w (fun e w' => ∃ (g : FM), e = .returned (Value.agg (cl_State3 rr1)) ∧ FM.le f g ∧ St t w' g (H)) := by
 unfold dome_Step at h
 refine enter Try.func37 rfl (tm := ⟨[(ag_State3 s1)] ++ (un 48 [])⟩) kr ?_
 intro B hret hnor hnp
 refine wp_seq_k fun K2 hK3 => rl ?_
 refine seqK rfl (does_box (cs := (cl_State3 s1)) rfl (kv (.agg (cl_State3 s1))) rfl HS ?_)
 intro b4 W5 HS6
 refine seqK rfl (does_alloc (z := Value.agg (cm_State3 0 0 false false ⟨0, 0, 0, false⟩)) (cs := (cm_State3 0 0 false false ⟨0, 0, 0, false⟩)) rfl kr rfl HS6 ?_)
 intro b8 W9 HS10
 refine nl (hK3 _ _ ?_)
 refine wp_seq_k (fun K12 hK13 => ?_)
 refine wp_seq_k fun K14 hK15 => rl ?_
 refine seqK rfl (does_run (run_loadN (n := 8) rfl Try.underlying53 rfl kr (kv (pV b4 0)) (cs := (ll_State3 s1)) rfl (HS10.u1.cells 0 8 _ rfl)) ?_)
 replace h := bind_some h; obtain ⟨vt16, hc17, h⟩ := h
 refine seqK rfl (does_call kr (dome_Check.calls k s1 HS10 vt16 hc17) ?_)
 rintro _ W20 ⟨f18, rfl, L19, HS21⟩
 refine ⟨_, rfl, ?_⟩
 refine seqL1 kr ?_
 refine nl (hK15 _ _ ?_)
 replace h := ite_some h; rcases h with ⟨c23, h⟩ | ⟨c23, h⟩
 · have c23 : vt16 ≠ 0 := c23
   refine wpRwI 5 kr (bne_iff_ne.mpr c23) ?_
   refine condT kr ?_
   refine wp_seq_k (fun K24 hK25 => ?_)
   exact nomatch h
 have c23 : ¬ (vt16 ≠ 0) := c23
 refine wpRwI 5 (x := (vt16 != 0)) (v := false) kr (bne_eq_false_iff_eq.mpr (Decidable.of_not_not c23)) ?_
 refine condF kr ?_
 refine wp_skip ?_
 refine hK13 _ _ ?_
 refine wp_seq_k (fun K26 hK27 => ?_)
 refine wp_seq_k (fun K28 hK29 => ?_)
 replace h := bind_some h; obtain ⟨v30, hv38, h⟩ := h
 have J39 : ∀ (f32 : FM) (x37 : Bool) (j36 : Nat → Value) (W34 : World) (a_ : Act), FM.le f18 f32 → some (x37) = some v30 → St t W34 f32 ([(b8, .cells (cm_State3 0 0 false false ⟨0, 0, 0, false⟩) 53 (0, 0))] :: [(b4, .cells (cl_State3 s1) 53 (0, 0))] :: H) → a_ = ⟨⟨[(ag_State3 s1), pV b4 0, pV b8 0, (ag_State3 s1), iV vt16, fV, uV] ++ (jr j36 0 5 ([.bool x37] ++ (un 36 [])))⟩, []⟩ → K28 a_ W34 := by
  intro f32 x37 j36 W34 a_ L33 hj40 HS35  hfr_; subst hfr_
  injection hj40 with hj40; subst hj40; try dsimp only at h
  refine hK29 _ _ ?_
  replace h := bind_some h; obtain ⟨v41, hv69, h⟩ := h
  have J70 : ∀ (f63 : FM) (x68 : Int) (j67 : Nat → Value) (W65 : World) (a_ : Act), FM.le f32 f63 → some (x68) = some v41 → St t W65 f63 ([(b8, .cells (cm_State3 0 0 false false ⟨0, 0, 0, false⟩) 53 (0, 0))] :: [(b4, .cells (cm_State3 s1.Shutter x68 s1.Open s1.Lift s1.Turn) 53 (0, 0))] :: H) → a_ = ⟨⟨[(ag_State3 s1), pV b4 0, pV b8 0, (ag_State3 s1), iV vt16, fV, uV] ++ (jr j36 0 5 ([.bool x37] ++ (jr j67 0 13 (un 23 []))))⟩, []⟩ → K26 a_ W65 := by
   intro f63 x68 j67 W65 a_ L64 hj71 HS66  hfr_; subst hfr_
   injection hj71 with hj71; subst hj71; try dsimp only at h
   refine hK27 _ _ ?_
   refine wp_seq_k (fun K73 hK74 => ?_)
   refine blockK (fun B75 hx76 hn77 hr78 ho79 hp80 => ?_)
   refine wp_seq_k fun K82 hK83 => rl ?_
   refine seqL1 kr ?_
   refine seqK rfl (does_run (run_load rfl Try.underlying4 rfl (kv (pV b4 2)) (HS66.u1.cell 2)) ?_)
   refine seqL1 kr ?_
   refine nl (hK83 _ _ ?_)
   replace h := bind_some h; obtain ⟨v84, hv112, h⟩ := h
   have J113 : ∀ (f106 : FM) (x111 : Int) (j110 : Nat → Value) (W108 : World) (a_ : Act), FM.le f63 f106 → some (x111) = some v84 → St t W108 f106 ([(b8, .cells (cm_State3 0 0 false false ⟨0, 0, 0, false⟩) 53 (0, 0))] :: [(b4, .cells (cm_State3 x111 x68 s1.Open s1.Lift s1.Turn) 53 (0, 0))] :: H) → a_ = ⟨⟨[(ag_State3 s1), pV b4 0, pV b8 0, (ag_State3 s1), iV vt16, fV, uV] ++ (jr j36 0 5 ([.bool x37] ++ (jr j67 0 13 ([.bool s1.Open, pV b4 2, .bool s1.Open] ++ (jr j110 0 14 (un 6 []))))))⟩, []⟩ → B75 Exit.normal a_ W108 := by
    intro f106 x111 j110 W108 a_ L107 hj114 HS109  hfr_; subst hfr_
    injection hj114 with hj114; subst hj114; try dsimp only at h
    refine hn77 _ _ ?_
    refine hK74 _ _ ?_
    refine wp_seq_k (fun K116 hK117 => ?_)
    have HS118 := HS109.u1
    refine heldG (S := Sg t f106 ([(b8, .cells (cm_State3 0 0 false false ⟨0, 0, 0, false⟩) 53 (0, 0))] :: H) [(5, [(b4, .cells (cm_State3 x111 x68 s1.Open s1.Lift s1.Turn) 53 (0, 0))])]) (n := 6) kr rfl HS118 ?_
    intro W119 HS120
    refine gL [1] (fuel := 5) #[false, true, false, false, false, false] rfl kr kr kr hnp (Sg.g1 (Sx.of [[(b4, .cells (cm_State3 x111 x68 s1.Open s1.Lift s1.Turn) 53 (0, 0))]] fL HS120) (fun _ => St.only [] HS120 fL)) fun X121 => ?_
    refine gQs 2 5 rfl kr kr kr kr kr (.head _) kr hnp X121 (fun hl_ hS_ => run_loadN (n := 4) rfl Try.underlying49 rfl kr (kv (pV b4 4)) (cs := (ll_State s1.Turn)) rfl (hS_.cells 4 4 _ rfl)) fun X122 => ?_
    replace h := bind_some h; obtain ⟨vt123, hc124, h⟩ := h
    refine takeGE 0 kr rfl kr (does_call kr (dome_Axis.calls k  HS120 vt123 hc124) ?_)
    rintro _ W127 ⟨f125, rfl, L126, HS128⟩
    refine ⟨_, rfl, ?_⟩
    refine kB (Sg.g1 (Sx.of [[(b4, .cells (cm_State3 x111 x68 s1.Open s1.Lift s1.Turn) 53 (0, 0))]] L126 HS128) (fun _ => St.only [] HS128 L126)) fun X129 => ?_
    replace h := bind_some h; obtain ⟨vt130, hc131, h⟩ := h
    refine takeGE 3 kr rfl kr (does_call kr (axis_Step.calls k vt123 s1.Turn HS128 vt130 hc131) ?_)
    rintro _ W134 ⟨f132, rfl, L133, HS135⟩
    refine ⟨_, rfl, ?_⟩
    refine kB (Sg.g1 (Sx.of [[(b4, .cells (cm_State3 x111 x68 s1.Open s1.Lift s1.Turn) 53 (0, 0))]] (L126.trans L133) HS135) (fun _ => St.only [] HS135 (L126.trans L133))) fun X136 => ?_
    refine gL [4] (fuel := 1) #[true, true, true, true, true, false] rfl kr kr kr hnp X136 fun X137 => ?_
    refine takeGE 5 kr rfl kr (does_store (n := 4) (vs := (ll_State vt130)) (cs' := (cm_State3 x111 x68 s1.Open s1.Lift vt130)) rfl kr (kv (pV b4 4)) (kv (.agg (cl_State vt130))) rfl rfl (ones rfl) HS135 (Nat.le_of_ble_eq_true rfl) kr ?_)
    intro W138 HS139
    refine kB (Sg.g1 (Sx.of [[(b4, .cells (cm_State3 x111 x68 s1.Open s1.Lift vt130) 53 (0, 0))]] (L126.trans L133) HS139) (fun hl_ => Bool.noConfusion (show true = false from hl_))) fun X140 => ?_
    refine doneG kr ?_ _
    refine hK117 _ _ ?_
    refine wp_seq_k fun K141 hK142 => rl ?_
    refine seqK rfl (does_run (run_loadN (n := 8) rfl Try.underlying53 rfl kr (kv (pV b4 0)) (cs := (lm_State3 x111 x68 s1.Open s1.Lift vt130)) rfl (HS139.cells 0 8 _ rfl)) ?_)
    have HS143 := HS139.u1
    refine seqK rfl (does_storeA (vs := (lm_State3 x111 x68 s1.Open s1.Lift vt130)) rfl kr kr kr rfl (ones rfl) HS143 kr ?_)
    intro W144 HS145
    refine nl (hK142 _ _ ?_)
    refine wp_ret ?_
    refine hret _ _ ?_
    refine ends (v := Value.agg (cm_State3 x111 x68 s1.Open s1.Lift vt130)) (results1 (q1 := .cell 2 53) kr (resN (n := 8) (cs := (lm_State3 x111 x68 s1.Open s1.Lift vt130)) (kv (pV b8 0)) Try.underlying53 rfl kr rfl (HS145.cells 0 8 _ rfl))) kr ?_
    have HS146 := HS145.drop
    have HS147 := HS146.drop
    injection h with h
    subst h
    exact ⟨f132, rfl, (L19.trans (L33.trans (L64.trans (L107.trans (L126.trans L133))))), HS147⟩
   clear h; have h := hv112; clear hv112
   replace h := ite_some h; rcases h with ⟨c85, h⟩ | ⟨c85, h⟩
   · have c85 : s1.Open = true := c85
     refine wpRwI 26 kr c85 ?_
     refine wpRwI 28 kr c85 ?_
     refine condT kr ?_
     refine rl ?_
     refine seqL1 kr ?_
     refine seqK rfl (does_run (run_load rfl Try.underlying3 rfl (kv (pV b4 0)) (HS66.u1.cell 0)) ?_)
     have HS86 := HS66.u1
     refine seqL3 kr ?_
     refine seqK rfl (does_store (n := 1) (vs := [.int .i64 (mn (w64 (s1.Shutter + 4)) 100)]) (cs' := (cm_State3 (mn (w64 (s1.Shutter + 4)) 100) x68 s1.Open s1.Lift s1.Turn)) rfl kr (kv (pV b4 0)) (kv (.int .i64 (mn (w64 (s1.Shutter + 4)) 100))) rfl rfl (ones rfl) HS86 (Nat.le_of_ble_eq_true rfl) kr ?_)
     intro W87 HS88
     refine nl ?_
     refine fnRwI (F := (B75 Exit.normal)) 28 (x := true) (v := s1.Open) kr (Eq.symm c85) ?_
     refine fnRwI (F := (B75 Exit.normal)) 26 (x := true) (v := s1.Open) kr (Eq.symm c85) ?_
     have HS115 := HS88.u1
     exact J113 f63 (mn (w64 (s1.Shutter + 4)) 100) (jL [pV b4 0, iV s1.Shutter, iV (w64 (s1.Shutter + 4)), iV (mn (w64 (s1.Shutter + 4)) 100), pV b4 0]) W87 _ fL h HS115 kr
   have c85 : ¬ (s1.Open = true) := c85
   refine wpRwI 26 kr (Bool.eq_false_iff.mpr c85) ?_
   refine wpRwI 28 kr (Bool.eq_false_iff.mpr c85) ?_
   refine condF kr ?_
   refine wp_seq_k fun K89 hK90 => rl ?_
   refine seqL1 kr ?_
   refine seqK rfl (does_run (run_load rfl Try.underlying3 rfl (kv (pV b4 1)) (HS66.u1.cell 1)) ?_)
   refine seqL2 kr ?_
   refine nl (hK90 _ _ ?_)
   replace h := bind_some h; obtain ⟨v91, hv102, h⟩ := h
   have J103 : ∀ (f96 : FM) (x101 : Int) (j100 : Nat → Value) (W98 : World) (a_ : Act), FM.le f63 f96 → some (x101) = some v91 → St t W98 f96 ([(b8, .cells (cm_State3 0 0 false false ⟨0, 0, 0, false⟩) 53 (0, 0))] :: [(b4, .cells (cm_State3 x101 x68 s1.Open s1.Lift s1.Turn) 53 (0, 0))] :: H) → a_ = ⟨⟨[(ag_State3 s1), pV b4 0, pV b8 0, (ag_State3 s1), iV vt16, fV, uV] ++ (jr j36 0 5 ([.bool x37] ++ (jr j67 0 13 ([fV, pV b4 2, fV] ++ (un 5 ([.bool (x68 == 0), pV b4 1, iV x68, .bool (x68 == 0)] ++ (jr j100 0 5 (un 6 []))))))))⟩, []⟩ → B75 Exit.normal a_ W98 := by
    intro f96 x101 j100 W98 a_ L97 hj104 HS99  hfr_; subst hfr_
    injection hj104 with hj104; subst hj104; try dsimp only at h
    refine fnRwI (F := (B75 Exit.normal)) 28 (x := false) (v := s1.Open) kr (Eq.symm (Bool.eq_false_iff.mpr c85)) ?_
    refine fnRwI (F := (B75 Exit.normal)) 26 (x := false) (v := s1.Open) kr (Eq.symm (Bool.eq_false_iff.mpr c85)) ?_
    exact J113 f96 x101 (jL [uV, uV, uV, uV, uV, .bool (x68 == 0), pV b4 1, iV x68, .bool (x68 == 0), (j100 0), (j100 1), (j100 2), (j100 3), (j100 4)]) W98 _ L97 h HS99 kr
   clear h; have h := hv102; clear hv102
   replace h := ite_some h; rcases h with ⟨c92, h⟩ | ⟨c92, h⟩
   rotate_left
   · have c92 : ¬ (x68 = 0) := c92
     refine wpRwI 34 kr (beq_eq_false_iff_ne.mpr c92) ?_
     refine wpRwI 37 kr (beq_eq_false_iff_ne.mpr c92) ?_
     refine condF kr ?_
     refine wp_skip ?_
     refine fnRwI (F := (B75 Exit.normal)) 37 (x := false) (v := (x68 == 0)) kr (Eq.symm (beq_eq_false_iff_ne.mpr c92)) ?_
     refine fnRwI (F := (B75 Exit.normal)) 34 (x := false) (v := (x68 == 0)) kr (Eq.symm (beq_eq_false_iff_ne.mpr c92)) ?_
     exact J103 f63 s1.Shutter (jL []) W65 _ fL h HS66 kr
   have c92 : x68 = 0 := c92
   refine wpRwI 34 kr (beq_iff_eq.mpr c92) ?_
   refine wpRwI 37 kr (beq_iff_eq.mpr c92) ?_
   refine condT kr ?_
   refine rl ?_
   refine seqL1 kr ?_
   refine seqK rfl (does_run (run_load rfl Try.underlying3 rfl (kv (pV b4 0)) (HS66.u1.cell 0)) ?_)
   have HS93 := HS66.u1
   refine seqL3 kr ?_
   refine seqK rfl (does_store (n := 1) (vs := [.int .i64 (mx (w64 (s1.Shutter - 5)) 0)]) (cs' := (cm_State3 (mx (w64 (s1.Shutter - 5)) 0) x68 s1.Open s1.Lift s1.Turn)) rfl kr (kv (pV b4 0)) (kv (.int .i64 (mx (w64 (s1.Shutter - 5)) 0))) rfl rfl (ones rfl) HS93 (Nat.le_of_ble_eq_true rfl) kr ?_)
   intro W94 HS95
   refine nl ?_
   refine fnRwI (F := (B75 Exit.normal)) 37 (x := true) (v := (x68 == 0)) kr (Eq.symm (beq_iff_eq.mpr c92)) ?_
   refine fnRwI (F := (B75 Exit.normal)) 34 (x := true) (v := (x68 == 0)) kr (Eq.symm (beq_iff_eq.mpr c92)) ?_
   have HS105 := HS95.u1
   exact J103 f63 (mx (w64 (s1.Shutter - 5)) 0) (jL [pV b4 0, iV s1.Shutter, iV (w64 (s1.Shutter - 5)), iV (mx (w64 (s1.Shutter - 5)) 0), pV b4 0]) W94 _ fL h HS105 kr
  clear h; have h := hv69; clear hv69
  replace h := ite_some h; rcases h with ⟨c42, h⟩ | ⟨c42, h⟩
  rotate_left
  · have c42 : ¬ (x37 = true) := c42
    refine wpRwI 12 kr (Bool.eq_false_iff.mpr c42) ?_
    refine condF kr ?_
    refine rl ?_
    refine seqL1 kr ?_
    refine seqK rfl (does_run (run_load rfl Try.underlying3 rfl (kv (pV b4 1)) (HS35.u1.cell 1)) ?_)
    have HS60 := HS35.u1
    refine seqL3 kr ?_
    refine seqK rfl (does_store (n := 1) (vs := [.int .i64 (mx (w64 (s1.Cover - 2)) 0)]) (cs' := (cm_State3 s1.Shutter (mx (w64 (s1.Cover - 2)) 0) s1.Open s1.Lift s1.Turn)) rfl kr (kv (pV b4 1)) (kv (.int .i64 (mx (w64 (s1.Cover - 2)) 0))) rfl rfl (ones rfl) HS60 (Nat.le_of_ble_eq_true rfl) kr ?_)
    intro W61 HS62
    refine nl ?_
    refine fnRwI (F := K26) 12 (x := false) (v := x37) kr (Eq.symm (Bool.eq_false_iff.mpr c42)) ?_
    have HS72 := HS62.u1
    exact J70 f32 (mx (w64 (s1.Cover - 2)) 0) (jL [uV, uV, uV, uV, uV, uV, uV, uV, pV b4 1, iV s1.Cover, iV (w64 (s1.Cover - 2)), iV (mx (w64 (s1.Cover - 2)) 0), pV b4 1]) W61 _ fL h HS72 kr
  have c42 : x37 = true := c42
  refine wpRwI 12 kr c42 ?_
  refine condT kr ?_
  refine wp_seq_k fun K43 hK44 => rl ?_
  refine seqL1 kr ?_
  refine seqK rfl (does_run (run_load rfl Try.underlying3 rfl (kv (pV b4 0)) (HS35.u1.cell 0)) ?_)
  refine seqL1 kr ?_
  refine nl (hK44 _ _ ?_)
  replace h := bind_some h; obtain ⟨v45, hv56, h⟩ := h
  have J57 : ∀ (f50 : FM) (x55 : Int) (j54 : Nat → Value) (W52 : World) (a_ : Act), FM.le f32 f50 → some (x55) = some v45 → St t W52 f50 ([(b8, .cells (cm_State3 0 0 false false ⟨0, 0, 0, false⟩) 53 (0, 0))] :: [(b4, .cells (cm_State3 s1.Shutter x55 s1.Open s1.Lift s1.Turn) 53 (0, 0))] :: H) → a_ = ⟨⟨[(ag_State3 s1), pV b4 0, pV b8 0, (ag_State3 s1), iV vt16, fV, uV] ++ (jr j36 0 5 ([tV, pV b4 0, iV s1.Shutter, .bool (s1.Shutter == 100)] ++ (jr j54 0 5 (un 28 []))))⟩, []⟩ → K26 a_ W52 := by
   intro f50 x55 j54 W52 a_ L51 hj58 HS53  hfr_; subst hfr_
   injection hj58 with hj58; subst hj58; try dsimp only at h
   refine fnRwI (F := K26) 12 (x := true) (v := x37) kr (Eq.symm c42) ?_
   exact J70 f50 x55 (jL [pV b4 0, iV s1.Shutter, .bool (s1.Shutter == 100), (j54 0), (j54 1), (j54 2), (j54 3), (j54 4)]) W52 _ L51 h HS53 kr
  clear h; have h := hv56; clear hv56
  replace h := ite_some h; rcases h with ⟨c46, h⟩ | ⟨c46, h⟩
  rotate_left
  · have c46 : ¬ (s1.Shutter = 100) := c46
    refine wpRwI 15 kr (beq_eq_false_iff_ne.mpr c46) ?_
    refine condF kr ?_
    refine wp_skip ?_
    refine fnRwI (F := K26) 15 (x := false) (v := (s1.Shutter == 100)) kr (Eq.symm (beq_eq_false_iff_ne.mpr c46)) ?_
    exact J57 f32 s1.Cover (jL []) W34 _ fL h HS35 kr
  have c46 : s1.Shutter = 100 := c46
  refine wpRwI 15 kr (beq_iff_eq.mpr c46) ?_
  refine condT kr ?_
  refine rl ?_
  refine seqL1 kr ?_
  refine seqK rfl (does_run (run_load rfl Try.underlying3 rfl (kv (pV b4 1)) (HS35.u1.cell 1)) ?_)
  have HS47 := HS35.u1
  refine seqL3 kr ?_
  refine seqK rfl (does_store (n := 1) (vs := [.int .i64 (mn (w64 (s1.Cover + 1)) 20)]) (cs' := (cm_State3 s1.Shutter (mn (w64 (s1.Cover + 1)) 20) s1.Open s1.Lift s1.Turn)) rfl kr (kv (pV b4 1)) (kv (.int .i64 (mn (w64 (s1.Cover + 1)) 20))) rfl rfl (ones rfl) HS47 (Nat.le_of_ble_eq_true rfl) kr ?_)
  intro W48 HS49
  refine nl ?_
  refine fnRwI (F := K26) 15 (x := true) (v := (s1.Shutter == 100)) kr (Eq.symm (beq_iff_eq.mpr c46)) ?_
  have HS59 := HS49.u1
  exact J57 f32 (mn (w64 (s1.Cover + 1)) 20) (jL [pV b4 1, iV s1.Cover, iV (w64 (s1.Cover + 1)), iV (mn (w64 (s1.Cover + 1)) 20), pV b4 1]) W48 _ fL h HS59 kr
 clear h; have h := hv38; clear hv38
 refine rl ?_
 refine seqL1 kr ?_
 refine seqK rfl (does_run (run_load rfl Try.underlying4 rfl (kv (pV b4 3)) (HS21.u1.cell 3)) ?_)
 refine seqL1 kr ?_
 replace h := ite_some h; rcases h with ⟨c31, h⟩ | ⟨c31, h⟩
 · have c31 : s1.Lift = true := c31
   refine seqRwI 8 kr c31 ?_
   refine seqRwI 9 kr c31 ?_
   refine seqL1 kr ?_
   refine seqG kr (does_run (run_load rfl Try.underlying4 rfl (kv (pV b4 2)) (HS21.u1.cell 2)) ?_)
   refine seqL1 kr ?_
   refine nl ?_
   exact J39 f18 s1.Open (jL [pV b4 3, tV, tV, pV b4 2, .bool s1.Open]) W20 _ fL h HS21 kr
 have c31 : ¬ (s1.Lift = true) := c31
 refine seqRwI 8 kr (Bool.eq_false_iff.mpr c31) ?_
 refine seqRwI 9 kr (Bool.eq_false_iff.mpr c31) ?_
 refine seqL3 kr ?_
 refine nl ?_
 exact J39 f18 false (jL [pV b4 3, fV, fV]) W20 _ fL h HS21 kr

set_option maxRecDepth 100000 in
set_option maxHeartbeats 4000000 in
theorem camera_Step.calls (k : Nat)  (s1 : S_State4) {t w : World} {f : FM} {H : List Seg} (HS : St t w f (H)) (rr1 : S_State4) (h : camera_Step k s1 = some rr1) :
    Calls Try.prog 38 #[.agg (cl_State4 s1)] w (fun e w' => ∃ (g : FM), e = .returned (Value.agg (cl_State4 rr1)) ∧ FM.le f g ∧ St t w' g (H)) := by
 unfold camera_Step at h
 refine enter Try.func38 rfl (tm := ⟨[(ag_State4 s1)] ++ (un 30 [])⟩) kr ?_
 intro B hret hnor hnp
 refine wp_seq_k fun K2 hK3 => rl ?_
 refine seqK rfl (does_box (cs := (cl_State4 s1)) rfl (kv (.agg (cl_State4 s1))) rfl HS ?_)
 intro b4 W5 HS6
 refine seqK rfl (does_alloc (z := Value.agg (cm_Axis 0 0 0 0)) (cs := (cm_Axis 0 0 0 0)) rfl kr rfl HS6 ?_)
 intro b8 W9 HS10
 refine nl (hK3 _ _ ?_)
 refine wp_seq_k (fun K12 hK13 => ?_)
 refine wp_seq_k fun K14 hK15 => rl ?_
 refine seqK rfl (does_run (run_loadN (n := 4) rfl Try.underlying55 rfl kr (kv (pV b4 0)) (cs := (ll_State4 s1)) rfl (HS10.u1.cells 0 4 _ rfl)) ?_)
 replace h := bind_some h; obtain ⟨vt16, hc17, h⟩ := h
 refine seqK rfl (does_call kr (camera_Check.calls k s1 HS10 vt16 hc17) ?_)
 rintro _ W20 ⟨f18, rfl, L19, HS21⟩
 refine ⟨_, rfl, ?_⟩
 refine seqL1 kr ?_
 refine nl (hK15 _ _ ?_)
 replace h := ite_some h; rcases h with ⟨c23, h⟩ | ⟨c23, h⟩
 · have c23 : vt16 ≠ 0 := c23
   refine wpRwI 5 kr (bne_iff_ne.mpr c23) ?_
   refine condT kr ?_
   refine wp_seq_k (fun K24 hK25 => ?_)
   exact nomatch h
 have c23 : ¬ (vt16 ≠ 0) := c23
 refine wpRwI 5 (x := (vt16 != 0)) (v := false) kr (bne_eq_false_iff_eq.mpr (Decidable.of_not_not c23)) ?_
 refine condF kr ?_
 refine wp_skip ?_
 refine hK13 _ _ ?_
 refine wp_seq_k (fun K26 hK27 => ?_)
 refine wp_seq_k fun K28 hK29 => rl ?_
 refine seqL1 kr ?_
 refine seqK rfl (does_run (run_load rfl Try.underlying3 rfl (kv (pV b4 0)) (HS21.u1.cell 0)) ?_)
 refine nl (hK29 _ _ ?_)
 refine blockK (fun B30 hx31 hn32 hr33 ho34 hp35 => ?_)
 refine wp_seq_k fun K37 hK38 => rl ?_
 refine seqL2 kr ?_
 refine nl (hK38 _ _ ?_)
 replace h := ite_some h; rcases h with ⟨c40, h⟩ | ⟨c40, h⟩
 · have c40 : s1.Mode = 1 := c40
   refine wpRwI 9 kr (beq_iff_eq.mpr c40) ?_
   refine wpRwI 10 kr (beq_iff_eq.mpr c40) ?_
   refine condT kr ?_
   refine wp_seq_k fun K41 hK42 => rl ?_
   refine seqL1 kr ?_
   refine seqK rfl (does_run (run_load rfl Try.underlying3 rfl (kv (pV b4 1)) (HS21.u1.cell 1)) ?_)
   have HS43 := HS21.u1
   refine seqL2 kr ?_
   refine seqK rfl (does_store (n := 1) (vs := [.int .i64 (w64 (s1.Left - 1))]) (cs' := (cm_Axis s1.Mode (w64 (s1.Left - 1)) s1.Beats s1.Number)) rfl kr (kv (pV b4 1)) (kv (.int .i64 (w64 (s1.Left - 1)))) rfl rfl (ones rfl) HS43 (Nat.le_of_ble_eq_true rfl) kr ?_)
   intro W44 HS45
   refine nl (hK42 _ _ ?_)
   refine wp_seq_k fun K46 hK47 => rl ?_
   refine seqL1 kr ?_
   refine seqK rfl (does_run (run_load rfl Try.underlying3 rfl (kv (pV b4 1)) (HS45.cell 1)) ?_)
   refine seqL1 kr ?_
   refine nl (hK47 _ _ ?_)
   replace h := ite_some h; rcases h with ⟨c49, h⟩ | ⟨c49, h⟩
   rotate_left
   · have c49 : ¬ ((w64 (s1.Left - 1)) = 0) := c49
     refine wpRwI 17 kr (beq_eq_false_iff_ne.mpr c49) ?_
     refine condF kr ?_
     refine wp_skip ?_
     refine hn32 _ _ ?_
     refine hK27 _ _ ?_
     refine wp_seq_k fun K74 hK75 => rl ?_
     refine seqK rfl (does_run (run_loadN (n := 4) rfl Try.underlying55 rfl kr (kv (pV b4 0)) (cs := (lm_Axis s1.Mode (w64 (s1.Left - 1)) s1.Beats s1.Number)) rfl (HS45.cells 0 4 _ rfl)) ?_)
     have HS76 := HS45.u1
     refine seqK rfl (does_storeA (vs := (lm_Axis s1.Mode (w64 (s1.Left - 1)) s1.Beats s1.Number)) rfl kr kr kr rfl (ones rfl) HS76 kr ?_)
     intro W77 HS78
     refine nl (hK75 _ _ ?_)
     refine wp_ret ?_
     refine hret _ _ ?_
     refine ends (v := Value.agg (cm_Axis s1.Mode (w64 (s1.Left - 1)) s1.Beats s1.Number)) (results1 (q1 := .cell 2 55) kr (resN (n := 4) (cs := (lm_Axis s1.Mode (w64 (s1.Left - 1)) s1.Beats s1.Number)) (kv (pV b8 0)) Try.underlying55 rfl kr rfl (HS78.cells 0 4 _ rfl))) kr ?_
     have HS95 := HS78.drop
     have HS96 := HS95.drop
     injection h with h
     subst h
     exact ⟨f18, rfl, L19, HS96⟩
   have c49 : (w64 (s1.Left - 1)) = 0 := c49
   refine wpRwI 17 kr (beq_iff_eq.mpr c49) ?_
   refine condT kr ?_
   refine rl ?_
   refine seqL1 kr ?_
   refine seqK rfl (does_store (n := 1) (vs := [.int .i64 2]) (cs' := (cm_Axis 2 (w64 (s1.Left - 1)) s1.Beats s1.Number)) rfl kr (kv (pV b4 0)) (kv (.int .i64 2)) rfl rfl (ones rfl) HS45 (Nat.le_of_ble_eq_true rfl) kr ?_)
   intro W50 HS51
   refine seqL1 kr ?_
   refine seqK rfl (does_store (n := 1) (vs := [.int .i64 3]) (cs' := (cm_Axis 2 3 s1.Beats s1.Number)) rfl kr (kv (pV b4 1)) (kv (.int .i64 3)) rfl rfl (ones rfl) HS51 (Nat.le_of_ble_eq_true rfl) kr ?_)
   intro W52 HS53
   refine nl ?_
   refine hn32 _ _ ?_
   refine hK27 _ _ ?_
   refine wp_seq_k fun K69 hK70 => rl ?_
   refine seqK rfl (does_run (run_loadN (n := 4) rfl Try.underlying55 rfl kr (kv (pV b4 0)) (cs := (lm_Axis 2 3 s1.Beats s1.Number)) rfl (HS53.cells 0 4 _ rfl)) ?_)
   have HS71 := HS53.u1
   refine seqK rfl (does_storeA (vs := (lm_Axis 2 3 s1.Beats s1.Number)) rfl kr kr kr rfl (ones rfl) HS71 kr ?_)
   intro W72 HS73
   refine nl (hK70 _ _ ?_)
   refine wp_ret ?_
   refine hret _ _ ?_
   refine ends (v := Value.agg (cm_Axis 2 3 s1.Beats s1.Number)) (results1 (q1 := .cell 2 55) kr (resN (n := 4) (cs := (lm_Axis 2 3 s1.Beats s1.Number)) (kv (pV b8 0)) Try.underlying55 rfl kr rfl (HS73.cells 0 4 _ rfl))) kr ?_
   have HS93 := HS73.drop
   have HS94 := HS93.drop
   injection h with h
   subst h
   exact ⟨f18, rfl, L19, HS94⟩
 have c40 : ¬ (s1.Mode = 1) := c40
 refine wpRwI 9 kr (beq_eq_false_iff_ne.mpr c40) ?_
 refine wpRwI 10 kr (beq_eq_false_iff_ne.mpr c40) ?_
 refine condF kr ?_
 refine wp_seq_k fun K54 hK55 => rl ?_
 refine seqL2 kr ?_
 refine nl (hK55 _ _ ?_)
 replace h := ite_some h; rcases h with ⟨c57, h⟩ | ⟨c57, h⟩
 rotate_left
 · have c57 : ¬ (s1.Mode = 2) := c57
   refine wpRwI 20 kr (beq_eq_false_iff_ne.mpr c57) ?_
   refine wpRwI 21 kr (beq_eq_false_iff_ne.mpr c57) ?_
   refine condF kr ?_
   refine wp_skip ?_
   refine hn32 _ _ ?_
   refine hK27 _ _ ?_
   refine wp_seq_k fun K89 hK90 => rl ?_
   refine seqK rfl (does_run (run_loadN (n := 4) rfl Try.underlying55 rfl kr (kv (pV b4 0)) (cs := (ll_State4 s1)) rfl (HS21.u1.cells 0 4 _ rfl)) ?_)
   refine seqK rfl (does_storeA (vs := (ll_State4 s1)) rfl kr kr kr rfl (ones rfl) HS21 kr ?_)
   intro W91 HS92
   refine nl (hK90 _ _ ?_)
   refine wp_ret ?_
   refine hret _ _ ?_
   refine ends (v := Value.agg (cl_State4 s1)) (results1 (q1 := .cell 2 55) kr (resN (n := 4) (cs := (ll_State4 s1)) (kv (pV b8 0)) Try.underlying55 rfl kr rfl (HS92.cells 0 4 _ rfl))) kr ?_
   have HS101 := HS92.drop
   have HS102 := HS101.drop
   injection h with h
   subst h
   exact ⟨f18, rfl, L19, HS102⟩
 have c57 : s1.Mode = 2 := c57
 refine wpRwI 20 kr (beq_iff_eq.mpr c57) ?_
 refine wpRwI 21 kr (beq_iff_eq.mpr c57) ?_
 refine condT kr ?_
 refine wp_seq_k fun K58 hK59 => rl ?_
 refine seqL1 kr ?_
 refine seqK rfl (does_run (run_load rfl Try.underlying3 rfl (kv (pV b4 1)) (HS21.u1.cell 1)) ?_)
 have HS60 := HS21.u1
 refine seqL2 kr ?_
 refine seqK rfl (does_store (n := 1) (vs := [.int .i64 (w64 (s1.Left - 1))]) (cs' := (cm_Axis s1.Mode (w64 (s1.Left - 1)) s1.Beats s1.Number)) rfl kr (kv (pV b4 1)) (kv (.int .i64 (w64 (s1.Left - 1)))) rfl rfl (ones rfl) HS60 (Nat.le_of_ble_eq_true rfl) kr ?_)
 intro W61 HS62
 refine nl (hK59 _ _ ?_)
 refine wp_seq_k fun K63 hK64 => rl ?_
 refine seqL1 kr ?_
 refine seqK rfl (does_run (run_load rfl Try.underlying3 rfl (kv (pV b4 1)) (HS62.cell 1)) ?_)
 refine seqL1 kr ?_
 refine nl (hK64 _ _ ?_)
 replace h := ite_some h; rcases h with ⟨c66, h⟩ | ⟨c66, h⟩
 · have c66 : (w64 (s1.Left - 1)) = 0 := c66
   refine wpRwI 28 kr (beq_iff_eq.mpr c66) ?_
   refine condT kr ?_
   refine rl ?_
   refine seqL1 kr ?_
   refine seqK rfl (does_store (n := 1) (vs := [.int .i64 3]) (cs' := (cm_Axis 3 (w64 (s1.Left - 1)) s1.Beats s1.Number)) rfl kr (kv (pV b4 0)) (kv (.int .i64 3)) rfl rfl (ones rfl) HS62 (Nat.le_of_ble_eq_true rfl) kr ?_)
   intro W67 HS68
   refine nl ?_
   refine hn32 _ _ ?_
   refine hK27 _ _ ?_
   refine wp_seq_k fun K79 hK80 => rl ?_
   refine seqK rfl (does_run (run_loadN (n := 4) rfl Try.underlying55 rfl kr (kv (pV b4 0)) (cs := (lm_Axis 3 (w64 (s1.Left - 1)) s1.Beats s1.Number)) rfl (HS68.cells 0 4 _ rfl)) ?_)
   have HS81 := HS68.u1
   refine seqK rfl (does_storeA (vs := (lm_Axis 3 (w64 (s1.Left - 1)) s1.Beats s1.Number)) rfl kr kr kr rfl (ones rfl) HS81 kr ?_)
   intro W82 HS83
   refine nl (hK80 _ _ ?_)
   refine wp_ret ?_
   refine hret _ _ ?_
   refine ends (v := Value.agg (cm_Axis 3 (w64 (s1.Left - 1)) s1.Beats s1.Number)) (results1 (q1 := .cell 2 55) kr (resN (n := 4) (cs := (lm_Axis 3 (w64 (s1.Left - 1)) s1.Beats s1.Number)) (kv (pV b8 0)) Try.underlying55 rfl kr rfl (HS83.cells 0 4 _ rfl))) kr ?_
   have HS97 := HS83.drop
   have HS98 := HS97.drop
   injection h with h
   subst h
   exact ⟨f18, rfl, L19, HS98⟩
 have c66 : ¬ ((w64 (s1.Left - 1)) = 0) := c66
 refine wpRwI 28 kr (beq_eq_false_iff_ne.mpr c66) ?_
 refine condF kr ?_
 refine wp_skip ?_
 refine hn32 _ _ ?_
 refine hK27 _ _ ?_
 refine wp_seq_k fun K84 hK85 => rl ?_
 refine seqK rfl (does_run (run_loadN (n := 4) rfl Try.underlying55 rfl kr (kv (pV b4 0)) (cs := (lm_Axis s1.Mode (w64 (s1.Left - 1)) s1.Beats s1.Number)) rfl (HS62.cells 0 4 _ rfl)) ?_)
 have HS86 := HS62.u1
 refine seqK rfl (does_storeA (vs := (lm_Axis s1.Mode (w64 (s1.Left - 1)) s1.Beats s1.Number)) rfl kr kr kr rfl (ones rfl) HS86 kr ?_)
 intro W87 HS88
 refine nl (hK85 _ _ ?_)
 refine wp_ret ?_
 refine hret _ _ ?_
 refine ends (v := Value.agg (cm_Axis s1.Mode (w64 (s1.Left - 1)) s1.Beats s1.Number)) (results1 (q1 := .cell 2 55) kr (resN (n := 4) (cs := (lm_Axis s1.Mode (w64 (s1.Left - 1)) s1.Beats s1.Number)) (kv (pV b8 0)) Try.underlying55 rfl kr rfl (HS88.cells 0 4 _ rfl))) kr ?_
 have HS99 := HS88.drop
 have HS100 := HS99.drop
 injection h with h
 subst h
 exact ⟨f18, rfl, L19, HS100⟩

end Go.Sp.S4
