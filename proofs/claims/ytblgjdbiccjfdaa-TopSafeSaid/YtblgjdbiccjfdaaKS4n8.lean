import Derived.Test.YtblgjdbiccjfdaaProg
import Derived.Test.YtblgjdbiccjfdaaSpCopy
import Derived.Test.YtblgjdbiccjfdaaFS4
import Derived.Test.YtblgjdbiccjfdaaSpTake
import Derived.Test.YtblgjdbiccjfdaaKS4n0
import Derived.Test.YtblgjdbiccjfdaaKS4n1
import Derived.Test.YtblgjdbiccjfdaaKS4n2
import Derived.Test.YtblgjdbiccjfdaaKS4n3
import Derived.Test.YtblgjdbiccjfdaaKS4n4
import Derived.Test.YtblgjdbiccjfdaaKS4n5
import Derived.Test.YtblgjdbiccjfdaaKS4n6
import Derived.Test.YtblgjdbiccjfdaaKS4n7
namespace Go.Sp.S4
open Go Go.Sp Go.Proofs
set_option linter.unusedVariables false
attribute [local irreducible] wpList AnyL Code.wp Calls Does
set_option maxRecDepth 100000 in
set_option maxHeartbeats 4000000 in
theorem guard_Step.calls (k : Nat)  (m1 : S_Mount) (vw2 : S_World) (s3 : S_Sensors) {t w : World} {f : FM} {H : List Seg} (HS : St t w f (H)) (rr1 : S_World) (h : guard_Step k m1 vw2 s3 = some rr1) :
    Calls Try.prog 14 #[.agg (cl_Mount m1), .agg (cl_World vw2), .agg (cl_Sensors s3)] w (fun e w' => ∃ (g : FM), e = .returned (Value.agg (cl_World rr1)) ∧ FM.le f g ∧ St t w' g (H)) := by
 unfold guard_Step at h
 refine enter Try.func14 rfl (tm := ⟨[(ag_Mount m1), (ag_World vw2), (ag_Sensors s3)] ++ (un 60 [])⟩) kr ?_
 intro B hret hnor hnp
 refine wp_seq_k fun K4 hK5 => rl ?_
 refine seqK rfl (does_box (cs := (cl_Mount m1)) rfl (kv (.agg (cl_Mount m1))) rfl HS ?_)
 intro b6 W7 HS8
 refine seqK rfl (does_box (cs := (cl_World vw2)) rfl (kv (.agg (cl_World vw2))) rfl HS8 ?_)
 intro b10 W11 HS12
 refine seqK rfl (does_box (cs := (cl_Sensors s3)) rfl (kv (.agg (cl_Sensors s3))) rfl HS12 ?_)
 intro b14 W15 HS16
 refine seqK rfl (does_alloc (z := Value.agg (cm_World ⟨⟨0, 0, 0, false⟩, ⟨0, 0, 0, false⟩, 0⟩ ⟨0, 0, false, false, ⟨0, 0, 0, false⟩⟩ ⟨0, 0, 0, 0⟩ ⟨false, false, false, false, false⟩ ⟨0, 0⟩ 0 0 0)) (cs := (cm_World ⟨⟨0, 0, 0, false⟩, ⟨0, 0, 0, false⟩, 0⟩ ⟨0, 0, false, false, ⟨0, 0, 0, false⟩⟩ ⟨0, 0, 0, 0⟩ ⟨false, false, false, false, false⟩ ⟨0, 0⟩ 0 0 0)) rfl kr rfl HS16 ?_)
 intro b18 W19 HS20
 refine nl (hK5 _ _ ?_)
 refine wp_seq_k (fun K22 hK23 => ?_)
 refine wp_seq_k fun K24 hK25 => rl ?_
 refine seqK rfl (does_run (run_loadN (n := 10) rfl Try.underlying31 rfl kr (kv (pV b6 0)) (cs := (ll_Mount m1)) rfl (HS20.u3.cells 0 10 _ rfl)) ?_)
 refine seqK rfl (does_run (run_loadN (n := 31) rfl Try.underlying59 rfl kr (kv (pV b10 0)) (cs := (ll_World vw2)) rfl (HS20.u2.cells 0 31 _ rfl)) ?_)
 replace h := bind_some h; obtain ⟨vt26, hc27, h⟩ := h
 refine seqK rfl (does_call kr (guard_Check.calls k m1 vw2 HS20 vt26 hc27) ?_)
 rintro _ W30 ⟨f28, rfl, L29, HS31⟩
 refine ⟨_, rfl, ?_⟩
 refine seqL1 kr ?_
 refine nl (hK25 _ _ ?_)
 replace h := ite_some h; rcases h with ⟨c33, h⟩ | ⟨c33, h⟩
 · have c33 : vt26 ≠ 0 := c33
   refine wpRwI 10 kr (bne_iff_ne.mpr c33) ?_
   refine condT kr ?_
   refine wp_seq_k (fun K34 hK35 => ?_)
   exact nomatch h
 have c33 : ¬ (vt26 ≠ 0) := c33
 refine wpRwI 10 (x := (vt26 != 0)) (v := false) kr (bne_eq_false_iff_eq.mpr (Decidable.of_not_not c33)) ?_
 refine condF kr ?_
 refine wp_skip ?_
 refine hK23 _ _ ?_
 refine wp_seq_k (fun K36 hK37 => ?_)
 have HS41 := HS31.u3.u2.u2.u3
 refine heldG (S := Sg t f28 ([(b18, .cells (cm_World ⟨⟨0, 0, 0, false⟩, ⟨0, 0, 0, false⟩, 0⟩ ⟨0, 0, false, false, ⟨0, 0, 0, false⟩⟩ ⟨0, 0, 0, 0⟩ ⟨false, false, false, false, false⟩ ⟨0, 0⟩ 0 0 0) 59 (0, 0))] :: [(b14, .cells (cl_Sensors s3) 57 (0, 0))] :: [(b6, .cells (cl_Mount m1) 31 (0, 0))] :: H) [(12, [(b10, .cells (cl_World vw2) 59 (0, 0))])]) (n := 17) kr rfl HS41 ?_
 intro W42 HS43
 refine gQ 0 rfl kr kr kr kr kr hnp (Sg.g1 (Sx.of [[(b10, .cells (cl_World vw2) 59 (0, 0))]] fL HS43) (fun _ => St.only [] HS43 fL)) (fun hl_ hS_ => run_loadN (n := 5) rfl Try.underlying57 rfl kr (kv (pV b14 0)) (cs := (ll_Sensors s3)) rfl (hS_.u1.cells 0 5 _ rfl)) fun X44 => ?_
 refine gL [1] (fuel := 15) (bA 17 3) rfl kr kr kr hnp X44 fun X45 => ?_
 refine gQs 2 12 rfl kr kr kr kr kr (.head _) kr hnp X45 (fun hl_ hS_ => run_load rfl Try.underlying3 rfl (kv (pV b10 29)) (hS_.cell 29)) fun X46 => ?_
 refine gQ 3 rfl kr kr kr kr kr hnp X46 (fun hl_ hS_ => run_loadN (n := 5) rfl Try.underlying57 rfl kr (kv (pV b14 0)) (cs := (ll_Sensors s3)) rfl (hS_.u1.cells 0 5 _ rfl)) fun X47 => ?_
 refine gL [6] (fuel := 12) (bA 17 79) rfl kr kr kr hnp X47 fun X48 => ?_
 refine gQs 7 12 rfl kr kr kr kr kr (.head _) kr hnp X48 (fun hl_ hS_ => run_load rfl Try.underlying3 rfl (kv (pV b10 30)) (hS_.cell 30)) fun X49 => ?_
 refine gL [8] (fuel := 10) (bA 17 463) rfl kr kr kr hnp X49 fun X50 => ?_
 refine gQ 9 rfl kr kr kr kr kr hnp X50 (fun hl_ hS_ => run_load rfl Try.underlying4 rfl (kv (pV b14 4)) (hS_.u1.cell 4)) fun X51 => ?_
 refine gL [11] (fuel := 8) (bA 17 3023) rfl kr kr kr hnp X51 fun X52 => ?_
 replace h := bind_some h; obtain ⟨vt53, hc54, h⟩ := h
 refine takeGE 4 kr rfl kr (does_call kr (guard_Sensors_Hazard.calls k s3 HS43 vt53 hc54) ?_)
 rintro _ W57 ⟨f55, rfl, L56, HS58⟩
 refine ⟨_, rfl, ?_⟩
 refine kB (Sg.g1 (Sx.of [[(b10, .cells (cl_World vw2) 59 (0, 0))]] L56 HS58) (fun _ => St.only [] HS58 L56)) fun X59 => ?_
 replace h := bind_some h; obtain ⟨vt60, hc61, h⟩ := h
 refine takeGE 5 kr rfl kr (does_call kr (guard_count.calls k vw2.Hazard vt53 HS58 vt60 hc61) ?_)
 rintro _ W64 ⟨f62, rfl, L63, HS65⟩
 refine ⟨_, rfl, ?_⟩
 refine kB (Sg.g1 (Sx.of [[(b10, .cells (cl_World vw2) 59 (0, 0))]] (L56.trans L63) HS65) (fun _ => St.only [] HS65 (L56.trans L63))) fun X66 => ?_
 replace h := bind_some h; obtain ⟨vt67, hc68, h⟩ := h
 refine takeGE 10 kr rfl kr (does_call kr (guard_count.calls k vw2.Key s3.Key HS65 vt67 hc68) ?_)
 rintro _ W71 ⟨f69, rfl, L70, HS72⟩
 refine ⟨_, rfl, ?_⟩
 refine kB (Sg.g1 (Sx.of [[(b10, .cells (cl_World vw2) 59 (0, 0))]] (L56.trans (L63.trans L70)) HS72) (fun _ => St.only [] HS72 (L56.trans (L63.trans L70)))) fun X73 => ?_
 refine takeGE 12 kr rfl kr (does_store (n := 5) (vs := (ll_Sensors s3)) (cs' := (cm_World vw2.Mount vw2.Dome vw2.Camera s3 vw2.Aim vw2.Mode vw2.Hazard vw2.Key)) rfl kr (kv (pV b10 21)) (kv (.agg (cl_Sensors s3))) rfl rfl (ones rfl) HS72 (Nat.le_of_ble_eq_true rfl) kr ?_)
 intro W74 HS75
 refine kB (Sg.g1 (Sx.of [[(b10, .cells (cm_World vw2.Mount vw2.Dome vw2.Camera s3 vw2.Aim vw2.Mode vw2.Hazard vw2.Key) 59 (0, 0))]] (L56.trans (L63.trans L70)) HS75) (fun hl_ => Bool.noConfusion (show true = false from hl_))) fun X76 => ?_
 refine gL [13] (fuel := 3) (bA 17 16383) rfl kr kr kr hnp X76 fun X77 => ?_
 refine takeGE 14 kr rfl kr (does_store (n := 1) (vs := [.int .i64 vt60]) (cs' := (cm_World vw2.Mount vw2.Dome vw2.Camera s3 vw2.Aim vw2.Mode vt60 vw2.Key)) rfl kr (kv (pV b10 29)) (kv (.int .i64 vt60)) rfl rfl (ones rfl) HS75 (Nat.le_of_ble_eq_true rfl) kr ?_)
 intro W78 HS79
 refine kB (Sg.g1 (Sx.of [[(b10, .cells (cm_World vw2.Mount vw2.Dome vw2.Camera s3 vw2.Aim vw2.Mode vt60 vw2.Key) 59 (0, 0))]] (L56.trans (L63.trans L70)) HS79) (fun hl_ => Bool.noConfusion (show true = false from hl_))) fun X80 => ?_
 refine gL [15] (fuel := 1) (bA 17 65535) rfl kr kr kr hnp X80 fun X81 => ?_
 refine takeGE 16 kr rfl kr (does_store (n := 1) (vs := [.int .i64 vt67]) (cs' := (cm_World vw2.Mount vw2.Dome vw2.Camera s3 vw2.Aim vw2.Mode vt60 vt67)) rfl kr (kv (pV b10 30)) (kv (.int .i64 vt67)) rfl rfl (ones rfl) HS79 (Nat.le_of_ble_eq_true rfl) kr ?_)
 intro W82 HS83
 refine kB (Sg.g1 (Sx.of [[(b10, .cells (cm_World vw2.Mount vw2.Dome vw2.Camera s3 vw2.Aim vw2.Mode vt60 vt67) 59 (0, 0))]] (L56.trans (L63.trans L70)) HS83) (fun hl_ => Bool.noConfusion (show true = false from hl_))) fun X84 => ?_
 refine doneG kr ?_ _
 refine hK37 _ _ ?_
 refine wp_seq_k (fun K85 hK86 => ?_)
 refine wp_seq_k (fun K87 hK88 => ?_)
 replace h := bind_some h; obtain ⟨v89, hv103, h⟩ := h
 have J104 : ∀ (f97 : FM) (x102 : Bool) (j101 : Nat → Value) (W99 : World) (a_ : Act), FM.le f69 f97 → some (x102) = some v89 → St t W99 f97 ([(b10, .cells (cm_World vw2.Mount vw2.Dome vw2.Camera s3 vw2.Aim vw2.Mode vt60 vt67) 59 (0, 0))] :: [(b18, .cells (cm_World ⟨⟨0, 0, 0, false⟩, ⟨0, 0, 0, false⟩, 0⟩ ⟨0, 0, false, false, ⟨0, 0, 0, false⟩⟩ ⟨0, 0, 0, 0⟩ ⟨false, false, false, false, false⟩ ⟨0, 0⟩ 0 0 0) 59 (0, 0))] :: [(b14, .cells (cl_Sensors s3) 57 (0, 0))] :: [(b6, .cells (cl_Mount m1) 31 (0, 0))] :: H) → a_ = ⟨⟨[(ag_Mount m1), (ag_World vw2), (ag_Sensors s3), pV b6 0, pV b10 0, pV b14 0, pV b18 0, (ag_Mount m1), (ag_World vw2), iV vt26, fV, uV, (ag_Sensors s3), pV b10 29, iV vw2.Hazard, (ag_Sensors s3), .bool vt53, iV vt60, pV b10 30, iV vw2.Key, pV b14 4, .bool s3.Key, iV vt67, pV b10 21, pV b10 29, pV b10 30] ++ (jr j101 0 6 ([.bool x102] ++ (un 30 [])))⟩, []⟩ → K87 a_ W99 := by
  intro f97 x102 j101 W99 a_ L98 hj105 HS100  hfr_; subst hfr_
  injection hj105 with hj105; subst hj105; try dsimp only at h
  refine hK88 _ _ ?_
  replace h := bind_some h; obtain ⟨v106, hv122, h⟩ := h
  have J123 : ∀ (f116 : FM) (x121 : S_World) (j120 : Nat → Value) (W118 : World) (a_ : Act), FM.le f97 f116 → some (x121) = some v106 → St t W118 f116 ([(b10, .cells (cl_World x121) 59 (0, 0))] :: [(b18, .cells (cm_World ⟨⟨0, 0, 0, false⟩, ⟨0, 0, 0, false⟩, 0⟩ ⟨0, 0, false, false, ⟨0, 0, 0, false⟩⟩ ⟨0, 0, 0, 0⟩ ⟨false, false, false, false, false⟩ ⟨0, 0⟩ 0 0 0) 59 (0, 0))] :: [(b14, .cells (cl_Sensors s3) 57 (0, 0))] :: [(b6, .cells (cl_Mount m1) 31 (0, 0))] :: H) → a_ = ⟨⟨[(ag_Mount m1), (ag_World vw2), (ag_Sensors s3), pV b6 0, pV b10 0, pV b14 0, pV b18 0, (ag_Mount m1), (ag_World vw2), iV vt26, fV, uV, (ag_Sensors s3), pV b10 29, iV vw2.Hazard, (ag_Sensors s3), .bool vt53, iV vt60, pV b10 30, iV vw2.Key, pV b14 4, .bool s3.Key, iV vt67, pV b10 21, pV b10 29, pV b10 30] ++ (jr j101 0 6 ([.bool x102] ++ (jr j120 0 3 (un 27 []))))⟩, []⟩ → K85 a_ W118 := by
   intro f116 x121 j120 W118 a_ L117 hj124 HS119  hfr_; subst hfr_
   injection hj124 with hj124; subst hj124; try dsimp only at h
   refine hK86 _ _ ?_
   refine wp_seq_k (fun K125 hK126 => ?_)
   refine wp_seq_k fun K127 hK128 => rl ?_
   refine seqL1 kr ?_
   refine seqK rfl (does_run (run_load rfl Try.underlying4 rfl (kv (pV b14 4)) (HS119.u2.cell 4)) ?_)
   refine nl (hK128 _ _ ?_)
   replace h := bind_some h; obtain ⟨v129, hv145, h⟩ := h
   have J146 : ∀ (f139 : FM) (x144 : S_World) (j143 : Nat → Value) (W141 : World) (a_ : Act), FM.le f116 f139 → some (x144) = some v129 → St t W141 f139 ([(b10, .cells (cl_World x144) 59 (0, 0))] :: [(b18, .cells (cm_World ⟨⟨0, 0, 0, false⟩, ⟨0, 0, 0, false⟩, 0⟩ ⟨0, 0, false, false, ⟨0, 0, 0, false⟩⟩ ⟨0, 0, 0, 0⟩ ⟨false, false, false, false, false⟩ ⟨0, 0⟩ 0 0 0) 59 (0, 0))] :: [(b14, .cells (cl_Sensors s3) 57 (0, 0))] :: [(b6, .cells (cl_Mount m1) 31 (0, 0))] :: H) → a_ = ⟨⟨[(ag_Mount m1), (ag_World vw2), (ag_Sensors s3), pV b6 0, pV b10 0, pV b14 0, pV b18 0, (ag_Mount m1), (ag_World vw2), iV vt26, fV, uV, (ag_Sensors s3), pV b10 29, iV vw2.Hazard, (ag_Sensors s3), .bool vt53, iV vt60, pV b10 30, iV vw2.Key, pV b14 4, .bool s3.Key, iV vt67, pV b10 21, pV b10 29, pV b10 30] ++ (jr j101 0 6 ([.bool x102] ++ (jr j120 0 3 ([pV b14 4, .bool s3.Key] ++ (jr j143 0 3 (un 22 []))))))⟩, []⟩ → K125 a_ W141 := by
    intro f139 x144 j143 W141 a_ L140 hj147 HS142  hfr_; subst hfr_
    injection hj147 with hj147; subst hj147; try dsimp only at h
    refine hK126 _ _ ?_
    refine wp_seq_k (fun K148 hK149 => ?_)
    have HS153 := HS142.u3.u3.u3.u3
    refine heldG (S := Sg t f139 ([(b18, .cells (cm_World ⟨⟨0, 0, 0, false⟩, ⟨0, 0, 0, false⟩, 0⟩ ⟨0, 0, false, false, ⟨0, 0, 0, false⟩⟩ ⟨0, 0, 0, 0⟩ ⟨false, false, false, false, false⟩ ⟨0, 0⟩ 0 0 0) 59 (0, 0))] :: [(b14, .cells (cl_Sensors s3) 57 (0, 0))] :: [(b6, .cells (cl_Mount m1) 31 (0, 0))] :: H) [(11, [(b10, .cells (cl_World x144) 59 (0, 0))])]) (n := 16) kr rfl HS153 ?_
    intro W154 HS155
    refine gQ 0 rfl kr kr kr kr kr hnp (Sg.g1 (Sx.of [[(b10, .cells (cl_World x144) 59 (0, 0))]] fL HS155) (fun _ => St.only [] HS155 fL)) (fun hl_ hS_ => run_loadN (n := 10) rfl Try.underlying31 rfl kr (kv (pV b6 0)) (cs := (ll_Mount m1)) rfl (hS_.u2.cells 0 10 _ rfl)) fun X156 => ?_
    refine gL [1] (fuel := 14) (bA 16 3) rfl kr kr kr hnp X156 fun X157 => ?_
    refine gQs 2 11 rfl kr kr kr kr kr (.head _) kr hnp X157 (fun hl_ hS_ => run_loadN (n := 9) rfl Try.underlying51 rfl kr (kv (pV b10 0)) (cs := (ll_State2 x144.Mount)) rfl (hS_.cells 0 9 _ rfl)) fun X158 => ?_
    refine gL [4] (fuel := 12) (bA 16 23) rfl kr kr kr hnp X158 fun X159 => ?_
    refine gQs 5 11 rfl kr kr kr kr kr (.head _) kr hnp X159 (fun hl_ hS_ => run_loadN (n := 8) rfl Try.underlying53 rfl kr (kv (pV b10 9)) (cs := (ll_State3 x144.Dome)) rfl (hS_.cells 9 8 _ rfl)) fun X160 => ?_
    refine gL [7] (fuel := 10) (bA 16 183) rfl kr kr kr hnp X160 fun X161 => ?_
    refine gQs 8 11 rfl kr kr kr kr kr (.head _) kr hnp X161 (fun hl_ hS_ => run_loadN (n := 4) rfl Try.underlying55 rfl kr (kv (pV b10 17)) (cs := (ll_State4 x144.Camera)) rfl (hS_.cells 17 4 _ rfl)) fun X162 => ?_
    replace h := bind_some h; obtain ⟨vt163, hc164, h⟩ := h
    refine takeGE 3 kr rfl kr (does_call kr (mount_Step.calls k m1 x144.Mount HS155 vt163 hc164) ?_)
    rintro _ W167 ⟨f165, rfl, L166, HS168⟩
    refine ⟨_, rfl, ?_⟩
    refine kB (Sg.g1 (Sx.of [[(b10, .cells (cl_World x144) 59 (0, 0))]] L166 HS168) (fun _ => St.only [] HS168 L166)) fun X169 => ?_
    refine gL [10] (fuel := 7) (bA 16 1471) rfl kr kr kr hnp X169 fun X170 => ?_
    replace h := bind_some h; obtain ⟨vt171, hc172, h⟩ := h
    refine takeGE 6 kr rfl kr (does_call kr (dome_Step.calls k x144.Dome HS168 vt171 hc172) ?_)
    rintro _ W175 ⟨f173, rfl, L174, HS176⟩
    refine ⟨_, rfl, ?_⟩
    refine kB (Sg.g1 (Sx.of [[(b10, .cells (cl_World x144) 59 (0, 0))]] (L166.trans L174) HS176) (fun _ => St.only [] HS176 (L166.trans L174))) fun X177 => ?_
    replace h := bind_some h; obtain ⟨vt178, hc179, h⟩ := h
    refine takeGE 9 kr rfl kr (does_call kr (camera_Step.calls k x144.Camera HS176 vt178 hc179) ?_)
    rintro _ W182 ⟨f180, rfl, L181, HS183⟩
    refine ⟨_, rfl, ?_⟩
    refine kB (Sg.g1 (Sx.of [[(b10, .cells (cl_World x144) 59 (0, 0))]] (L166.trans (L174.trans L181)) HS183) (fun _ => St.only [] HS183 (L166.trans (L174.trans L181)))) fun X184 => ?_
    refine takeGE 11 kr rfl kr (does_store (n := 9) (vs := (ll_State2 vt163)) (cs' := (cm_World vt163 x144.Dome x144.Camera x144.Sensors x144.Aim x144.Mode x144.Hazard x144.Key)) rfl kr (kv (pV b10 0)) (kv (.agg (cl_State2 vt163))) rfl rfl (ones rfl) HS183 (Nat.le_of_ble_eq_true rfl) kr ?_)
    intro W185 HS186
    refine kB (Sg.g1 (Sx.of [[(b10, .cells (cm_World vt163 x144.Dome x144.Camera x144.Sensors x144.Aim x144.Mode x144.Hazard x144.Key) 59 (0, 0))]] (L166.trans (L174.trans L181)) HS186) (fun hl_ => Bool.noConfusion (show true = false from hl_))) fun X187 => ?_
    refine gL [12] (fuel := 3) (bA 16 8191) rfl kr kr kr hnp X187 fun X188 => ?_
    refine takeGE 13 kr rfl kr (does_store (n := 8) (vs := (ll_State3 vt171)) (cs' := (cm_World vt163 vt171 x144.Camera x144.Sensors x144.Aim x144.Mode x144.Hazard x144.Key)) rfl kr (kv (pV b10 9)) (kv (.agg (cl_State3 vt171))) rfl rfl (ones rfl) HS186 (Nat.le_of_ble_eq_true rfl) kr ?_)
    intro W189 HS190
    refine kB (Sg.g1 (Sx.of [[(b10, .cells (cm_World vt163 vt171 x144.Camera x144.Sensors x144.Aim x144.Mode x144.Hazard x144.Key) 59 (0, 0))]] (L166.trans (L174.trans L181)) HS190) (fun hl_ => Bool.noConfusion (show true = false from hl_))) fun X191 => ?_
    refine gL [14] (fuel := 1) (bA 16 32767) rfl kr kr kr hnp X191 fun X192 => ?_
    refine takeGE 15 kr rfl kr (does_store (n := 4) (vs := (ll_State4 vt178)) (cs' := (cm_World vt163 vt171 vt178 x144.Sensors x144.Aim x144.Mode x144.Hazard x144.Key)) rfl kr (kv (pV b10 17)) (kv (.agg (cl_State4 vt178))) rfl rfl (ones rfl) HS190 (Nat.le_of_ble_eq_true rfl) kr ?_)
    intro W193 HS194
    refine kB (Sg.g1 (Sx.of [[(b10, .cells (cm_World vt163 vt171 vt178 x144.Sensors x144.Aim x144.Mode x144.Hazard x144.Key) 59 (0, 0))]] (L166.trans (L174.trans L181)) HS194) (fun hl_ => Bool.noConfusion (show true = false from hl_))) fun X195 => ?_
    refine doneG kr ?_ _
    refine hK149 _ _ ?_
    refine wp_seq_k (fun K196 hK197 => ?_)
    refine wp_seq_k fun K198 hK199 => rl ?_
    refine seqL1 kr ?_
    refine seqK rfl (does_run (run_load rfl Try.underlying3 rfl (kv (pV b10 28)) (HS194.cell 28)) ?_)
    refine seqL2 kr ?_
    replace h := ite_some h; rcases h with ⟨c201, h⟩ | ⟨c201, h⟩
    rotate_left
    · have c201 : ¬ (x144.Mode = 1) := c201
      refine seqRwI 56 kr (beq_eq_false_iff_ne.mpr c201) ?_
      refine seqRwI 57 kr (beq_eq_false_iff_ne.mpr c201) ?_
      refine seqL3 kr ?_
      refine nl (hK199 _ _ ?_)
      refine condF kr ?_
      refine wp_skip ?_
      refine hK197 _ _ ?_
      refine wp_seq_k fun K222 hK223 => rl ?_
      refine seqK rfl (does_run (run_loadN (n := 31) rfl Try.underlying59 rfl kr (kv (pV b10 0)) (cs := (lm_World vt163 vt171 vt178 x144.Sensors x144.Aim x144.Mode x144.Hazard x144.Key)) rfl (HS194.cells 0 31 _ rfl)) ?_)
      have HS224 := HS194.u1
      refine seqK rfl (does_storeA (vs := (lm_World vt163 vt171 vt178 x144.Sensors x144.Aim x144.Mode x144.Hazard x144.Key)) rfl kr kr kr rfl (ones rfl) HS224 kr ?_)
      intro W225 HS226
      refine nl (hK223 _ _ ?_)
      refine wp_ret ?_
      refine hret _ _ ?_
      refine ends (v := Value.agg (cm_World vt163 vt171 vt178 x144.Sensors x144.Aim x144.Mode x144.Hazard x144.Key)) (results1 (q1 := .cell 6 59) kr (resN (n := 31) (cs := (lm_World vt163 vt171 vt178 x144.Sensors x144.Aim x144.Mode x144.Hazard x144.Key)) (kv (pV b18 0)) Try.underlying59 rfl kr rfl (HS226.cells 0 31 _ rfl))) kr ?_
      have HS235 := HS226.drop
      have HS236 := HS235.drop
      have HS237 := HS236.drop
      have HS238 := HS237.drop
      injection h with h
      subst h
      exact ⟨f180, rfl, (L29.trans (L56.trans (L63.trans (L70.trans (L98.trans (L117.trans (L140.trans (L166.trans (L174.trans L181))))))))), HS238⟩
    have c201 : x144.Mode = 1 := c201
    refine seqRwI 56 kr (beq_iff_eq.mpr c201) ?_
    refine seqRwI 57 kr (beq_iff_eq.mpr c201) ?_
    refine seqG kr (does_run (run_loadN (n := 31) rfl Try.underlying59 rfl kr (kv (pV b10 0)) (cs := (lm_World vt163 vt171 vt178 x144.Sensors x144.Aim x144.Mode x144.Hazard x144.Key)) rfl (HS194.cells 0 31 _ rfl)) ?_)
    replace h := bind_some h; obtain ⟨vt202, hc203, h⟩ := h
    refine seqG kr (does_call kr (guard_AtRest.calls k (⟨vt163, vt171, vt178, x144.Sensors, (⟨x144.Aim.Az, x144.Aim.Alt⟩ : S_Pose), x144.Mode, x144.Hazard, x144.Key⟩ : S_World) HS194 vt202 hc203) ?_)
    rintro _ W206 ⟨f204, rfl, L205, HS207⟩
    refine ⟨_, rfl, ?_⟩
    refine seqL1 kr ?_
    refine nl (hK199 _ _ ?_)
    replace h := ite_some h; rcases h with ⟨c209, h⟩ | ⟨c209, h⟩
    · have c209 : vt202 = true := c209
      refine wpRwI 59 kr c209 ?_
      refine wpRwI 60 kr c209 ?_
      refine condT kr ?_
      refine rl ?_
      refine seqL1 kr ?_
      refine seqK rfl (does_store (n := 1) (vs := [.int .i64 2]) (cs' := (cm_World vt163 vt171 vt178 x144.Sensors x144.Aim 2 x144.Hazard x144.Key)) rfl kr (kv (pV b10 28)) (kv (.int .i64 2)) rfl rfl (ones rfl) HS207 (Nat.le_of_ble_eq_true rfl) kr ?_)
      intro W210 HS211
      refine nl (hK197 _ _ ?_)
      refine wp_seq_k fun K212 hK213 => rl ?_
      refine seqK rfl (does_run (run_loadN (n := 31) rfl Try.underlying59 rfl kr (kv (pV b10 0)) (cs := (lm_World vt163 vt171 vt178 x144.Sensors x144.Aim 2 x144.Hazard x144.Key)) rfl (HS211.cells 0 31 _ rfl)) ?_)
      have HS214 := HS211.u1
      refine seqK rfl (does_storeA (vs := (lm_World vt163 vt171 vt178 x144.Sensors x144.Aim 2 x144.Hazard x144.Key)) rfl kr kr kr rfl (ones rfl) HS214 kr ?_)
      intro W215 HS216
      refine nl (hK213 _ _ ?_)
      refine wp_ret ?_
      refine hret _ _ ?_
      refine ends (v := Value.agg (cm_World vt163 vt171 vt178 x144.Sensors x144.Aim 2 x144.Hazard x144.Key)) (results1 (q1 := .cell 6 59) kr (resN (n := 31) (cs := (lm_World vt163 vt171 vt178 x144.Sensors x144.Aim 2 x144.Hazard x144.Key)) (kv (pV b18 0)) Try.underlying59 rfl kr rfl (HS216.cells 0 31 _ rfl))) kr ?_
      have HS227 := HS216.drop
      have HS228 := HS227.drop
      have HS229 := HS228.drop
      have HS230 := HS229.drop
      injection h with h
      subst h
      exact ⟨f204, rfl, (L29.trans (L56.trans (L63.trans (L70.trans (L98.trans (L117.trans (L140.trans (L166.trans (L174.trans (L181.trans L205)))))))))), HS230⟩
    have c209 : ¬ (vt202 = true) := c209
    refine wpRwI 59 kr (Bool.eq_false_iff.mpr c209) ?_
    refine wpRwI 60 kr (Bool.eq_false_iff.mpr c209) ?_
    refine condF kr ?_
    refine wp_skip ?_
    refine hK197 _ _ ?_
    refine wp_seq_k fun K217 hK218 => rl ?_
    refine seqK rfl (does_run (run_loadN (n := 31) rfl Try.underlying59 rfl kr (kv (pV b10 0)) (cs := (lm_World vt163 vt171 vt178 x144.Sensors x144.Aim x144.Mode x144.Hazard x144.Key)) rfl (HS207.cells 0 31 _ rfl)) ?_)
    have HS219 := HS207.u1
    refine seqK rfl (does_storeA (vs := (lm_World vt163 vt171 vt178 x144.Sensors x144.Aim x144.Mode x144.Hazard x144.Key)) rfl kr kr kr rfl (ones rfl) HS219 kr ?_)
    intro W220 HS221
    refine nl (hK218 _ _ ?_)
    refine wp_ret ?_
    refine hret _ _ ?_
    refine ends (v := Value.agg (cm_World vt163 vt171 vt178 x144.Sensors x144.Aim x144.Mode x144.Hazard x144.Key)) (results1 (q1 := .cell 6 59) kr (resN (n := 31) (cs := (lm_World vt163 vt171 vt178 x144.Sensors x144.Aim x144.Mode x144.Hazard x144.Key)) (kv (pV b18 0)) Try.underlying59 rfl kr rfl (HS221.cells 0 31 _ rfl))) kr ?_
    have HS231 := HS221.drop
    have HS232 := HS231.drop
    have HS233 := HS232.drop
    have HS234 := HS233.drop
    injection h with h
    subst h
    exact ⟨f204, rfl, (L29.trans (L56.trans (L63.trans (L70.trans (L98.trans (L117.trans (L140.trans (L166.trans (L174.trans (L181.trans L205)))))))))), HS234⟩
   clear h; have h := hv145; clear hv145
   replace h := ite_some h; rcases h with ⟨c130, h⟩ | ⟨c130, h⟩
   rotate_left
   · have c130 : ¬ (s3.Key = true) := c130
     refine wpRwI 21 kr (Bool.eq_false_iff.mpr c130) ?_
     refine wpRwI 37 kr (Bool.eq_false_iff.mpr c130) ?_
     refine condF kr ?_
     refine wp_skip ?_
     refine fnRwI (F := K125) 21 (x := false) (v := s3.Key) kr (Eq.symm (Bool.eq_false_iff.mpr c130)) ?_
     refine fnRwI (F := K125) 37 (x := false) (v := s3.Key) kr (Eq.symm (Bool.eq_false_iff.mpr c130)) ?_
     exact J146 f116 x121 (jL []) W118 _ fL h HS119 kr
   have c130 : s3.Key = true := c130
   refine wpRwI 21 kr c130 ?_
   refine wpRwI 37 kr c130 ?_
   refine condT kr ?_
   refine rl ?_
   refine seqK rfl (does_run (run_loadN (n := 10) rfl Try.underlying31 rfl kr (kv (pV b6 0)) (cs := (ll_Mount m1)) rfl (HS119.u3.cells 0 10 _ rfl)) ?_)
   refine seqK rfl (does_run (run_loadN (n := 31) rfl Try.underlying59 rfl kr (kv (pV b10 0)) (cs := (ll_World x121)) rfl (HS119.cells 0 31 _ rfl)) ?_)
   replace h := bind_some h; obtain ⟨vt131, hc132, h⟩ := h
   refine seqK rfl (does_call kr (guard_lock.calls k m1 x121 HS119 vt131 hc132) ?_)
   rintro _ W135 ⟨f133, rfl, L134, HS136⟩
   refine ⟨_, rfl, ?_⟩
   refine seqK rfl (does_storeA (vs := (ll_World vt131)) rfl kr kr kr rfl (ones rfl) HS136 kr ?_)
   intro W137 HS138
   refine nl ?_
   refine fnRwI (F := K125) 21 (x := true) (v := s3.Key) kr (Eq.symm c130) ?_
   refine fnRwI (F := K125) 37 (x := true) (v := s3.Key) kr (Eq.symm c130) ?_
   exact J146 f133 vt131 (jL [(ag_Mount m1), (ag_World x121), (ag_World vt131)]) W137 _ L134 h HS138 kr
  clear h; have h := hv122; clear hv122
  replace h := ite_some h; rcases h with ⟨c107, h⟩ | ⟨c107, h⟩
  rotate_left
  · have c107 : ¬ (x102 = true) := c107
    refine wpRwI 32 kr (Bool.eq_false_iff.mpr c107) ?_
    refine condF kr ?_
    refine wp_skip ?_
    refine fnRwI (F := K85) 32 (x := false) (v := x102) kr (Eq.symm (Bool.eq_false_iff.mpr c107)) ?_
    exact J123 f97 (⟨vw2.Mount, vw2.Dome, vw2.Camera, s3, (⟨vw2.Aim.Az, vw2.Aim.Alt⟩ : S_Pose), vw2.Mode, vt60, vt67⟩ : S_World) (jL []) W99 _ fL h HS100 kr
  have c107 : x102 = true := c107
  refine wpRwI 32 kr c107 ?_
  refine condT kr ?_
  refine rl ?_
  refine seqK rfl (does_run (run_loadN (n := 10) rfl Try.underlying31 rfl kr (kv (pV b6 0)) (cs := (ll_Mount m1)) rfl (HS100.u3.cells 0 10 _ rfl)) ?_)
  refine seqK rfl (does_run (run_loadN (n := 31) rfl Try.underlying59 rfl kr (kv (pV b10 0)) (cs := (lm_World vw2.Mount vw2.Dome vw2.Camera s3 vw2.Aim vw2.Mode vt60 vt67)) rfl (HS100.cells 0 31 _ rfl)) ?_)
  replace h := bind_some h; obtain ⟨vt108, hc109, h⟩ := h
  refine seqK rfl (does_call kr (guard_begin.calls k m1 (⟨vw2.Mount, vw2.Dome, vw2.Camera, s3, (⟨vw2.Aim.Az, vw2.Aim.Alt⟩ : S_Pose), vw2.Mode, vt60, vt67⟩ : S_World) HS100 vt108 hc109) ?_)
  rintro _ W112 ⟨f110, rfl, L111, HS113⟩
  refine ⟨_, rfl, ?_⟩
  refine seqK rfl (does_storeA (vs := (ll_World vt108)) rfl kr kr kr rfl (ones rfl) HS113 kr ?_)
  intro W114 HS115
  refine nl ?_
  refine fnRwI (F := K85) 32 (x := true) (v := x102) kr (Eq.symm c107) ?_
  exact J123 f110 vt108 (jL [(ag_Mount m1), .agg (cm_World vw2.Mount vw2.Dome vw2.Camera s3 vw2.Aim vw2.Mode vt60 vt67), (ag_World vt108)]) W114 _ L111 h HS115 kr
 clear h; have h := hv103; clear hv103
 refine rl ?_
 refine seqL1 kr ?_
 refine seqK rfl (does_run (run_load rfl Try.underlying3 rfl (kv (pV b10 28)) (HS83.cell 28)) ?_)
 refine seqL2 kr ?_
 replace h := ite_some h; rcases h with ⟨c90, h⟩ | ⟨c90, h⟩
 rotate_left
 · have c90 : ¬ (vw2.Mode = 0) := c90
   refine seqRwI 28 kr (beq_eq_false_iff_ne.mpr c90) ?_
   refine seqRwI 29 kr (beq_eq_false_iff_ne.mpr c90) ?_
   refine seqL3 kr ?_
   refine nl ?_
   exact J104 f69 false (jL [pV b10 28, iV vw2.Mode, fV, fV]) W82 _ fL h HS83 kr
 have c90 : vw2.Mode = 0 := c90
 refine seqRwI 28 kr (beq_iff_eq.mpr c90) ?_
 refine seqRwI 29 kr (beq_iff_eq.mpr c90) ?_
 refine seqG kr (does_run (run_loadN (n := 5) rfl Try.underlying57 rfl kr (kv (pV b14 0)) (cs := (ll_Sensors s3)) rfl (HS83.u2.cells 0 5 _ rfl)) ?_)
 replace h := bind_some h; obtain ⟨vt91, hc92, h⟩ := h
 refine seqG kr (does_call kr (guard_Sensors_Hazard.calls k s3 HS83 vt91 hc92) ?_)
 rintro _ W95 ⟨f93, rfl, L94, HS96⟩
 refine ⟨_, rfl, ?_⟩
 refine seqL1 kr ?_
 refine nl ?_
 exact J104 f93 vt91 (jL [pV b10 28, iV vw2.Mode, tV, tV, (ag_Sensors s3), .bool vt91]) W95 _ L94 h HS96 kr

set_option maxRecDepth 100000 in
set_option maxHeartbeats 4000000 in
theorem guard_Run.calls (k : Nat) (A4 : Option Addr) (c5 : Nat) (m1 : S_Mount) (vw2 : S_World) (l3 : List S_Input) {t w : World} {f : FM} {H : List Seg} (HS : St t w f (H)) (HR6 : SlR ty_Input f A4 c5 l3) (rr1 : List S_World) (rr2 : List Int) (rr3 : Int) (h : guard_Run k m1 vw2 l3 = some (rr1, rr2, rr3)) :
    Calls Try.prog 9 #[.agg (cl_Mount m1), .agg (cl_World vw2), .slice A4 l3.length c5] w (fun e w' => ∃ (g : FM) (A732 : Option Addr) (c733 : Nat) (s734 : Seg) (A735 : Option Addr) (c736 : Nat) (s737 : Seg), e = .returned (Value.tuple #[.slice A732 rr1.length c733, .slice A735 rr2.length c736, .int .i64 rr3]) ∧ FM.le f g ∧ St t w' g (s734 :: s737 :: H) ∧ Own ty_World 59 g A732 c733 s734 rr1 ∧ Own (tInt .i64) 41 g A735 c736 s737 rr2) := by
 unfold guard_Run at h
 refine enter Try.func9 rfl (tm := ⟨[(ag_Mount m1), (ag_World vw2), .slice A4 l3.length c5] ++ (un 64 [])⟩) kr ?_
 intro B hret hnor hnp
 refine wp_seq_k fun K7 hK8 => rl ?_
 refine seqK rfl (does_box (cs := (cl_Mount m1)) rfl (kv (.agg (cl_Mount m1))) rfl HS ?_)
 intro b9 W10 HS11
 refine seqK rfl (does_box (cs := (cl_World vw2)) rfl (kv (.agg (cl_World vw2))) rfl HS11 ?_)
 intro b13 W14 HS15
 refine seqL3 kr ?_
 refine nl (hK8 _ _ ?_)
 refine wp_seq_k (fun K17 hK18 => ?_)
 refine wp_seq_k fun K19 hK20 => rl ?_
 refine seqK rfl (does_run (run_loadN (n := 10) rfl Try.underlying31 rfl kr (kv (pV b9 0)) (cs := (ll_Mount m1)) rfl (HS15.u1.cells 0 10 _ rfl)) ?_)
 refine seqK rfl (does_run (run_loadN (n := 31) rfl Try.underlying59 rfl kr (kv (pV b13 0)) (cs := (ll_World vw2)) rfl (HS15.cells 0 31 _ rfl)) ?_)
 replace h := bind_some h; obtain ⟨vt21, hc22, h⟩ := h
 refine seqK rfl (does_call kr (guard_Check.calls k m1 vw2 HS15 vt21 hc22) ?_)
 rintro _ W25 ⟨f23, rfl, L24, HS26⟩
 refine ⟨_, rfl, ?_⟩
 refine seqL1 kr ?_
 refine nl (hK20 _ _ ?_)
 refine wp_seq_k fun K27 hK28 => rl ?_
 refine seqL2 kr ?_
 refine nl (hK28 _ _ ?_)
 replace h := ite_some h; rcases h with ⟨c30, h⟩ | ⟨c30, h⟩
 · have c30 : vt21 ≠ 0 := c30
   refine wpRwI 22 kr (bne_iff_ne.mpr c30) ?_
   refine condT kr ?_
   refine wp_seq_k (fun K31 hK32 => ?_)
   exact nomatch h
 have c30 : ¬ (vt21 ≠ 0) := c30
 refine wpRwI 22 (x := (vt21 != 0)) (v := false) kr (bne_eq_false_iff_eq.mpr (Decidable.of_not_not c30)) ?_
 refine condF kr ?_
 refine wp_skip ?_
 refine hK18 _ _ ?_
 refine wp_seq_k (fun K33 hK34 => ?_)
 refine wp_seq_k fun K35 hK36 => rl ?_
 refine seqL3 kr ?_
 refine nl (hK36 _ _ ?_)
 replace h := ite_some h; rcases h with ⟨c38, h⟩ | ⟨c38, h⟩
 · have c38 : (l3.length : Int) > 2000 := c38
   refine wpRwI 26 kr (decide_eq_true c38) ?_
   refine condT kr ?_
   refine wp_seq_k (fun K39 hK40 => ?_)
   exact nomatch h
 have c38 : ¬ ((l3.length : Int) > 2000) := c38
 refine wpRwI 26 kr (decide_eq_false c38) ?_
 refine condF kr ?_
 refine wp_skip ?_
 refine hK34 _ _ ?_
 refine wp_seq_k fun K41 hK42 => rl ?_
 refine seqL1 kr ?_
 refine nl (hK42 _ _ ?_)
 refine wp_seq_k fun K43 hK44 => rl ?_
 refine seqL1 kr ?_
 refine nl (hK44 _ _ ?_)
 refine wp_seq_k (fun K45 hK46 => ?_)
 refine wp_seq_k fun K47 hK48 => rl ?_
 refine seqL3 kr ?_
 refine nl (hK48 _ _ ?_)
 refine blockK (fun B49 hx50 hn51 hr52 ho53 hp54 => ?_)
 replace h := bind_some h; obtain ⟨o374, hv712, h⟩ := h
 have J713 : ∀ (f694 : FM) (A700 : Option Addr) (c701 : Nat) (s702 : Seg) (A706 : Option Addr) (c707 : Nat) (s708 : Seg) (out699 : List S_World) (es705 : List Int) (x711 : S_World) (j698 : Nat → Value) (W696 : World) (a_ : Act), FM.le f23 f694 → some ((out699, es705, x711)) = some o374 → St t W696 f694 (s708 :: s702 :: [(b13, .cells (cl_World x711) 59 (0, 0))] :: [(b9, .cells (cl_Mount m1) 31 (0, 0))] :: H) → Own ty_World 59 f694 A700 c701 s702 out699 → Own (tInt .i64) 41 f694 A706 c707 s708 es705 → a_ = ⟨⟨[(ag_Mount m1), (ag_World vw2), .slice A4 l3.length c5, pV b9 0, pV b13 0, uV, .slice none 0 0, .slice none 0 0, iV 0, iV vt21, .slice A700 out699.length c701, .slice A706 es705.length c707, uV, (j698 0), uV] ++ (jr j698 1 3 ([(ag_Mount m1), (ag_World vw2), iV vt21, iV vt21, fV, uV, .slice A4 l3.length c5, iV (l3.length : Int), fV, .slice A4 l3.length c5, iV (l3.length : Int)] ++ (jr j698 4 36 [uV, uV])))⟩, []⟩ → K45 a_ W696 := by
  intro f694 A700 c701 s702 A706 c707 s708 out699 es705 x711 j698 W696 a_ L695 hj714 HS697 HO703 HO709 hfr_; subst hfr_
  injection hj714 with hj714; subst hj714; try dsimp only at h
  refine hK46 _ _ ?_
  refine wp_seq_k fun K725 hK726 => rl ?_
  refine seqL5 kr ?_
  refine nl (hK726 _ _ ?_)
  refine wp_ret ?_
  refine hret _ _ ?_
  refine ends_still (v := Value.tuple #[.slice A700 out699.length c701, .slice A706 es705.length c707, .int .i64 0]) kr kr ?_
  have HS729 := HS697.u1.u3.u3
  have HS730 := HS729.drop
  have HS731 := HS730.drop
  injection h with h
  injection h with h0_ h
  injection h with h1_ h
  subst h0_ h1_ h
  exact ⟨f694, A700, c701, s702, A706, c707, s708, rfl, (L24.trans L695), HS731, HO703, HO709⟩
 clear h; have h := hv712; clear hv712
 have HS715 := HS26.cons_nil
 have HS717 := HS715.cons_nil
 refine loopK (fun n_ a_ w_ => ∃ (f378 : FM) (A384 : Option Addr) (c385 : Nat) (s386 : Seg) (A390 : Option Addr) (c391 : Nat) (s392 : Seg) (out383 : List S_World) (es389 : List Int) (x395 : Int) (x396 : S_World) (j382 : Nat → Value), FM.le f23 f378 ∧ St t w_ f378 (s392 :: s386 :: [(b13, .cells (cl_World x396) 59 (0, 0))] :: [(b9, .cells (cl_Mount m1) 31 (0, 0))] :: H) ∧ Own ty_World 59 f378 A384 c385 s386 out383 ∧ Own (tInt .i64) 41 f378 A390 c391 s392 es389 ∧ guard_Run.l0 k l3 m1 n_ out383 es389 x395 x396 = some o374 ∧ a_ = ⟨⟨[(ag_Mount m1), (ag_World vw2), .slice A4 l3.length c5, pV b9 0, pV b13 0, uV, .slice none 0 0, .slice none 0 0, iV 0, iV vt21, .slice A384 out383.length c385, .slice A390 es389.length c391, uV, (j382 0), uV] ++ (jr j382 1 3 ([(ag_Mount m1), (ag_World vw2), iV vt21, iV vt21, fV, uV, .slice A4 l3.length c5, iV (l3.length : Int), fV, .slice A4 l3.length c5, iV (l3.length : Int), iV x395] ++ (jr j382 4 35 [uV, uV])))⟩, []⟩) k ⟨f23, none, 0, [], none, 0, [], ([] : List S_World), ([] : List Int), 0, vw2, (jL []), fL, HS717, (Own.nil _), (Own.nil _), h, kr⟩ ?_
 clear h
 rintro n377 _ W380 ⟨f378, A384, c385, s386, A390, c391, s392, out383, es389, x395, x396, j382, L379, HS381, HO387, HO393, h, rfl⟩ K375 hK376
 obtain _ | n377 := n377
 · exact nomatch h
 simp only [guard_Run.l0] at h
 refine wp_seq_k fun K397 hK398 => rl ?_
 refine seqL1 kr ?_
 refine nl (hK398 _ _ ?_)
 refine wp_seq_k (fun K399 hK400 => ?_)
 replace h := ite_some h; rcases h with ⟨c402, h⟩ | ⟨c402, h⟩
 rotate_left
 · have c402 : ¬ (x395 < (l3.length : Int)) := c402
   refine wpRwI 30 kr (decide_eq_false c402) ?_
   refine condF kr ?_
   refine wp_exit ?_
   refine hx50 _ _ ?_
   exact J713 f378 A384 c385 s386 A390 c391 s392 out383 es389 x396 (jL [(j382 0), (j382 1), (j382 2), (j382 3), iV x395, fV, (j382 5), (j382 6), (j382 7), (j382 8), (j382 9), (j382 10), (j382 11), (j382 12), (j382 13), (j382 14), (j382 15), (j382 16), (j382 17), (j382 18), (j382 19), (j382 20), (j382 21), (j382 22), (j382 23), (j382 24), (j382 25), (j382 26), (j382 27), (j382 28), (j382 29), (j382 30), (j382 31), (j382 32), (j382 33), (j382 34), (j382 35), (j382 36), (j382 37), (j382 38)]) W380 _ L379 h HS381 HO387 HO393 kr
 have c402 : x395 < (l3.length : Int) := c402
 refine wpRwI 30 kr (decide_eq_true c402) ?_
 refine condT kr ?_
 refine wp_skip ?_
 refine hK400 _ _ ?_
 refine wp_seq_k (fun K403 hK404 => ?_)
 refine blockK (fun B405 hx406 hn407 hr408 ho409 hp410 => ?_)
 refine wp_seq_k fun K412 hK413 => rl ?_
 replace h := guard_some h; obtain ⟨c414, h⟩ := h
 have c414 : 0 ≤ x395 := c414
 obtain ⟨b418, of419, cs415, hA420, hr416, hc417⟩ := (HR6.mono (L24.trans L379)).at (i := x395) c414 c402
 obtain ⟨A421, c421, rfl, HR421⟩ := hr416
 refine seqK rfl (does_run (run_indexE hA420 (sz := 6) rfl Try.underlying61 kr (kv (.slice A4 l3.length c5)) (kv (.int .i64 x395)) c414 c402 W380) ?_)
 refine seqK rfl (does_run (run_loadN (n := 6) rfl Try.underlying101 rfl kr (kv (pV b418 (of419 + (x395 : Int).toNat * 6))) (cs := [.slice A421 ((rd l3 x395).Orders).length c421, .bool (((rd l3 x395).Sensors).Rain), .bool (((rd l3 x395).Sensors).Wind), .bool (((rd l3 x395).Sensors).Day), .bool (((rd l3 x395).Sensors).Power), .bool (((rd l3 x395).Sensors).Key)]) rfl (fun j_ hj_ => ((hc417 fL HS381) j_ hj_))) ?_)
 refine seqK rfl (does_alloc (z := Value.agg #[.slice none 0 0, .bool false, .bool false, .bool false, .bool false, .bool false]) (cs := #[.slice none 0 0, .bool false, .bool false, .bool false, .bool false, .bool false]) rfl kr rfl HS381 ?_)
 intro b422 W423 HS424
 refine seqK rfl (does_storeA (vs := [.slice A421 ((rd l3 x395).Orders).length c421, .bool (((rd l3 x395).Sensors).Rain), .bool (((rd l3 x395).Sensors).Wind), .bool (((rd l3 x395).Sensors).Day), .bool (((rd l3 x395).Sensors).Power), .bool (((rd l3 x395).Sensors).Key)]) rfl kr kr kr rfl (ones rfl) HS424 kr ?_)
 intro W426 HS427
 refine nl (hK413 _ _ ?_)
 refine wp_seq_k (fun K428 hK429 => ?_)
 refine wp_seq_k fun K430 hK431 => rl ?_
 refine seqL1 kr ?_
 refine seqK rfl (does_run (run_load rfl Try.underlying99 rfl (kv (pV b422 0)) (HS427.cell 0)) ?_)
 refine seqL2 kr ?_
 refine nl (hK431 _ _ ?_)
 refine blockK (fun B432 hx433 hn434 hr435 ho436 hp437 => ?_)
 replace h := bind_some h; obtain ⟨o536, hv647, h⟩ := h
 have J648 : ∀ (f636 : FM) (A642 : Option Addr) (c643 : Nat) (s644 : Seg) (es641 : List Int) (x646 : S_World) (j640 : Nat → Value) (W638 : World) (a_ : Act), FM.le f378 f636 → some ((es641, x646)) = some o536 → St t W638 f636 ([(b422, .cells #[.slice A421 ((rd l3 x395).Orders).length c421, .bool (((rd l3 x395).Sensors).Rain), .bool (((rd l3 x395).Sensors).Wind), .bool (((rd l3 x395).Sensors).Day), .bool (((rd l3 x395).Sensors).Power), .bool (((rd l3 x395).Sensors).Key)] 101 (0, 0))] :: s644 :: s386 :: [(b13, .cells (cl_World x646) 59 (0, 0))] :: [(b9, .cells (cl_Mount m1) 31 (0, 0))] :: H) → Own (tInt .i64) 41 f636 A642 c643 s644 es641 → a_ = ⟨⟨[(ag_Mount m1), (ag_World vw2), .slice A4 l3.length c5, pV b9 0, pV b13 0, uV, .slice none 0 0, .slice none 0 0, iV 0, iV vt21, .slice A384 out383.length c385, .slice A642 es641.length c643, uV, pV b422 0, uV] ++ (jr j640 0 3 ([(ag_Mount m1), (ag_World vw2), iV vt21, iV vt21, fV, uV, .slice A4 l3.length c5, iV (l3.length : Int), fV, .slice A4 l3.length c5, iV (l3.length : Int), iV x395, tV, pV b418 (of419 + (x395 : Int).toNat * 6), (ag_Input (rd l3 x395) A421 c421), pV b422 0, .slice A421 ((rd l3 x395).Orders).length c421, iV (((rd l3 x395).Orders).length : Int)] ++ (jr j640 3 19 (jr j382 29 10 [uV, uV]))))⟩, []⟩ → K428 a_ W638 := by
  intro f636 A642 c643 s644 es641 x646 j640 W638 a_ L637 hj649 HS639 HO645 hfr_; subst hfr_
  injection hj649 with hj649; subst hj649; try dsimp only at h
  refine hK429 _ _ ?_
  refine wp_seq_k fun K668 hK669 => rl ?_
  refine seqK rfl (does_run (run_loadN (n := 10) rfl Try.underlying31 rfl kr (kv (pV b9 0)) (cs := (ll_Mount m1)) rfl (HS639.u4.cells 0 10 _ rfl)) ?_)
  refine seqK rfl (does_run (run_loadN (n := 31) rfl Try.underlying59 rfl kr (kv (pV b13 0)) (cs := (ll_World x646)) rfl (HS639.u3.cells 0 31 _ rfl)) ?_)
  refine seqL1 kr ?_
  refine seqK rfl (does_run (run_loadN (n := 5) rfl Try.underlying57 rfl kr (kv (pV b422 1)) (cs := (ll_Sensors ((rd l3 x395).Sensors))) rfl (HS639.cells 1 5 _ rfl)) ?_)
  replace h := bind_some h; obtain ⟨vt670, hc671, h⟩ := h
  refine seqK rfl (does_call kr (guard_Step.calls k m1 x646 ((rd l3 x395).Sensors) HS639 vt670 hc671) ?_)
  rintro _ W674 ⟨f672, rfl, L673, HS675⟩
  refine ⟨_, rfl, ?_⟩
  have HS676 := HS675.u3
  refine seqK rfl (does_storeA (vs := (ll_World vt670)) rfl kr kr kr rfl (ones rfl) HS676 kr ?_)
  intro W677 HS678
  refine nl (hK669 _ _ ?_)
  refine rl ?_
  refine seqL1 kr ?_
  refine seqK rfl (does_run (run_loadN (n := 31) rfl Try.underlying59 rfl kr (kv (pV b13 0)) (cs := (ll_World vt670)) rfl (HS678.cells 0 31 _ rfl)) ?_)
  refine seqK rfl (does_lit (e := ty_World) (E := 59) (vs := #[(0, Value.agg (cl_World vt670))]) (cs := (cl_World vt670)) (xs := ([vt670] : List S_World)) rfl Try.underlying44 kr kr ⟨(ll_World vt670), _, rfl, rfl, rfl⟩ rfl HS678 ?_ (by decide))
  intro b679 W680 s681 HS682 _ HO683
  replace h := guard_some h; obtain ⟨c685, h⟩ := h
  have c685 : (out383.length + 1) * 208 ≤ 140737488355328 := c685
  have HS687 := HS682.u4.u1
  refine seqK rfl (does_append1 (e := ty_World) (E := 59) (xs := out383) (ys := ([vt670] : List S_World)) rfl (kv (.slice A384 out383.length c385)) (kv (.slice (some ⟨b679, 0, none⟩) ([vt670] : List S_World).length 1)) Try.underlying44 inf59 (HO387.mono (L637.trans L673)) HO683 HS687 c685 (lim63 c685 (by decide)) ?_)
  intro A688 c689 s690 W691 HS692 HO693
  refine seqL1 kr ?_
  refine nl ?_
  refine hn407 _ _ ?_
  refine hK404 _ _ ?_
  refine rl ?_
  refine seqL2 kr ?_
  refine nl ?_
  refine hK376 n377 _ _ (Nat.lt_succ_self _) ?_
  have HS723 := HS692.u4.u2.u2.u4.u4
  have HS724 := HS723.drop
  exact ⟨f672, A688, c689, s690, A642, c643, s644, (out383 ++ ([vt670] : List S_World)), es641, (w64 (x395 + 1)), vt670, (jL [pV b422 0, (j640 0), (j640 1), (j640 2), tV, pV b418 (of419 + (x395 : Int).toNat * 6), (ag_Input (rd l3 x395) A421 c421), pV b422 0, .slice A421 ((rd l3 x395).Orders).length c421, iV (((rd l3 x395).Orders).length : Int), (j640 3), (j640 4), (j640 5), (j640 6), (j640 7), (j640 8), (j640 9), (j640 10), (j640 11), (j640 12), (j640 13), (j640 14), (j640 15), (j640 16), (j640 17), (j640 18), (j640 19), (j640 20), (j640 21), (ag_Mount m1), (ag_World x646), pV b422 1, (ag_Sensors ((rd l3 x395).Sensors)), (ag_World vt670), .slice A384 out383.length c385, (ag_World vt670), .slice (some ⟨b679, 0, none⟩) ([vt670] : List S_World).length 1, .slice A688 (out383 ++ ([vt670] : List S_World)).length c689, iV (w64 (x395 + 1))]), (L379.trans (L637.trans L673)), HS724, HO693, (HO645.mono L673), h, kr⟩
 clear h; have h := hv647; clear hv647
 refine loopK (fun n_ a_ w_ => ∃ (f540 : FM) (A546 : Option Addr) (c547 : Nat) (s548 : Seg) (es545 : List Int) (x550 : Int) (x551 : S_World) (j544 : Nat → Value), FM.le f378 f540 ∧ St t w_ f540 ([(b422, .cells #[.slice A421 ((rd l3 x395).Orders).length c421, .bool (((rd l3 x395).Sensors).Rain), .bool (((rd l3 x395).Sensors).Wind), .bool (((rd l3 x395).Sensors).Day), .bool (((rd l3 x395).Sensors).Power), .bool (((rd l3 x395).Sensors).Key)] 101 (0, 0))] :: s548 :: s386 :: [(b13, .cells (cl_World x551) 59 (0, 0))] :: [(b9, .cells (cl_Mount m1) 31 (0, 0))] :: H) ∧ Own (tInt .i64) 41 f540 A546 c547 s548 es545 ∧ guard_Run.l1 k l3 x395 m1 n_ es545 x550 x551 = some o536 ∧ a_ = ⟨⟨[(ag_Mount m1), (ag_World vw2), .slice A4 l3.length c5, pV b9 0, pV b13 0, uV, .slice none 0 0, .slice none 0 0, iV 0, iV vt21, .slice A384 out383.length c385, .slice A546 es545.length c547, uV, pV b422 0, uV] ++ (jr j544 0 3 ([(ag_Mount m1), (ag_World vw2), iV vt21, iV vt21, fV, uV, .slice A4 l3.length c5, iV (l3.length : Int), fV, .slice A4 l3.length c5, iV (l3.length : Int), iV x395, tV, pV b418 (of419 + (x395 : Int).toNat * 6), (ag_Input (rd l3 x395) A421 c421), pV b422 0, .slice A421 ((rd l3 x395).Orders).length c421, iV (((rd l3 x395).Orders).length : Int), iV x550] ++ (jr j544 3 18 (jr j382 29 10 [uV, uV]))))⟩, []⟩) k ⟨f378, A390, c391, s392, es389, 0, x396, (jL [(j382 1), (j382 2), (j382 3), (j382 11), (j382 12), (j382 13), (j382 14), (j382 15), (j382 16), (j382 17), (j382 18), (j382 19), (j382 20), (j382 21), (j382 22), (j382 23), (j382 24), (j382 25), (j382 26), (j382 27), (j382 28)]), fL, HS427, HO393, h, kr⟩ ?_
 clear h
 rintro n539 _ W542 ⟨f540, A546, c547, s548, es545, x550, x551, j544, L541, HS543, HO549, h, rfl⟩ K537 hK538
 obtain _ | n539 := n539
 · exact nomatch h
 simp only [guard_Run.l1] at h
 refine wp_seq_k fun K552 hK553 => rl ?_
 refine seqL1 kr ?_
 refine nl (hK553 _ _ ?_)
 refine wp_seq_k (fun K554 hK555 => ?_)
 replace h := ite_some h; rcases h with ⟨c557, h⟩ | ⟨c557, h⟩
 rotate_left
 · have c557 : ¬ (x550 < (((rd l3 x395).Orders).length : Int)) := c557
   refine wpRwI 37 kr (decide_eq_false c557) ?_
   refine condF kr ?_
   refine wp_exit ?_
   refine hx433 _ _ ?_
   exact J648 f540 A546 c547 s548 es545 x551 (jL [(j544 0), (j544 1), (j544 2), iV x550, fV, (j544 4), (j544 5), (j544 6), (j544 7), (j544 8), (j544 9), (j544 10), (j544 11), (j544 12), (j544 13), (j544 14), (j544 15), (j544 16), (j544 17), (j544 18), (j544 19), (j544 20)]) W542 _ L541 h HS543 HO549 kr
 have c557 : x550 < (((rd l3 x395).Orders).length : Int) := c557
 refine wpRwI 37 kr (decide_eq_true c557) ?_
 refine condT kr ?_
 refine wp_skip ?_
 refine hK555 _ _ ?_
 refine wp_seq_k (fun K558 hK559 => ?_)
 refine blockK (fun B560 hx561 hn562 hr563 ho564 hp565 => ?_)
 refine wp_seq_k fun K567 hK568 => rl ?_
 replace h := guard_some h; obtain ⟨c569, h⟩ := h
 have c569 : 0 ≤ x550 := c569
 obtain ⟨b573, of574, cs570, hA575, hr571, hc572⟩ := (HR421.mono L541).at (i := x550) c569 c557
 obtain rfl := hr571
 refine seqK rfl (does_run (run_indexE hA575 (sz := 2) rfl Try.underlying99 kr (kv (.slice A421 ((rd l3 x395).Orders).length c421)) (kv (.int .i64 x550)) c569 c557 W542) ?_)
 refine seqK rfl (does_run (run_loadN (n := 2) rfl Try.underlying67 rfl kr (kv (pV b573 (of574 + (x550 : Int).toNat * 2))) (cs := [.int .i64 ((rd ((rd l3 x395).Orders) x550).Kind), .int .i64 ((rd ((rd l3 x395).Orders) x550).Arg)]) rfl (fun j_ hj_ => ((hc572 fL HS543) j_ hj_))) ?_)
 refine seqK rfl (does_alloc (z := Value.agg #[.int .i64 0, .int .i64 0]) (cs := #[.int .i64 0, .int .i64 0]) rfl kr rfl HS543 ?_)
 intro b576 W577 HS578
 refine seqK rfl (does_storeA (vs := [.int .i64 ((rd ((rd l3 x395).Orders) x550).Kind), .int .i64 ((rd ((rd l3 x395).Orders) x550).Arg)]) rfl kr kr kr rfl (ones rfl) HS578 kr ?_)
 intro W580 HS581
 refine nl (hK568 _ _ ?_)
 refine wp_seq_k fun K582 hK583 => rl ?_
 refine seqK rfl (does_run (run_loadN (n := 10) rfl Try.underlying31 rfl kr (kv (pV b9 0)) (cs := (ll_Mount m1)) rfl (HS581.u5.cells 0 10 _ rfl)) ?_)
 refine seqK rfl (does_run (run_loadN (n := 31) rfl Try.underlying59 rfl kr (kv (pV b13 0)) (cs := (ll_World x551)) rfl (HS581.u4.cells 0 31 _ rfl)) ?_)
 refine seqK rfl (does_run (run_loadN (n := 2) rfl Try.underlying67 rfl kr (kv (pV b576 0)) (cs := [.int .i64 ((rd ((rd l3 x395).Orders) x550).Kind), .int .i64 ((rd ((rd l3 x395).Orders) x550).Arg)]) rfl (HS581.cells 0 2 _ rfl)) ?_)
 replace h := bind_some h; obtain ⟨⟨vt584, vt585⟩, hc586, h⟩ := h
 refine seqK rfl (does_call kr (guard_Give.calls k m1 x551 (rd ((rd l3 x395).Orders) x550) HS581 vt584 vt585 hc586) ?_)
 rintro _ W589 ⟨f587, rfl, L588, HS590⟩
 refine ⟨_, rfl, ?_⟩
 refine seqL3 kr ?_
 refine seqK rfl (does_alloc (z := Value.agg (cm_World ⟨⟨0, 0, 0, false⟩, ⟨0, 0, 0, false⟩, 0⟩ ⟨0, 0, false, false, ⟨0, 0, 0, false⟩⟩ ⟨0, 0, 0, 0⟩ ⟨false, false, false, false, false⟩ ⟨0, 0⟩ 0 0 0)) (cs := (cm_World ⟨⟨0, 0, 0, false⟩, ⟨0, 0, 0, false⟩, 0⟩ ⟨0, 0, false, false, ⟨0, 0, 0, false⟩⟩ ⟨0, 0, 0, 0⟩ ⟨false, false, false, false, false⟩ ⟨0, 0⟩ 0 0 0)) rfl kr rfl HS590 ?_)
 intro b591 W592 HS593
 refine seqK rfl (does_storeA (vs := (ll_World vt584)) rfl kr kr kr rfl (ones rfl) HS593 kr ?_)
 intro W595 HS596
 refine seqL1 kr ?_
 refine nl (hK583 _ _ ?_)
 refine wp_seq_k (fun K597 hK598 => ?_)
 refine wp_seq_k fun K599 hK600 => rl ?_
 refine seqL2 kr ?_
 refine nl (hK600 _ _ ?_)
 replace h := ite_some h; rcases h with ⟨c602, h⟩ | ⟨c602, h⟩
 rotate_left
 · have c602 : ¬ (vt585 = 0) := c602
   refine wpRwI 48 kr (beq_eq_false_iff_ne.mpr c602) ?_
   refine condF kr ?_
   refine wp_skip ?_
   refine hK598 _ _ ?_
   refine rl ?_
   refine seqL2 kr ?_
   refine seqK rfl (does_lit (e := (tInt .i64)) (E := 41) (vs := #[(0, Value.int .i64 vt585)]) (cs := #[.int .i64 vt585]) (xs := ([vt585] : List Int)) rfl Try.underlying45 kr kr ⟨[.int .i64 vt585], _, rfl, rfl, rfl⟩ rfl HS596 ?_ (by decide))
   intro b621 W622 s623 HS624 _ HO625
   replace h := guard_some h; obtain ⟨c627, h⟩ := h
   have c627 : (es545.length + 1) * 8 ≤ 140737488355328 := c627
   have HS629 := HS624.u4.u1
   refine seqK rfl (does_append1 (e := (tInt .i64)) (E := 41) (xs := es545) (ys := ([vt585] : List Int)) rfl (kv (.slice A546 es545.length c547)) (kv (.slice (some ⟨b621, 0, none⟩) ([vt585] : List Int).length 1)) Try.underlying45 inf41 (HO549.mono L588) HO625 HS629 c627 (lim63 c627 (by decide)) ?_)
   intro A630 c631 s632 W633 HS634 HO635
   refine seqL1 kr ?_
   refine nl ?_
   refine hn562 _ _ ?_
   refine hK559 _ _ ?_
   refine rl ?_
   refine seqL2 kr ?_
   refine nl ?_
   refine hK538 n539 _ _ (Nat.lt_succ_self _) ?_
   have HS665 := HS634.u6.u6.u6.u3.u6.u6.u6
   have HS666 := HS665.drop
   have HS667 := HS666.drop
   exact ⟨f587, A630, c631, s632, (es545 ++ ([vt585] : List Int)), (w64 (x550 + 1)), x551, (jL [pV b576 0, pV b591 0, iV vt585, tV, pV b573 (of574 + (x550 : Int).toNat * 2), .agg #[.int .i64 ((rd ((rd l3 x395).Orders) x550).Kind), .int .i64 ((rd ((rd l3 x395).Orders) x550).Arg)], .tuple #[(ag_World vt584), .int .i64 vt585], (ag_Mount m1), (ag_World x551), .agg #[.int .i64 ((rd ((rd l3 x395).Orders) x550).Kind), .int .i64 ((rd ((rd l3 x395).Orders) x550).Arg)], .tuple #[(ag_World vt584), .int .i64 vt585], (ag_World vt584), iV vt585, iV vt585, fV, (j544 15), .slice A546 es545.length c547, iV vt585, .slice (some ⟨b621, 0, none⟩) ([vt585] : List Int).length 1, .slice A630 (es545 ++ ([vt585] : List Int)).length c631, iV (w64 (x550 + 1))]), (L541.trans L588), HS667, HO635, h, kr⟩
 have c602 : vt585 = 0 := c602
 refine wpRwI 48 kr (beq_iff_eq.mpr c602) ?_
 refine condT kr ?_
 refine rl ?_
 refine seqK rfl (does_run (run_loadN (n := 31) rfl Try.underlying59 rfl kr (kv (pV b591 0)) (cs := (ll_World vt584)) rfl (HS596.cells 0 31 _ rfl)) ?_)
 have HS603 := HS596.u5
 refine seqK rfl (does_storeA (vs := (ll_World vt584)) rfl kr kr kr rfl (ones rfl) HS603 kr ?_)
 intro W604 HS605
 refine nl (hK598 _ _ ?_)
 refine rl ?_
 refine seqL2 kr ?_
 refine seqK rfl (does_lit (e := (tInt .i64)) (E := 41) (vs := #[(0, Value.int .i64 vt585)]) (cs := #[.int .i64 vt585]) (xs := ([vt585] : List Int)) rfl Try.underlying45 kr kr ⟨[.int .i64 vt585], _, rfl, rfl, rfl⟩ rfl HS605 ?_ (by decide))
 intro b606 W607 s608 HS609 _ HO610
 replace h := guard_some h; obtain ⟨c612, h⟩ := h
 have c612 : (es545.length + 1) * 8 ≤ 140737488355328 := c612
 have HS614 := HS609.u5.u1
 refine seqK rfl (does_append1 (e := (tInt .i64)) (E := 41) (xs := es545) (ys := ([vt585] : List Int)) rfl (kv (.slice A546 es545.length c547)) (kv (.slice (some ⟨b606, 0, none⟩) ([vt585] : List Int).length 1)) Try.underlying45 inf41 (HO549.mono L588) HO610 HS614 c612 (lim63 c612 (by decide)) ?_)
 intro A615 c616 s617 W618 HS619 HO620
 refine seqL1 kr ?_
 refine nl ?_
 refine hn562 _ _ ?_
 refine hK559 _ _ ?_
 refine rl ?_
 refine seqL2 kr ?_
 refine nl ?_
 refine hK538 n539 _ _ (Nat.lt_succ_self _) ?_
 have HS656 := HS619.u6.u2.u6.u3.u6.u6.u6
 have HS657 := HS656.drop
 have HS658 := HS657.drop
 exact ⟨f587, A615, c616, s617, (es545 ++ ([vt585] : List Int)), (w64 (x550 + 1)), vt584, (jL [pV b576 0, pV b591 0, iV vt585, tV, pV b573 (of574 + (x550 : Int).toNat * 2), .agg #[.int .i64 ((rd ((rd l3 x395).Orders) x550).Kind), .int .i64 ((rd ((rd l3 x395).Orders) x550).Arg)], .tuple #[(ag_World vt584), .int .i64 vt585], (ag_Mount m1), (ag_World x551), .agg #[.int .i64 ((rd ((rd l3 x395).Orders) x550).Kind), .int .i64 ((rd ((rd l3 x395).Orders) x550).Arg)], .tuple #[(ag_World vt584), .int .i64 vt585], (ag_World vt584), iV vt585, iV vt585, tV, (ag_World vt584), .slice A546 es545.length c547, iV vt585, .slice (some ⟨b606, 0, none⟩) ([vt585] : List Int).length 1, .slice A615 (es545 ++ ([vt585] : List Int)).length c616, iV (w64 (x550 + 1))]), (L541.trans L588), HS658, HO620, h, kr⟩

set_option maxRecDepth 100000 in
set_option maxHeartbeats 4000000 in
theorem spytop_h1sends.calls (k : Nat)   {t w : World} {f : FM} {H : List Seg} (HS : St t w f (H)) (rr1 : Bool) (h : spytop_h1sends k = some rr1) :
    Calls Try.prog 12 #[] w (fun e w' => ∃ (g : FM), e = .returned (Value.bool rr1) ∧ FM.le f g ∧ St t w' g (H)) := by
 unfold spytop_h1sends at h
 refine enter Try.func12 rfl (tm := ⟨un 25 []⟩) kr ?_
 intro B hret hnor hnp
 refine wp_seq_k fun K1 hK2 => rl ?_
 refine seqL1 kr ?_
 refine nl (hK2 _ _ ?_)
 refine wp_seq_k fun K3 hK4 => rl ?_
 refine seqL1 kr ?_
 refine seqK rfl (does_lit (e := ty_Cmd) (E := 76) (vs := #[(0, Value.agg (cm_Cmd 13 0 10))]) (cs := (cm_Cmd 13 0 10)) (xs := ([(⟨13, 0, 10⟩ : S_Cmd)] : List S_Cmd)) rfl Try.underlying33 kr kr ⟨(lm_Cmd 13 0 10), _, rfl, rfl, rfl⟩ rfl HS ?_ (by decide))
 intro b5 W6 s7 HS8 _ HO9
 obtain ⟨f11, L12, HS13, HR14, th15⟩ := HO9.lend HS8
 replace h := bind_some h; obtain ⟨⟨vt16, vt17⟩, hc18, h⟩ := h
 refine seqK rfl (does_call kr (link_Run.calls k (some ⟨b5, 0, none⟩) 1 none 0 none 0 ([(⟨13, 0, 10⟩ : S_Cmd)] : List S_Cmd) ([] : List S_Fate) ([] : List S_Fate) 3 HS13 HR14 (SlR.nil _ _) (SlR.nil _ _) vt16 vt17 hc18) ?_)
 rintro _ W21 ⟨f19, A23, c24, s25, A28, c29, s30, A33, c34, s35, rfl, L20, HS22, HO26, HO31, HO36⟩
 refine ⟨_, rfl, ?_⟩
 obtain ⟨f38, L39, HS40⟩ := th15 L20 HS22
 replace HO26 := HO26.flat (g := f38) (fun _ _ _ _ h_ => h_)
 replace HO31 := HO31.flat (g := f38) (fun _ _ _ _ h_ => h_)
 replace HO36 := HO36.flat (g := f38) (fun _ _ _ _ h_ => h_)
 refine seqL3 kr ?_
 refine seqK rfl (does_alloc (z := Value.agg #[.slice none 0 0, .slice none 0 0, .slice none 0 0, .int .i64 0, .int .i64 0]) (cs := #[.slice none 0 0, .slice none 0 0, .slice none 0 0, .int .i64 0, .int .i64 0]) rfl kr rfl HS40 ?_)
 intro b41 W42 HS43
 refine seqK rfl (does_storeA (vs := [.slice A23 vt16.Execs.length c24, .slice A28 vt16.Reports.length c29, .slice A33 vt16.At.length c34, .int .i64 vt16.Sent, .int .i64 vt16.Heard]) rfl kr kr kr rfl (ones rfl) HS43 kr ?_)
 intro W45 HS46
 refine seqL1 kr ?_
 refine nl (hK4 _ _ ?_)
 refine wp_seq_k fun K47 hK48 => rl ?_
 replace h := bind_some h; obtain ⟨vt49, hc50, h⟩ := h
 refine seqL1 kr ?_
 refine seqK rfl (does_call kr (guard_Start.calls k (⟨(⟨0, 0, 0, 0⟩ : S_Axis), (⟨0, 0, 0, 0⟩ : S_Axis), (⟨0, 0⟩ : S_Pose)⟩ : S_Mount) HS46 vt49 hc50) ?_)
 rintro _ W53 ⟨f51, rfl, L52, HS54⟩
 refine ⟨_, rfl, ?_⟩
 refine seqK rfl (does_alloc (z := Value.agg (cm_World ⟨⟨0, 0, 0, false⟩, ⟨0, 0, 0, false⟩, 0⟩ ⟨0, 0, false, false, ⟨0, 0, 0, false⟩⟩ ⟨0, 0, 0, 0⟩ ⟨false, false, false, false, false⟩ ⟨0, 0⟩ 0 0 0)) (cs := (cm_World ⟨⟨0, 0, 0, false⟩, ⟨0, 0, 0, false⟩, 0⟩ ⟨0, 0, false, false, ⟨0, 0, 0, false⟩⟩ ⟨0, 0, 0, 0⟩ ⟨false, false, false, false, false⟩ ⟨0, 0⟩ 0 0 0)) rfl kr rfl HS54 ?_)
 intro b55 W56 HS57
 refine seqK rfl (does_storeA (vs := (ll_World vt49)) rfl kr kr kr rfl (ones rfl) HS57 kr ?_)
 intro W59 HS60
 refine nl (hK48 _ _ ?_)
 refine wp_seq_k fun K61 hK62 => rl ?_
 refine seqL3 kr ?_
 replace h := ite_some h; rcases h with ⟨c64, h⟩ | ⟨c64, h⟩
 rotate_left
 · have c64 : ¬ (vt17 = 0) := c64
   refine seqRwI 13 kr (beq_eq_false_iff_ne.mpr c64) ?_
   refine seqRwI 14 kr (beq_eq_false_iff_ne.mpr c64) ?_
   refine seqL11 kr ?_
   refine nl (hK62 _ _ ?_)
   refine wp_ret ?_
   refine hret _ _ ?_
   refine ends_still (v := Value.bool false) kr kr ?_
   have HS78 := HS60.drop
   have HS79 := HS78.drop
   have HS80 := HS79.drop
   have HS81 := HS80.drop
   have HS82 := HS81.drop
   have HS83 := HS82.drop
   injection h with h
   subst h
   exact ⟨f51, rfl, (L39.trans L52), HS83⟩
 have c64 : vt17 = 0 := c64
 refine seqRwI 13 kr (beq_iff_eq.mpr c64) ?_
 refine seqRwI 14 kr (beq_iff_eq.mpr c64) ?_
 refine seqL1 kr ?_
 refine seqG kr (does_run (run_load rfl Try.underlying38 rfl (kv (pV b41 0)) (HS60.u1.cell 0)) ?_)
 refine seqL4 kr ?_
 replace h := ite_some h; rcases h with ⟨c65, h⟩ | ⟨c65, h⟩
 · have c65 : (vt16.Execs.length : Int) = 1 := c65
   refine seqRwI 18 kr (beq_iff_eq.mpr c65) ?_
   refine seqRwI 19 kr (beq_iff_eq.mpr c65) ?_
   refine seqRwI 20 kr (beq_iff_eq.mpr c65) ?_
   refine seqL1 kr ?_
   refine seqG kr (does_run (run_load rfl Try.underlying3 rfl (kv (pV b55 28)) (HS60.cell 28)) ?_)
   refine seqL3 kr ?_
   refine nl (hK62 _ _ ?_)
   refine wp_ret ?_
   refine hret _ _ ?_
   refine ends_still (v := Value.bool (vt49.Mode == 2)) kr kr ?_
   have HS66 := HS60.drop
   have HS67 := HS66.drop
   have HS68 := HS67.drop
   have HS69 := HS68.drop
   have HS70 := HS69.drop
   have HS71 := HS70.drop
   injection h with h
   subst h
   exact ⟨f51, rfl, (L39.trans L52), HS71⟩
 have c65 : ¬ ((vt16.Execs.length : Int) = 1) := c65
 refine seqRwI 18 kr (beq_eq_false_iff_ne.mpr c65) ?_
 refine seqRwI 19 kr (beq_eq_false_iff_ne.mpr c65) ?_
 refine seqRwI 20 kr (beq_eq_false_iff_ne.mpr c65) ?_
 refine seqL5 kr ?_
 refine nl (hK62 _ _ ?_)
 refine wp_ret ?_
 refine hret _ _ ?_
 refine ends_still (v := Value.bool false) kr kr ?_
 have HS72 := HS60.drop
 have HS73 := HS72.drop
 have HS74 := HS73.drop
 have HS75 := HS74.drop
 have HS76 := HS75.drop
 have HS77 := HS76.drop
 injection h with h
 subst h
 exact ⟨f51, rfl, (L39.trans L52), HS77⟩

set_option maxRecDepth 100000 in
set_option maxHeartbeats 4000000 in
theorem spytop_TopSafe.calls (k : Nat) (A2 : Option Addr) (c3 : Nat) (l1 : List Int) (vk5 : Int) {t w : World} {f : FM} {H : List Seg} (HS : St t w f (H)) (HR4 : SlR (tInt .i64) f A2 c3 l1) (rr1 : Bool) (h : spytop_TopSafe k l1 vk5 = some rr1) :
    Calls Try.prog 3 #[.slice A2 l1.length c3, .int .i64 vk5] w (fun e w' => ∃ (g : FM), e = .returned (Value.bool rr1) ∧ FM.le f g ∧ St t w' g (H)) := by
 unfold spytop_TopSafe at h
 refine enter Try.func3 rfl (tm := ⟨[.slice A2 l1.length c3, iV vk5] ++ (un 135 [])⟩) kr ?_
 intro B hret hnor hnp
 refine wp_seq_k fun K6 hK7 => rl ?_
 refine seqL1 kr ?_
 refine nl (hK7 _ _ ?_)
 refine wp_seq_k fun K8 hK9 => rl ?_
 refine seqL2 kr ?_
 refine seqK rfl (does_box (cs := #[.slice A2 l1.length c3, .int .i64 0]) rfl (kv (.agg #[.slice A2 l1.length c3, .int .i64 0])) rfl HS ?_)
 intro b10 W11 HS12
 refine seqL1 kr ?_
 refine nl (hK9 _ _ ?_)
 refine wp_seq_k fun K14 hK15 => rl ?_
 replace h := bind_some h; obtain ⟨⟨vt16, vt17⟩, hc18, h⟩ := h
 refine seqL1 kr ?_
 refine seqK rfl (does_call kr (spymake_Stream_Mount.calls k b10 A2 c3 (⟨l1, 0⟩ : S_Stream) HS12 HR4 vt16 vt17 hc18) ?_)
 rintro _ W21 ⟨f19, rfl, L20, HS22⟩
 refine ⟨_, rfl, ?_⟩
 refine seqK rfl (does_alloc (z := Value.agg (cm_Mount ⟨0, 0, 0, 0⟩ ⟨0, 0, 0, 0⟩ ⟨0, 0⟩)) (cs := (cm_Mount ⟨0, 0, 0, 0⟩ ⟨0, 0, 0, 0⟩ ⟨0, 0⟩)) rfl kr rfl HS22 ?_)
 intro b23 W24 HS25
 refine seqK rfl (does_storeA (vs := (ll_Mount vt16)) rfl kr kr kr rfl (ones rfl) HS25 kr ?_)
 intro W27 HS28
 refine nl (hK15 _ _ ?_)
 refine wp_seq_k fun K29 hK30 => rl ?_
 refine seqL1 kr ?_
 refine seqK rfl (does_run (run_loadN (n := 10) rfl Try.underlying31 rfl kr (kv (pV b23 0)) (cs := (ll_Mount vt16)) rfl (HS28.cells 0 10 _ rfl)) ?_)
 have HS31 := HS28.u1
 replace h := bind_some h; obtain ⟨⟨vt32, vt33⟩, hc34, h⟩ := h
 refine seqK rfl (does_call kr (spytop_h1orders.calls k b10 A2 c3 (⟨l1, vt17⟩ : S_Stream) vt16 HS31 (HR4.mono L20) vt32 vt33 hc34) ?_)
 rintro _ W37 ⟨f35, A39, c40, s41, rfl, L36, HS38, HO42⟩
 refine ⟨_, rfl, ?_⟩
 have HS44 := HS38.u1
 replace h := bind_some h; obtain ⟨⟨vt45, vt46⟩, hc47, h⟩ := h
 refine seqL1 kr ?_
 refine seqK rfl (does_call kr (spytop_h1fates.calls k b10 A2 c3 (⟨l1, vt33⟩ : S_Stream) HS44 (HR4.mono (L20.trans L36)) vt45 vt46 hc47) ?_)
 rintro _ W50 ⟨f48, A52, c53, s54, rfl, L49, HS51, HO55⟩
 refine ⟨_, rfl, ?_⟩
 have HS57 := HS51.u1
 replace h := bind_some h; obtain ⟨⟨vt58, vt59⟩, hc60, h⟩ := h
 refine seqL1 kr ?_
 refine seqK rfl (does_call kr (spytop_h1fates.calls k b10 A2 c3 (⟨l1, vt46⟩ : S_Stream) HS57 (HR4.mono (L20.trans (L36.trans L49))) vt58 vt59 hc60) ?_)
 rintro _ W63 ⟨f61, A65, c66, s67, rfl, L62, HS64, HO68⟩
 refine ⟨_, rfl, ?_⟩
 refine seqL3 kr ?_
 refine nl (hK30 _ _ ?_)
 refine wp_seq_k fun K70 hK71 => rl ?_
 replace h := bind_some h; obtain ⟨vt72, hc73, h⟩ := h
 refine seqL1 kr ?_
 refine seqK rfl (does_call kr (spymake_Below.calls k vk5 200 HS64 vt72 hc73) ?_)
 rintro _ W76 ⟨f74, rfl, L75, HS77⟩
 refine ⟨_, rfl, ?_⟩
 refine seqL2 kr ?_
 refine nl (hK71 _ _ ?_)
 refine wp_seq_k fun K78 hK79 => rl ?_
 have HS80 := HS77.u3
 obtain ⟨f81, L82, HS83, HR84, th85⟩ := (HO42.mono (L49.trans (L62.trans L75))).lend HS80
 have HS86 := HS83.u2
 obtain ⟨f87, L88, HS89, HR90, th91⟩ := (HO55.mono (L62.trans (L75.trans L82))).lend HS86
 obtain ⟨f92, L93, HS94, HR95, th96⟩ := (HO68.mono (L75.trans (L82.trans L88))).lend HS89
 replace h := bind_some h; obtain ⟨⟨vt97, vt98⟩, hc99, h⟩ := h
 refine seqL4 kr ?_
 refine seqK rfl (does_call kr (link_Run.calls k A39 c40 A52 c53 A65 c66 vt32 vt45 vt58 (w64 (vt72 + 1)) HS94 (HR84.mono (L88.trans L93)) (HR90.mono L93) HR95 vt97 vt98 hc99) ?_)
 rintro _ W102 ⟨f100, A104, c105, s106, A109, c110, s111, A114, c115, s116, rfl, L101, HS103, HO107, HO112, HO117⟩
 refine ⟨_, rfl, ?_⟩
 obtain ⟨f119, L120, HS121⟩ := th96 L101 HS103
 obtain ⟨f122, L123, HS124⟩ := th91 L120 HS121
 obtain ⟨f125, L126, HS127⟩ := th85 L123 HS124
 replace HO107 := HO107.flat (g := f125) (fun _ _ _ _ h_ => h_)
 replace HO112 := HO112.flat (g := f125) (fun _ _ _ _ h_ => h_)
 replace HO117 := HO117.flat (g := f125) (fun _ _ _ _ h_ => h_)
 refine seqL3 kr ?_
 refine seqK rfl (does_alloc (z := Value.agg #[.slice none 0 0, .slice none 0 0, .slice none 0 0, .int .i64 0, .int .i64 0]) (cs := #[.slice none 0 0, .slice none 0 0, .slice none 0 0, .int .i64 0, .int .i64 0]) rfl kr rfl HS127 ?_)
 intro b128 W129 HS130
 refine seqK rfl (does_storeA (vs := [.slice A104 vt97.Execs.length c105, .slice A109 vt97.Reports.length c110, .slice A114 vt97.At.length c115, .int .i64 vt97.Sent, .int .i64 vt97.Heard]) rfl kr kr kr rfl (ones rfl) HS130 kr ?_)
 intro W132 HS133
 refine seqL1 kr ?_
 refine nl (hK79 _ _ ?_)
 refine wp_seq_k (fun K134 hK135 => ?_)
 have HS358 := HS133.u8.u4.u4.u3.u8.u8.u8.u8.u8
 refine heldG (S := Sg t f125 ([(b128, .cells #[.slice A104 vt97.Execs.length c105, .slice A109 vt97.Reports.length c110, .slice A114 vt97.At.length c115, .int .i64 vt97.Sent, .int .i64 vt97.Heard] 40 (0, 0))] :: s54 :: s67 :: [(b23, .cells (cl_Mount vt16) 31 (0, 0))] :: H) [(7, [(b10, .cells #[.slice A2 l1.length c3, .int .i64 vt59] 25 (0, 0))])]) (n := 16) kr rfl HS358 ?_
 intro W359 HS360
 refine gQ 0 rfl kr kr kr kr kr hnp (Sg.g1 (Sx.of [s41, s106, s111, s116, [(b10, .cells #[.slice A2 l1.length c3, .int .i64 vt59] 25 (0, 0))]] fL HS360) (fun _ => St.only [s41, s106, s111, s116] HS360 fL)) (fun hl_ hS_ => run_loadN (n := 10) rfl Try.underlying31 rfl kr (kv (pV b23 0)) (cs := (ll_Mount vt16)) rfl (hS_.u3.cells 0 10 _ rfl)) fun X361 => ?_
 refine gQ 1 rfl kr kr kr kr kr hnp X361 (fun hl_ hS_ => run_loadN (n := 10) rfl Try.underlying31 rfl kr (kv (pV b23 0)) (cs := (ll_Mount vt16)) rfl (hS_.u3.cells 0 10 _ rfl)) fun X362 => ?_
 refine gL [3, 4] (fuel := 12) (bA 16 27) rfl kr kr kr hnp X362 fun X363 => ?_
 refine gQ 5 rfl kr kr kr kr kr hnp X363 (fun hl_ hS_ => run_loadN (n := 5) rfl Try.underlying40 rfl kr (kv (pV b128 0)) (cs := [.slice A104 vt97.Execs.length c105, .slice A109 vt97.Reports.length c110, .slice A114 vt97.At.length c115, .int .i64 vt97.Sent, .int .i64 vt97.Heard]) rfl (hS_.cells 0 5 _ rfl)) fun X364 => ?_
 refine gL [6] (fuel := 10) (bA 16 123) rfl kr kr kr hnp X364 fun X365 => ?_
 replace h := bind_some h; obtain ⟨vt366, hc367, h⟩ := h
 refine takeGE 2 kr rfl kr (does_call kr (guard_Start.calls k vt16 HS360 vt366 hc367) ?_)
 rintro _ W370 ⟨f368, rfl, L369, HS371⟩
 refine ⟨_, rfl, ?_⟩
 refine kB (Sg.g1 (Sx.of [s41, s106, s111, s116, [(b10, .cells #[.slice A2 l1.length c3, .int .i64 vt59] 25 (0, 0))]] L369 HS371) (fun _ => St.only [s41, s106, s111, s116] HS371 L369)) fun X372 => ?_
 obtain ⟨f373, L374, HS375, HR376⟩ := (HO42.mono (L49.trans (L62.trans (L75.trans (L126.trans L369))))).freeze HS371
 obtain ⟨f377, L378, HS379, HR380⟩ := (HO107.mono (L369.trans L374)).freeze HS375
 obtain ⟨f381, L382, HS383, HR384⟩ := (HO112.mono (L369.trans (L374.trans L378))).freeze HS379
 obtain ⟨f385, L386, HS387, HR388⟩ := (HO117.mono (L369.trans (L374.trans (L378.trans L382)))).freeze HS383
 replace h := bind_some h; obtain ⟨⟨vt389, vt390⟩, hc391, h⟩ := h
 refine takeGE 7 kr rfl kr (does_call kr (spytop_h1script.calls k b10 A2 c3 A39 c40 A104 c105 A109 c110 A114 c115 (⟨l1, vt59⟩ : S_Stream) vt32 vt97 (w64 (vt72 + 1)) HS387 (HR4.mono (L20.trans (L36.trans (L49.trans (L62.trans (L75.trans (L126.trans (L369.trans (L374.trans (L378.trans (L382.trans L386))))))))))) (HR376.mono (L378.trans (L382.trans L386))) (HR380.mono (L382.trans L386)) (HR384.mono L386) HR388 vt389 vt390 hc391) ?_)
 rintro _ W394 ⟨f392, A396, c397, s398, rfl, L393, HS395, HO399⟩
 refine ⟨_, rfl, ?_⟩
 refine kB (Sg.g1 (Sx.of [s398, [(b10, .cells #[.slice A2 l1.length c3, .int .i64 vt390] 25 (0, 0))]] (L369.trans (L374.trans (L378.trans (L382.trans (L386.trans L393))))) HS395) (fun hl_ => Bool.noConfusion (show true = false from hl_))) fun X401 => ?_
 obtain ⟨f402, L403, HS404, HR405, th406⟩ := HO399.lend HS395
 replace h := bind_some h; obtain ⟨⟨vt407, vt408, vt409⟩, hc410, h⟩ := h
 refine takeGE 8 kr rfl kr (does_call kr (guard_Run.calls k A396 c397 vt16 vt366 vt389 HS404 HR405 vt407 vt408 vt409 hc410) ?_)
 rintro _ W413 ⟨f411, A415, c416, s417, A420, c421, s422, rfl, L412, HS414, HO418, HO423⟩
 refine ⟨_, rfl, ?_⟩
 obtain ⟨f425, L426, HS427⟩ := th406 L412 HS414
 replace HO418 := HO418.flat (g := f425) (fun _ _ _ _ h_ => h_)
 replace HO423 := HO423.flat (g := f425) (fun _ _ _ _ h_ => h_)
 refine kB (Sg.g1 (Sx.of [s398, s417, s422, [(b10, .cells #[.slice A2 l1.length c3, .int .i64 vt390] 25 (0, 0))]] (L369.trans (L374.trans (L378.trans (L382.trans (L386.trans (L393.trans L426)))))) HS427) (fun hl_ => Bool.noConfusion (show true = false from hl_))) fun X428 => ?_
 refine gL [9, 10, 11, 12, 13, 14, 15] (fuel := 0) (bA 16 65535) rfl kr kr kr hnp X428 fun X429 => ?_
 refine doneG kr ?_ _
 refine hK135 _ _ ?_
 refine wp_seq_k (fun K430 hK431 => ?_)
 refine wp_seq_k (fun K432 hK433 => ?_)
 replace h := bind_some h; obtain ⟨v434, hv450, h⟩ := h
 have J451 : ∀ (f444 : FM) (x449 : Bool) (j448 : Nat → Value) (W446 : World) (a_ : Act), FM.le f425 f444 → some (x449) = some v434 → St t W446 f444 (s398 :: s417 :: s422 :: [(b10, .cells #[.slice A2 l1.length c3, .int .i64 vt390] 25 (0, 0))] :: [(b128, .cells #[.slice A104 vt97.Execs.length c105, .slice A109 vt97.Reports.length c110, .slice A114 vt97.At.length c115, .int .i64 vt97.Sent, .int .i64 vt97.Heard] 40 (0, 0))] :: s54 :: s67 :: [(b23, .cells (cl_Mount vt16) 31 (0, 0))] :: H) → a_ = ⟨⟨[.slice A2 l1.length c3, iV vk5, uV, uV, fV, pV b10 0, pV b23 0, .slice A39 vt32.length c40, .slice A52 vt45.length c53, .slice A65 vt58.length c66, iV (w64 (vt72 + 1)), pV b128 0, iV vt98, .slice A415 vt407.length c416, .slice A420 vt408.length c421, iV vt409] ++ (un 6 ([.slice A2 l1.length c3, .agg #[.slice A2 l1.length c3, iV 0], pV b10 0, pV b10 0, (ag_Mount vt16), pV b10 0, (ag_Mount vt16), .slice A39 vt32.length c40, pV b10 0, .slice A52 vt45.length c53, pV b10 0, .slice A65 vt58.length c66, iV vk5, iV vt72, iV (w64 (vt72 + 1)), .tuple #[(ag_Log vt97 A104 c105 A109 c110 A114 c115), iV vt98], .slice A39 vt32.length c40, .slice A52 vt45.length c53, .slice A65 vt58.length c66, iV (w64 (vt72 + 1)), .tuple #[(ag_Log vt97 A104 c105 A109 c110 A114 c115), iV vt98], (ag_Log vt97 A104 c105 A109 c110 A114 c115), iV vt98, .tuple #[.slice A415 vt407.length c416, .slice A420 vt408.length c421, iV vt409], (ag_Mount vt16), (ag_Mount vt16), (ag_World vt366), pV b10 0, .slice A39 vt32.length c40, (ag_Log vt97 A104 c105 A109 c110 A114 c115), iV (w64 (vt72 + 1)), .slice A396 vt389.length c397, .tuple #[.slice A415 vt407.length c416, .slice A420 vt408.length c421, iV vt409], .slice A415 vt407.length c416, .slice A420 vt408.length c421, iV vt409] ++ (jr j448 0 15 ([.bool x449] ++ (un 63 [])))))⟩, []⟩ → K432 a_ W446 := by
  intro f444 x449 j448 W446 a_ L445 hj452 HS447  hfr_; subst hfr_
  injection hj452 with hj452; subst hj452; try dsimp only at h
  refine hK433 _ _ ?_
  replace h := ite_some h; rcases h with ⟨c454, h⟩ | ⟨c454, h⟩
  · have c454 : x449 = true := c454
    refine wpRwI 73 kr c454 ?_
    refine condT kr ?_
    refine wp_seq_k (fun K455 hK456 => ?_)
    exact nomatch h
  have c454 : ¬ (x449 = true) := c454
  refine wpRwI 73 kr (Bool.eq_false_iff.mpr c454) ?_
  refine condF kr ?_
  refine wp_skip ?_
  refine hK431 _ _ ?_
  refine wp_seq_k (fun K457 hK458 => ?_)
  refine heldG (S := Sg t f444 (s398 :: s417 :: s422 :: [(b10, .cells #[.slice A2 l1.length c3, .int .i64 vt390] 25 (0, 0))] :: [(b128, .cells #[.slice A104 vt97.Execs.length c105, .slice A109 vt97.Reports.length c110, .slice A114 vt97.At.length c115, .int .i64 vt97.Sent, .int .i64 vt97.Heard] 40 (0, 0))] :: s54 :: s67 :: [(b23, .cells (cl_Mount vt16) 31 (0, 0))] :: H) []) (n := 14) kr rfl HS447 ?_
  intro W459 HS460
  refine gQ 0 rfl kr kr kr kr kr hnp (Sg.g0 (Sx.of [] fL HS460)) (fun hl_ hS_ => run_loadN (n := 10) rfl Try.underlying31 rfl kr (kv (pV b23 0)) (cs := (ll_Mount vt16)) rfl (hS_.u7.cells 0 10 _ rfl)) fun X461 => ?_
  replace h := guard_some h; obtain ⟨c462, h⟩ := h
  have c462 : 0 ≤ (w64 ((w64 (vt72 + 1)) - 1)) := c462
  replace h := guard_some h; obtain ⟨c463, h⟩ := h
  have c463 : (w64 ((w64 (vt72 + 1)) - 1)) < (vt407.length : Int) := c463
  obtain ⟨b467, of468, cs464, hA469, hr465, hc466⟩ := (HO418.mono L445).at (i := w64 ((w64 (vt72 + 1)) - 1)) c462 c463
  obtain rfl := hr465
  refine gL [1, 2, 3] (fuel := 10) (bA 14 15) rfl kr kr kr hnp X461 fun X470 => ?_
  refine gQ 4 rfl kr kr kr kr kr hnp X470 (fun hl_ hS_ => run_indexE hA469 (sz := 31) rfl Try.underlying44 kr (kv (.slice A415 vt407.length c416)) (kv (.int .i64 (w64 ((w64 (vt72 + 1)) - 1)))) c462 c463 _) fun X471 => ?_
  refine gQ 5 rfl kr kr kr kr kr hnp X471 (fun hl_ hS_ => run_loadN (n := 31) rfl Try.underlying59 rfl kr (by kernel_rfl : _ = pV b467 (of468 + (w64 ((w64 (vt72 + 1)) - 1) : Int).toNat * 31)) (cs := (ll_World (rd vt407 (w64 ((w64 (vt72 + 1)) - 1))))) rfl (fun j_ hj_ => ((hc466 hS_.u1) j_ hj_))) fun X472 => ?_
  replace h := bind_some h; obtain ⟨⟨vt473, vt474⟩, hc475, h⟩ := h
  refine gL [6] (fuel := 7) (bA 14 127) rfl kr kr kr hnp X472 fun X486 => ?_
  refine withR #[true, true, true, true, true, true, true, true, true, true, true, true, true, true] ?_
  intro R487 hR488 hR489
  have J490 : ∀ (f476 : FM) (b480 : Nat) (W491 : World) (a_ : Act), FM.le f444 f476 → St t W491 f476 ([(b480, .cells (cl_World vt473) 59 (0, 0))] :: s398 :: s417 :: s422 :: [(b10, .cells #[.slice A2 l1.length c3, .int .i64 vt390] 25 (0, 0))] :: [(b128, .cells #[.slice A104 vt97.Execs.length c105, .slice A109 vt97.Reports.length c110, .slice A114 vt97.At.length c115, .int .i64 vt97.Sent, .int .i64 vt97.Heard] 40 (0, 0))] :: s54 :: s67 :: [(b23, .cells (cl_Mount vt16) 31 (0, 0))] :: H) → a_ = ⟨⟨[.slice A2 l1.length c3, iV vk5, uV, uV, fV, pV b10 0, pV b23 0, .slice A39 vt32.length c40, .slice A52 vt45.length c53, .slice A65 vt58.length c66, iV (w64 (vt72 + 1)), pV b128 0, iV vt474, .slice A415 vt407.length c416, .slice A420 vt408.length c421, iV vt409, pV b480 0] ++ (un 5 ([.slice A2 l1.length c3, .agg #[.slice A2 l1.length c3, iV 0], pV b10 0, pV b10 0, (ag_Mount vt16), pV b10 0, (ag_Mount vt16), .slice A39 vt32.length c40, pV b10 0, .slice A52 vt45.length c53, pV b10 0, .slice A65 vt58.length c66, iV vk5, iV vt72, iV (w64 (vt72 + 1)), .tuple #[(ag_Log vt97 A104 c105 A109 c110 A114 c115), iV vt98], .slice A39 vt32.length c40, .slice A52 vt45.length c53, .slice A65 vt58.length c66, iV (w64 (vt72 + 1)), .tuple #[(ag_Log vt97 A104 c105 A109 c110 A114 c115), iV vt98], (ag_Log vt97 A104 c105 A109 c110 A114 c115), iV vt98, .tuple #[.slice A415 vt407.length c416, .slice A420 vt408.length c421, iV vt409], (ag_Mount vt16), (ag_Mount vt16), (ag_World vt366), pV b10 0, .slice A39 vt32.length c40, (ag_Log vt97 A104 c105 A109 c110 A114 c115), iV (w64 (vt72 + 1)), .slice A396 vt389.length c397, .tuple #[.slice A415 vt407.length c416, .slice A420 vt408.length c421, iV vt409], .slice A415 vt407.length c416, .slice A420 vt408.length c421, iV vt409] ++ (jr j448 0 15 ([fV, .tuple #[(ag_World vt473), iV vt474], (ag_Mount vt16), .slice A415 vt407.length c416, iV (w64 (vt72 + 1)), iV (w64 ((w64 (vt72 + 1)) - 1)), pV b467 (of468 + (w64 ((w64 (vt72 + 1)) - 1) : Int).toNat * 31), (ag_World (rd vt407 (w64 ((w64 (vt72 + 1)) - 1)))), .agg #[iV 12, iV 0], .tuple #[(ag_World vt473), iV vt474], (ag_World vt473), iV vt474] ++ (un 52 [])))))⟩, []⟩ → R487 a_ W491 := by
   intro f476 b480 W491 a_ L477 HS492 hfr_; subst hfr_
   refine hR488 _ _ ?_
   refine doneG kr ?_ _
   refine hK458 _ _ ?_
   refine wp_seq_k (fun K521 hK522 => ?_)
   refine wp_seq_k fun K523 hK524 => rl ?_
   refine seqL1 kr ?_
   refine nl (hK524 _ _ ?_)
   refine blockK (fun B525 hx526 hn527 hr528 ho529 hp530 => ?_)
   replace h := bind_some h; obtain ⟨o792, hv1062, h⟩ := h
   have J1063 : ∀ (f1055 : FM) (x1060 : S_World) (x1061 : Int) (j1059 : Nat → Value) (W1057 : World) (a_ : Act), FM.le f476 f1055 → some ((x1060, x1061)) = some o792 → St t W1057 f1055 ([(b480, .cells (cl_World x1060) 59 (0, 0))] :: s398 :: s417 :: s422 :: [(b10, .cells #[.slice A2 l1.length c3, .int .i64 x1061] 25 (0, 0))] :: [(b128, .cells #[.slice A104 vt97.Execs.length c105, .slice A109 vt97.Reports.length c110, .slice A114 vt97.At.length c115, .int .i64 vt97.Sent, .int .i64 vt97.Heard] 40 (0, 0))] :: s54 :: s67 :: [(b23, .cells (cl_Mount vt16) 31 (0, 0))] :: H) → a_ = ⟨⟨[.slice A2 l1.length c3, iV vk5, uV, uV, (j1059 0), pV b10 0, pV b23 0, .slice A39 vt32.length c40, .slice A52 vt45.length c53, .slice A65 vt58.length c66, iV (w64 (vt72 + 1)), pV b128 0, iV vt474, .slice A415 vt407.length c416, .slice A420 vt408.length c421, iV vt409, pV b480 0, (j1059 1), uV] ++ (jr j1059 2 3 ([.slice A2 l1.length c3, .agg #[.slice A2 l1.length c3, iV 0], pV b10 0, pV b10 0, (ag_Mount vt16), pV b10 0, (ag_Mount vt16), .slice A39 vt32.length c40, pV b10 0, .slice A52 vt45.length c53, pV b10 0, .slice A65 vt58.length c66, iV vk5, iV vt72, iV (w64 (vt72 + 1)), .tuple #[(ag_Log vt97 A104 c105 A109 c110 A114 c115), iV vt98], .slice A39 vt32.length c40, .slice A52 vt45.length c53, .slice A65 vt58.length c66, iV (w64 (vt72 + 1)), .tuple #[(ag_Log vt97 A104 c105 A109 c110 A114 c115), iV vt98], (ag_Log vt97 A104 c105 A109 c110 A114 c115), iV vt98, .tuple #[.slice A415 vt407.length c416, .slice A420 vt408.length c421, iV vt409], (ag_Mount vt16), (ag_Mount vt16), (ag_World vt366), pV b10 0, .slice A39 vt32.length c40, (ag_Log vt97 A104 c105 A109 c110 A114 c115), iV (w64 (vt72 + 1)), .slice A396 vt389.length c397, .tuple #[.slice A415 vt407.length c416, .slice A420 vt408.length c421, iV vt409], .slice A415 vt407.length c416, .slice A420 vt408.length c421, iV vt409] ++ (jr j448 0 15 ([fV, .tuple #[(ag_World vt473), iV vt474], (ag_Mount vt16), .slice A415 vt407.length c416, iV (w64 (vt72 + 1)), iV (w64 ((w64 (vt72 + 1)) - 1)), pV b467 (of468 + (w64 ((w64 (vt72 + 1)) - 1) : Int).toNat * 31), (ag_World (rd vt407 (w64 ((w64 (vt72 + 1)) - 1)))), .agg #[iV 12, iV 0], .tuple #[(ag_World vt473), iV vt474], (ag_World vt473), iV vt474] ++ (jr j1059 5 50 [uV, uV])))))⟩, []⟩ → K521 a_ W1057 := by
    intro f1055 x1060 x1061 j1059 W1057 a_ L1056 hj1064 HS1058  hfr_; subst hfr_
    injection hj1064 with hj1064; subst hj1064; try dsimp only at h
    refine hK522 _ _ ?_
    refine wp_seq_k fun K1076 hK1077 => rl ?_
    refine seqL3 kr ?_
    refine nl (hK1077 _ _ ?_)
    refine wp_ret ?_
    refine hret _ _ ?_
    refine ends_still (v := Value.bool (vt474 == 0)) kr kr ?_
    have HS1078 := HS1058.drop
    have HS1079 := HS1078.drop
    have HS1080 := HS1079.drop
    have HS1081 := HS1080.drop
    have HS1082 := HS1081.drop
    have HS1083 := HS1082.drop
    have HS1084 := HS1083.drop
    have HS1085 := HS1084.drop
    have HS1086 := HS1085.drop
    injection h with h
    subst h
    exact ⟨f1055, rfl, (L20.trans (L36.trans (L49.trans (L62.trans (L75.trans (L126.trans (L369.trans (L374.trans (L378.trans (L382.trans (L386.trans (L393.trans (L426.trans (L445.trans (L477.trans L1056))))))))))))))), HS1086⟩
   clear h; have h := hv1062; clear hv1062
   refine loopK (fun n_ a_ w_ => ∃ (f796 : FM) (x801 : Int) (x802 : S_World) (x803 : Int) (j800 : Nat → Value), FM.le f476 f796 ∧ St t w_ f796 ([(b480, .cells (cl_World x802) 59 (0, 0))] :: s398 :: s417 :: s422 :: [(b10, .cells #[.slice A2 l1.length c3, .int .i64 x803] 25 (0, 0))] :: [(b128, .cells #[.slice A104 vt97.Execs.length c105, .slice A109 vt97.Reports.length c110, .slice A114 vt97.At.length c115, .int .i64 vt97.Sent, .int .i64 vt97.Heard] 40 (0, 0))] :: s54 :: s67 :: [(b23, .cells (cl_Mount vt16) 31 (0, 0))] :: H) ∧ spytop_TopSafe.l0 k l1 vt16 n_ x801 x802 x803 = some o792 ∧ a_ = ⟨⟨[.slice A2 l1.length c3, iV vk5, uV, uV, (j800 0), pV b10 0, pV b23 0, .slice A39 vt32.length c40, .slice A52 vt45.length c53, .slice A65 vt58.length c66, iV (w64 (vt72 + 1)), pV b128 0, iV vt474, .slice A415 vt407.length c416, .slice A420 vt408.length c421, iV vt409, pV b480 0, (j800 1), uV] ++ (jr j800 2 3 ([.slice A2 l1.length c3, .agg #[.slice A2 l1.length c3, iV 0], pV b10 0, pV b10 0, (ag_Mount vt16), pV b10 0, (ag_Mount vt16), .slice A39 vt32.length c40, pV b10 0, .slice A52 vt45.length c53, pV b10 0, .slice A65 vt58.length c66, iV vk5, iV vt72, iV (w64 (vt72 + 1)), .tuple #[(ag_Log vt97 A104 c105 A109 c110 A114 c115), iV vt98], .slice A39 vt32.length c40, .slice A52 vt45.length c53, .slice A65 vt58.length c66, iV (w64 (vt72 + 1)), .tuple #[(ag_Log vt97 A104 c105 A109 c110 A114 c115), iV vt98], (ag_Log vt97 A104 c105 A109 c110 A114 c115), iV vt98, .tuple #[.slice A415 vt407.length c416, .slice A420 vt408.length c421, iV vt409], (ag_Mount vt16), (ag_Mount vt16), (ag_World vt366), pV b10 0, .slice A39 vt32.length c40, (ag_Log vt97 A104 c105 A109 c110 A114 c115), iV (w64 (vt72 + 1)), .slice A396 vt389.length c397, .tuple #[.slice A415 vt407.length c416, .slice A420 vt408.length c421, iV vt409], .slice A415 vt407.length c416, .slice A420 vt408.length c421, iV vt409] ++ (jr j448 0 15 ([fV, .tuple #[(ag_World vt473), iV vt474], (ag_Mount vt16), .slice A415 vt407.length c416, iV (w64 (vt72 + 1)), iV (w64 ((w64 (vt72 + 1)) - 1)), pV b467 (of468 + (w64 ((w64 (vt72 + 1)) - 1) : Int).toNat * 31), (ag_World (rd vt407 (w64 ((w64 (vt72 + 1)) - 1)))), .agg #[iV 12, iV 0], .tuple #[(ag_World vt473), iV vt474], (ag_World vt473), iV vt474, iV x801] ++ (jr j800 5 49 [uV, uV])))))⟩, []⟩) k ⟨f476, 0, vt473, vt390, (jL [fV]), fL, HS492, h, kr⟩ ?_
   clear h
   rintro n795 _ W798 ⟨f796, x801, x802, x803, j800, L797, HS799, h, rfl⟩ K793 hK794
   obtain _ | n795 := n795
   · exact nomatch h
   simp only [spytop_TopSafe.l0] at h
   refine wp_seq_k fun K804 hK805 => rl ?_
   refine seqL1 kr ?_
   refine nl (hK805 _ _ ?_)
   refine wp_seq_k (fun K806 hK807 => ?_)
   replace h := ite_some h; rcases h with ⟨c809, h⟩ | ⟨c809, h⟩
   rotate_left
   · have c809 : ¬ (x801 < 102) := c809
     refine wpRwI 86 kr (decide_eq_false c809) ?_
     refine condF kr ?_
     refine wp_exit ?_
     refine hx526 _ _ ?_
     exact J1063 f796 x802 x803 (jL [(j800 0), (j800 1), (j800 2), (j800 3), (j800 4), iV x801, fV, (j800 6), (j800 7), (j800 8), (j800 9), (j800 10), (j800 11), (j800 12), (j800 13), (j800 14), (j800 15), (j800 16), (j800 17), (j800 18), (j800 19), (j800 20), (j800 21), (j800 22), (j800 23), (j800 24), (j800 25), (j800 26), (j800 27), (j800 28), (j800 29), (j800 30), (j800 31), (j800 32), (j800 33), (j800 34), (j800 35), (j800 36), (j800 37), (j800 38), (j800 39), (j800 40), (j800 41), (j800 42), (j800 43), (j800 44), (j800 45), (j800 46), (j800 47), (j800 48), (j800 49), (j800 50), (j800 51), (j800 52), (j800 53)]) W798 _ L797 h HS799 kr
   have c809 : x801 < 102 := c809
   refine wpRwI 86 kr (decide_eq_true c809) ?_
   refine condT kr ?_
   refine wp_skip ?_
   refine hK807 _ _ ?_
   refine wp_seq_k (fun K810 hK811 => ?_)
   refine blockK (fun B812 hx813 hn814 hr815 ho816 hp817 => ?_)
   refine wp_seq_k fun K819 hK820 => rl ?_
   refine seqL2 kr ?_
   refine nl (hK820 _ _ ?_)
   refine wp_seq_k (fun K821 hK822 => ?_)
   refine wp_seq_k fun K823 hK824 => rl ?_
   refine seqK rfl (does_lit (e := (tInt .i64)) (E := 3) (vs := #[(0, Value.int .i64 6), (1, Value.int .i64 2), (2, Value.int .i64 4), (3, Value.int .i64 7), (4, Value.int .i64 5)]) (cs := #[.int .i64 6, .int .i64 2, .int .i64 4, .int .i64 7, .int .i64 5]) (xs := ([6, 2, 4, 7, 5] : List Int)) rfl Try.underlying22 kr kr ⟨[.int .i64 6], _, rfl, rfl, ⟨[.int .i64 2], _, rfl, rfl, ⟨[.int .i64 4], _, rfl, rfl, ⟨[.int .i64 7], _, rfl, rfl, ⟨[.int .i64 5], _, rfl, rfl, rfl⟩⟩⟩⟩⟩ rfl HS799 ?_ (by decide))
   intro b825 W826 s827 HS828 _ HO829
   refine seqL2 kr ?_
   refine nl (hK824 _ _ ?_)
   refine blockK (fun B831 hx832 hn833 hr834 ho835 hp836 => ?_)
   replace h := bind_some h; obtain ⟨o890, hv950, h⟩ := h
   have J951 : ∀ (f944 : FM) (x949 : S_World) (j948 : Nat → Value) (W946 : World) (a_ : Act), FM.le f796 f944 → some (x949) = some o890 → St t W946 f944 (s827 :: [(b480, .cells (cl_World x949) 59 (0, 0))] :: s398 :: s417 :: s422 :: [(b10, .cells #[.slice A2 l1.length c3, .int .i64 x803] 25 (0, 0))] :: [(b128, .cells #[.slice A104 vt97.Execs.length c105, .slice A109 vt97.Reports.length c110, .slice A114 vt97.At.length c115, .int .i64 vt97.Sent, .int .i64 vt97.Heard] 40 (0, 0))] :: s54 :: s67 :: [(b23, .cells (cl_Mount vt16) 31 (0, 0))] :: H) → a_ = ⟨⟨[.slice A2 l1.length c3, iV vk5, uV, uV, (j800 0), pV b10 0, pV b23 0, .slice A39 vt32.length c40, .slice A52 vt45.length c53, .slice A65 vt58.length c66, iV (w64 (vt72 + 1)), pV b128 0, iV vt474, .slice A415 vt407.length c416, .slice A420 vt408.length c421, iV vt409, pV b480 0, iV x801, uV] ++ (jr j948 0 3 ([.slice A2 l1.length c3, .agg #[.slice A2 l1.length c3, iV 0], pV b10 0, pV b10 0, (ag_Mount vt16), pV b10 0, (ag_Mount vt16), .slice A39 vt32.length c40, pV b10 0, .slice A52 vt45.length c53, pV b10 0, .slice A65 vt58.length c66, iV vk5, iV vt72, iV (w64 (vt72 + 1)), .tuple #[(ag_Log vt97 A104 c105 A109 c110 A114 c115), iV vt98], .slice A39 vt32.length c40, .slice A52 vt45.length c53, .slice A65 vt58.length c66, iV (w64 (vt72 + 1)), .tuple #[(ag_Log vt97 A104 c105 A109 c110 A114 c115), iV vt98], (ag_Log vt97 A104 c105 A109 c110 A114 c115), iV vt98, .tuple #[.slice A415 vt407.length c416, .slice A420 vt408.length c421, iV vt409], (ag_Mount vt16), (ag_Mount vt16), (ag_World vt366), pV b10 0, .slice A39 vt32.length c40, (ag_Log vt97 A104 c105 A109 c110 A114 c115), iV (w64 (vt72 + 1)), .slice A396 vt389.length c397, .tuple #[.slice A415 vt407.length c416, .slice A420 vt408.length c421, iV vt409], .slice A415 vt407.length c416, .slice A420 vt408.length c421, iV vt409] ++ (jr j448 0 15 ([fV, .tuple #[(ag_World vt473), iV vt474], (ag_Mount vt16), .slice A415 vt407.length c416, iV (w64 (vt72 + 1)), iV (w64 ((w64 (vt72 + 1)) - 1)), pV b467 (of468 + (w64 ((w64 (vt72 + 1)) - 1) : Int).toNat * 31), (ag_World (rd vt407 (w64 ((w64 (vt72 + 1)) - 1)))), .agg #[iV 12, iV 0], .tuple #[(ag_World vt473), iV vt474], (ag_World vt473), iV vt474, iV x801, tV, iV x801, .slice (some ⟨b825, 0, none⟩) ([6, 2, 4, 7, 5] : List Int).length 5, iV (([6, 2, 4, 7, 5] : List Int).length : Int)] ++ (jr j948 3 16 (jr j800 25 29 [uV, uV]))))))⟩, []⟩ → K821 a_ W946 := by
    intro f944 x949 j948 W946 a_ L945 hj952 HS947  hfr_; subst hfr_
    injection hj952 with hj952; subst hj952; try dsimp only at h
    refine hK822 _ _ ?_
    refine wp_seq_k (fun K977 hK978 => ?_)
    have HS988 := HS947.u9.u9.u9.u9.u8.u8.u8.u7.u9.u9
    refine heldG (S := Sg t f944 (s827 :: s398 :: s417 :: s422 :: [(b128, .cells #[.slice A104 vt97.Execs.length c105, .slice A109 vt97.Reports.length c110, .slice A114 vt97.At.length c115, .int .i64 vt97.Sent, .int .i64 vt97.Heard] 40 (0, 0))] :: s54 :: s67 :: [(b23, .cells (cl_Mount vt16) 31 (0, 0))] :: H) [(10, [(b480, .cells (cl_World x949) 59 (0, 0))]), (3, [(b10, .cells #[.slice A2 l1.length c3, .int .i64 x803] 25 (0, 0))])]) (n := 11) kr rfl HS988 ?_
    intro W989 HS990
    refine gQ 0 rfl kr kr kr kr kr (fun ch_ a_ w_ q_ => (fun ch_ a_ w_ q_ => hnp ch_ a_ w_ (hp530 ch_ a_ w_ q_)) ch_ a_ w_ (hp817 ch_ a_ w_ q_)) (Sg.g2 (Sx.of [[(b480, .cells (cl_World x949) 59 (0, 0))], [(b10, .cells #[.slice A2 l1.length c3, .int .i64 x803] 25 (0, 0))]] fL HS990) (fun _ => St.only [] HS990 fL) (fun _ => St.only [[(b480, .cells (cl_World x949) 59 (0, 0))]] HS990 fL)) (fun hl_ hS_ => run_loadN (n := 10) rfl Try.underlying31 rfl kr (kv (pV b23 0)) (cs := (ll_Mount vt16)) rfl (hS_.u7.cells 0 10 _ rfl)) fun X991 => ?_
    refine gQs 1 10 rfl kr kr kr kr kr (.head _) kr (fun ch_ a_ w_ q_ => (fun ch_ a_ w_ q_ => hnp ch_ a_ w_ (hp530 ch_ a_ w_ q_)) ch_ a_ w_ (hp817 ch_ a_ w_ q_)) X991 (fun hl_ hS_ => run_loadN (n := 31) rfl Try.underlying59 rfl kr (kv (pV b480 0)) (cs := (ll_World x949)) rfl (hS_.cells 0 31 _ rfl)) fun X992 => ?_
    refine gL [2, 5] (fuel := 7) (bA 11 39) rfl kr kr kr (fun ch_ a_ w_ q_ => (fun ch_ a_ w_ q_ => hnp ch_ a_ w_ (hp530 ch_ a_ w_ q_)) ch_ a_ w_ (hp817 ch_ a_ w_ q_)) X992 fun X993 => ?_
    have HS994 := HS990.u1
    replace h := bind_some h; obtain ⟨⟨vt995, vt996⟩, hc997, h⟩ := h
    refine takeGE 3 kr rfl kr (does_call kr (spymake_Stream_Next.calls k b10 A2 c3 (⟨l1, x803⟩ : S_Stream) 9 HS994 (HR4.mono (L20.trans (L36.trans (L49.trans (L62.trans (L75.trans (L126.trans (L369.trans (L374.trans (L378.trans (L382.trans (L386.trans (L393.trans (L426.trans (L445.trans (L477.trans (L797.trans L945))))))))))))))))) vt995 vt996 hc997) ?_)
    rintro _ W1000 ⟨f998, rfl, L999, HS1001⟩
    refine ⟨_, rfl, ?_⟩
    refine kB (Sg.g2 (Sx.of [[(b10, .cells #[.slice A2 l1.length c3, .int .i64 vt996] 25 (0, 0))], [(b480, .cells (cl_World x949) 59 (0, 0))]] L999 HS1001) (fun _ => St.only [[(b10, .cells #[.slice A2 l1.length c3, .int .i64 vt996] 25 (0, 0))]] HS1001 L999) (fun hl_ => Bool.noConfusion (show true = false from hl_))) fun X1002 => ?_
    refine gL [4] (fuel := 5) (bA 11 63) rfl kr kr kr (fun ch_ a_ w_ q_ => (fun ch_ a_ w_ q_ => hnp ch_ a_ w_ (hp530 ch_ a_ w_ q_)) ch_ a_ w_ (hp817 ch_ a_ w_ q_)) X1002 fun X1003 => ?_
    replace h := bind_some h; obtain ⟨⟨vt1004, vt1005⟩, hc1006, h⟩ := h
    refine takeGE 6 kr rfl kr (does_call kr (spymake_Stream_Next.calls k b10 A2 c3 (⟨l1, vt996⟩ : S_Stream) 9 HS1001 (HR4.mono (L20.trans (L36.trans (L49.trans (L62.trans (L75.trans (L126.trans (L369.trans (L374.trans (L378.trans (L382.trans (L386.trans (L393.trans (L426.trans (L445.trans (L477.trans (L797.trans (L945.trans L999)))))))))))))))))) vt1004 vt1005 hc1006) ?_)
    rintro _ W1009 ⟨f1007, rfl, L1008, HS1010⟩
    refine ⟨_, rfl, ?_⟩
    refine kB (Sg.g2 (Sx.of [[(b10, .cells #[.slice A2 l1.length c3, .int .i64 vt1005] 25 (0, 0))], [(b480, .cells (cl_World x949) 59 (0, 0))]] (L999.trans L1008) HS1010) (fun _ => St.only [[(b10, .cells #[.slice A2 l1.length c3, .int .i64 vt1005] 25 (0, 0))]] HS1010 (L999.trans L1008)) (fun hl_ => Bool.noConfusion (show true = false from hl_))) fun X1011 => ?_
    refine gL [7, 8] (fuel := 2) (bA 11 511) rfl kr kr kr (fun ch_ a_ w_ q_ => (fun ch_ a_ w_ q_ => hnp ch_ a_ w_ (hp530 ch_ a_ w_ q_)) ch_ a_ w_ (hp817 ch_ a_ w_ q_)) X1011 fun X1012 => ?_
    replace h := bind_some h; obtain ⟨vt1013, hc1014, h⟩ := h
    refine takeGE 9 kr rfl kr (does_call kr (guard_Step.calls k vt16 x949 (⟨(vt995 == 0), false, false, false, (vt1004 == 0)⟩ : S_Sensors) HS1010 vt1013 hc1014) ?_)
    rintro _ W1017 ⟨f1015, rfl, L1016, HS1018⟩
    refine ⟨_, rfl, ?_⟩
    refine kB (Sg.g2 (Sx.of [[(b10, .cells #[.slice A2 l1.length c3, .int .i64 vt1005] 25 (0, 0))], [(b480, .cells (cl_World x949) 59 (0, 0))]] (L999.trans (L1008.trans L1016)) HS1018) (fun _ => St.only [[(b10, .cells #[.slice A2 l1.length c3, .int .i64 vt1005] 25 (0, 0))]] HS1018 (L999.trans (L1008.trans L1016))) (fun hl_ => Bool.noConfusion (show true = false from hl_))) fun X1019 => ?_
    have HS1020 := HS1018.u1
    refine takeGE 10 kr rfl kr (does_storeA (vs := (ll_World vt1013)) rfl kr kr kr rfl (ones rfl) HS1020 kr ?_)
    intro W1021 HS1022
    refine kB (Sg.g2 (Sx.of [[(b480, .cells (cl_World vt1013) 59 (0, 0))], [(b10, .cells #[.slice A2 l1.length c3, .int .i64 vt1005] 25 (0, 0))]] (L999.trans (L1008.trans L1016)) HS1022) (fun hl_ => Bool.noConfusion (show true = false from hl_)) (fun hl_ => Bool.noConfusion (show true = false from hl_))) fun X1023 => ?_
    refine doneG kr ?_ _
    refine hK978 _ _ ?_
    refine wp_seq_k (fun K1024 hK1025 => ?_)
    replace h := bind_some h; obtain ⟨v1026, hv1048, h⟩ := h
    have J1049 : ∀ (f1042 : FM) (x1047 : Bool) (j1046 : Nat → Value) (W1044 : World) (a_ : Act), FM.le f1015 f1042 → some (x1047) = some v1026 → St t W1044 f1042 ([(b480, .cells (cl_World vt1013) 59 (0, 0))] :: [(b10, .cells #[.slice A2 l1.length c3, .int .i64 vt1005] 25 (0, 0))] :: s827 :: s398 :: s417 :: s422 :: [(b128, .cells #[.slice A104 vt97.Execs.length c105, .slice A109 vt97.Reports.length c110, .slice A114 vt97.At.length c115, .int .i64 vt97.Sent, .int .i64 vt97.Heard] 40 (0, 0))] :: s54 :: s67 :: [(b23, .cells (cl_Mount vt16) 31 (0, 0))] :: H) → a_ = ⟨⟨[.slice A2 l1.length c3, iV vk5, uV, uV, (j800 0), pV b10 0, pV b23 0, .slice A39 vt32.length c40, .slice A52 vt45.length c53, .slice A65 vt58.length c66, iV (w64 (vt72 + 1)), pV b128 0, iV vt474, .slice A415 vt407.length c416, .slice A420 vt408.length c421, iV vt409, pV b480 0, iV x801, uV] ++ (jr j948 0 3 ([.slice A2 l1.length c3, .agg #[.slice A2 l1.length c3, iV 0], pV b10 0, pV b10 0, (ag_Mount vt16), pV b10 0, (ag_Mount vt16), .slice A39 vt32.length c40, pV b10 0, .slice A52 vt45.length c53, pV b10 0, .slice A65 vt58.length c66, iV vk5, iV vt72, iV (w64 (vt72 + 1)), .tuple #[(ag_Log vt97 A104 c105 A109 c110 A114 c115), iV vt98], .slice A39 vt32.length c40, .slice A52 vt45.length c53, .slice A65 vt58.length c66, iV (w64 (vt72 + 1)), .tuple #[(ag_Log vt97 A104 c105 A109 c110 A114 c115), iV vt98], (ag_Log vt97 A104 c105 A109 c110 A114 c115), iV vt98, .tuple #[.slice A415 vt407.length c416, .slice A420 vt408.length c421, iV vt409], (ag_Mount vt16), (ag_Mount vt16), (ag_World vt366), pV b10 0, .slice A39 vt32.length c40, (ag_Log vt97 A104 c105 A109 c110 A114 c115), iV (w64 (vt72 + 1)), .slice A396 vt389.length c397, .tuple #[.slice A415 vt407.length c416, .slice A420 vt408.length c421, iV vt409], .slice A415 vt407.length c416, .slice A420 vt408.length c421, iV vt409] ++ (jr j448 0 15 ([fV, .tuple #[(ag_World vt473), iV vt474], (ag_Mount vt16), .slice A415 vt407.length c416, iV (w64 (vt72 + 1)), iV (w64 ((w64 (vt72 + 1)) - 1)), pV b467 (of468 + (w64 ((w64 (vt72 + 1)) - 1) : Int).toNat * 31), (ag_World (rd vt407 (w64 ((w64 (vt72 + 1)) - 1)))), .agg #[iV 12, iV 0], .tuple #[(ag_World vt473), iV vt474], (ag_World vt473), iV vt474, iV x801, tV, iV x801, .slice (some ⟨b825, 0, none⟩) ([6, 2, 4, 7, 5] : List Int).length 5, iV (([6, 2, 4, 7, 5] : List Int).length : Int)] ++ (jr j948 3 16 ([(ag_Mount vt16), (ag_World x949), pV b10 0, iV vt995, .bool (vt995 == 0), pV b10 0, iV vt1004, .bool (vt1004 == 0), .agg #[.bool (vt995 == 0), fV, fV, fV, .bool (vt1004 == 0)], (ag_World vt1013)] ++ (jr j1046 0 17 [.bool x1047, (j800 53), uV, uV])))))))⟩, []⟩ → K1024 a_ W1044 := by
     intro f1042 x1047 j1046 W1044 a_ L1043 hj1050 HS1045  hfr_; subst hfr_
     injection hj1050 with hj1050; subst hj1050; try dsimp only at h
     refine hK1025 _ _ ?_
     replace h := ite_some h; rcases h with ⟨c1052, h⟩ | ⟨c1052, h⟩
     · have c1052 : x1047 = true := c1052
       refine wpRwI 133 kr c1052 ?_
       refine condT kr ?_
       refine wp_seq_k (fun K1053 hK1054 => ?_)
       exact nomatch h
     have c1052 : ¬ (x1047 = true) := c1052
     refine wpRwI 133 kr (Bool.eq_false_iff.mpr c1052) ?_
     refine condF kr ?_
     refine wp_skip ?_
     refine hn814 _ _ ?_
     refine hK811 _ _ ?_
     refine rl ?_
     refine seqL2 kr ?_
     refine nl ?_
     refine hK794 n795 _ _ (Nat.lt_succ_self _) ?_
     have HS1074 := HS1045.u9.u9.u9.u9.u5.u9.u9.u9.u8.u9
     have HS1075 := HS1074.drop
     exact ⟨f1042, (w64 (x801 + 1)), vt1013, vt1005, (jL [(j800 0), iV x801, (j948 0), (j948 1), (j948 2), tV, iV x801, .slice (some ⟨b825, 0, none⟩) ([6, 2, 4, 7, 5] : List Int).length 5, iV (([6, 2, 4, 7, 5] : List Int).length : Int), (j948 3), (j948 4), (j948 5), (j948 6), (j948 7), (j948 8), (j948 9), (j948 10), (j948 11), (j948 12), (j948 13), (j948 14), (j948 15), (j948 16), (j948 17), (j948 18), (ag_Mount vt16), (ag_World x949), pV b10 0, iV vt995, .bool (vt995 == 0), pV b10 0, iV vt1004, .bool (vt1004 == 0), .agg (cm_Sensors (vt995 == 0) false false false (vt1004 == 0)), (ag_World vt1013), (j1046 0), (j1046 1), (j1046 2), (j1046 3), (j1046 4), (j1046 5), (j1046 6), (j1046 7), (j1046 8), (j1046 9), (j1046 10), (j1046 11), (j1046 12), (j1046 13), (j1046 14), (j1046 15), (j1046 16), fV, iV (w64 (x801 + 1))]), (L797.trans (L945.trans (L999.trans (L1008.trans (L1016.trans L1043))))), HS1075, h, kr⟩
    clear h; have h := hv1048; clear hv1048
    refine rl ?_
    refine seqL3 kr ?_
    replace h := ite_some h; rcases h with ⟨c1027, h⟩ | ⟨c1027, h⟩
    rotate_left
    · have c1027 : ¬ (x801 ≥ 96) := c1027
      refine seqRwI 117 kr (decide_eq_false c1027) ?_
      refine seqRwI 118 kr (decide_eq_false c1027) ?_
      refine seqL15 kr ?_
      refine nl ?_
      exact J1049 f1015 false (jL [iV x801, fV, fV]) W1021 _ fL h HS1022 kr
    have c1027 : x801 ≥ 96 := c1027
    refine seqRwI 117 kr (decide_eq_true c1027) ?_
    refine seqRwI 118 kr (decide_eq_true c1027) ?_
    refine seqL1 kr ?_
    refine seqG kr (does_run (run_load rfl Try.underlying3 rfl (kv (pV b480 28)) (HS1022.cell 28)) ?_)
    refine seqL2 kr ?_
    replace h := ite_some h; rcases h with ⟨c1028, h⟩ | ⟨c1028, h⟩
    · have c1028 : vt1013.Mode ≠ 2 := c1028
      refine seqRwI 121 kr (bne_iff_ne.mpr c1028) ?_
      refine seqRwI 122 kr (bne_iff_ne.mpr c1028) ?_
      refine seqL11 kr ?_
      refine nl ?_
      exact J1049 f1015 true (jL [iV x801, tV, tV, pV b480 28, iV vt1013.Mode, tV, tV, uV, uV, uV, tV, tV, uV, uV, uV, uV, tV]) W1021 _ fL h HS1022 kr
    have c1028 : ¬ (vt1013.Mode ≠ 2) := c1028
    refine seqRwI 121 (x := (vt1013.Mode != 2)) (v := false) kr (bne_eq_false_iff_eq.mpr (Decidable.of_not_not c1028)) ?_
    refine seqRwI 122 (x := (vt1013.Mode != 2)) (v := false) kr (bne_eq_false_iff_eq.mpr (Decidable.of_not_not c1028)) ?_
    refine seqG kr (does_run (run_loadN (n := 31) rfl Try.underlying59 rfl kr (kv (pV b480 0)) (cs := (ll_World vt1013)) rfl (HS1022.cells 0 31 _ rfl)) ?_)
    replace h := bind_some h; obtain ⟨vt1029, hc1030, h⟩ := h
    refine seqG kr (does_call kr (guard_AtRest.calls k vt1013 HS1022 vt1029 hc1030) ?_)
    rintro _ W1033 ⟨f1031, rfl, L1032, HS1034⟩
    refine ⟨_, rfl, ?_⟩
    refine seqL3 kr ?_
    replace h := ite_some h; rcases h with ⟨c1035, h⟩ | ⟨c1035, h⟩
    · have c1035 : ¬ (vt1029 = true) := c1035
      refine seqRwI 125 kr (congrArg (fun b_ => !b_) (show vt1029 = false from (Bool.eq_false_iff.mpr c1035)) : (!vt1029) = true) ?_
      refine seqRwI 126 kr (congrArg (fun b_ => !b_) (show vt1029 = false from (Bool.eq_false_iff.mpr c1035)) : (!vt1029) = true) ?_
      refine seqRwI 127 kr (congrArg (fun b_ => !b_) (show vt1029 = false from (Bool.eq_false_iff.mpr c1035)) : (!vt1029) = true) ?_
      refine seqL6 kr ?_
      refine nl ?_
      exact J1049 f1031 true (jL [iV x801, tV, tV, pV b480 28, iV vt1013.Mode, fV, fV, (ag_World vt1013), .bool vt1029, tV, tV, tV, uV, uV, uV, uV, tV]) W1033 _ L1032 h HS1034 kr
    have c1035 : ¬ (¬ (vt1029 = true)) := c1035
    refine seqRwI 125 (x := (!vt1029)) (v := false) kr (congrArg (fun b_ => !b_) (show vt1029 = true from (Decidable.of_not_not c1035)) : (!vt1029) = false) ?_
    refine seqRwI 126 (x := (!vt1029)) (v := false) kr (congrArg (fun b_ => !b_) (show vt1029 = true from (Decidable.of_not_not c1035)) : (!vt1029) = false) ?_
    refine seqRwI 127 (x := (!vt1029)) (v := false) kr (congrArg (fun b_ => !b_) (show vt1029 = true from (Decidable.of_not_not c1035)) : (!vt1029) = false) ?_
    refine seqL1 kr ?_
    refine seqG kr (does_run (run_loadN (n := 8) rfl Try.underlying53 rfl kr (kv (pV b480 9)) (cs := (ll_State3 vt1013.Dome)) rfl (HS1034.cells 9 8 _ rfl)) ?_)
    replace h := bind_some h; obtain ⟨vt1036, hc1037, h⟩ := h
    refine seqG kr (does_call kr (dome_Closed.calls k vt1013.Dome HS1034 vt1036 hc1037) ?_)
    rintro _ W1040 ⟨f1038, rfl, L1039, HS1041⟩
    refine ⟨_, rfl, ?_⟩
    refine seqL3 kr ?_
    refine nl ?_
    exact J1049 f1038 (!vt1036) (jL [iV x801, tV, tV, pV b480 28, iV vt1013.Mode, fV, fV, (ag_World vt1013), .bool vt1029, fV, fV, fV, pV b480 9, (ag_State3 vt1013.Dome), .bool vt1036, .bool (!vt1036), .bool (!vt1036)]) W1040 _ (L1032.trans L1039) h HS1041 kr
   clear h; have h := hv950; clear hv950
   refine loopK (fun n_ a_ w_ => ∃ (f894 : FM) (x899 : Int) (x900 : S_World) (j898 : Nat → Value), FM.le f796 f894 ∧ St t w_ f894 (s827 :: [(b480, .cells (cl_World x900) 59 (0, 0))] :: s398 :: s417 :: s422 :: [(b10, .cells #[.slice A2 l1.length c3, .int .i64 x803] 25 (0, 0))] :: [(b128, .cells #[.slice A104 vt97.Execs.length c105, .slice A109 vt97.Reports.length c110, .slice A114 vt97.At.length c115, .int .i64 vt97.Sent, .int .i64 vt97.Heard] 40 (0, 0))] :: s54 :: s67 :: [(b23, .cells (cl_Mount vt16) 31 (0, 0))] :: H) ∧ spytop_TopSafe.l1 k vt16 l1 n_ x899 x900 = some o890 ∧ a_ = ⟨⟨[.slice A2 l1.length c3, iV vk5, uV, uV, (j800 0), pV b10 0, pV b23 0, .slice A39 vt32.length c40, .slice A52 vt45.length c53, .slice A65 vt58.length c66, iV (w64 (vt72 + 1)), pV b128 0, iV vt474, .slice A415 vt407.length c416, .slice A420 vt408.length c421, iV vt409, pV b480 0, iV x801, uV] ++ (jr j898 0 3 ([.slice A2 l1.length c3, .agg #[.slice A2 l1.length c3, iV 0], pV b10 0, pV b10 0, (ag_Mount vt16), pV b10 0, (ag_Mount vt16), .slice A39 vt32.length c40, pV b10 0, .slice A52 vt45.length c53, pV b10 0, .slice A65 vt58.length c66, iV vk5, iV vt72, iV (w64 (vt72 + 1)), .tuple #[(ag_Log vt97 A104 c105 A109 c110 A114 c115), iV vt98], .slice A39 vt32.length c40, .slice A52 vt45.length c53, .slice A65 vt58.length c66, iV (w64 (vt72 + 1)), .tuple #[(ag_Log vt97 A104 c105 A109 c110 A114 c115), iV vt98], (ag_Log vt97 A104 c105 A109 c110 A114 c115), iV vt98, .tuple #[.slice A415 vt407.length c416, .slice A420 vt408.length c421, iV vt409], (ag_Mount vt16), (ag_Mount vt16), (ag_World vt366), pV b10 0, .slice A39 vt32.length c40, (ag_Log vt97 A104 c105 A109 c110 A114 c115), iV (w64 (vt72 + 1)), .slice A396 vt389.length c397, .tuple #[.slice A415 vt407.length c416, .slice A420 vt408.length c421, iV vt409], .slice A415 vt407.length c416, .slice A420 vt408.length c421, iV vt409] ++ (jr j448 0 15 ([fV, .tuple #[(ag_World vt473), iV vt474], (ag_Mount vt16), .slice A415 vt407.length c416, iV (w64 (vt72 + 1)), iV (w64 ((w64 (vt72 + 1)) - 1)), pV b467 (of468 + (w64 ((w64 (vt72 + 1)) - 1) : Int).toNat * 31), (ag_World (rd vt407 (w64 ((w64 (vt72 + 1)) - 1)))), .agg #[iV 12, iV 0], .tuple #[(ag_World vt473), iV vt474], (ag_World vt473), iV vt474, iV x801, tV, iV x801, .slice (some ⟨b825, 0, none⟩) ([6, 2, 4, 7, 5] : List Int).length 5, iV (([6, 2, 4, 7, 5] : List Int).length : Int), iV x899] ++ (jr j898 3 15 (jr j800 25 29 [uV, uV]))))))⟩, []⟩) k ⟨f796, 0, x802, (jL [(j800 2), (j800 3), (j800 4), (j800 10), (j800 11), (j800 12), (j800 13), (j800 14), (j800 15), (j800 16), (j800 17), (j800 18), (j800 19), (j800 20), (j800 21), (j800 22), (j800 23), (j800 24)]), fL, HS828, h, kr⟩ ?_
   clear h
   rintro n893 _ W896 ⟨f894, x899, x900, j898, L895, HS897, h, rfl⟩ K891 hK892
   obtain _ | n893 := n893
   · exact nomatch h
   simp only [spytop_TopSafe.l1] at h
   refine wp_seq_k fun K901 hK902 => rl ?_
   refine seqL1 kr ?_
   refine nl (hK902 _ _ ?_)
   refine wp_seq_k (fun K903 hK904 => ?_)
   replace h := ite_some h; rcases h with ⟨c906, h⟩ | ⟨c906, h⟩
   rotate_left
   · have c906 : ¬ (x899 < (([6, 2, 4, 7, 5] : List Int).length : Int)) := c906
     refine wpRwI 91 kr (decide_eq_false c906) ?_
     refine condF kr ?_
     refine wp_exit ?_
     refine hx832 _ _ ?_
     exact J951 f894 x900 (jL [(j898 0), (j898 1), (j898 2), iV x899, fV, (j898 4), (j898 5), (j898 6), (j898 7), (j898 8), (j898 9), (j898 10), (j898 11), (j898 12), (j898 13), (j898 14), (j898 15), (j898 16), (j898 17)]) W896 _ L895 h HS897 kr
   have c906 : x899 < (([6, 2, 4, 7, 5] : List Int).length : Int) := c906
   refine wpRwI 91 kr (decide_eq_true c906) ?_
   refine condT kr ?_
   refine wp_skip ?_
   refine hK904 _ _ ?_
   refine wp_seq_k (fun K907 hK908 => ?_)
   refine blockK (fun B909 hx910 hn911 hr912 ho913 hp914 => ?_)
   refine wp_seq_k fun K916 hK917 => rl ?_
   replace h := guard_some h; obtain ⟨c918, h⟩ := h
   have c918 : 0 ≤ x899 := c918
   obtain ⟨cs919, hr920, hc921⟩ := (HO829.mono L895).at' (i := x899) c918 c906
   obtain rfl := hr920
   refine seqK rfl (does_run (run_index (sz := 1) rfl Try.underlying22 kr (kv (.slice (some ⟨b825, 0, none⟩) ([6, 2, 4, 7, 5] : List Int).length 5)) (kv (.int .i64 x899)) c918 c906 W896) ?_)
   refine seqK rfl (does_run (run_load rfl Try.underlying3 rfl (kv (pV b825 (0 + (x899 : Int).toNat * 1))) ((hc921 HS897) 0 (by decide))) ?_)
   refine seqL1 kr ?_
   refine nl (hK917 _ _ ?_)
   refine wp_seq_k fun K922 hK923 => rl ?_
   refine seqK rfl (does_run (run_loadN (n := 10) rfl Try.underlying31 rfl kr (kv (pV b23 0)) (cs := (ll_Mount vt16)) rfl (HS897.u9.cells 0 10 _ rfl)) ?_)
   refine seqK rfl (does_run (run_loadN (n := 31) rfl Try.underlying59 rfl kr (kv (pV b480 0)) (cs := (ll_World x900)) rfl (HS897.u1.cells 0 31 _ rfl)) ?_)
   replace h := bind_some h; obtain ⟨⟨vt924, vt925⟩, hc926, h⟩ := h
   refine seqL2 kr ?_
   refine seqK rfl (does_call kr (guard_Give.calls k vt16 x900 (⟨(rd ([6, 2, 4, 7, 5] : List Int) x899), 0⟩ : S_Order) HS897 vt924 vt925 hc926) ?_)
   rintro _ W929 ⟨f927, rfl, L928, HS930⟩
   refine ⟨_, rfl, ?_⟩
   refine seqL3 kr ?_
   refine seqK rfl (does_alloc (z := Value.agg (cm_World ⟨⟨0, 0, 0, false⟩, ⟨0, 0, 0, false⟩, 0⟩ ⟨0, 0, false, false, ⟨0, 0, 0, false⟩⟩ ⟨0, 0, 0, 0⟩ ⟨false, false, false, false, false⟩ ⟨0, 0⟩ 0 0 0)) (cs := (cm_World ⟨⟨0, 0, 0, false⟩, ⟨0, 0, 0, false⟩, 0⟩ ⟨0, 0, false, false, ⟨0, 0, 0, false⟩⟩ ⟨0, 0, 0, 0⟩ ⟨false, false, false, false, false⟩ ⟨0, 0⟩ 0 0 0)) rfl kr rfl HS930 ?_)
   intro b931 W932 HS933
   refine seqK rfl (does_storeA (vs := (ll_World vt924)) rfl kr kr kr rfl (ones rfl) HS933 kr ?_)
   intro W935 HS936
   refine seqL1 kr ?_
   refine nl (hK923 _ _ ?_)
   refine wp_seq_k fun K937 hK938 => rl ?_
   refine seqL2 kr ?_
   refine nl (hK938 _ _ ?_)
   replace h := ite_some h; rcases h with ⟨c940, h⟩ | ⟨c940, h⟩
   rotate_left
   · have c940 : ¬ (vt925 = 0) := c940
     refine wpRwI 103 kr (beq_eq_false_iff_ne.mpr c940) ?_
     refine condF kr ?_
     refine wp_skip ?_
     refine hn911 _ _ ?_
     refine hK908 _ _ ?_
     refine rl ?_
     refine seqL2 kr ?_
     refine nl ?_
     refine hK892 n893 _ _ (Nat.lt_succ_self _) ?_
     have HS975 := HS936.u10.u10.u10.u10.u10.u10.u10.u10.u10.u10.u10
     have HS976 := HS975.drop
     exact ⟨f927, (w64 (x899 + 1)), x900, (jL [iV (rd ([6, 2, 4, 7, 5] : List Int) x899), pV b931 0, iV vt925, tV, pV b825 (0 + (x899 : Int).toNat * 1), iV (rd ([6, 2, 4, 7, 5] : List Int) x899), .tuple #[(ag_World vt924), .int .i64 vt925], (ag_Mount vt16), (ag_World x900), iV (rd ([6, 2, 4, 7, 5] : List Int) x899), .agg #[.int .i64 (rd ([6, 2, 4, 7, 5] : List Int) x899), .int .i64 0], .tuple #[(ag_World vt924), .int .i64 vt925], (ag_World vt924), iV vt925, iV vt925, fV, (j898 16), iV (w64 (x899 + 1))]), (L895.trans L928), HS976, h, kr⟩
   have c940 : vt925 = 0 := c940
   refine wpRwI 103 kr (beq_iff_eq.mpr c940) ?_
   refine condT kr ?_
   refine rl ?_
   refine seqK rfl (does_run (run_loadN (n := 31) rfl Try.underlying59 rfl kr (kv (pV b931 0)) (cs := (ll_World vt924)) rfl (HS936.cells 0 31 _ rfl)) ?_)
   have HS941 := HS936.u2
   refine seqK rfl (does_storeA (vs := (ll_World vt924)) rfl kr kr kr rfl (ones rfl) HS941 kr ?_)
   intro W942 HS943
   refine nl ?_
   refine hn911 _ _ ?_
   refine hK908 _ _ ?_
   refine rl ?_
   refine seqL2 kr ?_
   refine nl ?_
   refine hK892 n893 _ _ (Nat.lt_succ_self _) ?_
   have HS963 := HS943.u10.u10.u10.u10.u10.u10.u10.u10.u8.u10.u10
   have HS964 := HS963.drop
   exact ⟨f927, (w64 (x899 + 1)), vt924, (jL [iV (rd ([6, 2, 4, 7, 5] : List Int) x899), pV b931 0, iV vt925, tV, pV b825 (0 + (x899 : Int).toNat * 1), iV (rd ([6, 2, 4, 7, 5] : List Int) x899), .tuple #[(ag_World vt924), .int .i64 vt925], (ag_Mount vt16), (ag_World x900), iV (rd ([6, 2, 4, 7, 5] : List Int) x899), .agg #[.int .i64 (rd ([6, 2, 4, 7, 5] : List Int) x899), .int .i64 0], .tuple #[(ag_World vt924), .int .i64 vt925], (ag_World vt924), iV vt925, iV vt925, tV, (ag_World vt924), iV (w64 (x899 + 1))]), (L895.trans L928), HS964, h, kr⟩
  refine takeEither 7 11 kr rfl rfl rfl rfl ?_ ?_
  · refine does_call kr (guard_Give.calls k vt16 (rd vt407 (w64 ((w64 (vt72 + 1)) - 1))) (⟨12, 0⟩ : S_Order) HS460 vt473 vt474 hc475) ?_
    rintro _ W495 ⟨f493, rfl, L494, HS496⟩
    refine ⟨_, rfl, ?_⟩
    refine ⟨(Sg.g0 (Sx.of [] L494 HS496)), ?_⟩
    refine gL [8, 9, 10] (fuel := 3) (bA 14 2047) rfl kr kr kr hnp (Sg.g0 (Sx.of [] L494 HS496)) fun X497 => ?_
    refine takeGE 11 kr rfl kr (does_alloc (z := Value.agg (cm_World ⟨⟨0, 0, 0, false⟩, ⟨0, 0, 0, false⟩, 0⟩ ⟨0, 0, false, false, ⟨0, 0, 0, false⟩⟩ ⟨0, 0, 0, 0⟩ ⟨false, false, false, false, false⟩ ⟨0, 0⟩ 0 0 0)) (cs := (cm_World ⟨⟨0, 0, 0, false⟩, ⟨0, 0, 0, false⟩, 0⟩ ⟨0, 0, false, false, ⟨0, 0, 0, false⟩⟩ ⟨0, 0, 0, 0⟩ ⟨false, false, false, false, false⟩ ⟨0, 0⟩ 0 0 0)) rfl kr rfl HS496 ?_)
    intro b498 W499 HS500
    refine kB (Sg.g0 (Sx.of [[(b498, .cells (cm_World ⟨⟨0, 0, 0, false⟩, ⟨0, 0, 0, false⟩, 0⟩ ⟨0, 0, false, false, ⟨0, 0, 0, false⟩⟩ ⟨0, 0, 0, 0⟩ ⟨false, false, false, false, false⟩ ⟨0, 0⟩ 0 0 0) 59 (0, 0))]] L494 HS500)) fun X502 => ?_
    refine takeGE 12 kr rfl kr (does_storeA (vs := (ll_World vt473)) rfl kr kr kr rfl (ones rfl) HS500 kr ?_)
    intro W503 HS504
    refine kB (Sg.g0 (Sx.of [[(b498, .cells (cl_World vt473) 59 (0, 0))]] L494 HS504)) fun X505 => ?_
    refine gL [13] (fuel := 0) (bA 14 16383) rfl kr kr kr hnp X505 fun X506 => ?_
    refine hR489 _ _ ?_
    exact J490 f493 b498 W503 _ L494 HS504 kr
  refine does_alloc (z := Value.agg (cm_World ⟨⟨0, 0, 0, false⟩, ⟨0, 0, 0, false⟩, 0⟩ ⟨0, 0, false, false, ⟨0, 0, 0, false⟩⟩ ⟨0, 0, 0, 0⟩ ⟨false, false, false, false, false⟩ ⟨0, 0⟩ 0 0 0)) (cs := (cm_World ⟨⟨0, 0, 0, false⟩, ⟨0, 0, 0, false⟩, 0⟩ ⟨0, 0, false, false, ⟨0, 0, 0, false⟩⟩ ⟨0, 0, 0, 0⟩ ⟨false, false, false, false, false⟩ ⟨0, 0⟩ 0 0 0)) rfl kr rfl HS460 ?_
  intro b507 W508 HS509
  refine ⟨(Sg.g0 (Sx.of [[(b507, .cells (cm_World ⟨⟨0, 0, 0, false⟩, ⟨0, 0, 0, false⟩, 0⟩ ⟨0, 0, false, false, ⟨0, 0, 0, false⟩⟩ ⟨0, 0, 0, 0⟩ ⟨false, false, false, false, false⟩ ⟨0, 0⟩ 0 0 0) 59 (0, 0))]] fL HS509)), ?_⟩
  refine takeGE 7 kr rfl kr (does_call kr (guard_Give.calls k vt16 (rd vt407 (w64 ((w64 (vt72 + 1)) - 1))) (⟨12, 0⟩ : S_Order) HS509 vt473 vt474 hc475) ?_)
  rintro _ W513 ⟨f511, rfl, L512, HS514⟩
  refine ⟨_, rfl, ?_⟩
  refine kB (Sg.g0 (Sx.of [[(b507, .cells (cm_World ⟨⟨0, 0, 0, false⟩, ⟨0, 0, 0, false⟩, 0⟩ ⟨0, 0, false, false, ⟨0, 0, 0, false⟩⟩ ⟨0, 0, 0, 0⟩ ⟨false, false, false, false, false⟩ ⟨0, 0⟩ 0 0 0) 59 (0, 0))]] L512 HS514)) fun X515 => ?_
  refine gL [8, 9, 10] (fuel := 2) (bA 14 4095) rfl kr kr kr hnp X515 fun X516 => ?_
  refine takeGE 12 kr rfl kr (does_storeA (vs := (ll_World vt473)) rfl kr kr kr rfl (ones rfl) HS514 kr ?_)
  intro W517 HS518
  refine kB (Sg.g0 (Sx.of [[(b507, .cells (cl_World vt473) 59 (0, 0))]] L512 HS518)) fun X519 => ?_
  refine gL [13] (fuel := 0) (bA 14 16383) rfl kr kr kr hnp X519 fun X520 => ?_
  refine hR489 _ _ ?_
  exact J490 f511 b507 W517 _ L512 HS518 kr
 clear h; have h := hv450; clear hv450
 refine rl ?_
 replace h := bind_some h; obtain ⟨vt435, hc436, h⟩ := h
 refine seqK rfl (does_call kr (spytop_h1sends.calls k  HS427 vt435 hc436) ?_)
 rintro _ W439 ⟨f437, rfl, L438, HS440⟩
 refine ⟨_, rfl, ?_⟩
 refine seqL2 kr ?_
 replace h := ite_some h; rcases h with ⟨c441, h⟩ | ⟨c441, h⟩
 · have c441 : ¬ (vt435 = true) := c441
   refine seqRwI 59 kr (congrArg (fun b_ => !b_) (show vt435 = false from (Bool.eq_false_iff.mpr c441)) : (!vt435) = true) ?_
   refine seqRwI 60 kr (congrArg (fun b_ => !b_) (show vt435 = false from (Bool.eq_false_iff.mpr c441)) : (!vt435) = true) ?_
   refine seqL13 kr ?_
   refine nl ?_
   exact J451 f437 true (jL [.bool vt435, tV, tV, uV, uV, tV, tV, uV, uV, tV, tV]) W439 _ L438 h HS440 kr
 have c441 : ¬ (¬ (vt435 = true)) := c441
 refine seqRwI 59 (x := (!vt435)) (v := false) kr (congrArg (fun b_ => !b_) (show vt435 = true from (Decidable.of_not_not c441)) : (!vt435) = false) ?_
 refine seqRwI 60 (x := (!vt435)) (v := false) kr (congrArg (fun b_ => !b_) (show vt435 = true from (Decidable.of_not_not c441)) : (!vt435) = false) ?_
 refine seqL4 kr ?_
 replace h := ite_some h; rcases h with ⟨c442, h⟩ | ⟨c442, h⟩
 · have c442 : vt98 ≠ 0 := c442
   refine seqRwI 62 kr (bne_iff_ne.mpr c442) ?_
   refine seqRwI 63 kr (bne_iff_ne.mpr c442) ?_
   refine seqRwI 64 kr (bne_iff_ne.mpr c442) ?_
   refine seqL9 kr ?_
   refine nl ?_
   exact J451 f437 true (jL [.bool vt435, fV, fV, iV vt98, tV, tV, tV, uV, uV, tV, tV]) W439 _ L438 h HS440 kr
 have c442 : ¬ (vt98 ≠ 0) := c442
 refine seqRwI 62 (x := (vt98 != 0)) (v := false) kr (bne_eq_false_iff_eq.mpr (Decidable.of_not_not c442)) ?_
 refine seqRwI 63 (x := (vt98 != 0)) (v := false) kr (bne_eq_false_iff_eq.mpr (Decidable.of_not_not c442)) ?_
 refine seqRwI 64 (x := (vt98 != 0)) (v := false) kr (bne_eq_false_iff_eq.mpr (Decidable.of_not_not c442)) ?_
 refine seqL4 kr ?_
 replace h := ite_some h; rcases h with ⟨c443, h⟩ | ⟨c443, h⟩
 · have c443 : vt409 ≠ 0 := c443
   refine seqRwI 66 kr (bne_iff_ne.mpr c443) ?_
   refine seqRwI 67 kr (bne_iff_ne.mpr c443) ?_
   refine seqRwI 68 kr (bne_iff_ne.mpr c443) ?_
   refine seqL5 kr ?_
   refine nl ?_
   exact J451 f437 true (jL [.bool vt435, fV, fV, iV vt98, fV, fV, fV, iV vt409, tV, tV, tV]) W439 _ L438 h HS440 kr
 have c443 : ¬ (vt409 ≠ 0) := c443
 refine seqRwI 66 (x := (vt409 != 0)) (v := false) kr (bne_eq_false_iff_eq.mpr (Decidable.of_not_not c443)) ?_
 refine seqRwI 67 (x := (vt409 != 0)) (v := false) kr (bne_eq_false_iff_eq.mpr (Decidable.of_not_not c443)) ?_
 refine seqRwI 68 (x := (vt409 != 0)) (v := false) kr (bne_eq_false_iff_eq.mpr (Decidable.of_not_not c443)) ?_
 refine seqL5 kr ?_
 refine nl ?_
 exact J451 f437 ((vt407.length : Int) != (w64 (vt72 + 1))) (jL [.bool vt435, fV, fV, iV vt98, fV, fV, fV, iV vt409, fV, fV, fV, .slice A415 vt407.length c416, iV (vt407.length : Int), iV (w64 (vt72 + 1)), .bool ((vt407.length : Int) != (w64 (vt72 + 1)))]) W439 _ L438 h HS440 kr

end Go.Sp.S4
