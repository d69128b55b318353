/- The statement SkyPullNears, for the given program: the walk's contract (texts KP6) and the pure law (law_ex) joined. Printed by law.py, a program of this session. -/
import Derived.Test.YtaddopcbneggiaaRows
import Derived.Test.YtaddopcbneggiaaSpLaw
import Derived.Test.YtaddopcbneggiaaKP6n4
import Derived.Test.YtaddopcbneggiaaPureSkyPullNears
import Derived.WalkKit
import Derived.ProofKit
import Derived.OpenShut
import Derived.ShutString
import Derived.ChangeOld
import Derived.Below
import Derived.SizedLaws
import Derived.Lib.SmallJoins
namespace Go.Proofs.Ytaddopcbneggiaa.skyPullNears
open Go.ChangeShapes Go.WideShapes Go.ChangeAt Go.RowKit
open Go.ChangeMaps (open_string shut_string)
set_option linter.unusedVariables false
theorem own : ownKnob Try.prog.godebug = none := by kernel_rfl
theorem trd2 {H : Type} (enc : TypeId × Value → H) (W : World) (sp : Nat → Bool) (a : Int) (w : (Lit.int .i64 a).wf = true) : ∃ n, DataW.trod enc Try.checked.prog W 0 sp true n 2 [.int .i64 a] = some (.lit (.int .i64 a), []) :=
  ⟨1, by have hu : Try.checked.prog.underlying 2 = _ := Try.underlying2; simp only [DataW.trod]; rw [hu]; simp [w]⟩
set_option maxRecDepth 100000 in
theorem lifted (os : Os) (started : os.Started) (H : Type) (enc : TypeId × Value → H) :
    ReturnsInHanded {} Try.checked os 6 .any (Rows.skyPullNearsSpec.pre6 enc Try.prog Try.f6 Rows.skyPullNearsRow.domain false) (Rows.skyPullNearsSpec.post enc Try.prog Try.f6 false true false false) := by
  refine returnsInHanded_of_change_sized (C := Try.checked) own started (by kernel_rfl) Try.func6
    (ChangeSpec.witness6 (enc := enc) (C := Try.checked) false ⟨#[], #[.agg #[.int .i64 0, .int .i64 0, .int .i64 0]], []⟩ 8 (by kernel_rfl) (by kernel_rfl) (by kernel_rfl) (by kernel_rfl)) ?_
  intro W base args ds gs before hval0 hW hcnd hsz0 _
  have hsz : (DataW.weightsEach Try.prog (Try.f6.params.toList ++ Rows.skyPullNearsSpec.plain.varTypes Try.prog) (ds ++ gs)).all (· ≤ reachBytes) = true := hsz0
  have hval : ∀ (j : Nat) t v, Try.f6.params[j]? = some t → args[j]? = some v → Value.okWide Try.prog W .any base t v := hval0
  have hW' := hW
  obtain ⟨p, q, hA0, hV, rfl, hfz, hnd⟩ := hW
  have hA : DataW.TrodAll enc Try.prog W 0 (fun _ => true) true Try.f6.params.toList args.toList ds p := hA0
  rw [Try.params6] at hA hval hsz
  obtain ⟨v0, vs0, d0, ds0, p0, q0, hargs, rfl, rfl, h0, r0⟩ := trodAll_cons hA
  obtain ⟨rfl, rfl, rfl⟩ := trodAll_nil r0
  obtain rfl : args = #[v0] := by cases args; simp_all
  obtain ⟨rfl, rfl⟩ := trodVars_none hV
  obtain ⟨c0_0, c0_1, c0_2, y0_0, y0_1, y0_2, m0, rfl, rfl, rfl, k0_0, k0_1, k0_2⟩ := Joins.open_agg3 Try.underlying23 (by kernel_rfl) (by kernel_rfl : Try.prog.cellsOf 23 = 3) (hval 0 23 v0 rfl rfl) h0
  obtain ⟨a0_0, e0_0, rfl, w0_0⟩ := DataW.trod_int Try.underlying2 k0_0
  obtain ⟨a0_1, e0_1, rfl, w0_1⟩ := DataW.trod_int Try.underlying2 k0_1
  obtain ⟨a0_2, e0_2, rfl, w0_2⟩ := DataW.trod_int Try.underlying2 k0_2
  simp at e0_0 e0_1 e0_2
  subst e0_0 e0_1 e0_2
  clear hA0 hval0 hsz0 hsz
  obtain ⟨k, hk⟩ := Go.Sp.P6.law_ex ⟨a0_0, a0_1, a0_2⟩ w0_0 w0_1 w0_2
  have hc := Go.Sp.P6.spykeep3_SkyPullNears.calls k ⟨a0_0, a0_1, a0_2⟩ (Go.Sp.St.start W)  true hk
  refine hc.mono fun e W' ⟨g, he, hle, hS⟩ => ?_
  have bel := hS.ends hle
  subst he
  exact ⟨_, rfl, _, _, _, [], _, [], hW', trodAll_mk1 (shut_bool Try.underlying4 _), (trodAll_cons_mk (Joins.shut_agg3 (y0 := (.lit (.int .i64 a0_0), [])) (y1 := (.lit (.int .i64 a0_1), [])) (y2 := (.lit (.int .i64 a0_2), [])) Try.underlying23 (by kernel_rfl) (by kernel_rfl : Try.prog.cellsOf 23 = 3) (trd2 enc _ _ a0_0 w0_0) (trd2 enc _ _ a0_1 w0_1) (trd2 enc _ _ a0_2 w0_2)) trodAll_mk0), rfl, bel.frame _, fun h => by cases h⟩
theorem over : Rows.skyPullNearsRow.holds Try.pinned (OpenSpec.ofChange Rows.skyPullNearsSpec) :=
  OpenClaim.holds_of_wide 6 Try.f6 rfl rfl rfl rfl rfl rfl rfl ⟨rfl, rfl, rfl, rfl, rfl⟩ rfl rfl rfl rfl rfl (by kernel_rfl) Try.func6 (by kernel_rfl)
    (of_decide_eq_true (by kernel_rfl)) (by unfold Func.isWrapper; first | (rw [if_pos (by decide +kernel)]; kernel_rfl) | (rw [if_neg (by decide +kernel)]; exact ⟨rfl, rfl⟩))
    (fun os started H enc _ => lifted os started H enc)
theorem proved : Rows.SkyPullNearsSaid := over
#print axioms proved
end Go.Proofs.Ytaddopcbneggiaa.skyPullNears
namespace Go.Proofs.Ytaddopcbneggiaa
/-- The row, under a short name, for the claim. -/
theorem skyPullNears_holds : Rows.SkyPullNearsSaid := skyPullNears.proved
end Go.Proofs.Ytaddopcbneggiaa
