/- The statement FrameUnits, for the given program: the walk's contract (texts KU5) and the pure law (law_ex) joined. Printed by law.py, a program of this session. -/
import Derived.Test.YtjnehahcpeiheaaGreatDoorRows
import Derived.Test.YtjnehahcpeiheaaGreatDoorSpLaw
import Derived.Test.YtjnehahcpeiheaaGreatDoorKU5n5
import Derived.Test.YtjnehahcpeiheaaGreatDoorPureFrameUnits
import Derived.WalkKit
import Derived.ProofKit
import Derived.OpenShut
import Derived.ShutString
import Derived.ChangeOld
import Derived.Below
import Derived.SizedLaws
import Derived.Lib.SmallJoins
import Derived.Test.YtjnehahcpeiheaaGreatDoorSpTab
import Derived.Test.YtjnehahcpeiheaaGreatDoorSpShp
import Derived.Test.YtjnehahcpeiheaaGreatDoorTie
import Derived.Test.YtjnehahcpeiheaaGreatDoorCards
import Derived.LaidMore
import Derived.Lay
import Derived.SevenTiedAt
import Derived.Stop.Joined
namespace Go.Proofs.YtjnehahcpeiheaaGreatDoor.frameUnits
open Go.ChangeShapes Go.WideShapes Go.ChangeAt Go.RowKit
open Go
open Go.ChangeMaps (open_string shut_string)
set_option linter.unusedVariables false
theorem own : ownKnob Tryz.prog.godebug = none := by kernel_rfl
set_option maxRecDepth 100000 in
theorem lifted (os : Os) (started : os.Started) (H : Type) (enc : TypeId × Value → H) :
    ReturnsInHanded {} Tryz.checked os 5 .any (fun w args => (Rows.frameUnitsSpec.pre enc Tryz.prog Tryz.f5 Rows.frameUnitsRow.domain false w args ∧ laidMetH Tryz.prog Rows.frameUnitsRow.laid w) ∧ sizedMet enc Tryz.prog Tryz.f5 (OpenSpec.ofChange Rows.frameUnitsSpec) false w args) (Rows.frameUnitsSpec.post enc Tryz.prog Tryz.f5 false true false false) := by
  refine Go.Sp.handed_shaped (C := Tryz.checked) (X := fun w _ => laidMetH Tryz.prog Rows.frameUnitsRow.laid w) (fun _ _ _ hh h => h.of_heap hh) own started (by kernel_rfl) Tryz.func5
    (ChangeSpec.witness_shaped (enc := enc) (C := Tryz.checked) (os := os) (X := fun w _ => laidMetH Tryz.prog Rows.frameUnitsRow.laid w) false (World.laidAll Tryz.prog os Rows.frameUnitsRow.laid) #[.int .i64 0, .int .i64 0, .int .i64 0, .int .i64 0] 8 (World.laidAll_os _ _ _)
      (World.shaped_of_ZipB (by kernel_rfl) (by kernel_rfl)) (by kernel_rfl) (by kernel_rfl) (by kernel_rfl)
      (by rw [MakeChecks.laidMetH_plain _ _ _ (by kernel_rfl)]; exact laidMet_laidAll _ (by kernel_rfl) (by kernel_rfl))) ?_
  intro W base args ds gs before hval0 hW hcnd hL hsh
  have hval : ∀ (j : Nat) t v, Tryz.f5.params[j]? = some t → args[j]? = some v → Value.okWide Tryz.prog W .any base t v := hval0
  have hW' := hW
  obtain ⟨p, q, hA0, hV, rfl, hfz, hnd⟩ := hW
  have hA : DataW.TrodAll enc Tryz.prog W 0 (fun _ => true) true Tryz.f5.params.toList args.toList ds p := hA0
  rw [Tryz.params5] at hA hval
  obtain ⟨v0, vs0, d0, ds0, p0, q0, hargs, rfl, rfl, h0, r0⟩ := trodAll_cons hA
  obtain ⟨v1, vs1, d1, ds1, p1, q1, rfl, rfl, rfl, h1, r1⟩ := trodAll_cons r0
  obtain ⟨v2, vs2, d2, ds2, p2, q2, rfl, rfl, rfl, h2, r2⟩ := trodAll_cons r1
  obtain ⟨v3, vs3, d3, ds3, p3, q3, rfl, rfl, rfl, h3, r3⟩ := trodAll_cons r2
  obtain ⟨rfl, rfl, rfl⟩ := trodAll_nil r3
  obtain rfl : args = #[v0, v1, v2, v3] := by cases args; simp_all
  obtain ⟨rfl, rfl⟩ := trodVars_none hV
  obtain ⟨a0, rfl, rfl, rfl, w0⟩ := open_int Tryz.underlying2 (hval 0 2 v0 rfl rfl) h0
  obtain ⟨a1, rfl, rfl, rfl, w1⟩ := open_int Tryz.underlying3 (hval 1 3 v1 rfl rfl) h1
  obtain ⟨a2, rfl, rfl, rfl, w2⟩ := open_int Tryz.underlying3 (hval 2 3 v2 rfl rfl) h2
  obtain ⟨a3, rfl, rfl, rfl, w3⟩ := open_int Tryz.underlying3 (hval 3 3 v3 rfl rfl) h3
  clear hA0 hval0
  obtain ⟨k, hk⟩ := Go.Sp.U5.law_ex a0 a1 a2 a3 w0 w1 w2 w3
  have HA : Go.Sp.TabF Tryz.prog "strings.asciiSpace" .u8 Go.Lib.asciiSpaceTab (Go.Sp.FM.of W) := by
    have h0 : laidMet Tryz.prog Rows.frameUnitsRow.laid W := by rw [← MakeChecks.laidMetH_plain _ _ _ (by kernel_rfl)]; exact hL
    obtain ⟨ps, hv, _⟩ := h0
    have e : Rows.frameUnitsRow.laid = Rows.frameUnitsRow.laid.take 7 ++ ("strings.asciiSpace", Go.Lib.tabData .u8 Go.Lib.asciiSpaceTab) :: Rows.frameUnitsRow.laid.drop 8 := by kernel_rfl
    rw [e] at hv
    exact Go.Sp.tab_start (Go.Sp.tab_laid (g := 0) (t := 166) (e := 5) (n := 256) (by kernel_rfl) (by kernel_rfl) Tryz.underlying166 Tryz.underlying5 (by kernel_rfl) (by kernel_rfl) _ ps hv)
  have HT : Go.Sp.TabF Tryz.prog "internal/strconv.uint64pow10" .u64 Go.Lib.pow10Tab (Go.Sp.FM.of W) := by
    have h0 : laidMet Tryz.prog Rows.frameUnitsRow.laid W := by rw [← MakeChecks.laidMetH_plain _ _ _ (by kernel_rfl)]; exact hL
    obtain ⟨ps, hv, _⟩ := h0
    have e : Rows.frameUnitsRow.laid = Rows.frameUnitsRow.laid.take 2 ++ ("internal/strconv.uint64pow10", Go.Lib.tabData .u64 Go.Lib.pow10Tab) :: Rows.frameUnitsRow.laid.drop 3 := by kernel_rfl
    rw [e] at hv
    exact Go.Sp.tab_start (Go.Sp.tab_laid (g := 3) (t := 178) (e := 69) (n := 20) (by kernel_rfl) (by kernel_rfl) Tryz.underlying178 Tryz.underlying69 (by kernel_rfl) (by kernel_rfl) _ ps hv)
  have HM : Go.Sp.VarI 5 (Go.Sp.FM.of W) := Go.Sp.varI_start (zero := #[.int .i64 0]) (t := 3) hsh (of_decide_eq_true (by kernel_rfl)) (by kernel_rfl) rfl (by kernel_rfl) (by kernel_rfl) Tryz.underlying3
  have hc := Go.Sp.U5.spykeep3_FrameUnits.calls k a0 a1 a2 a3 (Go.Sp.St.start W)  HA HM HT true hk
  refine hc.mono fun e W' ⟨g, he, hle, hS⟩ => ?_
  have bel := hS.ends hle
  subst he
  exact ⟨_, rfl, _, _, _, [], _, [], hW', trodAll_mk1 (shut_bool Tryz.underlying4 _), (trodAll_cons_mk (shut_int Tryz.underlying2 w0) (trodAll_cons_mk (shut_int Tryz.underlying3 w1) (trodAll_cons_mk (shut_int Tryz.underlying3 w2) (trodAll_cons_mk (shut_int Tryz.underlying3 w3) trodAll_mk0)))), rfl, bel.frame _, fun h => by cases h⟩
theorem over : Rows.frameUnitsRow.holds Tryz.pinned (OpenSpec.ofChange Rows.frameUnitsSpec) :=
  OpenClaim.holds_of_wide 5 Tryz.f5 rfl rfl rfl rfl rfl rfl rfl ⟨rfl, rfl, rfl, rfl, rfl⟩ rfl rfl rfl rfl rfl (by kernel_rfl) Tryz.func5 (by kernel_rfl)
    (of_decide_eq_true (by kernel_rfl)) (by unfold Func.isWrapper; first | (rw [if_pos (by decide +kernel)]; kernel_rfl) | (rw [if_neg (by decide +kernel)]; exact ⟨rfl, rfl⟩))
    (fun os started H enc _ => lifted os started H enc)
theorem proved : Rows.FrameUnitsSaid := over
#print axioms proved
end Go.Proofs.YtjnehahcpeiheaaGreatDoor.frameUnits
namespace Go.Proofs.YtjnehahcpeiheaaGreatDoor
open Go
set_option maxRecDepth 100000
/-- The card, under a short name, for the claim. -/
theorem frameUnits_holds : Rows.FrameUnitsCardSaid :=
  Claim7.holds_tied_plain_at .later [] [.data, .data, .data, .data, .sentinel, .sentinel, .listed, .data, .pinned] true (true, "6b45136a797bb641588627ee56735eebae77da3f89f22bf0cba5cffec3f9d6c4") true frameUnits.proved (fun _ h => by cases h) (by kernel_rfl) (fun _ h => by cases h) frameUnits_row_tie rfl ⟨rfl, rfl⟩ (by kernel_rfl) rfl
    (fun f fn hf hfn => by
      obtain rfl : f = 5 := Option.some.inj ((show Tryz.prog.funcNamed "spyglass/spykeep3.FrameUnits" = some 5 by kernel_rfl).symm.trans hf) |>.symm
      obtain rfl : fn = Tryz.f5 := (Option.some.inj (Tryz.func5.symm.trans hfn)).symm
      exact ⟨by kernel_rfl, fun j t ht => by
        rw [Tryz.params5] at ht
        have hm : t ∈ [2, 3, 3, 3] := by simpa using Array.mem_of_getElem? ht
        have hall : ([2, 3, 3, 3].all fun u => !Tryz.prog.wantsStandIn u) = true := by kernel_rfl
        exact (show Tryz.prog.wantsStandIn t = false by simpa using List.all_eq_true.1 hall t hm)⟩)
    (by kernel_rfl)
end Go.Proofs.YtjnehahcpeiheaaGreatDoor
