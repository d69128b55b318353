/- The statement FrameSets, for the given program: the walk's contract (texts KT6) and the pure law (law_ex) joined. Printed by law.py, a program of this session. -/
import Derived.Test.YtjnehahcpeiheaaGreatDoorRows
import Derived.Test.YtjnehahcpeiheaaGreatDoorSpLaw
import Derived.Test.YtjnehahcpeiheaaGreatDoorKT6n6
import Derived.Test.YtjnehahcpeiheaaGreatDoorPureFrameSets
import Derived.WalkKit
import Derived.ProofKit
import Derived.OpenShut
import Derived.ShutString
import Derived.ChangeOld
import Derived.Below
import Derived.SizedLaws
import Derived.Lib.SmallJoins
import Derived.Test.YtjnehahcpeiheaaGreatDoorSpTab
import Derived.Test.YtjnehahcpeiheaaGreatDoorSpShp
import Derived.Test.YtjnehahcpeiheaaGreatDoorTie
import Derived.Test.YtjnehahcpeiheaaGreatDoorCards
import Derived.LaidMore
import Derived.Lay
import Derived.SevenTiedAt
import Derived.Stop.Joined
namespace Go.Proofs.YtjnehahcpeiheaaGreatDoor.frameSets
open Go.ChangeShapes Go.WideShapes Go.ChangeAt Go.RowKit
open Go
open Go.ChangeMaps (open_string shut_string)
set_option linter.unusedVariables false
theorem own : ownKnob Tryz.prog.godebug = none := by kernel_rfl
theorem laidOut : laidOutB Tryz.prog = true := by kernel_rfl
def IsRow (k : IntKind) (w : World) (a : Option Addr) (len cap : Nat) (zs : List Int) : Prop :=
  (a = none ∧ len = 0 ∧ cap = 0 ∧ zs = []) ∨
  ∃ x, a = some x ∧ len ≤ cap ∧ cap ≤ maxLen ∧ zs.length = cap ∧ (∀ i, i < zs.length → w.cell? (x.add i) = some (.int k (zs.getD i 0))) ∧ ∀ n ∈ zs, (Lit.int k n).wf = true
set_option maxRecDepth 100000 in
theorem lifted (os : Os) (started : os.Started) (H : Type) (enc : TypeId × Value → H) :
    ReturnsInHanded {} Tryz.checked os 6 .any (fun w args => (Rows.frameSetsSpec.pre enc Tryz.prog Tryz.f6 Rows.frameSetsRow.domain false w args ∧ laidMetH Tryz.prog Rows.frameSetsRow.laid w) ∧ sizedMet enc Tryz.prog Tryz.f6 (OpenSpec.ofChange Rows.frameSetsSpec) false w args) (Rows.frameSetsSpec.post enc Tryz.prog Tryz.f6 false true false false) := by
  refine Go.Sp.handed_shaped (C := Tryz.checked) (X := fun w _ => laidMetH Tryz.prog Rows.frameSetsRow.laid w) (fun _ _ _ hh h => h.of_heap hh) own started (by kernel_rfl) Tryz.func6
    (ChangeSpec.witness_shaped (enc := enc) (C := Tryz.checked) (os := os) (X := fun w _ => laidMetH Tryz.prog Rows.frameSetsRow.laid w) false (World.laidAll Tryz.prog os Rows.frameSetsRow.laid) #[.slice none 0 0, .int .i64 0, .int .i64 0] 8 (World.laidAll_os _ _ _)
      (World.shaped_of_ZipB (by kernel_rfl) (by kernel_rfl)) (by kernel_rfl) (by kernel_rfl) (by kernel_rfl)
      (by rw [MakeChecks.laidMetH_plain _ _ _ (by kernel_rfl)]; exact laidMet_laidAll _ (by kernel_rfl) (by kernel_rfl))) ?_
  intro W base args ds gs before hval0 hW hcnd hL hsh
  have hval : ∀ (j : Nat) t v, Tryz.f6.params[j]? = some t → args[j]? = some v → Value.okWide Tryz.prog W .any base t v := hval0
  have hW' := hW
  obtain ⟨p, q, hA0, hV, rfl, hfz, hnd⟩ := hW
  have hA : DataW.TrodAll enc Tryz.prog W 0 (fun _ => true) true Tryz.f6.params.toList args.toList ds p := hA0
  rw [Tryz.params6] at hA hval
  obtain ⟨v0, vs0, d0, ds0, p0, q0, hargs, rfl, rfl, h0, r0⟩ := trodAll_cons hA
  obtain ⟨v1, vs1, d1, ds1, p1, q1, rfl, rfl, rfl, h1, r1⟩ := trodAll_cons r0
  obtain ⟨v2, vs2, d2, ds2, p2, q2, rfl, rfl, rfl, h2, r2⟩ := trodAll_cons r1
  obtain ⟨rfl, rfl, rfl⟩ := trodAll_nil r2
  obtain rfl : args = #[v0, v1, v2] := by cases args; simp_all
  obtain ⟨rfl, rfl⟩ := trodVars_none hV
  obtain ⟨a0, len0, cap0, rfl⟩ := okWide_slice Tryz.underlying22 (hval 0 22 v0 rfl rfl)
  have k0 := h0
  have lt0 : ∀ x ∈ p0, x.block < W.heap.size := by obtain ⟨m, hm⟩ := k0; exact DataW.trod_lt m _ _ _ hm
  obtain ⟨z0, w0⟩ : ∃ zs, IsRow .i64 W a0 len0 cap0 zs := by
    obtain ⟨fuel, hf⟩ := h0
    rcases open_ints Tryz.underlying22 Tryz.underlying3 (by kernel_rfl) hf with ⟨hcs, _⟩ | ⟨x, l, c, zs, hcs, _, hl, hm, hz, _, hcell, hwz⟩
    · simp [Value.cells] at hcs
      obtain ⟨rfl, rfl, rfl⟩ := hcs
      exact ⟨[], .inl ⟨rfl, rfl, rfl, rfl⟩⟩
    · simp [Value.cells] at hcs
      obtain ⟨rfl, rfl, rfl⟩ := hcs
      exact ⟨zs, .inr ⟨_, rfl, hl, hm, by simpa using hz, hcell, hwz⟩⟩
  obtain ⟨sl0, ll0⟩ := Go.Sp.SlR.ofRow w0
  obtain ⟨a1, rfl, rfl, rfl, w1⟩ := open_int Tryz.underlying3 (hval 1 3 v1 rfl rfl) h1
  obtain ⟨a2, rfl, rfl, rfl, w2⟩ := open_int Tryz.underlying3 (hval 2 3 v2 rfl rfl) h2
  clear hA0 hval0
  obtain ⟨k, hk⟩ := Go.Sp.T6.law_ex (z0.take len0) a1 a2 w1 w2
  have HA : Go.Sp.TabF Tryz.prog "strings.asciiSpace" .u8 Go.Lib.asciiSpaceTab (Go.Sp.FM.of W) := by
    have h0 : laidMet Tryz.prog Rows.frameSetsRow.laid W := by rw [← MakeChecks.laidMetH_plain _ _ _ (by kernel_rfl)]; exact hL
    obtain ⟨ps, hv, _⟩ := h0
    have e : Rows.frameSetsRow.laid = Rows.frameSetsRow.laid.take 7 ++ ("strings.asciiSpace", Go.Lib.tabData .u8 Go.Lib.asciiSpaceTab) :: Rows.frameSetsRow.laid.drop 8 := by kernel_rfl
    rw [e] at hv
    exact Go.Sp.tab_start (Go.Sp.tab_laid (g := 0) (t := 166) (e := 5) (n := 256) (by kernel_rfl) (by kernel_rfl) Tryz.underlying166 Tryz.underlying5 (by kernel_rfl) (by kernel_rfl) _ ps hv)
  have HT : Go.Sp.TabF Tryz.prog "internal/strconv.uint64pow10" .u64 Go.Lib.pow10Tab (Go.Sp.FM.of W) := by
    have h0 : laidMet Tryz.prog Rows.frameSetsRow.laid W := by rw [← MakeChecks.laidMetH_plain _ _ _ (by kernel_rfl)]; exact hL
    obtain ⟨ps, hv, _⟩ := h0
    have e : Rows.frameSetsRow.laid = Rows.frameSetsRow.laid.take 2 ++ ("internal/strconv.uint64pow10", Go.Lib.tabData .u64 Go.Lib.pow10Tab) :: Rows.frameSetsRow.laid.drop 3 := by kernel_rfl
    rw [e] at hv
    exact Go.Sp.tab_start (Go.Sp.tab_laid (g := 3) (t := 178) (e := 69) (n := 20) (by kernel_rfl) (by kernel_rfl) Tryz.underlying178 Tryz.underlying69 (by kernel_rfl) (by kernel_rfl) _ ps hv)
  have HM : Go.Sp.VarI 5 (Go.Sp.FM.of W) := Go.Sp.varI_start (zero := #[.int .i64 0]) (t := 3) hsh (of_decide_eq_true (by kernel_rfl)) (by kernel_rfl) rfl (by kernel_rfl) (by kernel_rfl) Tryz.underlying3
  have hc := Go.Sp.T6.spykeep3_FrameSets.calls k a0 cap0 (z0.take len0) a1 a2 (Go.Sp.St.start W) sl0 HA HM HT true hk
  rw [ll0] at hc
  refine hc.mono fun e W' ⟨g, he, hle, hS⟩ => ?_
  have bel := hS.ends hle
  subst he
  exact ⟨_, rfl, _, _, _, [], _, [], hW', trodAll_mk1 (shut_bool Tryz.underlying4 _), (trodAll_cons_mk (Below.trod laidOut (by kernel_rfl) (of_decide_eq_true (by kernel_rfl)) k0 bel lt0) (trodAll_cons_mk (shut_int Tryz.underlying3 w1) (trodAll_cons_mk (shut_int Tryz.underlying3 w2) trodAll_mk0))), rfl, bel.frame _, fun h => by cases h⟩
theorem over : Rows.frameSetsRow.holds Tryz.pinned (OpenSpec.ofChange Rows.frameSetsSpec) :=
  OpenClaim.holds_of_wide 6 Tryz.f6 rfl rfl rfl rfl rfl rfl rfl ⟨rfl, rfl, rfl, rfl, rfl⟩ rfl rfl rfl rfl rfl (by kernel_rfl) Tryz.func6 (by kernel_rfl)
    (of_decide_eq_true (by kernel_rfl)) (by unfold Func.isWrapper; first | (rw [if_pos (by decide +kernel)]; kernel_rfl) | (rw [if_neg (by decide +kernel)]; exact ⟨rfl, rfl⟩))
    (fun os started H enc _ => lifted os started H enc)
theorem proved : Rows.FrameSetsSaid := over
#print axioms proved
end Go.Proofs.YtjnehahcpeiheaaGreatDoor.frameSets
namespace Go.Proofs.YtjnehahcpeiheaaGreatDoor
open Go
set_option maxRecDepth 100000
/-- The card, under a short name, for the claim. -/
theorem frameSets_holds : Rows.FrameSetsCardSaid :=
  Claim7.holds_tied_plain_at .later [] [.data, .data, .data, .data, .sentinel, .sentinel, .listed, .data, .pinned] true (true, "6b45136a797bb641588627ee56735eebae77da3f89f22bf0cba5cffec3f9d6c4") true frameSets.proved (fun _ h => by cases h) (by kernel_rfl) (fun _ h => by cases h) frameSets_row_tie rfl ⟨rfl, rfl⟩ (by kernel_rfl) rfl
    (fun f fn hf hfn => by
      obtain rfl : f = 6 := Option.some.inj ((show Tryz.prog.funcNamed "spyglass/spykeep3.FrameSets" = some 6 by kernel_rfl).symm.trans hf) |>.symm
      obtain rfl : fn = Tryz.f6 := (Option.some.inj (Tryz.func6.symm.trans hfn)).symm
      exact ⟨by kernel_rfl, fun j t ht => by
        rw [Tryz.params6] at ht
        have hm : t ∈ [22, 3, 3] := by simpa using Array.mem_of_getElem? ht
        have hall : ([22, 3, 3].all fun u => !Tryz.prog.wantsStandIn u) = true := by kernel_rfl
        exact (show Tryz.prog.wantsStandIn t = false by simpa using List.all_eq_true.1 hall t hm)⟩)
    (by kernel_rfl)
end Go.Proofs.YtjnehahcpeiheaaGreatDoor
