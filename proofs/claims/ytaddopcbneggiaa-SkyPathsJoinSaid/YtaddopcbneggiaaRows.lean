/-
  No cell of these rows narrows 'for every input' (looked for: loops, veiled, ifaces, maps, wideKeys, modest, calm, conditions, laid).
  DERIVED. THE GIVEN ROWS OF THIS SEAT. 5 by the template 'for every input the law returns true; each argument reads behind the call as it read before'; 0 by the template 'total and deterministic' (their statements: YtaddopcbneggiaaTotals.lean).
  GIVEN WITH THE SEED: the statements are not yours to turn. If you find one false, say at which input.
  Laid BY PROGRAM, IN A SANDBOX (cutbox-rows.mjs): the forced cells as the released guide's own fill.sh prints them over the translation d03a6f3730aa2e44… (all of the seat's roots in one cut). By AI agents, Wed Nov 11 2026. No macro, syntax, notation, axiom, sorry.
-/
import Derived.Test.YtaddopcbneggiaaChecked
import GoSem.Claim
import GoSem.ClaimJoined
import GoSem.ClaimMapViews
import Derived.JoinedTies
import Derived.KernelRfl
namespace Go.Proofs.Ytaddopcbneggiaa
/- THE CELL 'sum', in the pinned program and in every row, IS THE sha256 OF THE DUMP (.gsa) THAT YtaddopcbneggiaaProg.lean LOADS. Nothing in Lean hashes anything: it is a label: what it is worth is what the hold of that sum in a sandbox is worth. -/
noncomputable def Try.pinned : Pinned := { name := "ytaddopcbneggiaa", sum := "d03a6f3730aa2e44c60ec5af977c8339ac00a933dc2e68d427fbe6bc8294c1b7", checked := Try.checked }
namespace Rows
def none {H : Type} : Left H := { results := [], args := [] }

/-- 'spykeep3.SkyReverses': WHATEVER THE INPUT: true; the input reads as it did. -/
def skyReversesSpec : ChangeSpec := { name := "skyReverses", fn := fun _ => fun
  | [d1, d2] => { results := [.lit (.bool true)], args := [d1, d2] }
  | _ => none }
def skyReversesRow : OpenClaim := { program := "ytaddopcbneggiaa", sum := "d03a6f3730aa2e44c60ec5af977c8339ac00a933dc2e68d427fbe6bc8294c1b7", func := "spyglass/spykeep3.SkyReverses", spec := "skyReverses", inPlace := ["math/bits.Add64"], unfollowed := true, recurses := true, named := ["math/bits.divideError", "math/bits.overflowError"], apart := false }
def SkyReversesSaid : Prop := skyReversesRow.holds Try.pinned (OpenSpec.ofChange skyReversesSpec)

/-- ITS FALSE NEIGHBOUR: 'it returns false'. Refute it at one input. -/
def skyReversesWrong : ChangeSpec := { name := "skyReverses", fn := fun _ => fun
  | [d1, d2] => { results := [.lit (.bool false)], args := [d1, d2] }
  | _ => none }
def SkyReversesWrongFalsely : Prop := skyReversesRow.holds Try.pinned (OpenSpec.ofChange skyReversesWrong)

/-- 'spykeep3.SkyPathsJoin': WHATEVER THE INPUT: true; the input reads as it did. -/
def skyPathsJoinSpec : ChangeSpec := { name := "skyPathsJoin", fn := fun _ => fun
  | [d1, d2] => { results := [.lit (.bool true)], args := [d1, d2] }
  | _ => none }
def skyPathsJoinRow : OpenClaim := { program := "ytaddopcbneggiaa", sum := "d03a6f3730aa2e44c60ec5af977c8339ac00a933dc2e68d427fbe6bc8294c1b7", func := "spyglass/spykeep3.SkyPathsJoin", spec := "skyPathsJoin", inPlace := ["math/bits.Add64"], unfollowed := true, recurses := true, named := ["math/bits.divideError", "math/bits.overflowError"], apart := false }
def SkyPathsJoinSaid : Prop := skyPathsJoinRow.holds Try.pinned (OpenSpec.ofChange skyPathsJoinSpec)

/-- ITS FALSE NEIGHBOUR: 'it returns false'. Refute it at one input. -/
def skyPathsJoinWrong : ChangeSpec := { name := "skyPathsJoin", fn := fun _ => fun
  | [d1, d2] => { results := [.lit (.bool false)], args := [d1, d2] }
  | _ => none }
def SkyPathsJoinWrongFalsely : Prop := skyPathsJoinRow.holds Try.pinned (OpenSpec.ofChange skyPathsJoinWrong)

/-- 'spykeep3.SkyPlacesLie': WHATEVER THE INPUT: true; the input reads as it did. -/
def skyPlacesLieSpec : ChangeSpec := { name := "skyPlacesLie", fn := fun _ => fun
  | [d1, d2, d3] => { results := [.lit (.bool true)], args := [d1, d2, d3] }
  | _ => none }
def skyPlacesLieRow : OpenClaim := { program := "ytaddopcbneggiaa", sum := "d03a6f3730aa2e44c60ec5af977c8339ac00a933dc2e68d427fbe6bc8294c1b7", func := "spyglass/spykeep3.SkyPlacesLie", spec := "skyPlacesLie", inPlace := ["math/bits.Add64"], unfollowed := true, recurses := true, named := ["math/bits.divideError", "math/bits.overflowError"], apart := false }
def SkyPlacesLieSaid : Prop := skyPlacesLieRow.holds Try.pinned (OpenSpec.ofChange skyPlacesLieSpec)

/-- ITS FALSE NEIGHBOUR: 'it returns false'. Refute it at one input. -/
def skyPlacesLieWrong : ChangeSpec := { name := "skyPlacesLie", fn := fun _ => fun
  | [d1, d2, d3] => { results := [.lit (.bool false)], args := [d1, d2, d3] }
  | _ => none }
def SkyPlacesLieWrongFalsely : Prop := skyPlacesLieRow.holds Try.pinned (OpenSpec.ofChange skyPlacesLieWrong)

/-- 'spykeep3.SkyPullNears': WHATEVER THE INPUT: true; the input reads as it did. -/
def skyPullNearsSpec : ChangeSpec := { name := "skyPullNears", fn := fun _ => fun
  | [d] => { results := [.lit (.bool true)], args := [d] }
  | _ => none }
def skyPullNearsRow : OpenClaim := { program := "ytaddopcbneggiaa", sum := "d03a6f3730aa2e44c60ec5af977c8339ac00a933dc2e68d427fbe6bc8294c1b7", func := "spyglass/spykeep3.SkyPullNears", spec := "skyPullNears", inPlace := ["math/bits.Add64"], unfollowed := true, recurses := true, named := ["math/bits.divideError", "math/bits.overflowError"], apart := false }
def SkyPullNearsSaid : Prop := skyPullNearsRow.holds Try.pinned (OpenSpec.ofChange skyPullNearsSpec)

/-- ITS FALSE NEIGHBOUR: 'it returns false'. Refute it at one input. -/
def skyPullNearsWrong : ChangeSpec := { name := "skyPullNears", fn := fun _ => fun
  | [d] => { results := [.lit (.bool false)], args := [d] }
  | _ => none }
def SkyPullNearsWrongFalsely : Prop := skyPullNearsRow.holds Try.pinned (OpenSpec.ofChange skyPullNearsWrong)

/-- 'spykeep3.SkyRatesRepeat': WHATEVER THE INPUT: true; the input reads as it did. -/
def skyRatesRepeatSpec : ChangeSpec := { name := "skyRatesRepeat", fn := fun _ => fun
  | [d1, d2, d3] => { results := [.lit (.bool true)], args := [d1, d2, d3] }
  | _ => none }
def skyRatesRepeatRow : OpenClaim := { program := "ytaddopcbneggiaa", sum := "d03a6f3730aa2e44c60ec5af977c8339ac00a933dc2e68d427fbe6bc8294c1b7", func := "spyglass/spykeep3.SkyRatesRepeat", spec := "skyRatesRepeat", inPlace := ["math/bits.Add64"], unfollowed := true, recurses := true, named := ["math/bits.divideError", "math/bits.overflowError"], apart := false }
def SkyRatesRepeatSaid : Prop := skyRatesRepeatRow.holds Try.pinned (OpenSpec.ofChange skyRatesRepeatSpec)

/-- ITS FALSE NEIGHBOUR: 'it returns false'. Refute it at one input. -/
def skyRatesRepeatWrong : ChangeSpec := { name := "skyRatesRepeat", fn := fun _ => fun
  | [d1, d2, d3] => { results := [.lit (.bool false)], args := [d1, d2, d3] }
  | _ => none }
def SkyRatesRepeatWrongFalsely : Prop := skyRatesRepeatRow.holds Try.pinned (OpenSpec.ofChange skyRatesRepeatWrong)

/- THE SECOND FORM. 'bulk': how many values and letters a reading holds, each counted each time it is reached (what is shared counts as often as it is met; a slice's spare places count too). A statement '..UptoSaid' is the law's where the arguments, and the package variables that the reading takes, are together of bulk at most 1048576: NARROWER than '..Said'. Prove '..Said' where nothing that the law and all that it calls make is longer than what came in: it says more and counts as full. Else prove '..UptoSaid'. A law counts once. -/
mutual
def uptoBulk {H : Type} : DataW H → Nat
  | .lit (.string bytes) => bytes.length + 1
  | .lit _ => 1
  | .nil => 1
  | .ptr d => uptoBulk d + 1
  | .slice elems spare => uptoBulkAll elems + uptoBulkAll spare + 1
  | .agg parts => uptoBulkAll parts + 1
  | .iface _ d => uptoBulk d + 1
  | .map entries => uptoBulkEntries entries + 1
  | .held _ => 1
def uptoBulkAll {H : Type} : List (DataW H) → Nat
  | [] => 0
  | d :: r => uptoBulk d + uptoBulkAll r
def uptoBulkEntries {H : Type} : List (Lit × DataW H) → Nat
  | [] => 0
  | x :: r => uptoBulkEntry x + uptoBulkEntries r
def uptoBulkEntry {H : Type} : Lit × DataW H → Nat
  | (.string bytes, d) => bytes.length + uptoBulk d + 1
  | (_, d) => uptoBulk d + 1
 end
def uptoSmall : (H : Type) → List (DataW H) → Bool := fun _ ds => decide (uptoBulkAll ds ≤ 1048576)
def OpenSpec.upto (s : _root_.Go.ChangeSpec) : _root_.Go.OpenSpec := { _root_.Go.OpenSpec.ofChange s with cond := some uptoSmall }

/-- 'spykeep3.SkyReverses', WHERE WHAT IT READS IS OF BULK AT MOST 1048576: true; the input reads as it did. -/
def skyReversesUptoRow : OpenClaim := { program := "ytaddopcbneggiaa", sum := "d03a6f3730aa2e44c60ec5af977c8339ac00a933dc2e68d427fbe6bc8294c1b7", func := "spyglass/spykeep3.SkyReverses", spec := "skyReverses", inPlace := ["math/bits.Add64"], unfollowed := true, recurses := true, named := ["math/bits.divideError", "math/bits.overflowError"], apart := false, narrowed := true }
def SkyReversesUptoSaid : Prop := skyReversesUptoRow.holds Try.pinned (OpenSpec.upto skyReversesSpec)

/-- 'spykeep3.SkyPathsJoin', WHERE WHAT IT READS IS OF BULK AT MOST 1048576: true; the input reads as it did. -/
def skyPathsJoinUptoRow : OpenClaim := { program := "ytaddopcbneggiaa", sum := "d03a6f3730aa2e44c60ec5af977c8339ac00a933dc2e68d427fbe6bc8294c1b7", func := "spyglass/spykeep3.SkyPathsJoin", spec := "skyPathsJoin", inPlace := ["math/bits.Add64"], unfollowed := true, recurses := true, named := ["math/bits.divideError", "math/bits.overflowError"], apart := false, narrowed := true }
def SkyPathsJoinUptoSaid : Prop := skyPathsJoinUptoRow.holds Try.pinned (OpenSpec.upto skyPathsJoinSpec)

/-- 'spykeep3.SkyPlacesLie', WHERE WHAT IT READS IS OF BULK AT MOST 1048576: true; the input reads as it did. -/
def skyPlacesLieUptoRow : OpenClaim := { program := "ytaddopcbneggiaa", sum := "d03a6f3730aa2e44c60ec5af977c8339ac00a933dc2e68d427fbe6bc8294c1b7", func := "spyglass/spykeep3.SkyPlacesLie", spec := "skyPlacesLie", inPlace := ["math/bits.Add64"], unfollowed := true, recurses := true, named := ["math/bits.divideError", "math/bits.overflowError"], apart := false, narrowed := true }
def SkyPlacesLieUptoSaid : Prop := skyPlacesLieUptoRow.holds Try.pinned (OpenSpec.upto skyPlacesLieSpec)

/-- 'spykeep3.SkyPullNears', WHERE WHAT IT READS IS OF BULK AT MOST 1048576: true; the input reads as it did. -/
def skyPullNearsUptoRow : OpenClaim := { program := "ytaddopcbneggiaa", sum := "d03a6f3730aa2e44c60ec5af977c8339ac00a933dc2e68d427fbe6bc8294c1b7", func := "spyglass/spykeep3.SkyPullNears", spec := "skyPullNears", inPlace := ["math/bits.Add64"], unfollowed := true, recurses := true, named := ["math/bits.divideError", "math/bits.overflowError"], apart := false, narrowed := true }
def SkyPullNearsUptoSaid : Prop := skyPullNearsUptoRow.holds Try.pinned (OpenSpec.upto skyPullNearsSpec)

/-- 'spykeep3.SkyRatesRepeat', WHERE WHAT IT READS IS OF BULK AT MOST 1048576: true; the input reads as it did. -/
def skyRatesRepeatUptoRow : OpenClaim := { program := "ytaddopcbneggiaa", sum := "d03a6f3730aa2e44c60ec5af977c8339ac00a933dc2e68d427fbe6bc8294c1b7", func := "spyglass/spykeep3.SkyRatesRepeat", spec := "skyRatesRepeat", inPlace := ["math/bits.Add64"], unfollowed := true, recurses := true, named := ["math/bits.divideError", "math/bits.overflowError"], apart := false, narrowed := true }
def SkyRatesRepeatUptoSaid : Prop := skyRatesRepeatUptoRow.holds Try.pinned (OpenSpec.upto skyRatesRepeatSpec)

end Rows
end Go.Proofs.Ytaddopcbneggiaa
