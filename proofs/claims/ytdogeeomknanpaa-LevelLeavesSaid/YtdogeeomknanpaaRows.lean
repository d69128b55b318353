/-
  No cell of these rows narrows 'for every input' (looked for: loops, veiled, ifaces, maps, wideKeys, modest, calm, conditions, laid).
  DERIVED. THE GIVEN ROWS OF THIS SEAT. 7 by the template 'for every input the law returns true; each argument reads behind the call as it read before'; 0 by the template 'total and deterministic' (their statements: YtdogeeomknanpaaTotals.lean).
  GIVEN WITH THE SEED: the statements are not yours to turn. If you find one false, say at which input.
  Laid BY PROGRAM, IN A SANDBOX (cutbox-rows.mjs): the forced cells as the released guide's own fill.sh prints them over the translation bad12515ecd35565… (all of the seat's roots in one cut). By AI agents, Wed Nov 11 2026. No macro, syntax, notation, axiom, sorry.
-/
import Derived.Test.YtdogeeomknanpaaChecked
import GoSem.Claim
import GoSem.ClaimJoined
import GoSem.ClaimMapViews
import Derived.JoinedTies
import Derived.KernelRfl
namespace Go.Proofs.Ytdogeeomknanpaa
/- THE CELL 'sum', in the pinned program and in every row, IS THE sha256 OF THE DUMP (.gsa) THAT YtdogeeomknanpaaProg.lean LOADS. Nothing in Lean hashes anything: it is a label: what it is worth is what the hold of that sum in a sandbox is worth. -/
noncomputable def Try.pinned : Pinned := { name := "ytdogeeomknanpaa", sum := "bad12515ecd35565e39eee7fc344d14a9ded2afd44f2b35b5f7ba29b07a6a800", checked := Try.checked }
namespace Rows
def none {H : Type} : Left H := { results := [], args := [] }

/-- 'spykeep3.CleanOrders': WHATEVER THE INPUT: true; the input reads as it did. -/
def cleanOrdersSpec : ChangeSpec := { name := "cleanOrders", fn := fun _ => fun
  | [d1, d2] => { results := [.lit (.bool true)], args := [d1, d2] }
  | _ => none }
def cleanOrdersRow : OpenClaim := { program := "ytdogeeomknanpaa", sum := "bad12515ecd35565e39eee7fc344d14a9ded2afd44f2b35b5f7ba29b07a6a800", func := "spyglass/spykeep3.CleanOrders", spec := "cleanOrders", unfollowed := true, recurses := true, apart := false }
def CleanOrdersSaid : Prop := cleanOrdersRow.holds Try.pinned (OpenSpec.ofChange cleanOrdersSpec)

/-- ITS FALSE NEIGHBOUR: 'it returns false'. Refute it at one input. -/
def cleanOrdersWrong : ChangeSpec := { name := "cleanOrders", fn := fun _ => fun
  | [d1, d2] => { results := [.lit (.bool false)], args := [d1, d2] }
  | _ => none }
def CleanOrdersWrongFalsely : Prop := cleanOrdersRow.holds Try.pinned (OpenSpec.ofChange cleanOrdersWrong)

/-- 'spykeep3.CleanHolds': WHATEVER THE INPUT: true; the input reads as it did. -/
def cleanHoldsSpec : ChangeSpec := { name := "cleanHolds", fn := fun _ => fun
  | [d1, d2] => { results := [.lit (.bool true)], args := [d1, d2] }
  | _ => none }
def cleanHoldsRow : OpenClaim := { program := "ytdogeeomknanpaa", sum := "bad12515ecd35565e39eee7fc344d14a9ded2afd44f2b35b5f7ba29b07a6a800", func := "spyglass/spykeep3.CleanHolds", spec := "cleanHolds", unfollowed := true, recurses := true, apart := false }
def CleanHoldsSaid : Prop := cleanHoldsRow.holds Try.pinned (OpenSpec.ofChange cleanHoldsSpec)

/-- ITS FALSE NEIGHBOUR: 'it returns false'. Refute it at one input. -/
def cleanHoldsWrong : ChangeSpec := { name := "cleanHolds", fn := fun _ => fun
  | [d1, d2] => { results := [.lit (.bool false)], args := [d1, d2] }
  | _ => none }
def CleanHoldsWrongFalsely : Prop := cleanHoldsRow.holds Try.pinned (OpenSpec.ofChange cleanHoldsWrong)

/-- 'spykeep3.CalibNarrows': WHATEVER THE INPUT: true; the input reads as it did. -/
def calibNarrowsSpec : ChangeSpec := { name := "calibNarrows", fn := fun _ => fun
  | [d1, d2] => { results := [.lit (.bool true)], args := [d1, d2] }
  | _ => none }
def calibNarrowsRow : OpenClaim := { program := "ytdogeeomknanpaa", sum := "bad12515ecd35565e39eee7fc344d14a9ded2afd44f2b35b5f7ba29b07a6a800", func := "spyglass/spykeep3.CalibNarrows", spec := "calibNarrows", inPlace := ["math/bits.Add64"], unfollowed := true, recurses := true, named := ["math/bits.divideError", "math/bits.overflowError"], apart := false }
def CalibNarrowsSaid : Prop := calibNarrowsRow.holds Try.pinned (OpenSpec.ofChange calibNarrowsSpec)

/-- ITS FALSE NEIGHBOUR: 'it returns false'. Refute it at one input. -/
def calibNarrowsWrong : ChangeSpec := { name := "calibNarrows", fn := fun _ => fun
  | [d1, d2] => { results := [.lit (.bool false)], args := [d1, d2] }
  | _ => none }
def CalibNarrowsWrongFalsely : Prop := calibNarrowsRow.holds Try.pinned (OpenSpec.ofChange calibNarrowsWrong)

/-- 'spykeep3.CalibLightsHold': WHATEVER THE INPUT: true; the input reads as it did. -/
def calibLightsHoldSpec : ChangeSpec := { name := "calibLightsHold", fn := fun _ => fun
  | [d1, d2, d3, d4, d5] => { results := [.lit (.bool true)], args := [d1, d2, d3, d4, d5] }
  | _ => none }
def calibLightsHoldRow : OpenClaim := { program := "ytdogeeomknanpaa", sum := "bad12515ecd35565e39eee7fc344d14a9ded2afd44f2b35b5f7ba29b07a6a800", func := "spyglass/spykeep3.CalibLightsHold", spec := "calibLightsHold", inPlace := ["math/bits.Add64"], unfollowed := true, recurses := true, named := ["math/bits.divideError", "math/bits.overflowError"], apart := false }
def CalibLightsHoldSaid : Prop := calibLightsHoldRow.holds Try.pinned (OpenSpec.ofChange calibLightsHoldSpec)

/-- ITS FALSE NEIGHBOUR: 'it returns false'. Refute it at one input. -/
def calibLightsHoldWrong : ChangeSpec := { name := "calibLightsHold", fn := fun _ => fun
  | [d1, d2, d3, d4, d5] => { results := [.lit (.bool false)], args := [d1, d2, d3, d4, d5] }
  | _ => none }
def CalibLightsHoldWrongFalsely : Prop := calibLightsHoldRow.holds Try.pinned (OpenSpec.ofChange calibLightsHoldWrong)

/-- 'spykeep3.LevelHolds': WHATEVER THE INPUT: true; the input reads as it did. -/
def levelHoldsSpec : ChangeSpec := { name := "levelHolds", fn := fun _ => fun
  | [d1, d2] => { results := [.lit (.bool true)], args := [d1, d2] }
  | _ => none }
def levelHoldsRow : OpenClaim := { program := "ytdogeeomknanpaa", sum := "bad12515ecd35565e39eee7fc344d14a9ded2afd44f2b35b5f7ba29b07a6a800", func := "spyglass/spykeep3.LevelHolds", spec := "levelHolds", unfollowed := true, recurses := true, apart := false }
def LevelHoldsSaid : Prop := levelHoldsRow.holds Try.pinned (OpenSpec.ofChange levelHoldsSpec)

/-- ITS FALSE NEIGHBOUR: 'it returns false'. Refute it at one input. -/
def levelHoldsWrong : ChangeSpec := { name := "levelHolds", fn := fun _ => fun
  | [d1, d2] => { results := [.lit (.bool false)], args := [d1, d2] }
  | _ => none }
def LevelHoldsWrongFalsely : Prop := levelHoldsRow.holds Try.pinned (OpenSpec.ofChange levelHoldsWrong)

/-- 'spykeep3.LevelWitnesses': WHATEVER THE INPUT: true; the input reads as it did. -/
def levelWitnessesSpec : ChangeSpec := { name := "levelWitnesses", fn := fun _ => fun
  | [d1, d2] => { results := [.lit (.bool true)], args := [d1, d2] }
  | _ => none }
def levelWitnessesRow : OpenClaim := { program := "ytdogeeomknanpaa", sum := "bad12515ecd35565e39eee7fc344d14a9ded2afd44f2b35b5f7ba29b07a6a800", func := "spyglass/spykeep3.LevelWitnesses", spec := "levelWitnesses", unfollowed := true, recurses := true, apart := false }
def LevelWitnessesSaid : Prop := levelWitnessesRow.holds Try.pinned (OpenSpec.ofChange levelWitnessesSpec)

/-- ITS FALSE NEIGHBOUR: 'it returns false'. Refute it at one input. -/
def levelWitnessesWrong : ChangeSpec := { name := "levelWitnesses", fn := fun _ => fun
  | [d1, d2] => { results := [.lit (.bool false)], args := [d1, d2] }
  | _ => none }
def LevelWitnessesWrongFalsely : Prop := levelWitnessesRow.holds Try.pinned (OpenSpec.ofChange levelWitnessesWrong)

/-- 'spykeep3.LevelLeaves': WHATEVER THE INPUT: true; the input reads as it did. -/
def levelLeavesSpec : ChangeSpec := { name := "levelLeaves", fn := fun _ => fun
  | [d] => { results := [.lit (.bool true)], args := [d] }
  | _ => none }
def levelLeavesRow : OpenClaim := { program := "ytdogeeomknanpaa", sum := "bad12515ecd35565e39eee7fc344d14a9ded2afd44f2b35b5f7ba29b07a6a800", func := "spyglass/spykeep3.LevelLeaves", spec := "levelLeaves", unfollowed := true, recurses := true, apart := false }
def LevelLeavesSaid : Prop := levelLeavesRow.holds Try.pinned (OpenSpec.ofChange levelLeavesSpec)

/-- ITS FALSE NEIGHBOUR: 'it returns false'. Refute it at one input. -/
def levelLeavesWrong : ChangeSpec := { name := "levelLeaves", fn := fun _ => fun
  | [d] => { results := [.lit (.bool false)], args := [d] }
  | _ => none }
def LevelLeavesWrongFalsely : Prop := levelLeavesRow.holds Try.pinned (OpenSpec.ofChange levelLeavesWrong)

/- THE SECOND FORM. 'bulk': how many values and letters a reading holds, each counted each time it is reached (what is shared counts as often as it is met; a slice's spare places count too). A statement '..UptoSaid' is the law's where the arguments, and the package variables that the reading takes, are together of bulk at most 1048576: NARROWER than '..Said'. Prove '..Said' where nothing that the law and all that it calls make is longer than what came in: it says more and counts as full. Else prove '..UptoSaid'. A law counts once. -/
mutual
def uptoBulk {H : Type} : DataW H → Nat
  | .lit (.string bytes) => bytes.length + 1
  | .lit _ => 1
  | .nil => 1
  | .ptr d => uptoBulk d + 1
  | .slice elems spare => uptoBulkAll elems + uptoBulkAll spare + 1
  | .agg parts => uptoBulkAll parts + 1
  | .iface _ d => uptoBulk d + 1
  | .map entries => uptoBulkEntries entries + 1
  | .held _ => 1
def uptoBulkAll {H : Type} : List (DataW H) → Nat
  | [] => 0
  | d :: r => uptoBulk d + uptoBulkAll r
def uptoBulkEntries {H : Type} : List (Lit × DataW H) → Nat
  | [] => 0
  | x :: r => uptoBulkEntry x + uptoBulkEntries r
def uptoBulkEntry {H : Type} : Lit × DataW H → Nat
  | (.string bytes, d) => bytes.length + uptoBulk d + 1
  | (_, d) => uptoBulk d + 1
 end
def uptoSmall : (H : Type) → List (DataW H) → Bool := fun _ ds => decide (uptoBulkAll ds ≤ 1048576)
def OpenSpec.upto (s : _root_.Go.ChangeSpec) : _root_.Go.OpenSpec := { _root_.Go.OpenSpec.ofChange s with cond := some uptoSmall }

/-- 'spykeep3.CleanOrders', WHERE WHAT IT READS IS OF BULK AT MOST 1048576: true; the input reads as it did. -/
def cleanOrdersUptoRow : OpenClaim := { program := "ytdogeeomknanpaa", sum := "bad12515ecd35565e39eee7fc344d14a9ded2afd44f2b35b5f7ba29b07a6a800", func := "spyglass/spykeep3.CleanOrders", spec := "cleanOrders", unfollowed := true, recurses := true, apart := false, narrowed := true }
def CleanOrdersUptoSaid : Prop := cleanOrdersUptoRow.holds Try.pinned (OpenSpec.upto cleanOrdersSpec)

/-- 'spykeep3.CleanHolds', WHERE WHAT IT READS IS OF BULK AT MOST 1048576: true; the input reads as it did. -/
def cleanHoldsUptoRow : OpenClaim := { program := "ytdogeeomknanpaa", sum := "bad12515ecd35565e39eee7fc344d14a9ded2afd44f2b35b5f7ba29b07a6a800", func := "spyglass/spykeep3.CleanHolds", spec := "cleanHolds", unfollowed := true, recurses := true, apart := false, narrowed := true }
def CleanHoldsUptoSaid : Prop := cleanHoldsUptoRow.holds Try.pinned (OpenSpec.upto cleanHoldsSpec)

/-- 'spykeep3.CalibNarrows', WHERE WHAT IT READS IS OF BULK AT MOST 1048576: true; the input reads as it did. -/
def calibNarrowsUptoRow : OpenClaim := { program := "ytdogeeomknanpaa", sum := "bad12515ecd35565e39eee7fc344d14a9ded2afd44f2b35b5f7ba29b07a6a800", func := "spyglass/spykeep3.CalibNarrows", spec := "calibNarrows", inPlace := ["math/bits.Add64"], unfollowed := true, recurses := true, named := ["math/bits.divideError", "math/bits.overflowError"], apart := false, narrowed := true }
def CalibNarrowsUptoSaid : Prop := calibNarrowsUptoRow.holds Try.pinned (OpenSpec.upto calibNarrowsSpec)

/-- 'spykeep3.CalibLightsHold', WHERE WHAT IT READS IS OF BULK AT MOST 1048576: true; the input reads as it did. -/
def calibLightsHoldUptoRow : OpenClaim := { program := "ytdogeeomknanpaa", sum := "bad12515ecd35565e39eee7fc344d14a9ded2afd44f2b35b5f7ba29b07a6a800", func := "spyglass/spykeep3.CalibLightsHold", spec := "calibLightsHold", inPlace := ["math/bits.Add64"], unfollowed := true, recurses := true, named := ["math/bits.divideError", "math/bits.overflowError"], apart := false, narrowed := true }
def CalibLightsHoldUptoSaid : Prop := calibLightsHoldUptoRow.holds Try.pinned (OpenSpec.upto calibLightsHoldSpec)

/-- 'spykeep3.LevelHolds', WHERE WHAT IT READS IS OF BULK AT MOST 1048576: true; the input reads as it did. -/
def levelHoldsUptoRow : OpenClaim := { program := "ytdogeeomknanpaa", sum := "bad12515ecd35565e39eee7fc344d14a9ded2afd44f2b35b5f7ba29b07a6a800", func := "spyglass/spykeep3.LevelHolds", spec := "levelHolds", unfollowed := true, recurses := true, apart := false, narrowed := true }
def LevelHoldsUptoSaid : Prop := levelHoldsUptoRow.holds Try.pinned (OpenSpec.upto levelHoldsSpec)

/-- 'spykeep3.LevelWitnesses', WHERE WHAT IT READS IS OF BULK AT MOST 1048576: true; the input reads as it did. -/
def levelWitnessesUptoRow : OpenClaim := { program := "ytdogeeomknanpaa", sum := "bad12515ecd35565e39eee7fc344d14a9ded2afd44f2b35b5f7ba29b07a6a800", func := "spyglass/spykeep3.LevelWitnesses", spec := "levelWitnesses", unfollowed := true, recurses := true, apart := false, narrowed := true }
def LevelWitnessesUptoSaid : Prop := levelWitnessesUptoRow.holds Try.pinned (OpenSpec.upto levelWitnessesSpec)

/-- 'spykeep3.LevelLeaves', WHERE WHAT IT READS IS OF BULK AT MOST 1048576: true; the input reads as it did. -/
def levelLeavesUptoRow : OpenClaim := { program := "ytdogeeomknanpaa", sum := "bad12515ecd35565e39eee7fc344d14a9ded2afd44f2b35b5f7ba29b07a6a800", func := "spyglass/spykeep3.LevelLeaves", spec := "levelLeaves", unfollowed := true, recurses := true, apart := false, narrowed := true }
def LevelLeavesUptoSaid : Prop := levelLeavesUptoRow.holds Try.pinned (OpenSpec.upto levelLeavesSpec)

end Rows
end Go.Proofs.Ytdogeeomknanpaa
