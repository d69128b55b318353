/-
  No cell of these rows narrows 'for every input' (looked for: loops, veiled, ifaces, maps, wideKeys, modest, calm, conditions, laid).
  DERIVED. THE GIVEN ROWS OF THIS SEAT. 7 by the template 'for every input the law returns true; each argument reads behind the call as it read before'; 0 by the template 'total and deterministic' (their statements: YtjibamedpdpofaaTotals.lean).
  GIVEN WITH THE SEED: the statements are not yours to turn. If you find one false, say at which input.
  Laid BY PROGRAM, IN A SANDBOX (cutbox-rows.mjs): the forced cells as the released guide's own fill.sh prints them over the translation 64f8df1b18e529af… (all of the seat's roots in one cut). By AI agents, Wed Nov 11 2026. No macro, syntax, notation, axiom, sorry.
-/
import Derived.Test.YtjibamedpdpofaaChecked
import GoSem.Claim
import GoSem.ClaimJoined
import GoSem.ClaimMapViews
import Derived.JoinedTies
import Derived.KernelRfl
namespace Go.Proofs.Ytjibamedpdpofaa
/- THE CELL 'sum', in the pinned program and in every row, IS THE sha256 OF THE DUMP (.gsa) THAT YtjibamedpdpofaaProg.lean LOADS. Nothing in Lean hashes anything: it is a label: what it is worth is what the hold of that sum in a sandbox is worth. -/
noncomputable def Try.pinned : Pinned := { name := "ytjibamedpdpofaa", sum := "64f8df1b18e529af120ba9698a6c407e578814cda45e8d5109672e9bc6b9e025", checked := Try.checked }
namespace Rows
def none {H : Type} : Left H := { results := [], args := [] }

/-- 'spykeep3.QuantaMeansFit': WHATEVER THE INPUT: true; the input reads as it did. -/
def quantaMeansFitSpec : ChangeSpec := { name := "quantaMeansFit", fn := fun _ => fun
  | [d1, d2, d3] => { results := [.lit (.bool true)], args := [d1, d2, d3] }
  | _ => none }
def quantaMeansFitRow : OpenClaim := { program := "ytjibamedpdpofaa", sum := "64f8df1b18e529af120ba9698a6c407e578814cda45e8d5109672e9bc6b9e025", func := "spyglass/spykeep3.QuantaMeansFit", spec := "quantaMeansFit", unfollowed := true, recurses := true, apart := false }
def QuantaMeansFitSaid : Prop := quantaMeansFitRow.holds Try.pinned (OpenSpec.ofChange quantaMeansFitSpec)

/-- ITS FALSE NEIGHBOUR: 'it returns false'. Refute it at one input. -/
def quantaMeansFitWrong : ChangeSpec := { name := "quantaMeansFit", fn := fun _ => fun
  | [d1, d2, d3] => { results := [.lit (.bool false)], args := [d1, d2, d3] }
  | _ => none }
def QuantaMeansFitWrongFalsely : Prop := quantaMeansFitRow.holds Try.pinned (OpenSpec.ofChange quantaMeansFitWrong)

/-- 'spykeep3.QuantaDrawsHold': WHATEVER THE INPUT: true; the input reads as it did. -/
def quantaDrawsHoldSpec : ChangeSpec := { name := "quantaDrawsHold", fn := fun _ => fun
  | [d1, d2, d3, d4] => { results := [.lit (.bool true)], args := [d1, d2, d3, d4] }
  | _ => none }
def quantaDrawsHoldRow : OpenClaim := { program := "ytjibamedpdpofaa", sum := "64f8df1b18e529af120ba9698a6c407e578814cda45e8d5109672e9bc6b9e025", func := "spyglass/spykeep3.QuantaDrawsHold", spec := "quantaDrawsHold", apart := false }
def QuantaDrawsHoldSaid : Prop := quantaDrawsHoldRow.holds Try.pinned (OpenSpec.ofChange quantaDrawsHoldSpec)

/-- ITS FALSE NEIGHBOUR: 'it returns false'. Refute it at one input. -/
def quantaDrawsHoldWrong : ChangeSpec := { name := "quantaDrawsHold", fn := fun _ => fun
  | [d1, d2, d3, d4] => { results := [.lit (.bool false)], args := [d1, d2, d3, d4] }
  | _ => none }
def QuantaDrawsHoldWrongFalsely : Prop := quantaDrawsHoldRow.holds Try.pinned (OpenSpec.ofChange quantaDrawsHoldWrong)

/-- 'spykeep3.SensorBleedsKeep': WHATEVER THE INPUT: true; the input reads as it did. -/
def sensorBleedsKeepSpec : ChangeSpec := { name := "sensorBleedsKeep", fn := fun _ => fun
  | [d] => { results := [.lit (.bool true)], args := [d] }
  | _ => none }
def sensorBleedsKeepRow : OpenClaim := { program := "ytjibamedpdpofaa", sum := "64f8df1b18e529af120ba9698a6c407e578814cda45e8d5109672e9bc6b9e025", func := "spyglass/spykeep3.SensorBleedsKeep", spec := "sensorBleedsKeep", inPlace := ["math/bits.Add64"], unfollowed := true, recurses := true, named := ["math/bits.divideError", "math/bits.overflowError"], apart := false }
def SensorBleedsKeepSaid : Prop := sensorBleedsKeepRow.holds Try.pinned (OpenSpec.ofChange sensorBleedsKeepSpec)

/-- ITS FALSE NEIGHBOUR: 'it returns false'. Refute it at one input. -/
def sensorBleedsKeepWrong : ChangeSpec := { name := "sensorBleedsKeep", fn := fun _ => fun
  | [d] => { results := [.lit (.bool false)], args := [d] }
  | _ => none }
def SensorBleedsKeepWrongFalsely : Prop := sensorBleedsKeepRow.holds Try.pinned (OpenSpec.ofChange sensorBleedsKeepWrong)

/-- 'spykeep3.SensorBleedsApart': WHATEVER THE INPUT: true; the input reads as it did. -/
def sensorBleedsApartSpec : ChangeSpec := { name := "sensorBleedsApart", fn := fun _ => fun
  | [d1, d2] => { results := [.lit (.bool true)], args := [d1, d2] }
  | _ => none }
def sensorBleedsApartRow : OpenClaim := { program := "ytjibamedpdpofaa", sum := "64f8df1b18e529af120ba9698a6c407e578814cda45e8d5109672e9bc6b9e025", func := "spyglass/spykeep3.SensorBleedsApart", spec := "sensorBleedsApart", inPlace := ["math/bits.Add64"], unfollowed := true, recurses := true, named := ["math/bits.divideError", "math/bits.overflowError"], apart := false }
def SensorBleedsApartSaid : Prop := sensorBleedsApartRow.holds Try.pinned (OpenSpec.ofChange sensorBleedsApartSpec)

/-- ITS FALSE NEIGHBOUR: 'it returns false'. Refute it at one input. -/
def sensorBleedsApartWrong : ChangeSpec := { name := "sensorBleedsApart", fn := fun _ => fun
  | [d1, d2] => { results := [.lit (.bool false)], args := [d1, d2] }
  | _ => none }
def SensorBleedsApartWrongFalsely : Prop := sensorBleedsApartRow.holds Try.pinned (OpenSpec.ofChange sensorBleedsApartWrong)

/-- 'spykeep3.SensorExpectsGrow': WHATEVER THE INPUT: true; the input reads as it did. -/
def sensorExpectsGrowSpec : ChangeSpec := { name := "sensorExpectsGrow", fn := fun _ => fun
  | [d1, d2] => { results := [.lit (.bool true)], args := [d1, d2] }
  | _ => none }
def sensorExpectsGrowRow : OpenClaim := { program := "ytjibamedpdpofaa", sum := "64f8df1b18e529af120ba9698a6c407e578814cda45e8d5109672e9bc6b9e025", func := "spyglass/spykeep3.SensorExpectsGrow", spec := "sensorExpectsGrow", inPlace := ["math/bits.Add64"], unfollowed := true, recurses := true, named := ["math/bits.divideError", "math/bits.overflowError"], apart := false }
def SensorExpectsGrowSaid : Prop := sensorExpectsGrowRow.holds Try.pinned (OpenSpec.ofChange sensorExpectsGrowSpec)

/-- ITS FALSE NEIGHBOUR: 'it returns false'. Refute it at one input. -/
def sensorExpectsGrowWrong : ChangeSpec := { name := "sensorExpectsGrow", fn := fun _ => fun
  | [d1, d2] => { results := [.lit (.bool false)], args := [d1, d2] }
  | _ => none }
def SensorExpectsGrowWrongFalsely : Prop := sensorExpectsGrowRow.holds Try.pinned (OpenSpec.ofChange sensorExpectsGrowWrong)

/-- 'spykeep3.SensorReadsNear': WHATEVER THE INPUT: true; the input reads as it did. -/
def sensorReadsNearSpec : ChangeSpec := { name := "sensorReadsNear", fn := fun _ => fun
  | [d1, d2, d3] => { results := [.lit (.bool true)], args := [d1, d2, d3] }
  | _ => none }
def sensorReadsNearRow : OpenClaim := { program := "ytjibamedpdpofaa", sum := "64f8df1b18e529af120ba9698a6c407e578814cda45e8d5109672e9bc6b9e025", func := "spyglass/spykeep3.SensorReadsNear", spec := "sensorReadsNear", inPlace := ["math/bits.Add64"], unfollowed := true, recurses := true, named := ["math/bits.divideError", "math/bits.overflowError"], apart := false }
def SensorReadsNearSaid : Prop := sensorReadsNearRow.holds Try.pinned (OpenSpec.ofChange sensorReadsNearSpec)

/-- ITS FALSE NEIGHBOUR: 'it returns false'. Refute it at one input. -/
def sensorReadsNearWrong : ChangeSpec := { name := "sensorReadsNear", fn := fun _ => fun
  | [d1, d2, d3] => { results := [.lit (.bool false)], args := [d1, d2, d3] }
  | _ => none }
def SensorReadsNearWrongFalsely : Prop := sensorReadsNearRow.holds Try.pinned (OpenSpec.ofChange sensorReadsNearWrong)

/-- 'spykeep3.QuantaDecksDiffer': WHATEVER THE INPUT: true; the input reads as it did. -/
def quantaDecksDifferSpec : ChangeSpec := { name := "quantaDecksDiffer", fn := fun _ => fun
  | [d1, d2, d3] => { results := [.lit (.bool true)], args := [d1, d2, d3] }
  | _ => none }
def quantaDecksDifferRow : OpenClaim := { program := "ytjibamedpdpofaa", sum := "64f8df1b18e529af120ba9698a6c407e578814cda45e8d5109672e9bc6b9e025", func := "spyglass/spykeep3.QuantaDecksDiffer", spec := "quantaDecksDiffer", recurses := true, apart := false }
def QuantaDecksDifferSaid : Prop := quantaDecksDifferRow.holds Try.pinned (OpenSpec.ofChange quantaDecksDifferSpec)

/-- ITS FALSE NEIGHBOUR: 'it returns false'. Refute it at one input. -/
def quantaDecksDifferWrong : ChangeSpec := { name := "quantaDecksDiffer", fn := fun _ => fun
  | [d1, d2, d3] => { results := [.lit (.bool false)], args := [d1, d2, d3] }
  | _ => none }
def QuantaDecksDifferWrongFalsely : Prop := quantaDecksDifferRow.holds Try.pinned (OpenSpec.ofChange quantaDecksDifferWrong)

/- THE SECOND FORM. 'bulk': how many values and letters a reading holds, each counted each time it is reached (what is shared counts as often as it is met; a slice's spare places count too). A statement '..UptoSaid' is the law's where the arguments, and the package variables that the reading takes, are together of bulk at most 1048576: NARROWER than '..Said'. Prove '..Said' where nothing that the law and all that it calls make is longer than what came in: it says more and counts as full. Else prove '..UptoSaid'. A law counts once. -/
mutual
def uptoBulk {H : Type} : DataW H → Nat
  | .lit (.string bytes) => bytes.length + 1
  | .lit _ => 1
  | .nil => 1
  | .ptr d => uptoBulk d + 1
  | .slice elems spare => uptoBulkAll elems + uptoBulkAll spare + 1
  | .agg parts => uptoBulkAll parts + 1
  | .iface _ d => uptoBulk d + 1
  | .map entries => uptoBulkEntries entries + 1
  | .held _ => 1
def uptoBulkAll {H : Type} : List (DataW H) → Nat
  | [] => 0
  | d :: r => uptoBulk d + uptoBulkAll r
def uptoBulkEntries {H : Type} : List (Lit × DataW H) → Nat
  | [] => 0
  | x :: r => uptoBulkEntry x + uptoBulkEntries r
def uptoBulkEntry {H : Type} : Lit × DataW H → Nat
  | (.string bytes, d) => bytes.length + uptoBulk d + 1
  | (_, d) => uptoBulk d + 1
 end
def uptoSmall : (H : Type) → List (DataW H) → Bool := fun _ ds => decide (uptoBulkAll ds ≤ 1048576)
def OpenSpec.upto (s : _root_.Go.ChangeSpec) : _root_.Go.OpenSpec := { _root_.Go.OpenSpec.ofChange s with cond := some uptoSmall }

/-- 'spykeep3.QuantaMeansFit', WHERE WHAT IT READS IS OF BULK AT MOST 1048576: true; the input reads as it did. -/
def quantaMeansFitUptoRow : OpenClaim := { program := "ytjibamedpdpofaa", sum := "64f8df1b18e529af120ba9698a6c407e578814cda45e8d5109672e9bc6b9e025", func := "spyglass/spykeep3.QuantaMeansFit", spec := "quantaMeansFit", unfollowed := true, recurses := true, apart := false, narrowed := true }
def QuantaMeansFitUptoSaid : Prop := quantaMeansFitUptoRow.holds Try.pinned (OpenSpec.upto quantaMeansFitSpec)

/-- 'spykeep3.QuantaDrawsHold', WHERE WHAT IT READS IS OF BULK AT MOST 1048576: true; the input reads as it did. -/
def quantaDrawsHoldUptoRow : OpenClaim := { program := "ytjibamedpdpofaa", sum := "64f8df1b18e529af120ba9698a6c407e578814cda45e8d5109672e9bc6b9e025", func := "spyglass/spykeep3.QuantaDrawsHold", spec := "quantaDrawsHold", apart := false, narrowed := true }
def QuantaDrawsHoldUptoSaid : Prop := quantaDrawsHoldUptoRow.holds Try.pinned (OpenSpec.upto quantaDrawsHoldSpec)

/-- 'spykeep3.SensorBleedsKeep', WHERE WHAT IT READS IS OF BULK AT MOST 1048576: true; the input reads as it did. -/
def sensorBleedsKeepUptoRow : OpenClaim := { program := "ytjibamedpdpofaa", sum := "64f8df1b18e529af120ba9698a6c407e578814cda45e8d5109672e9bc6b9e025", func := "spyglass/spykeep3.SensorBleedsKeep", spec := "sensorBleedsKeep", inPlace := ["math/bits.Add64"], unfollowed := true, recurses := true, named := ["math/bits.divideError", "math/bits.overflowError"], apart := false, narrowed := true }
def SensorBleedsKeepUptoSaid : Prop := sensorBleedsKeepUptoRow.holds Try.pinned (OpenSpec.upto sensorBleedsKeepSpec)

/-- 'spykeep3.SensorBleedsApart', WHERE WHAT IT READS IS OF BULK AT MOST 1048576: true; the input reads as it did. -/
def sensorBleedsApartUptoRow : OpenClaim := { program := "ytjibamedpdpofaa", sum := "64f8df1b18e529af120ba9698a6c407e578814cda45e8d5109672e9bc6b9e025", func := "spyglass/spykeep3.SensorBleedsApart", spec := "sensorBleedsApart", inPlace := ["math/bits.Add64"], unfollowed := true, recurses := true, named := ["math/bits.divideError", "math/bits.overflowError"], apart := false, narrowed := true }
def SensorBleedsApartUptoSaid : Prop := sensorBleedsApartUptoRow.holds Try.pinned (OpenSpec.upto sensorBleedsApartSpec)

/-- 'spykeep3.SensorExpectsGrow', WHERE WHAT IT READS IS OF BULK AT MOST 1048576: true; the input reads as it did. -/
def sensorExpectsGrowUptoRow : OpenClaim := { program := "ytjibamedpdpofaa", sum := "64f8df1b18e529af120ba9698a6c407e578814cda45e8d5109672e9bc6b9e025", func := "spyglass/spykeep3.SensorExpectsGrow", spec := "sensorExpectsGrow", inPlace := ["math/bits.Add64"], unfollowed := true, recurses := true, named := ["math/bits.divideError", "math/bits.overflowError"], apart := false, narrowed := true }
def SensorExpectsGrowUptoSaid : Prop := sensorExpectsGrowUptoRow.holds Try.pinned (OpenSpec.upto sensorExpectsGrowSpec)

/-- 'spykeep3.SensorReadsNear', WHERE WHAT IT READS IS OF BULK AT MOST 1048576: true; the input reads as it did. -/
def sensorReadsNearUptoRow : OpenClaim := { program := "ytjibamedpdpofaa", sum := "64f8df1b18e529af120ba9698a6c407e578814cda45e8d5109672e9bc6b9e025", func := "spyglass/spykeep3.SensorReadsNear", spec := "sensorReadsNear", inPlace := ["math/bits.Add64"], unfollowed := true, recurses := true, named := ["math/bits.divideError", "math/bits.overflowError"], apart := false, narrowed := true }
def SensorReadsNearUptoSaid : Prop := sensorReadsNearUptoRow.holds Try.pinned (OpenSpec.upto sensorReadsNearSpec)

/-- 'spykeep3.QuantaDecksDiffer', WHERE WHAT IT READS IS OF BULK AT MOST 1048576: true; the input reads as it did. -/
def quantaDecksDifferUptoRow : OpenClaim := { program := "ytjibamedpdpofaa", sum := "64f8df1b18e529af120ba9698a6c407e578814cda45e8d5109672e9bc6b9e025", func := "spyglass/spykeep3.QuantaDecksDiffer", spec := "quantaDecksDiffer", recurses := true, apart := false, narrowed := true }
def QuantaDecksDifferUptoSaid : Prop := quantaDecksDifferUptoRow.holds Try.pinned (OpenSpec.upto quantaDecksDifferSpec)

end Rows
end Go.Proofs.Ytjibamedpdpofaa
