/-
  No cell of these rows narrows 'for every input' (looked for: loops, veiled, ifaces, maps, wideKeys, modest, calm, conditions, laid).
  DERIVED. THE GIVEN ROWS OF THIS SEAT. 5 by the template 'for every input the law returns true; each argument reads behind the call as it read before'; 0 by the template 'total and deterministic' (their statements: YtiibkbligihgoaaGreatTotals.lean).
  GIVEN WITH THE SEED: the statements are not yours to turn. If you find one false, say at which input.
  Laid BY PROGRAM, IN A SANDBOX (cutbox-rows.mjs): the forced cells as the released guide's own fill.sh prints them over the translation bf101506310adb9f… (all of the seat's roots in one cut). By AI agents, Wed Nov 11 2026. No macro, syntax, notation, axiom, sorry.
-/
import Derived.Test.YtiibkbligihgoaaGreatChecked
import GoSem.Claim
import GoSem.ClaimJoined
import GoSem.ClaimMapViews
import Derived.JoinedTies
import Derived.KernelRfl
namespace Go.Proofs.YtiibkbligihgoaaGreat
/- THE CELL 'sum', in the pinned program and in every row, IS THE sha256 OF THE DUMP (.gsa) THAT YtiibkbligihgoaaGreatProg.lean LOADS. Nothing in Lean hashes anything: it is a label: what it is worth is what the hold of that sum in a sandbox is worth. -/
noncomputable def Tryz.pinned : Pinned := { name := "ytiibkbligihgoaagreat", sum := "bf101506310adb9f469c1a082f703252bb87d74ef2ea705a909ccb1d5585fb26", checked := Tryz.checked }
namespace Rows
def none {H : Type} : Left H := { results := [], args := [] }

/-- 'spykeep3.QueryShrinks': WHATEVER THE INPUT: true; the input reads as it did. -/
def queryShrinksSpec : ChangeSpec := { name := "queryShrinks", fn := fun _ => fun
  | [d1, d2] => { results := [.lit (.bool true)], args := [d1, d2] }
  | _ => none }
def queryShrinksRow : OpenClaim := { program := "ytiibkbligihgoaagreat", sum := "bf101506310adb9f469c1a082f703252bb87d74ef2ea705a909ccb1d5585fb26", func := "spyglass/spykeep3.QueryShrinks", spec := "queryShrinks", inPlace := ["math/bits.Add64"], unfollowed := true, recurses := true, apart := false }
def QueryShrinksSaid : Prop := queryShrinksRow.holds Tryz.pinned (OpenSpec.ofChange queryShrinksSpec)

/-- ITS FALSE NEIGHBOUR: 'it returns false'. Refute it at one input. -/
def queryShrinksWrong : ChangeSpec := { name := "queryShrinks", fn := fun _ => fun
  | [d1, d2] => { results := [.lit (.bool false)], args := [d1, d2] }
  | _ => none }
def QueryShrinksWrongFalsely : Prop := queryShrinksRow.holds Tryz.pinned (OpenSpec.ofChange queryShrinksWrong)

/-- 'spykeep3.QueryExact': WHATEVER THE INPUT: true; the input reads as it did. -/
def queryExactSpec : ChangeSpec := { name := "queryExact", fn := fun _ => fun
  | [d1, d2, d3] => { results := [.lit (.bool true)], args := [d1, d2, d3] }
  | _ => none }
def queryExactRow : OpenClaim := { program := "ytiibkbligihgoaagreat", sum := "bf101506310adb9f469c1a082f703252bb87d74ef2ea705a909ccb1d5585fb26", func := "spyglass/spykeep3.QueryExact", spec := "queryExact", inPlace := ["math/bits.Add64"], unfollowed := true, recurses := true, apart := false }
def QueryExactSaid : Prop := queryExactRow.holds Tryz.pinned (OpenSpec.ofChange queryExactSpec)

/-- ITS FALSE NEIGHBOUR: 'it returns false'. Refute it at one input. -/
def queryExactWrong : ChangeSpec := { name := "queryExact", fn := fun _ => fun
  | [d1, d2, d3] => { results := [.lit (.bool false)], args := [d1, d2, d3] }
  | _ => none }
def QueryExactWrongFalsely : Prop := queryExactRow.holds Tryz.pinned (OpenSpec.ofChange queryExactWrong)

/-- 'spykeep3.QueryLimits': WHATEVER THE INPUT: true; the input reads as it did. -/
def queryLimitsSpec : ChangeSpec := { name := "queryLimits", fn := fun _ => fun
  | [d] => { results := [.lit (.bool true)], args := [d] }
  | _ => none }
def queryLimitsRow : OpenClaim := { program := "ytiibkbligihgoaagreat", sum := "bf101506310adb9f469c1a082f703252bb87d74ef2ea705a909ccb1d5585fb26", func := "spyglass/spykeep3.QueryLimits", spec := "queryLimits", inPlace := ["math/bits.Add64"], unfollowed := true, recurses := true, apart := false }
def QueryLimitsSaid : Prop := queryLimitsRow.holds Tryz.pinned (OpenSpec.ofChange queryLimitsSpec)

/-- ITS FALSE NEIGHBOUR: 'it returns false'. Refute it at one input. -/
def queryLimitsWrong : ChangeSpec := { name := "queryLimits", fn := fun _ => fun
  | [d] => { results := [.lit (.bool false)], args := [d] }
  | _ => none }
def QueryLimitsWrongFalsely : Prop := queryLimitsRow.holds Tryz.pinned (OpenSpec.ofChange queryLimitsWrong)

/-- 'spykeep3.QueryRunsScan': WHATEVER THE INPUT: true; the input reads as it did. -/
def queryRunsScanSpec : ChangeSpec := { name := "queryRunsScan", fn := fun _ => fun
  | [d1, d2] => { results := [.lit (.bool true)], args := [d1, d2] }
  | _ => none }
def queryRunsScanRow : OpenClaim := { program := "ytiibkbligihgoaagreat", sum := "bf101506310adb9f469c1a082f703252bb87d74ef2ea705a909ccb1d5585fb26", func := "spyglass/spykeep3.QueryRunsScan", spec := "queryRunsScan", inPlace := ["math/bits.Add64"], unfollowed := true, recurses := true, apart := false }
def QueryRunsScanSaid : Prop := queryRunsScanRow.holds Tryz.pinned (OpenSpec.ofChange queryRunsScanSpec)

/-- ITS FALSE NEIGHBOUR: 'it returns false'. Refute it at one input. -/
def queryRunsScanWrong : ChangeSpec := { name := "queryRunsScan", fn := fun _ => fun
  | [d1, d2] => { results := [.lit (.bool false)], args := [d1, d2] }
  | _ => none }
def QueryRunsScanWrongFalsely : Prop := queryRunsScanRow.holds Tryz.pinned (OpenSpec.ofChange queryRunsScanWrong)

/-- 'spykeep3.QueryJoinsTurn': WHATEVER THE INPUT: true; the input reads as it did. -/
def queryJoinsTurnSpec : ChangeSpec := { name := "queryJoinsTurn", fn := fun _ => fun
  | [d1, d2, d3] => { results := [.lit (.bool true)], args := [d1, d2, d3] }
  | _ => none }
def queryJoinsTurnRow : OpenClaim := { program := "ytiibkbligihgoaagreat", sum := "bf101506310adb9f469c1a082f703252bb87d74ef2ea705a909ccb1d5585fb26", func := "spyglass/spykeep3.QueryJoinsTurn", spec := "queryJoinsTurn", inPlace := ["math/bits.Add64"], unfollowed := true, recurses := true, apart := false }
def QueryJoinsTurnSaid : Prop := queryJoinsTurnRow.holds Tryz.pinned (OpenSpec.ofChange queryJoinsTurnSpec)

/-- ITS FALSE NEIGHBOUR: 'it returns false'. Refute it at one input. -/
def queryJoinsTurnWrong : ChangeSpec := { name := "queryJoinsTurn", fn := fun _ => fun
  | [d1, d2, d3] => { results := [.lit (.bool false)], args := [d1, d2, d3] }
  | _ => none }
def QueryJoinsTurnWrongFalsely : Prop := queryJoinsTurnRow.holds Tryz.pinned (OpenSpec.ofChange queryJoinsTurnWrong)

/- THE SECOND FORM. 'bulk': how many values and letters a reading holds, each counted each time it is reached (what is shared counts as often as it is met; a slice's spare places count too). A statement '..UptoSaid' is the law's where the arguments, and the package variables that the reading takes, are together of bulk at most 1048576: NARROWER than '..Said'. Prove '..Said' where nothing that the law and all that it calls make is longer than what came in: it says more and counts as full. Else prove '..UptoSaid'. A law counts once. -/
mutual
def uptoBulk {H : Type} : DataW H → Nat
  | .lit (.string bytes) => bytes.length + 1
  | .lit _ => 1
  | .nil => 1
  | .ptr d => uptoBulk d + 1
  | .slice elems spare => uptoBulkAll elems + uptoBulkAll spare + 1
  | .agg parts => uptoBulkAll parts + 1
  | .iface _ d => uptoBulk d + 1
  | .map entries => uptoBulkEntries entries + 1
  | .held _ => 1
def uptoBulkAll {H : Type} : List (DataW H) → Nat
  | [] => 0
  | d :: r => uptoBulk d + uptoBulkAll r
def uptoBulkEntries {H : Type} : List (Lit × DataW H) → Nat
  | [] => 0
  | x :: r => uptoBulkEntry x + uptoBulkEntries r
def uptoBulkEntry {H : Type} : Lit × DataW H → Nat
  | (.string bytes, d) => bytes.length + uptoBulk d + 1
  | (_, d) => uptoBulk d + 1
 end
def uptoSmall : (H : Type) → List (DataW H) → Bool := fun _ ds => decide (uptoBulkAll ds ≤ 1048576)
def OpenSpec.upto (s : _root_.Go.ChangeSpec) : _root_.Go.OpenSpec := { _root_.Go.OpenSpec.ofChange s with cond := some uptoSmall }

/-- 'spykeep3.QueryShrinks', WHERE WHAT IT READS IS OF BULK AT MOST 1048576: true; the input reads as it did. -/
def queryShrinksUptoRow : OpenClaim := { program := "ytiibkbligihgoaagreat", sum := "bf101506310adb9f469c1a082f703252bb87d74ef2ea705a909ccb1d5585fb26", func := "spyglass/spykeep3.QueryShrinks", spec := "queryShrinks", inPlace := ["math/bits.Add64"], unfollowed := true, recurses := true, apart := false, narrowed := true }
def QueryShrinksUptoSaid : Prop := queryShrinksUptoRow.holds Tryz.pinned (OpenSpec.upto queryShrinksSpec)

/-- 'spykeep3.QueryExact', WHERE WHAT IT READS IS OF BULK AT MOST 1048576: true; the input reads as it did. -/
def queryExactUptoRow : OpenClaim := { program := "ytiibkbligihgoaagreat", sum := "bf101506310adb9f469c1a082f703252bb87d74ef2ea705a909ccb1d5585fb26", func := "spyglass/spykeep3.QueryExact", spec := "queryExact", inPlace := ["math/bits.Add64"], unfollowed := true, recurses := true, apart := false, narrowed := true }
def QueryExactUptoSaid : Prop := queryExactUptoRow.holds Tryz.pinned (OpenSpec.upto queryExactSpec)

/-- 'spykeep3.QueryLimits', WHERE WHAT IT READS IS OF BULK AT MOST 1048576: true; the input reads as it did. -/
def queryLimitsUptoRow : OpenClaim := { program := "ytiibkbligihgoaagreat", sum := "bf101506310adb9f469c1a082f703252bb87d74ef2ea705a909ccb1d5585fb26", func := "spyglass/spykeep3.QueryLimits", spec := "queryLimits", inPlace := ["math/bits.Add64"], unfollowed := true, recurses := true, apart := false, narrowed := true }
def QueryLimitsUptoSaid : Prop := queryLimitsUptoRow.holds Tryz.pinned (OpenSpec.upto queryLimitsSpec)

/-- 'spykeep3.QueryRunsScan', WHERE WHAT IT READS IS OF BULK AT MOST 1048576: true; the input reads as it did. -/
def queryRunsScanUptoRow : OpenClaim := { program := "ytiibkbligihgoaagreat", sum := "bf101506310adb9f469c1a082f703252bb87d74ef2ea705a909ccb1d5585fb26", func := "spyglass/spykeep3.QueryRunsScan", spec := "queryRunsScan", inPlace := ["math/bits.Add64"], unfollowed := true, recurses := true, apart := false, narrowed := true }
def QueryRunsScanUptoSaid : Prop := queryRunsScanUptoRow.holds Tryz.pinned (OpenSpec.upto queryRunsScanSpec)

/-- 'spykeep3.QueryJoinsTurn', WHERE WHAT IT READS IS OF BULK AT MOST 1048576: true; the input reads as it did. -/
def queryJoinsTurnUptoRow : OpenClaim := { program := "ytiibkbligihgoaagreat", sum := "bf101506310adb9f469c1a082f703252bb87d74ef2ea705a909ccb1d5585fb26", func := "spyglass/spykeep3.QueryJoinsTurn", spec := "queryJoinsTurn", inPlace := ["math/bits.Add64"], unfollowed := true, recurses := true, apart := false, narrowed := true }
def QueryJoinsTurnUptoSaid : Prop := queryJoinsTurnUptoRow.holds Tryz.pinned (OpenSpec.upto queryJoinsTurnSpec)

end Rows
end Go.Proofs.YtiibkbligihgoaaGreat
