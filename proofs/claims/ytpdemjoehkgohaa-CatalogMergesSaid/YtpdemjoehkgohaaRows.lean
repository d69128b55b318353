/-
  No cell of these rows narrows 'for every input' (looked for: loops, veiled, ifaces, maps, wideKeys, modest, calm, conditions, laid).
  DERIVED. THE GIVEN ROWS OF THIS SEAT. 4 by the template 'for every input the law returns true; each argument reads behind the call as it read before'; 0 by the template 'total and deterministic' (their statements: YtpdemjoehkgohaaTotals.lean).
  GIVEN WITH THE SEED: the statements are not yours to turn. If you find one false, say at which input.
  Laid BY PROGRAM, IN A SANDBOX (cutbox-rows.mjs): the forced cells as the released guide's own fill.sh prints them over the translation ea181a952d165500… (all of the seat's roots in one cut). By AI agents, Wed Nov 11 2026. No macro, syntax, notation, axiom, sorry.
-/
import Derived.Test.YtpdemjoehkgohaaChecked
import GoSem.Claim
import GoSem.ClaimJoined
import GoSem.ClaimMapViews
import Derived.JoinedTies
import Derived.KernelRfl
namespace Go.Proofs.Ytpdemjoehkgohaa
/- THE CELL 'sum', in the pinned program and in every row, IS THE sha256 OF THE DUMP (.gsa) THAT YtpdemjoehkgohaaProg.lean LOADS. Nothing in Lean hashes anything: it is a label: what it is worth is what the hold of that sum in a sandbox is worth. -/
noncomputable def Try.pinned : Pinned := { name := "ytpdemjoehkgohaa", sum := "ea181a952d165500bdd1a3222cfb8fa7e3b05dc39b677ebe1c3677085d0a38e7", checked := Try.checked }
namespace Rows
def none {H : Type} : Left H := { results := [], args := [] }

/-- 'spykeep3.CatalogDiffsApply': WHATEVER THE INPUT: true; the input reads as it did. -/
def catalogDiffsApplySpec : ChangeSpec := { name := "catalogDiffsApply", fn := fun _ => fun
  | [d] => { results := [.lit (.bool true)], args := [d] }
  | _ => none }
def catalogDiffsApplyRow : OpenClaim := { program := "ytpdemjoehkgohaa", sum := "ea181a952d165500bdd1a3222cfb8fa7e3b05dc39b677ebe1c3677085d0a38e7", func := "spyglass/spykeep3.CatalogDiffsApply", spec := "catalogDiffsApply", unfollowed := true, recurses := true, apart := false }
def CatalogDiffsApplySaid : Prop := catalogDiffsApplyRow.holds Try.pinned (OpenSpec.ofChange catalogDiffsApplySpec)

/-- ITS FALSE NEIGHBOUR: 'it returns false'. Refute it at one input. -/
def catalogDiffsApplyWrong : ChangeSpec := { name := "catalogDiffsApply", fn := fun _ => fun
  | [d] => { results := [.lit (.bool false)], args := [d] }
  | _ => none }
def CatalogDiffsApplyWrongFalsely : Prop := catalogDiffsApplyRow.holds Try.pinned (OpenSpec.ofChange catalogDiffsApplyWrong)

/-- 'spykeep3.CatalogMerges': WHATEVER THE INPUT: true; the input reads as it did. -/
def catalogMergesSpec : ChangeSpec := { name := "catalogMerges", fn := fun _ => fun
  | [d1, d2] => { results := [.lit (.bool true)], args := [d1, d2] }
  | _ => none }
def catalogMergesRow : OpenClaim := { program := "ytpdemjoehkgohaa", sum := "ea181a952d165500bdd1a3222cfb8fa7e3b05dc39b677ebe1c3677085d0a38e7", func := "spyglass/spykeep3.CatalogMerges", spec := "catalogMerges", unfollowed := true, recurses := true, apart := false }
def CatalogMergesSaid : Prop := catalogMergesRow.holds Try.pinned (OpenSpec.ofChange catalogMergesSpec)

/-- ITS FALSE NEIGHBOUR: 'it returns false'. Refute it at one input. -/
def catalogMergesWrong : ChangeSpec := { name := "catalogMerges", fn := fun _ => fun
  | [d1, d2] => { results := [.lit (.bool false)], args := [d1, d2] }
  | _ => none }
def CatalogMergesWrongFalsely : Prop := catalogMergesRow.holds Try.pinned (OpenSpec.ofChange catalogMergesWrong)

/-- 'spykeep3.CatalogKeeps': WHATEVER THE INPUT: true; the input reads as it did. -/
def catalogKeepsSpec : ChangeSpec := { name := "catalogKeeps", fn := fun _ => fun
  | [d1, d2] => { results := [.lit (.bool true)], args := [d1, d2] }
  | _ => none }
def catalogKeepsRow : OpenClaim := { program := "ytpdemjoehkgohaa", sum := "ea181a952d165500bdd1a3222cfb8fa7e3b05dc39b677ebe1c3677085d0a38e7", func := "spyglass/spykeep3.CatalogKeeps", spec := "catalogKeeps", unfollowed := true, recurses := true, apart := false }
def CatalogKeepsSaid : Prop := catalogKeepsRow.holds Try.pinned (OpenSpec.ofChange catalogKeepsSpec)

/-- ITS FALSE NEIGHBOUR: 'it returns false'. Refute it at one input. -/
def catalogKeepsWrong : ChangeSpec := { name := "catalogKeeps", fn := fun _ => fun
  | [d1, d2] => { results := [.lit (.bool false)], args := [d1, d2] }
  | _ => none }
def CatalogKeepsWrongFalsely : Prop := catalogKeepsRow.holds Try.pinned (OpenSpec.ofChange catalogKeepsWrong)

/-- 'spykeep3.CatalogHistories': WHATEVER THE INPUT: true; the input reads as it did. -/
def catalogHistoriesSpec : ChangeSpec := { name := "catalogHistories", fn := fun _ => fun
  | [d1, d2, d3] => { results := [.lit (.bool true)], args := [d1, d2, d3] }
  | _ => none }
def catalogHistoriesRow : OpenClaim := { program := "ytpdemjoehkgohaa", sum := "ea181a952d165500bdd1a3222cfb8fa7e3b05dc39b677ebe1c3677085d0a38e7", func := "spyglass/spykeep3.CatalogHistories", spec := "catalogHistories", unfollowed := true, recurses := true, apart := false }
def CatalogHistoriesSaid : Prop := catalogHistoriesRow.holds Try.pinned (OpenSpec.ofChange catalogHistoriesSpec)

/-- ITS FALSE NEIGHBOUR: 'it returns false'. Refute it at one input. -/
def catalogHistoriesWrong : ChangeSpec := { name := "catalogHistories", fn := fun _ => fun
  | [d1, d2, d3] => { results := [.lit (.bool false)], args := [d1, d2, d3] }
  | _ => none }
def CatalogHistoriesWrongFalsely : Prop := catalogHistoriesRow.holds Try.pinned (OpenSpec.ofChange catalogHistoriesWrong)

/- THE SECOND FORM. 'bulk': how many values and letters a reading holds, each counted each time it is reached (what is shared counts as often as it is met; a slice's spare places count too). A statement '..UptoSaid' is the law's where the arguments, and the package variables that the reading takes, are together of bulk at most 1048576: NARROWER than '..Said'. Prove '..Said' where nothing that the law and all that it calls make is longer than what came in: it says more and counts as full. Else prove '..UptoSaid'. A law counts once. -/
mutual
def uptoBulk {H : Type} : DataW H → Nat
  | .lit (.string bytes) => bytes.length + 1
  | .lit _ => 1
  | .nil => 1
  | .ptr d => uptoBulk d + 1
  | .slice elems spare => uptoBulkAll elems + uptoBulkAll spare + 1
  | .agg parts => uptoBulkAll parts + 1
  | .iface _ d => uptoBulk d + 1
  | .map entries => uptoBulkEntries entries + 1
  | .held _ => 1
def uptoBulkAll {H : Type} : List (DataW H) → Nat
  | [] => 0
  | d :: r => uptoBulk d + uptoBulkAll r
def uptoBulkEntries {H : Type} : List (Lit × DataW H) → Nat
  | [] => 0
  | x :: r => uptoBulkEntry x + uptoBulkEntries r
def uptoBulkEntry {H : Type} : Lit × DataW H → Nat
  | (.string bytes, d) => bytes.length + uptoBulk d + 1
  | (_, d) => uptoBulk d + 1
 end
def uptoSmall : (H : Type) → List (DataW H) → Bool := fun _ ds => decide (uptoBulkAll ds ≤ 1048576)
def OpenSpec.upto (s : _root_.Go.ChangeSpec) : _root_.Go.OpenSpec := { _root_.Go.OpenSpec.ofChange s with cond := some uptoSmall }

/-- 'spykeep3.CatalogDiffsApply', WHERE WHAT IT READS IS OF BULK AT MOST 1048576: true; the input reads as it did. -/
def catalogDiffsApplyUptoRow : OpenClaim := { program := "ytpdemjoehkgohaa", sum := "ea181a952d165500bdd1a3222cfb8fa7e3b05dc39b677ebe1c3677085d0a38e7", func := "spyglass/spykeep3.CatalogDiffsApply", spec := "catalogDiffsApply", unfollowed := true, recurses := true, apart := false, narrowed := true }
def CatalogDiffsApplyUptoSaid : Prop := catalogDiffsApplyUptoRow.holds Try.pinned (OpenSpec.upto catalogDiffsApplySpec)

/-- 'spykeep3.CatalogMerges', WHERE WHAT IT READS IS OF BULK AT MOST 1048576: true; the input reads as it did. -/
def catalogMergesUptoRow : OpenClaim := { program := "ytpdemjoehkgohaa", sum := "ea181a952d165500bdd1a3222cfb8fa7e3b05dc39b677ebe1c3677085d0a38e7", func := "spyglass/spykeep3.CatalogMerges", spec := "catalogMerges", unfollowed := true, recurses := true, apart := false, narrowed := true }
def CatalogMergesUptoSaid : Prop := catalogMergesUptoRow.holds Try.pinned (OpenSpec.upto catalogMergesSpec)

/-- 'spykeep3.CatalogKeeps', WHERE WHAT IT READS IS OF BULK AT MOST 1048576: true; the input reads as it did. -/
def catalogKeepsUptoRow : OpenClaim := { program := "ytpdemjoehkgohaa", sum := "ea181a952d165500bdd1a3222cfb8fa7e3b05dc39b677ebe1c3677085d0a38e7", func := "spyglass/spykeep3.CatalogKeeps", spec := "catalogKeeps", unfollowed := true, recurses := true, apart := false, narrowed := true }
def CatalogKeepsUptoSaid : Prop := catalogKeepsUptoRow.holds Try.pinned (OpenSpec.upto catalogKeepsSpec)

/-- 'spykeep3.CatalogHistories', WHERE WHAT IT READS IS OF BULK AT MOST 1048576: true; the input reads as it did. -/
def catalogHistoriesUptoRow : OpenClaim := { program := "ytpdemjoehkgohaa", sum := "ea181a952d165500bdd1a3222cfb8fa7e3b05dc39b677ebe1c3677085d0a38e7", func := "spyglass/spykeep3.CatalogHistories", spec := "catalogHistories", unfollowed := true, recurses := true, apart := false, narrowed := true }
def CatalogHistoriesUptoSaid : Prop := catalogHistoriesUptoRow.holds Try.pinned (OpenSpec.upto catalogHistoriesSpec)

end Rows
end Go.Proofs.Ytpdemjoehkgohaa
