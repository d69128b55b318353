/-
  DERIVED. GIVEN WITH THE SEED: THE CARDS: each row of YtiofgpdfnhihhaaGreatDoorRows.lean that lists a variable, with what it lists TIED to the program's text (the seventh form; the later family's looks); each row that meets fmt, with fmt's text TOLD by the authors' own Lean function (tested against real Go, not proved from fmt's source: count such statements apart). THE CARD IS WHAT COUNTS. Prove the row's statement (the work); the ties are given (YtiofgpdfnhihhaaGreatDoorTie.lean); close each card by the builder's one call (the guide's Derived/Test/ToyasCard.lean, 'card_holds'). Laid BY PROGRAM, IN A SANDBOX (cutbox-door.mjs). By AI agents, Wed Nov 11 2026. No macro, syntax, notation, axiom, sorry.
-/
import Derived.Test.YtiofgpdfnhihhaaGreatDoorRows
import GoSem.ClaimSeven
namespace Go.Proofs.YtiofgpdfnhihhaaGreatDoor
namespace Rows

/-- THE TIED CARD OF 'spykeep3.SqueezeFramesBack'. -/
def squeezeFramesBackCard : Claim7 := { stood := { row := squeezeFramesBackRow, standIns := [], harness := (true, "7ed9456dca0de8bfbc834616fd40171fb26c3716ca5e79c0f64469c837d54e6a"), looks := true }, kinds := [], alts := [], laidByText := true, laidKinds := [.data, .data, .data, .data, .sentinel, .sentinel, .listed, .data, .pinned], laidTests := true, laidLooks := .later }
def SqueezeFramesBackCardSaid : Prop := Claim7.holds Tryz.pinned (.plain (OpenSpec.ofChange squeezeFramesBackSpec)) squeezeFramesBackCard

/-- THE SECOND FORM's CARD OF 'spykeep3.SqueezeFramesBack'. -/
def squeezeFramesBackUptoCard : Claim7 := { stood := { row := squeezeFramesBackUptoRow, standIns := [], harness := (true, "7ed9456dca0de8bfbc834616fd40171fb26c3716ca5e79c0f64469c837d54e6a"), looks := true }, kinds := [], alts := [], laidByText := true, laidKinds := [.data, .data, .data, .data, .sentinel, .sentinel, .listed, .data, .pinned], laidTests := true, laidLooks := .later }
def SqueezeFramesBackUptoCardSaid : Prop := Claim7.holds Tryz.pinned (.plain (OpenSpec.upto squeezeFramesBackSpec)) squeezeFramesBackUptoCard
end Rows
end Go.Proofs.YtiofgpdfnhihhaaGreatDoor
