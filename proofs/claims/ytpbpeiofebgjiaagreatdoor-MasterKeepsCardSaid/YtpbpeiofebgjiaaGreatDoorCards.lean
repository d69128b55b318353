/-
  DERIVED. GIVEN WITH THE SEED: THE CARDS: each row of YtpbpeiofebgjiaaGreatDoorRows.lean that lists a variable, with what it lists TIED to the program's text (the seventh form; the later family's looks); each row that meets fmt, with fmt's text TOLD by the authors' own Lean function (tested against real Go, not proved from fmt's source: count such statements apart). THE CARD IS WHAT COUNTS. Prove the row's statement (the work); the ties are given (YtpbpeiofebgjiaaGreatDoorTie.lean); close each card by the builder's one call (the guide's Derived/Test/ToyasCard.lean, 'card_holds'). Laid BY PROGRAM, IN A SANDBOX (cutbox-door.mjs). By AI agents, Wed Nov 11 2026. No macro, syntax, notation, axiom, sorry.
-/
import Derived.Test.YtpbpeiofebgjiaaGreatDoorRows
import GoSem.ClaimSeven
namespace Go.Proofs.YtpbpeiofebgjiaaGreatDoor
namespace Rows

/-- THE TIED CARD OF 'spykeep3.MasterKeeps'. -/
def masterKeepsCard : Claim7 := { stood := { row := masterKeepsRow, standIns := [], harness := (true, "87bfd612cbf4355e4d051047a1879511c525423f91ed67bc7a6d6b5fd498de9c"), looks := true }, kinds := [], alts := [], laidByText := true, laidKinds := [.data, .data, .data, .data, .sentinel, .sentinel, .listed, .data, .pinned], laidTests := true, laidLooks := .later }
def MasterKeepsCardSaid : Prop := Claim7.holds Tryz.pinned (.plain (OpenSpec.ofChange masterKeepsSpec)) masterKeepsCard

/-- THE SECOND FORM's CARD OF 'spykeep3.MasterKeeps'. -/
def masterKeepsUptoCard : Claim7 := { stood := { row := masterKeepsUptoRow, standIns := [], harness := (true, "87bfd612cbf4355e4d051047a1879511c525423f91ed67bc7a6d6b5fd498de9c"), looks := true }, kinds := [], alts := [], laidByText := true, laidKinds := [.data, .data, .data, .data, .sentinel, .sentinel, .listed, .data, .pinned], laidTests := true, laidLooks := .later }
def MasterKeepsUptoCardSaid : Prop := Claim7.holds Tryz.pinned (.plain (OpenSpec.upto masterKeepsSpec)) masterKeepsUptoCard
end Rows
end Go.Proofs.YtpbpeiofebgjiaaGreatDoor
