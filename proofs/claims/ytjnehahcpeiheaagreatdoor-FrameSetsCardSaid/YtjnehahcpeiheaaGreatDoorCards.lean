/-
  DERIVED. GIVEN WITH THE SEED: THE CARDS: each row of YtjnehahcpeiheaaGreatDoorRows.lean that lists a variable, with what it lists TIED to the program's text (the seventh form; the later family's looks); each row that meets fmt, with fmt's text TOLD by the authors' own Lean function (tested against real Go, not proved from fmt's source: count such statements apart). THE CARD IS WHAT COUNTS. Prove the row's statement (the work); the ties are given (YtjnehahcpeiheaaGreatDoorTie.lean); close each card by the builder's one call (the guide's Derived/Test/ToyasCard.lean, 'card_holds'). Laid BY PROGRAM, IN A SANDBOX (cutbox-door.mjs). By AI agents, Wed Nov 11 2026. No macro, syntax, notation, axiom, sorry.
-/
import Derived.Test.YtjnehahcpeiheaaGreatDoorRows
import GoSem.ClaimSeven
namespace Go.Proofs.YtjnehahcpeiheaaGreatDoor
namespace Rows

/-- THE TIED CARD OF 'spykeep3.FrameNotices'. -/
def frameNoticesCard : Claim7 := { stood := { row := frameNoticesRow, standIns := [], harness := (true, "6b45136a797bb641588627ee56735eebae77da3f89f22bf0cba5cffec3f9d6c4"), looks := true }, kinds := [], alts := [], laidByText := true, laidKinds := [.data, .data, .data, .data, .sentinel, .sentinel, .listed, .data, .pinned], laidTests := true, laidLooks := .later }
def FrameNoticesCardSaid : Prop := Claim7.holds Tryz.pinned (.plain (OpenSpec.ofChange frameNoticesSpec)) frameNoticesCard

/-- THE TIED CARD OF 'spykeep3.FrameBack'. -/
def frameBackCard : Claim7 := { stood := { row := frameBackRow, standIns := [], harness := (true, "6b45136a797bb641588627ee56735eebae77da3f89f22bf0cba5cffec3f9d6c4"), looks := true }, kinds := [], alts := [], laidByText := true, laidKinds := [.data, .data, .data, .data, .sentinel, .sentinel, .listed, .data, .pinned], laidTests := true, laidLooks := .later }
def FrameBackCardSaid : Prop := Claim7.holds Tryz.pinned (.plain (OpenSpec.ofChange frameBackSpec)) frameBackCard

/-- THE TIED CARD OF 'spykeep3.FrameUnits'. -/
def frameUnitsCard : Claim7 := { stood := { row := frameUnitsRow, standIns := [], harness := (true, "6b45136a797bb641588627ee56735eebae77da3f89f22bf0cba5cffec3f9d6c4"), looks := true }, kinds := [], alts := [], laidByText := true, laidKinds := [.data, .data, .data, .data, .sentinel, .sentinel, .listed, .data, .pinned], laidTests := true, laidLooks := .later }
def FrameUnitsCardSaid : Prop := Claim7.holds Tryz.pinned (.plain (OpenSpec.ofChange frameUnitsSpec)) frameUnitsCard

/-- THE TIED CARD OF 'spykeep3.FrameSets'. -/
def frameSetsCard : Claim7 := { stood := { row := frameSetsRow, standIns := [], harness := (true, "6b45136a797bb641588627ee56735eebae77da3f89f22bf0cba5cffec3f9d6c4"), looks := true }, kinds := [], alts := [], laidByText := true, laidKinds := [.data, .data, .data, .data, .sentinel, .sentinel, .listed, .data, .pinned], laidTests := true, laidLooks := .later }
def FrameSetsCardSaid : Prop := Claim7.holds Tryz.pinned (.plain (OpenSpec.ofChange frameSetsSpec)) frameSetsCard

/-- THE SECOND FORM's CARD OF 'spykeep3.FrameNotices'. -/
def frameNoticesUptoCard : Claim7 := { stood := { row := frameNoticesUptoRow, standIns := [], harness := (true, "6b45136a797bb641588627ee56735eebae77da3f89f22bf0cba5cffec3f9d6c4"), looks := true }, kinds := [], alts := [], laidByText := true, laidKinds := [.data, .data, .data, .data, .sentinel, .sentinel, .listed, .data, .pinned], laidTests := true, laidLooks := .later }
def FrameNoticesUptoCardSaid : Prop := Claim7.holds Tryz.pinned (.plain (OpenSpec.upto frameNoticesSpec)) frameNoticesUptoCard

/-- THE SECOND FORM's CARD OF 'spykeep3.FrameBack'. -/
def frameBackUptoCard : Claim7 := { stood := { row := frameBackUptoRow, standIns := [], harness := (true, "6b45136a797bb641588627ee56735eebae77da3f89f22bf0cba5cffec3f9d6c4"), looks := true }, kinds := [], alts := [], laidByText := true, laidKinds := [.data, .data, .data, .data, .sentinel, .sentinel, .listed, .data, .pinned], laidTests := true, laidLooks := .later }
def FrameBackUptoCardSaid : Prop := Claim7.holds Tryz.pinned (.plain (OpenSpec.upto frameBackSpec)) frameBackUptoCard

/-- THE SECOND FORM's CARD OF 'spykeep3.FrameUnits'. -/
def frameUnitsUptoCard : Claim7 := { stood := { row := frameUnitsUptoRow, standIns := [], harness := (true, "6b45136a797bb641588627ee56735eebae77da3f89f22bf0cba5cffec3f9d6c4"), looks := true }, kinds := [], alts := [], laidByText := true, laidKinds := [.data, .data, .data, .data, .sentinel, .sentinel, .listed, .data, .pinned], laidTests := true, laidLooks := .later }
def FrameUnitsUptoCardSaid : Prop := Claim7.holds Tryz.pinned (.plain (OpenSpec.upto frameUnitsSpec)) frameUnitsUptoCard

/-- THE SECOND FORM's CARD OF 'spykeep3.FrameSets'. -/
def frameSetsUptoCard : Claim7 := { stood := { row := frameSetsUptoRow, standIns := [], harness := (true, "6b45136a797bb641588627ee56735eebae77da3f89f22bf0cba5cffec3f9d6c4"), looks := true }, kinds := [], alts := [], laidByText := true, laidKinds := [.data, .data, .data, .data, .sentinel, .sentinel, .listed, .data, .pinned], laidTests := true, laidLooks := .later }
def FrameSetsUptoCardSaid : Prop := Claim7.holds Tryz.pinned (.plain (OpenSpec.upto frameSetsSpec)) frameSetsUptoCard
end Rows
end Go.Proofs.YtjnehahcpeiheaaGreatDoor
