/-
  DERIVED. GIVEN WITH THE SEED: THE CARDS: each row of YtfphahhebijhjaaDoorRows.lean that lists a variable, with what it lists TIED to the program's text (the seventh form; the later family's looks); each row that meets fmt, with fmt's text TOLD by the authors' own Lean function (tested against real Go, not proved from fmt's source: count such statements apart). THE CARD IS WHAT COUNTS. Prove the row's statement (the work); the ties are given (YtfphahhebijhjaaDoorTie.lean); close each card by the builder's one call (the guide's Derived/Test/ToyasCard.lean, 'card_holds'). Laid BY PROGRAM, IN A SANDBOX (cutbox-door.mjs). By AI agents, Wed Nov 11 2026. No macro, syntax, notation, axiom, sorry.
-/
import Derived.Test.YtfphahhebijhjaaDoorRows
import GoSem.ClaimSeven
namespace Go.Proofs.YtfphahhebijhjaaDoor
namespace Rows

/-- THE TIED CARD OF 'spykeep3.SqueezeEven'. -/
def squeezeEvenCard : Claim7 := { stood := { row := squeezeEvenRow, standIns := [], harness := (true, "1a6b21ac1620261b24ce281bcecbd1feffbe41de3d749219efeffd4f7bb168c2"), looks := false }, kinds := [], alts := [], laidByText := true, laidKinds := [.data, .listed, .data, .pinned], laidTests := true, laidLooks := .later }
def SqueezeEvenCardSaid : Prop := Claim7.holds Tryd.pinned (.plain (OpenSpec.ofChange squeezeEvenSpec)) squeezeEvenCard

/-- THE TIED CARD OF 'spykeep3.SqueezeAlone'. -/
def squeezeAloneCard : Claim7 := { stood := { row := squeezeAloneRow, standIns := [], harness := (true, "1a6b21ac1620261b24ce281bcecbd1feffbe41de3d749219efeffd4f7bb168c2"), looks := false }, kinds := [], alts := [], laidByText := true, laidKinds := [.data, .data, .data, .data, .listed, .data, .pinned], laidTests := true, laidLooks := .later }
def SqueezeAloneCardSaid : Prop := Claim7.holds Tryd.pinned (.plain (OpenSpec.ofChange squeezeAloneSpec)) squeezeAloneCard

/-- THE TIED CARD OF 'spykeep3.SqueezeBack'. -/
def squeezeBackCard : Claim7 := { stood := { row := squeezeBackRow, standIns := [], harness := (true, "1a6b21ac1620261b24ce281bcecbd1feffbe41de3d749219efeffd4f7bb168c2"), looks := false }, kinds := [], alts := [], laidByText := true, laidKinds := [.data, .data, .data, .data, .listed, .data, .pinned], laidTests := true, laidLooks := .later }
def SqueezeBackCardSaid : Prop := Claim7.holds Tryd.pinned (.plain (OpenSpec.ofChange squeezeBackSpec)) squeezeBackCard

/-- THE SECOND FORM's CARD OF 'spykeep3.SqueezeEven'. -/
def squeezeEvenUptoCard : Claim7 := { stood := { row := squeezeEvenUptoRow, standIns := [], harness := (true, "1a6b21ac1620261b24ce281bcecbd1feffbe41de3d749219efeffd4f7bb168c2"), looks := false }, kinds := [], alts := [], laidByText := true, laidKinds := [.data, .listed, .data, .pinned], laidTests := true, laidLooks := .later }
def SqueezeEvenUptoCardSaid : Prop := Claim7.holds Tryd.pinned (.plain (OpenSpec.upto squeezeEvenSpec)) squeezeEvenUptoCard

/-- THE SECOND FORM's CARD OF 'spykeep3.SqueezeAlone'. -/
def squeezeAloneUptoCard : Claim7 := { stood := { row := squeezeAloneUptoRow, standIns := [], harness := (true, "1a6b21ac1620261b24ce281bcecbd1feffbe41de3d749219efeffd4f7bb168c2"), looks := false }, kinds := [], alts := [], laidByText := true, laidKinds := [.data, .data, .data, .data, .listed, .data, .pinned], laidTests := true, laidLooks := .later }
def SqueezeAloneUptoCardSaid : Prop := Claim7.holds Tryd.pinned (.plain (OpenSpec.upto squeezeAloneSpec)) squeezeAloneUptoCard

/-- THE SECOND FORM's CARD OF 'spykeep3.SqueezeBack'. -/
def squeezeBackUptoCard : Claim7 := { stood := { row := squeezeBackUptoRow, standIns := [], harness := (true, "1a6b21ac1620261b24ce281bcecbd1feffbe41de3d749219efeffd4f7bb168c2"), looks := false }, kinds := [], alts := [], laidByText := true, laidKinds := [.data, .data, .data, .data, .listed, .data, .pinned], laidTests := true, laidLooks := .later }
def SqueezeBackUptoCardSaid : Prop := Claim7.holds Tryd.pinned (.plain (OpenSpec.upto squeezeBackSpec)) squeezeBackUptoCard
end Rows
end Go.Proofs.YtfphahhebijhjaaDoor
