/-
  DERIVED. GIVEN WITH THE SEED: THE CARDS: each row of YtplpfpidgljdhaaGreatDoorRows.lean that lists a variable, with what it lists TIED to the program's text (the seventh form; the later family's looks); each row that meets fmt, with fmt's text TOLD by the authors' own Lean function (tested against real Go, not proved from fmt's source: count such statements apart). THE CARD IS WHAT COUNTS. Prove the row's statement (the work); the ties are given (YtplpfpidgljdhaaGreatDoorTie.lean); close each card by the builder's one call (the guide's Derived/Test/ToyasCard.lean, 'card_holds'). Laid BY PROGRAM, IN A SANDBOX (cutbox-door.mjs). By AI agents, Wed Nov 11 2026. No macro, syntax, notation, axiom, sorry.
-/
import Derived.Test.YtplpfpidgljdhaaGreatDoorRows
import GoSem.ClaimSeven
namespace Go.Proofs.YtplpfpidgljdhaaGreatDoor
namespace Rows

/-- THE TIED CARD OF 'wellspringlaw32.OpenTwice'. -/
def openTwiceCard : Claim7 := { stood := { row := openTwiceRow, standIns := [], harness := (true, "ee2e9a4934961307215b947b93da4a7f70304a1425944af01ecbd58aa5f251a8"), looks := false }, kinds := [], alts := [], laidByText := true, laidKinds := [.data, .pinned], laidTests := true, laidLooks := .later }
def OpenTwiceCardSaid : Prop := Claim7.holds Tryz.pinned (.plain (OpenSpec.ofChange openTwiceSpec)) openTwiceCard

/-- THE TIED CARD OF 'wellspringlaw32.OpenSame'. -/
def openSameCard : Claim7 := { stood := { row := openSameRow, standIns := [], harness := (true, "ee2e9a4934961307215b947b93da4a7f70304a1425944af01ecbd58aa5f251a8"), looks := false }, kinds := [], alts := [], laidByText := true, laidKinds := [.data, .pinned], laidTests := true, laidLooks := .later }
def OpenSameCardSaid : Prop := Claim7.holds Tryz.pinned (.plain (OpenSpec.ofChange openSameSpec)) openSameCard

/-- THE SECOND FORM's CARD OF 'wellspringlaw32.OpenTwice'. -/
def openTwiceUptoCard : Claim7 := { stood := { row := openTwiceUptoRow, standIns := [], harness := (true, "ee2e9a4934961307215b947b93da4a7f70304a1425944af01ecbd58aa5f251a8"), looks := false }, kinds := [], alts := [], laidByText := true, laidKinds := [.data, .pinned], laidTests := true, laidLooks := .later }
def OpenTwiceUptoCardSaid : Prop := Claim7.holds Tryz.pinned (.plain (OpenSpec.upto openTwiceSpec)) openTwiceUptoCard

/-- THE SECOND FORM's CARD OF 'wellspringlaw32.OpenSame'. -/
def openSameUptoCard : Claim7 := { stood := { row := openSameUptoRow, standIns := [], harness := (true, "ee2e9a4934961307215b947b93da4a7f70304a1425944af01ecbd58aa5f251a8"), looks := false }, kinds := [], alts := [], laidByText := true, laidKinds := [.data, .pinned], laidTests := true, laidLooks := .later }
def OpenSameUptoCardSaid : Prop := Claim7.holds Tryz.pinned (.plain (OpenSpec.upto openSameSpec)) openSameUptoCard
end Rows
end Go.Proofs.YtplpfpidgljdhaaGreatDoor
