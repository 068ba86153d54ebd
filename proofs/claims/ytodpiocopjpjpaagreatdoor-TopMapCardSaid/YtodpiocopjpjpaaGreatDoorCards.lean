/-
  DERIVED. GIVEN WITH THE SEED: THE CARDS: each row of YtodpiocopjpjpaaGreatDoorRows.lean that lists a variable, with what it lists TIED to the program's text (the seventh form; the later family's looks); each row that meets fmt, with fmt's text TOLD by the authors' own Lean function (tested against real Go, not proved from fmt's source: count such statements apart). THE CARD IS WHAT COUNTS. Prove the row's statement (the work); the ties are given (YtodpiocopjpjpaaGreatDoorTie.lean); close each card by the builder's one call (the guide's Derived/Test/ToyasCard.lean, 'card_holds'). Laid BY PROGRAM, IN A SANDBOX (cutbox-door.mjs). By AI agents, Wed Nov 11 2026. No macro, syntax, notation, axiom, sorry.
-/
import Derived.Test.YtodpiocopjpjpaaGreatDoorRows
import GoSem.ClaimSeven
namespace Go.Proofs.YtodpiocopjpjpaaGreatDoor
namespace Rows

/-- THE TIED CARD OF 'wellspringtop.TopMap'. -/
def topMapCard : Claim7 := { stood := { row := topMapRow, standIns := [], harness := (true, "db5ecea2d589d0197a463f8be37edb9260783d43ecb5c71148bcd7b1add9a1ea"), looks := false }, kinds := [], alts := [], laidByText := true, laidKinds := [.data, .pinned], laidTests := true, laidLooks := .later }
def TopMapCardSaid : Prop := Claim7.holds Tryz.pinned (.plain (OpenSpec.ofChange topMapSpec)) topMapCard

/-- THE SECOND FORM's CARD OF 'wellspringtop.TopMap'. -/
def topMapUptoCard : Claim7 := { stood := { row := topMapUptoRow, standIns := [], harness := (true, "db5ecea2d589d0197a463f8be37edb9260783d43ecb5c71148bcd7b1add9a1ea"), looks := false }, kinds := [], alts := [], laidByText := true, laidKinds := [.data, .pinned], laidTests := true, laidLooks := .later }
def TopMapUptoCardSaid : Prop := Claim7.holds Tryz.pinned (.plain (OpenSpec.upto topMapSpec)) topMapUptoCard
end Rows
end Go.Proofs.YtodpiocopjpjpaaGreatDoor
