/-
  DERIVED. GIVEN WITH THE SEED: THE CARDS: each row of YtcaonbjibhlkcaaGreatDoorRows.lean that lists a variable, with what it lists TIED to the program's text (the seventh form; the later family's looks); each row that meets fmt, with fmt's text TOLD by the authors' own Lean function (tested against real Go, not proved from fmt's source: count such statements apart). THE CARD IS WHAT COUNTS. Prove the row's statement (the work); the ties are given (YtcaonbjibhlkcaaGreatDoorTie.lean); close each card by the builder's one call (the guide's Derived/Test/ToyasCard.lean, 'card_holds'). Laid BY PROGRAM, IN A SANDBOX (cutbox-door.mjs). By AI agents, Wed Nov 11 2026. No macro, syntax, notation, axiom, sorry.
-/
import Derived.Test.YtcaonbjibhlkcaaGreatDoorRows
import GoSem.ClaimSeven
namespace Go.Proofs.YtcaonbjibhlkcaaGreatDoor
namespace Rows

/-- THE TIED CARD OF 'wellspringtop.TopRateless'. -/
def topRatelessCard : Claim7 := { stood := { row := topRatelessRow, standIns := [], harness := (true, "62e5f59192cf573ad58362edab98437c709cb1c1ee5deb4796e37706faa22d45"), looks := false }, kinds := [], alts := [], laidByText := true, laidKinds := [.data, .pinned], laidTests := true, laidLooks := .later }
def TopRatelessCardSaid : Prop := Claim7.holds Tryz.pinned (.plain (OpenSpec.ofChange topRatelessSpec)) topRatelessCard

/-- THE SECOND FORM's CARD OF 'wellspringtop.TopRateless'. -/
def topRatelessUptoCard : Claim7 := { stood := { row := topRatelessUptoRow, standIns := [], harness := (true, "62e5f59192cf573ad58362edab98437c709cb1c1ee5deb4796e37706faa22d45"), looks := false }, kinds := [], alts := [], laidByText := true, laidKinds := [.data, .pinned], laidTests := true, laidLooks := .later }
def TopRatelessUptoCardSaid : Prop := Claim7.holds Tryz.pinned (.plain (OpenSpec.upto topRatelessSpec)) topRatelessUptoCard
end Rows
end Go.Proofs.YtcaonbjibhlkcaaGreatDoor
