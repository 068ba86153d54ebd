/-
  DERIVED. GIVEN WITH THE SEED: THE CARDS: each row of YtcamechmadjclaaGreatDoorRows.lean that lists a variable, with what it lists TIED to the program's text (the seventh form; the later family's looks); each row that meets fmt, with fmt's text TOLD by the authors' own Lean function (tested against real Go, not proved from fmt's source: count such statements apart). THE CARD IS WHAT COUNTS. Prove the row's statement (the work); the ties are given (YtcamechmadjclaaGreatDoorTie.lean); close each card by the builder's one call (the guide's Derived/Test/ToyasCard.lean, 'card_holds'). Laid BY PROGRAM, IN A SANDBOX (cutbox-door.mjs). By AI agents, Wed Nov 11 2026. No macro, syntax, notation, axiom, sorry.
-/
import Derived.Test.YtcamechmadjclaaGreatDoorRows
import GoSem.ClaimSeven
namespace Go.Proofs.YtcamechmadjclaaGreatDoor
namespace Rows

/-- THE TIED CARD OF 'wellspringlaw33.ArchiveNew'. -/
def archiveNewCard : Claim7 := { stood := { row := archiveNewRow, standIns := [], harness := (true, "e39a84ac615c931872ab31d6510fe0cbd1c3c750144cadb1d6daa80c344935bc"), looks := false }, kinds := [], alts := [], laidByText := true, laidKinds := [.data, .pinned], laidTests := true, laidLooks := .later }
def ArchiveNewCardSaid : Prop := Claim7.holds Tryz.pinned (.plain (OpenSpec.ofChange archiveNewSpec)) archiveNewCard

/-- THE SECOND FORM's CARD OF 'wellspringlaw33.ArchiveNew'. -/
def archiveNewUptoCard : Claim7 := { stood := { row := archiveNewUptoRow, standIns := [], harness := (true, "e39a84ac615c931872ab31d6510fe0cbd1c3c750144cadb1d6daa80c344935bc"), looks := false }, kinds := [], alts := [], laidByText := true, laidKinds := [.data, .pinned], laidTests := true, laidLooks := .later }
def ArchiveNewUptoCardSaid : Prop := Claim7.holds Tryz.pinned (.plain (OpenSpec.upto archiveNewSpec)) archiveNewUptoCard
end Rows
end Go.Proofs.YtcamechmadjclaaGreatDoor
