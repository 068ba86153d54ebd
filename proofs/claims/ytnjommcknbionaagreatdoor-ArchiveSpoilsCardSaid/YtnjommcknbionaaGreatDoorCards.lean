/-
  DERIVED. GIVEN WITH THE SEED: THE CARDS: each row of YtnjommcknbionaaGreatDoorRows.lean that lists a variable, with what it lists TIED to the program's text (the seventh form; the later family's looks); each row that meets fmt, with fmt's text TOLD by the authors' own Lean function (tested against real Go, not proved from fmt's source: count such statements apart). THE CARD IS WHAT COUNTS. Prove the row's statement (the work); the ties are given (YtnjommcknbionaaGreatDoorTie.lean); close each card by the builder's one call (the guide's Derived/Test/ToyasCard.lean, 'card_holds'). Laid BY PROGRAM, IN A SANDBOX (cutbox-door.mjs). By AI agents, Wed Nov 11 2026. No macro, syntax, notation, axiom, sorry.
-/
import Derived.Test.YtnjommcknbionaaGreatDoorRows
import GoSem.ClaimSeven
namespace Go.Proofs.YtnjommcknbionaaGreatDoor
namespace Rows

/-- THE TIED CARD OF 'wellspringlaw33.ArchiveSpoils'. -/
def archiveSpoilsCard : Claim7 := { stood := { row := archiveSpoilsRow, standIns := [], harness := (true, "119b608e5d45fadab43dfb55420932615acfdf322763b304dfd06d02ee1102f8"), looks := false }, kinds := [], alts := [], laidByText := true, laidKinds := [.data, .pinned], laidTests := true, laidLooks := .later }
def ArchiveSpoilsCardSaid : Prop := Claim7.holds Tryz.pinned (.plain (OpenSpec.ofChange archiveSpoilsSpec)) archiveSpoilsCard

/-- THE SECOND FORM's CARD OF 'wellspringlaw33.ArchiveSpoils'. -/
def archiveSpoilsUptoCard : Claim7 := { stood := { row := archiveSpoilsUptoRow, standIns := [], harness := (true, "119b608e5d45fadab43dfb55420932615acfdf322763b304dfd06d02ee1102f8"), looks := false }, kinds := [], alts := [], laidByText := true, laidKinds := [.data, .pinned], laidTests := true, laidLooks := .later }
def ArchiveSpoilsUptoCardSaid : Prop := Claim7.holds Tryz.pinned (.plain (OpenSpec.upto archiveSpoilsSpec)) archiveSpoilsUptoCard
end Rows
end Go.Proofs.YtnjommcknbionaaGreatDoor
