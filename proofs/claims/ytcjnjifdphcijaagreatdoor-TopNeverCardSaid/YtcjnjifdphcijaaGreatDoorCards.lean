/-
  DERIVED. GIVEN WITH THE SEED: THE CARDS: each row of YtcjnjifdphcijaaGreatDoorRows.lean that lists a variable, with what it lists TIED to the program's text (the seventh form; the later family's looks); each row that meets fmt, with fmt's text TOLD by the authors' own Lean function (tested against real Go, not proved from fmt's source: count such statements apart). THE CARD IS WHAT COUNTS. Prove the row's statement (the work); the ties are given (YtcjnjifdphcijaaGreatDoorTie.lean); close each card by the builder's one call (the guide's Derived/Test/ToyasCard.lean, 'card_holds'). Laid BY PROGRAM, IN A SANDBOX (cutbox-door.mjs). By AI agents, Wed Nov 11 2026. No macro, syntax, notation, axiom, sorry.
-/
import Derived.Test.YtcjnjifdphcijaaGreatDoorRows
import GoSem.ClaimSeven
namespace Go.Proofs.YtcjnjifdphcijaaGreatDoor
namespace Rows

/-- THE TIED CARD OF 'wellspringtop.TopNever'. -/
def topNeverCard : Claim7 := { stood := { row := topNeverRow, standIns := [], harness := (true, "a3d38abdc3852848b66bfad1a20dc8a44b1e71e163a5e66fdd2fc56b34780143"), looks := false }, kinds := [], alts := [], laidByText := true, laidKinds := [.data, .pinned], laidTests := true, laidLooks := .later }
def TopNeverCardSaid : Prop := Claim7.holds Tryz.pinned (.plain (OpenSpec.ofChange topNeverSpec)) topNeverCard

/-- THE TIED CARD OF 'wellspringlaw33.ArchiveBack'. -/
def archiveBackCard : Claim7 := { stood := { row := archiveBackRow, standIns := [], harness := (true, "a3d38abdc3852848b66bfad1a20dc8a44b1e71e163a5e66fdd2fc56b34780143"), looks := false }, kinds := [], alts := [], laidByText := true, laidKinds := [.data, .pinned], laidTests := true, laidLooks := .later }
def ArchiveBackCardSaid : Prop := Claim7.holds Tryz.pinned (.plain (OpenSpec.ofChange archiveBackSpec)) archiveBackCard

/-- THE SECOND FORM's CARD OF 'wellspringtop.TopNever'. -/
def topNeverUptoCard : Claim7 := { stood := { row := topNeverUptoRow, standIns := [], harness := (true, "a3d38abdc3852848b66bfad1a20dc8a44b1e71e163a5e66fdd2fc56b34780143"), looks := false }, kinds := [], alts := [], laidByText := true, laidKinds := [.data, .pinned], laidTests := true, laidLooks := .later }
def TopNeverUptoCardSaid : Prop := Claim7.holds Tryz.pinned (.plain (OpenSpec.upto topNeverSpec)) topNeverUptoCard

/-- THE SECOND FORM's CARD OF 'wellspringlaw33.ArchiveBack'. -/
def archiveBackUptoCard : Claim7 := { stood := { row := archiveBackUptoRow, standIns := [], harness := (true, "a3d38abdc3852848b66bfad1a20dc8a44b1e71e163a5e66fdd2fc56b34780143"), looks := false }, kinds := [], alts := [], laidByText := true, laidKinds := [.data, .pinned], laidTests := true, laidLooks := .later }
def ArchiveBackUptoCardSaid : Prop := Claim7.holds Tryz.pinned (.plain (OpenSpec.upto archiveBackSpec)) archiveBackUptoCard
end Rows
end Go.Proofs.YtcjnjifdphcijaaGreatDoor
