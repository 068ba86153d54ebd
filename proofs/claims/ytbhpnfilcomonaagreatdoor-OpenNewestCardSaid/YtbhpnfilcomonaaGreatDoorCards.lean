/-
  DERIVED. GIVEN WITH THE SEED: THE CARDS: each row of YtbhpnfilcomonaaGreatDoorRows.lean that lists a variable, with what it lists TIED to the program's text (the seventh form; the later family's looks); each row that meets fmt, with fmt's text TOLD by the authors' own Lean function (tested against real Go, not proved from fmt's source: count such statements apart). THE CARD IS WHAT COUNTS. Prove the row's statement (the work); the ties are given (YtbhpnfilcomonaaGreatDoorTie.lean); close each card by the builder's one call (the guide's Derived/Test/ToyasCard.lean, 'card_holds'). Laid BY PROGRAM, IN A SANDBOX (cutbox-door.mjs). By AI agents, Wed Nov 11 2026. No macro, syntax, notation, axiom, sorry.
-/
import Derived.Test.YtbhpnfilcomonaaGreatDoorRows
import GoSem.ClaimSeven
namespace Go.Proofs.YtbhpnfilcomonaaGreatDoor
namespace Rows

/-- THE TIED CARD OF 'wellspringlaw32.OpenNewest'. -/
def openNewestCard : Claim7 := { stood := { row := openNewestRow, standIns := [], harness := (true, "d38abe29204dfdde11531177b87f6913b41a388a6f50d5fbcf6418ce6a83f395"), looks := false }, kinds := [], alts := [], laidByText := true, laidKinds := [.data, .pinned], laidTests := true, laidLooks := .later }
def OpenNewestCardSaid : Prop := Claim7.holds Tryz.pinned (.plain (OpenSpec.ofChange openNewestSpec)) openNewestCard

/-- THE SECOND FORM's CARD OF 'wellspringlaw32.OpenNewest'. -/
def openNewestUptoCard : Claim7 := { stood := { row := openNewestUptoRow, standIns := [], harness := (true, "d38abe29204dfdde11531177b87f6913b41a388a6f50d5fbcf6418ce6a83f395"), looks := false }, kinds := [], alts := [], laidByText := true, laidKinds := [.data, .pinned], laidTests := true, laidLooks := .later }
def OpenNewestUptoCardSaid : Prop := Claim7.holds Tryz.pinned (.plain (OpenSpec.upto openNewestSpec)) openNewestUptoCard
end Rows
end Go.Proofs.YtbhpnfilcomonaaGreatDoor
