/-
  DERIVED. GIVEN WITH THE SEED: THE CARDS: each row of YtkcplnfomahleaaGreatDoorRows.lean that lists a variable, with what it lists TIED to the program's text (the seventh form; the later family's looks); each row that meets fmt, with fmt's text TOLD by the authors' own Lean function (tested against real Go, not proved from fmt's source: count such statements apart). THE CARD IS WHAT COUNTS. Prove the row's statement (the work); the ties are given (YtkcplnfomahleaaGreatDoorTie.lean); close each card by the builder's one call (the guide's Derived/Test/ToyasCard.lean, 'card_holds'). Laid BY PROGRAM, IN A SANDBOX (cutbox-door.mjs). By AI agents, Wed Nov 11 2026. No macro, syntax, notation, axiom, sorry.
-/
import Derived.Test.YtkcplnfomahleaaGreatDoorRows
import GoSem.ClaimSeven
namespace Go.Proofs.YtkcplnfomahleaaGreatDoor
namespace Rows

/-- THE TIED CARD OF 'wellspringlaw14.DecodeEnough'. -/
def decodeEnoughCard : Claim7 := { stood := { row := decodeEnoughRow, standIns := [], harness := (true, "4b912050e82a90d5ed1b103082777e1f95bc9dab3783069c5815b93163a6e33f"), looks := false }, kinds := [], alts := [], laidByText := true, laidKinds := [.data, .pinned], laidTests := true, laidLooks := .later }
def DecodeEnoughCardSaid : Prop := Claim7.holds Tryz.pinned (.plain (OpenSpec.ofChange decodeEnoughSpec)) decodeEnoughCard

/-- THE TIED CARD OF 'wellspringlaw14.DecodeTells'. -/
def decodeTellsCard : Claim7 := { stood := { row := decodeTellsRow, standIns := [], harness := (true, "4b912050e82a90d5ed1b103082777e1f95bc9dab3783069c5815b93163a6e33f"), looks := false }, kinds := [], alts := [], laidByText := true, laidKinds := [.data, .pinned], laidTests := true, laidLooks := .later }
def DecodeTellsCardSaid : Prop := Claim7.holds Tryz.pinned (.plain (OpenSpec.ofChange decodeTellsSpec)) decodeTellsCard

/-- THE TIED CARD OF 'wellspringlaw14.DecodeBack'. -/
def decodeBackCard : Claim7 := { stood := { row := decodeBackRow, standIns := [], harness := (true, "4b912050e82a90d5ed1b103082777e1f95bc9dab3783069c5815b93163a6e33f"), looks := false }, kinds := [], alts := [], laidByText := true, laidKinds := [.data, .pinned], laidTests := true, laidLooks := .later }
def DecodeBackCardSaid : Prop := Claim7.holds Tryz.pinned (.plain (OpenSpec.ofChange decodeBackSpec)) decodeBackCard

/-- THE TIED CARD OF 'wellspringlaw14.DecodeOrder'. -/
def decodeOrderCard : Claim7 := { stood := { row := decodeOrderRow, standIns := [], harness := (true, "4b912050e82a90d5ed1b103082777e1f95bc9dab3783069c5815b93163a6e33f"), looks := false }, kinds := [], alts := [], laidByText := true, laidKinds := [.data, .pinned], laidTests := true, laidLooks := .later }
def DecodeOrderCardSaid : Prop := Claim7.holds Tryz.pinned (.plain (OpenSpec.ofChange decodeOrderSpec)) decodeOrderCard

/-- THE TIED CARD OF 'wellspringlaw14.DecodeClash'. -/
def decodeClashCard : Claim7 := { stood := { row := decodeClashRow, standIns := [], harness := (true, "4b912050e82a90d5ed1b103082777e1f95bc9dab3783069c5815b93163a6e33f"), looks := false }, kinds := [], alts := [], laidByText := true, laidKinds := [.data, .pinned], laidTests := true, laidLooks := .later }
def DecodeClashCardSaid : Prop := Claim7.holds Tryz.pinned (.plain (OpenSpec.ofChange decodeClashSpec)) decodeClashCard

/-- THE TIED CARD OF 'wellspringlaw14.DecoderPlays'. -/
def decoderPlaysCard : Claim7 := { stood := { row := decoderPlaysRow, standIns := [], harness := (true, "4b912050e82a90d5ed1b103082777e1f95bc9dab3783069c5815b93163a6e33f"), looks := false }, kinds := [], alts := [], laidByText := true, laidKinds := [.data, .pinned], laidTests := true, laidLooks := .later }
def DecoderPlaysCardSaid : Prop := Claim7.holds Tryz.pinned (.plain (OpenSpec.ofChange decoderPlaysSpec)) decoderPlaysCard

/-- THE SECOND FORM's CARD OF 'wellspringlaw14.DecodeEnough'. -/
def decodeEnoughUptoCard : Claim7 := { stood := { row := decodeEnoughUptoRow, standIns := [], harness := (true, "4b912050e82a90d5ed1b103082777e1f95bc9dab3783069c5815b93163a6e33f"), looks := false }, kinds := [], alts := [], laidByText := true, laidKinds := [.data, .pinned], laidTests := true, laidLooks := .later }
def DecodeEnoughUptoCardSaid : Prop := Claim7.holds Tryz.pinned (.plain (OpenSpec.upto decodeEnoughSpec)) decodeEnoughUptoCard

/-- THE SECOND FORM's CARD OF 'wellspringlaw14.DecodeTells'. -/
def decodeTellsUptoCard : Claim7 := { stood := { row := decodeTellsUptoRow, standIns := [], harness := (true, "4b912050e82a90d5ed1b103082777e1f95bc9dab3783069c5815b93163a6e33f"), looks := false }, kinds := [], alts := [], laidByText := true, laidKinds := [.data, .pinned], laidTests := true, laidLooks := .later }
def DecodeTellsUptoCardSaid : Prop := Claim7.holds Tryz.pinned (.plain (OpenSpec.upto decodeTellsSpec)) decodeTellsUptoCard

/-- THE SECOND FORM's CARD OF 'wellspringlaw14.DecodeBack'. -/
def decodeBackUptoCard : Claim7 := { stood := { row := decodeBackUptoRow, standIns := [], harness := (true, "4b912050e82a90d5ed1b103082777e1f95bc9dab3783069c5815b93163a6e33f"), looks := false }, kinds := [], alts := [], laidByText := true, laidKinds := [.data, .pinned], laidTests := true, laidLooks := .later }
def DecodeBackUptoCardSaid : Prop := Claim7.holds Tryz.pinned (.plain (OpenSpec.upto decodeBackSpec)) decodeBackUptoCard

/-- THE SECOND FORM's CARD OF 'wellspringlaw14.DecodeOrder'. -/
def decodeOrderUptoCard : Claim7 := { stood := { row := decodeOrderUptoRow, standIns := [], harness := (true, "4b912050e82a90d5ed1b103082777e1f95bc9dab3783069c5815b93163a6e33f"), looks := false }, kinds := [], alts := [], laidByText := true, laidKinds := [.data, .pinned], laidTests := true, laidLooks := .later }
def DecodeOrderUptoCardSaid : Prop := Claim7.holds Tryz.pinned (.plain (OpenSpec.upto decodeOrderSpec)) decodeOrderUptoCard

/-- THE SECOND FORM's CARD OF 'wellspringlaw14.DecodeClash'. -/
def decodeClashUptoCard : Claim7 := { stood := { row := decodeClashUptoRow, standIns := [], harness := (true, "4b912050e82a90d5ed1b103082777e1f95bc9dab3783069c5815b93163a6e33f"), looks := false }, kinds := [], alts := [], laidByText := true, laidKinds := [.data, .pinned], laidTests := true, laidLooks := .later }
def DecodeClashUptoCardSaid : Prop := Claim7.holds Tryz.pinned (.plain (OpenSpec.upto decodeClashSpec)) decodeClashUptoCard

/-- THE SECOND FORM's CARD OF 'wellspringlaw14.DecoderPlays'. -/
def decoderPlaysUptoCard : Claim7 := { stood := { row := decoderPlaysUptoRow, standIns := [], harness := (true, "4b912050e82a90d5ed1b103082777e1f95bc9dab3783069c5815b93163a6e33f"), looks := false }, kinds := [], alts := [], laidByText := true, laidKinds := [.data, .pinned], laidTests := true, laidLooks := .later }
def DecoderPlaysUptoCardSaid : Prop := Claim7.holds Tryz.pinned (.plain (OpenSpec.upto decoderPlaysSpec)) decoderPlaysUptoCard
end Rows
end Go.Proofs.YtkcplnfomahleaaGreatDoor
