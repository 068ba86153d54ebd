/-
  DERIVED. GIVEN WITH THE SEED: THE CARDS: each row of YtdibhfbogjngkaaGreatDoorRows.lean that lists a variable, with what it lists TIED to the program's text (the seventh form; the later family's looks); each row that meets fmt, with fmt's text TOLD by the authors' own Lean function (tested against real Go, not proved from fmt's source: count such statements apart). THE CARD IS WHAT COUNTS. Prove the row's statement (the work); the ties are given (YtdibhfbogjngkaaGreatDoorTie.lean); close each card by the builder's one call (the guide's Derived/Test/ToyasCard.lean, 'card_holds'). Laid BY PROGRAM, IN A SANDBOX (cutbox-door.mjs). By AI agents, Wed Nov 11 2026. No macro, syntax, notation, axiom, sorry.
-/
import Derived.Test.YtdibhfbogjngkaaGreatDoorRows
import GoSem.ClaimSeven
namespace Go.Proofs.YtdibhfbogjngkaaGreatDoor
namespace Rows

/-- THE TIED CARD OF 'wellspringlaw31.ScrubLeast'. -/
def scrubLeastCard : Claim7 := { stood := { row := scrubLeastRow, standIns := [], harness := (true, "7434f311fcca4b33a11ffad87edc1dec4ba5a810175aab90b4607b77ccaab257"), looks := false }, kinds := [], alts := [], laidByText := true, laidKinds := [.data, .pinned], laidTests := true, laidLooks := .later }
def ScrubLeastCardSaid : Prop := Claim7.holds Tryz.pinned (.plain (OpenSpec.ofChange scrubLeastSpec)) scrubLeastCard

/-- THE TIED CARD OF 'wellspringlaw35.AuditLoses'. -/
def auditLosesCard : Claim7 := { stood := { row := auditLosesRow, standIns := [], harness := (true, "7434f311fcca4b33a11ffad87edc1dec4ba5a810175aab90b4607b77ccaab257"), looks := false }, kinds := [], alts := [], laidByText := true, laidKinds := [.data, .pinned], laidTests := true, laidLooks := .later }
def AuditLosesCardSaid : Prop := Claim7.holds Tryz.pinned (.plain (OpenSpec.ofChange auditLosesSpec)) auditLosesCard

/-- THE TIED CARD OF 'wellspringlaw31.ScrubMends'. -/
def scrubMendsCard : Claim7 := { stood := { row := scrubMendsRow, standIns := [], harness := (true, "7434f311fcca4b33a11ffad87edc1dec4ba5a810175aab90b4607b77ccaab257"), looks := false }, kinds := [], alts := [], laidByText := true, laidKinds := [.data, .pinned], laidTests := true, laidLooks := .later }
def ScrubMendsCardSaid : Prop := Claim7.holds Tryz.pinned (.plain (OpenSpec.ofChange scrubMendsSpec)) scrubMendsCard

/-- THE TIED CARD OF 'wellspringlaw31.ScrubHolds'. -/
def scrubHoldsCard : Claim7 := { stood := { row := scrubHoldsRow, standIns := [], harness := (true, "7434f311fcca4b33a11ffad87edc1dec4ba5a810175aab90b4607b77ccaab257"), looks := false }, kinds := [], alts := [], laidByText := true, laidKinds := [.data, .pinned], laidTests := true, laidLooks := .later }
def ScrubHoldsCardSaid : Prop := Claim7.holds Tryz.pinned (.plain (OpenSpec.ofChange scrubHoldsSpec)) scrubHoldsCard

/-- THE SECOND FORM's CARD OF 'wellspringlaw31.ScrubLeast'. -/
def scrubLeastUptoCard : Claim7 := { stood := { row := scrubLeastUptoRow, standIns := [], harness := (true, "7434f311fcca4b33a11ffad87edc1dec4ba5a810175aab90b4607b77ccaab257"), looks := false }, kinds := [], alts := [], laidByText := true, laidKinds := [.data, .pinned], laidTests := true, laidLooks := .later }
def ScrubLeastUptoCardSaid : Prop := Claim7.holds Tryz.pinned (.plain (OpenSpec.upto scrubLeastSpec)) scrubLeastUptoCard

/-- THE SECOND FORM's CARD OF 'wellspringlaw35.AuditLoses'. -/
def auditLosesUptoCard : Claim7 := { stood := { row := auditLosesUptoRow, standIns := [], harness := (true, "7434f311fcca4b33a11ffad87edc1dec4ba5a810175aab90b4607b77ccaab257"), looks := false }, kinds := [], alts := [], laidByText := true, laidKinds := [.data, .pinned], laidTests := true, laidLooks := .later }
def AuditLosesUptoCardSaid : Prop := Claim7.holds Tryz.pinned (.plain (OpenSpec.upto auditLosesSpec)) auditLosesUptoCard

/-- THE SECOND FORM's CARD OF 'wellspringlaw31.ScrubMends'. -/
def scrubMendsUptoCard : Claim7 := { stood := { row := scrubMendsUptoRow, standIns := [], harness := (true, "7434f311fcca4b33a11ffad87edc1dec4ba5a810175aab90b4607b77ccaab257"), looks := false }, kinds := [], alts := [], laidByText := true, laidKinds := [.data, .pinned], laidTests := true, laidLooks := .later }
def ScrubMendsUptoCardSaid : Prop := Claim7.holds Tryz.pinned (.plain (OpenSpec.upto scrubMendsSpec)) scrubMendsUptoCard

/-- THE SECOND FORM's CARD OF 'wellspringlaw31.ScrubHolds'. -/
def scrubHoldsUptoCard : Claim7 := { stood := { row := scrubHoldsUptoRow, standIns := [], harness := (true, "7434f311fcca4b33a11ffad87edc1dec4ba5a810175aab90b4607b77ccaab257"), looks := false }, kinds := [], alts := [], laidByText := true, laidKinds := [.data, .pinned], laidTests := true, laidLooks := .later }
def ScrubHoldsUptoCardSaid : Prop := Claim7.holds Tryz.pinned (.plain (OpenSpec.upto scrubHoldsSpec)) scrubHoldsUptoCard
end Rows
end Go.Proofs.YtdibhfbogjngkaaGreatDoor
