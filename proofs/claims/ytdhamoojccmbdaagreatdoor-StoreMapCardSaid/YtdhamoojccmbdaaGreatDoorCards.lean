/-
  DERIVED. GIVEN WITH THE SEED: THE CARDS: each row of YtdhamoojccmbdaaGreatDoorRows.lean that lists a variable, with what it lists TIED to the program's text (the seventh form; the later family's looks); each row that meets fmt, with fmt's text TOLD by the authors' own Lean function (tested against real Go, not proved from fmt's source: count such statements apart). THE CARD IS WHAT COUNTS. Prove the row's statement (the work); the ties are given (YtdhamoojccmbdaaGreatDoorTie.lean); close each card by the builder's one call (the guide's Derived/Test/ToyasCard.lean, 'card_holds'). Laid BY PROGRAM, IN A SANDBOX (cutbox-door.mjs). By AI agents, Wed Nov 11 2026. No macro, syntax, notation, axiom, sorry.
-/
import Derived.Test.YtdhamoojccmbdaaGreatDoorRows
import GoSem.ClaimSeven
namespace Go.Proofs.YtdhamoojccmbdaaGreatDoor
namespace Rows

/-- THE TIED CARD OF 'wellspringlaw32.OpenNewest'. -/
def openNewestCard : Claim7 := { stood := { row := openNewestRow, standIns := [], harness := (true, "167c4199d85c21f7291b210317a8ee151c131e19c285689909ded0e813ce410f"), looks := false }, kinds := [], alts := [], laidByText := true, laidKinds := [.data, .pinned], laidTests := true, laidLooks := .later }
def OpenNewestCardSaid : Prop := Claim7.holds Tryz.pinned (.plain (OpenSpec.ofChange openNewestSpec)) openNewestCard

/-- THE TIED CARD OF 'wellspringlaw29.StoreFull'. -/
def storeFullCard : Claim7 := { stood := { row := storeFullRow, standIns := [], harness := (true, "167c4199d85c21f7291b210317a8ee151c131e19c285689909ded0e813ce410f"), looks := false }, kinds := [], alts := [], laidByText := true, laidKinds := [.data, .pinned], laidTests := true, laidLooks := .later }
def StoreFullCardSaid : Prop := Claim7.holds Tryz.pinned (.plain (OpenSpec.ofChange storeFullSpec)) storeFullCard

/-- THE TIED CARD OF 'wellspringlaw29.StoreMap'. -/
def storeMapCard : Claim7 := { stood := { row := storeMapRow, standIns := [], harness := (true, "167c4199d85c21f7291b210317a8ee151c131e19c285689909ded0e813ce410f"), looks := false }, kinds := [], alts := [], laidByText := true, laidKinds := [.data, .pinned], laidTests := true, laidLooks := .later }
def StoreMapCardSaid : Prop := Claim7.holds Tryz.pinned (.plain (OpenSpec.ofChange storeMapSpec)) storeMapCard

/-- THE TIED CARD OF 'wellspringlaw31.ScrubErrors'. -/
def scrubErrorsCard : Claim7 := { stood := { row := scrubErrorsRow, standIns := [], harness := (true, "167c4199d85c21f7291b210317a8ee151c131e19c285689909ded0e813ce410f"), looks := false }, kinds := [], alts := [], laidByText := true, laidKinds := [.data, .pinned], laidTests := true, laidLooks := .later }
def ScrubErrorsCardSaid : Prop := Claim7.holds Tryz.pinned (.plain (OpenSpec.ofChange scrubErrorsSpec)) scrubErrorsCard

/-- THE SECOND FORM's CARD OF 'wellspringlaw32.OpenNewest'. -/
def openNewestUptoCard : Claim7 := { stood := { row := openNewestUptoRow, standIns := [], harness := (true, "167c4199d85c21f7291b210317a8ee151c131e19c285689909ded0e813ce410f"), looks := false }, kinds := [], alts := [], laidByText := true, laidKinds := [.data, .pinned], laidTests := true, laidLooks := .later }
def OpenNewestUptoCardSaid : Prop := Claim7.holds Tryz.pinned (.plain (OpenSpec.upto openNewestSpec)) openNewestUptoCard

/-- THE SECOND FORM's CARD OF 'wellspringlaw29.StoreFull'. -/
def storeFullUptoCard : Claim7 := { stood := { row := storeFullUptoRow, standIns := [], harness := (true, "167c4199d85c21f7291b210317a8ee151c131e19c285689909ded0e813ce410f"), looks := false }, kinds := [], alts := [], laidByText := true, laidKinds := [.data, .pinned], laidTests := true, laidLooks := .later }
def StoreFullUptoCardSaid : Prop := Claim7.holds Tryz.pinned (.plain (OpenSpec.upto storeFullSpec)) storeFullUptoCard

/-- THE SECOND FORM's CARD OF 'wellspringlaw29.StoreMap'. -/
def storeMapUptoCard : Claim7 := { stood := { row := storeMapUptoRow, standIns := [], harness := (true, "167c4199d85c21f7291b210317a8ee151c131e19c285689909ded0e813ce410f"), looks := false }, kinds := [], alts := [], laidByText := true, laidKinds := [.data, .pinned], laidTests := true, laidLooks := .later }
def StoreMapUptoCardSaid : Prop := Claim7.holds Tryz.pinned (.plain (OpenSpec.upto storeMapSpec)) storeMapUptoCard

/-- THE SECOND FORM's CARD OF 'wellspringlaw31.ScrubErrors'. -/
def scrubErrorsUptoCard : Claim7 := { stood := { row := scrubErrorsUptoRow, standIns := [], harness := (true, "167c4199d85c21f7291b210317a8ee151c131e19c285689909ded0e813ce410f"), looks := false }, kinds := [], alts := [], laidByText := true, laidKinds := [.data, .pinned], laidTests := true, laidLooks := .later }
def ScrubErrorsUptoCardSaid : Prop := Claim7.holds Tryz.pinned (.plain (OpenSpec.upto scrubErrorsSpec)) scrubErrorsUptoCard
end Rows
end Go.Proofs.YtdhamoojccmbdaaGreatDoor
