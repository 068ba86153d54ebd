/-
  DERIVED. GIVEN WITH THE SEED: THE CARDS: each row of YtmobnmonkaacaaaGreatDoorRows.lean that lists a variable, with what it lists TIED to the program's text (the seventh form; the later family's looks); each row that meets fmt, with fmt's text TOLD by the authors' own Lean function (tested against real Go, not proved from fmt's source: count such statements apart). THE CARD IS WHAT COUNTS. Prove the row's statement (the work); the ties are given (YtmobnmonkaacaaaGreatDoorTie.lean); close each card by the builder's one call (the guide's Derived/Test/ToyasCard.lean, 'card_holds'). Laid BY PROGRAM, IN A SANDBOX (cutbox-door.mjs). By AI agents, Wed Nov 11 2026. No macro, syntax, notation, axiom, sorry.
-/
import Derived.Test.YtmobnmonkaacaaaGreatDoorRows
import GoSem.ClaimSeven
namespace Go.Proofs.YtmobnmonkaacaaaGreatDoor
namespace Rows

/-- THE TIED CARD OF 'wellspringlaw29.StoreCommits'. -/
def storeCommitsCard : Claim7 := { stood := { row := storeCommitsRow, standIns := [], harness := (true, "1a80dbfdbea4d5e90381cf5c8489f9be1ecb459bfff508ac61d28bad09aeb325"), looks := false }, kinds := [], alts := [], laidByText := true, laidKinds := [.data, .pinned], laidTests := true, laidLooks := .later }
def StoreCommitsCardSaid : Prop := Claim7.holds Tryz.pinned (.plain (OpenSpec.ofChange storeCommitsSpec)) storeCommitsCard

/-- THE TIED CARD OF 'wellspringlaw29.StorePlays'. -/
def storePlaysCard : Claim7 := { stood := { row := storePlaysRow, standIns := [], harness := (true, "1a80dbfdbea4d5e90381cf5c8489f9be1ecb459bfff508ac61d28bad09aeb325"), looks := false }, kinds := [], alts := [], laidByText := true, laidKinds := [.data, .pinned], laidTests := true, laidLooks := .later }
def StorePlaysCardSaid : Prop := Claim7.holds Tryz.pinned (.plain (OpenSpec.ofChange storePlaysSpec)) storePlaysCard

/-- THE TIED CARD OF 'wellspringlaw29.StoreDown'. -/
def storeDownCard : Claim7 := { stood := { row := storeDownRow, standIns := [], harness := (true, "1a80dbfdbea4d5e90381cf5c8489f9be1ecb459bfff508ac61d28bad09aeb325"), looks := false }, kinds := [], alts := [], laidByText := true, laidKinds := [.data, .pinned], laidTests := true, laidLooks := .later }
def StoreDownCardSaid : Prop := Claim7.holds Tryz.pinned (.plain (OpenSpec.ofChange storeDownSpec)) storeDownCard

/-- THE SECOND FORM's CARD OF 'wellspringlaw29.StoreCommits'. -/
def storeCommitsUptoCard : Claim7 := { stood := { row := storeCommitsUptoRow, standIns := [], harness := (true, "1a80dbfdbea4d5e90381cf5c8489f9be1ecb459bfff508ac61d28bad09aeb325"), looks := false }, kinds := [], alts := [], laidByText := true, laidKinds := [.data, .pinned], laidTests := true, laidLooks := .later }
def StoreCommitsUptoCardSaid : Prop := Claim7.holds Tryz.pinned (.plain (OpenSpec.upto storeCommitsSpec)) storeCommitsUptoCard

/-- THE SECOND FORM's CARD OF 'wellspringlaw29.StorePlays'. -/
def storePlaysUptoCard : Claim7 := { stood := { row := storePlaysUptoRow, standIns := [], harness := (true, "1a80dbfdbea4d5e90381cf5c8489f9be1ecb459bfff508ac61d28bad09aeb325"), looks := false }, kinds := [], alts := [], laidByText := true, laidKinds := [.data, .pinned], laidTests := true, laidLooks := .later }
def StorePlaysUptoCardSaid : Prop := Claim7.holds Tryz.pinned (.plain (OpenSpec.upto storePlaysSpec)) storePlaysUptoCard

/-- THE SECOND FORM's CARD OF 'wellspringlaw29.StoreDown'. -/
def storeDownUptoCard : Claim7 := { stood := { row := storeDownUptoRow, standIns := [], harness := (true, "1a80dbfdbea4d5e90381cf5c8489f9be1ecb459bfff508ac61d28bad09aeb325"), looks := false }, kinds := [], alts := [], laidByText := true, laidKinds := [.data, .pinned], laidTests := true, laidLooks := .later }
def StoreDownUptoCardSaid : Prop := Claim7.holds Tryz.pinned (.plain (OpenSpec.upto storeDownSpec)) storeDownUptoCard
end Rows
end Go.Proofs.YtmobnmonkaacaaaGreatDoor
