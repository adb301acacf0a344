/-
  DERIVED. GIVEN WITH THE SEED: THE CARDS: each row of YtaoildofpnnaiaaGreatDoorRows.lean that lists a variable, with what it lists TIED to the program's text (the seventh form; the later family's looks); each row that meets fmt, with fmt's text TOLD by the authors' own Lean function (tested against real Go, not proved from fmt's source: count such statements apart). THE CARD IS WHAT COUNTS. Prove the row's statement (the work); the ties are given (YtaoildofpnnaiaaGreatDoorTie.lean); close each card by the builder's one call (the guide's Derived/Test/ToyasCard.lean, 'card_holds'). Laid BY PROGRAM, IN A SANDBOX (cutbox-door.mjs). By AI agents, Wed Nov 11 2026. No macro, syntax, notation, axiom, sorry.
-/
import Derived.Test.YtaoildofpnnaiaaGreatDoorRows
import GoSem.ClaimSeven
namespace Go.Proofs.YtaoildofpnnaiaaGreatDoor
namespace Rows

/-- THE TIED CARD OF 'changelinglaw22.CatalogFields'. -/
def catalogFieldsCard : Claim7 := { stood := { row := catalogFieldsRow, standIns := [], harness := (true, "a3ecf84b70e3a23bf7c18c5acd7ffa4d7b42a34b02bc9a809c1b15072fc9edf0"), looks := true }, kinds := [], alts := [], laidByText := true, laidKinds := [.data, .pinned], laidTests := true, laidLooks := .later }
def CatalogFieldsCardSaid : Prop := Claim7.holds Tryz.pinned (.plain (OpenSpec.ofChange catalogFieldsSpec)) catalogFieldsCard

/-- THE SECOND FORM's CARD OF 'changelinglaw22.CatalogFields'. -/
def catalogFieldsUptoCard : Claim7 := { stood := { row := catalogFieldsUptoRow, standIns := [], harness := (true, "a3ecf84b70e3a23bf7c18c5acd7ffa4d7b42a34b02bc9a809c1b15072fc9edf0"), looks := true }, kinds := [], alts := [], laidByText := true, laidKinds := [.data, .pinned], laidTests := true, laidLooks := .later }
def CatalogFieldsUptoCardSaid : Prop := Claim7.holds Tryz.pinned (.plain (OpenSpec.upto catalogFieldsSpec)) catalogFieldsUptoCard
end Rows
end Go.Proofs.YtaoildofpnnaiaaGreatDoor
