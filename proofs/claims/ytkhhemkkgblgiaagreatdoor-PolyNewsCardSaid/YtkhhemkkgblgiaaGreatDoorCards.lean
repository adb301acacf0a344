/-
  DERIVED. GIVEN WITH THE SEED: THE CARDS: each row of YtkhhemkkgblgiaaGreatDoorRows.lean that lists a variable, with what it lists TIED to the program's text (the seventh form; the later family's looks); each row that meets fmt, with fmt's text TOLD by the authors' own Lean function (tested against real Go, not proved from fmt's source: count such statements apart). THE CARD IS WHAT COUNTS. Prove the row's statement (the work); the ties are given (YtkhhemkkgblgiaaGreatDoorTie.lean); close each card by the builder's one call (the guide's Derived/Test/ToyasCard.lean, 'card_holds'). Laid BY PROGRAM, IN A SANDBOX (cutbox-door.mjs). By AI agents, Wed Nov 11 2026. No macro, syntax, notation, axiom, sorry.
-/
import Derived.Test.YtkhhemkkgblgiaaGreatDoorRows
import GoSem.ClaimSeven
namespace Go.Proofs.YtkhhemkkgblgiaaGreatDoor
namespace Rows

/-- THE TIED CARD OF 'changelinglaw20.OverloadArgs'. -/
def overloadArgsCard : Claim7 := { stood := { row := overloadArgsRow, standIns := [], harness := (true, "37049a4748f8cc79ffffc1a3199a35d96cac40c4841559ed89b071b0835d66a8"), looks := true }, kinds := [], alts := [], laidByText := true, laidKinds := [.data, .pinned], laidTests := true, laidLooks := .later }
def OverloadArgsCardSaid : Prop := Claim7.holds Tryz.pinned (.plain (OpenSpec.ofChange overloadArgsSpec)) overloadArgsCard

/-- THE TIED CARD OF 'changelinglaw20.OverloadTwins'. -/
def overloadTwinsCard : Claim7 := { stood := { row := overloadTwinsRow, standIns := [], harness := (true, "37049a4748f8cc79ffffc1a3199a35d96cac40c4841559ed89b071b0835d66a8"), looks := true }, kinds := [], alts := [], laidByText := true, laidKinds := [.data, .pinned], laidTests := true, laidLooks := .later }
def OverloadTwinsCardSaid : Prop := Claim7.holds Tryz.pinned (.plain (OpenSpec.ofChange overloadTwinsSpec)) overloadTwinsCard

/-- THE TIED CARD OF 'changelinglaw19.PolyNews'. -/
def polyNewsCard : Claim7 := { stood := { row := polyNewsRow, standIns := [], harness := (true, "37049a4748f8cc79ffffc1a3199a35d96cac40c4841559ed89b071b0835d66a8"), looks := true }, kinds := [], alts := [], laidByText := true, laidKinds := [.data, .pinned], laidTests := true, laidLooks := .later }
def PolyNewsCardSaid : Prop := Claim7.holds Tryz.pinned (.plain (OpenSpec.ofChange polyNewsSpec)) polyNewsCard

/-- THE SECOND FORM's CARD OF 'changelinglaw20.OverloadArgs'. -/
def overloadArgsUptoCard : Claim7 := { stood := { row := overloadArgsUptoRow, standIns := [], harness := (true, "37049a4748f8cc79ffffc1a3199a35d96cac40c4841559ed89b071b0835d66a8"), looks := true }, kinds := [], alts := [], laidByText := true, laidKinds := [.data, .pinned], laidTests := true, laidLooks := .later }
def OverloadArgsUptoCardSaid : Prop := Claim7.holds Tryz.pinned (.plain (OpenSpec.upto overloadArgsSpec)) overloadArgsUptoCard

/-- THE SECOND FORM's CARD OF 'changelinglaw20.OverloadTwins'. -/
def overloadTwinsUptoCard : Claim7 := { stood := { row := overloadTwinsUptoRow, standIns := [], harness := (true, "37049a4748f8cc79ffffc1a3199a35d96cac40c4841559ed89b071b0835d66a8"), looks := true }, kinds := [], alts := [], laidByText := true, laidKinds := [.data, .pinned], laidTests := true, laidLooks := .later }
def OverloadTwinsUptoCardSaid : Prop := Claim7.holds Tryz.pinned (.plain (OpenSpec.upto overloadTwinsSpec)) overloadTwinsUptoCard

/-- THE SECOND FORM's CARD OF 'changelinglaw19.PolyNews'. -/
def polyNewsUptoCard : Claim7 := { stood := { row := polyNewsUptoRow, standIns := [], harness := (true, "37049a4748f8cc79ffffc1a3199a35d96cac40c4841559ed89b071b0835d66a8"), looks := true }, kinds := [], alts := [], laidByText := true, laidKinds := [.data, .pinned], laidTests := true, laidLooks := .later }
def PolyNewsUptoCardSaid : Prop := Claim7.holds Tryz.pinned (.plain (OpenSpec.upto polyNewsSpec)) polyNewsUptoCard
end Rows
end Go.Proofs.YtkhhemkkgblgiaaGreatDoor
