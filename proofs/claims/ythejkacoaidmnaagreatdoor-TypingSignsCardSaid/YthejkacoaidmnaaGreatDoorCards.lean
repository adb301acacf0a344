/-
  DERIVED. GIVEN WITH THE SEED: THE CARDS: each row of YthejkacoaidmnaaGreatDoorRows.lean that lists a variable, with what it lists TIED to the program's text (the seventh form; the later family's looks); each row that meets fmt, with fmt's text TOLD by the authors' own Lean function (tested against real Go, not proved from fmt's source: count such statements apart). THE CARD IS WHAT COUNTS. Prove the row's statement (the work); the ties are given (YthejkacoaidmnaaGreatDoorTie.lean); close each card by the builder's one call (the guide's Derived/Test/ToyasCard.lean, 'card_holds'). Laid BY PROGRAM, IN A SANDBOX (cutbox-door.mjs). By AI agents, Wed Nov 11 2026. No macro, syntax, notation, axiom, sorry.
-/
import Derived.Test.YthejkacoaidmnaaGreatDoorRows
import GoSem.ClaimSeven
namespace Go.Proofs.YthejkacoaidmnaaGreatDoor
namespace Rows

/-- THE TIED CARD OF 'changelinglaw10.TypingSigns'. -/
def typingSignsCard : Claim7 := { stood := { row := typingSignsRow, standIns := [], harness := (true, "5f067dd8642402dbee8fb93ef00ae3d1bbae51bcee375ab6b752b3e6990858a2"), looks := true }, kinds := [], alts := [], laidByText := true, laidKinds := [.data, .pinned], laidTests := true, laidLooks := .later }
def TypingSignsCardSaid : Prop := Claim7.holds Tryz.pinned (.plain (OpenSpec.ofChange typingSignsSpec)) typingSignsCard

/-- THE SECOND FORM's CARD OF 'changelinglaw10.TypingSigns'. -/
def typingSignsUptoCard : Claim7 := { stood := { row := typingSignsUptoRow, standIns := [], harness := (true, "5f067dd8642402dbee8fb93ef00ae3d1bbae51bcee375ab6b752b3e6990858a2"), looks := true }, kinds := [], alts := [], laidByText := true, laidKinds := [.data, .pinned], laidTests := true, laidLooks := .later }
def TypingSignsUptoCardSaid : Prop := Claim7.holds Tryz.pinned (.plain (OpenSpec.upto typingSignsSpec)) typingSignsUptoCard
end Rows
end Go.Proofs.YthejkacoaidmnaaGreatDoor
