/-
  DERIVED. GIVEN WITH THE SEED: THE CARDS: each row of YteibcpcfpdiphaaGreatDoorRows.lean that lists a variable, with what it lists TIED to the program's text (the seventh form; the later family's looks); each row that meets fmt, with fmt's text TOLD by the authors' own Lean function (tested against real Go, not proved from fmt's source: count such statements apart). THE CARD IS WHAT COUNTS. Prove the row's statement (the work); the ties are given (YteibcpcfpdiphaaGreatDoorTie.lean); close each card by the builder's one call (the guide's Derived/Test/ToyasCard.lean, 'card_holds'). Laid BY PROGRAM, IN A SANDBOX (cutbox-door.mjs). By AI agents, Wed Nov 11 2026. No macro, syntax, notation, axiom, sorry.
-/
import Derived.Test.YteibcpcfpdiphaaGreatDoorRows
import GoSem.ClaimSeven
namespace Go.Proofs.YteibcpcfpdiphaaGreatDoor
namespace Rows

/-- THE TIED CARD OF 'changelinglaw12.BindScopes'. -/
def bindScopesCard : Claim7 := { stood := { row := bindScopesRow, standIns := [], harness := (true, "df8403f2f058ee219799f155b0a13b7dc4bbd59d4a407ee81c2c1eef028e493a"), looks := true }, kinds := [], alts := [], laidByText := true, laidKinds := [.data, .pinned], laidTests := true, laidLooks := .later }
def BindScopesCardSaid : Prop := Claim7.holds Tryz.pinned (.plain (OpenSpec.ofChange bindScopesSpec)) bindScopesCard

/-- THE TIED CARD OF 'changelinglaw12.BindReturns'. -/
def bindReturnsCard : Claim7 := { stood := { row := bindReturnsRow, standIns := [], harness := (true, "df8403f2f058ee219799f155b0a13b7dc4bbd59d4a407ee81c2c1eef028e493a"), looks := true }, kinds := [], alts := [], laidByText := true, laidKinds := [.data, .pinned], laidTests := true, laidLooks := .later }
def BindReturnsCardSaid : Prop := Claim7.holds Tryz.pinned (.plain (OpenSpec.ofChange bindReturnsSpec)) bindReturnsCard

/-- THE TIED CARD OF 'changelinglaw12.BindSupers'. -/
def bindSupersCard : Claim7 := { stood := { row := bindSupersRow, standIns := [], harness := (true, "df8403f2f058ee219799f155b0a13b7dc4bbd59d4a407ee81c2c1eef028e493a"), looks := true }, kinds := [], alts := [], laidByText := true, laidKinds := [.data, .pinned], laidTests := true, laidLooks := .later }
def BindSupersCardSaid : Prop := Claim7.holds Tryz.pinned (.plain (OpenSpec.ofChange bindSupersSpec)) bindSupersCard

/-- THE SECOND FORM's CARD OF 'changelinglaw12.BindScopes'. -/
def bindScopesUptoCard : Claim7 := { stood := { row := bindScopesUptoRow, standIns := [], harness := (true, "df8403f2f058ee219799f155b0a13b7dc4bbd59d4a407ee81c2c1eef028e493a"), looks := true }, kinds := [], alts := [], laidByText := true, laidKinds := [.data, .pinned], laidTests := true, laidLooks := .later }
def BindScopesUptoCardSaid : Prop := Claim7.holds Tryz.pinned (.plain (OpenSpec.upto bindScopesSpec)) bindScopesUptoCard

/-- THE SECOND FORM's CARD OF 'changelinglaw12.BindReturns'. -/
def bindReturnsUptoCard : Claim7 := { stood := { row := bindReturnsUptoRow, standIns := [], harness := (true, "df8403f2f058ee219799f155b0a13b7dc4bbd59d4a407ee81c2c1eef028e493a"), looks := true }, kinds := [], alts := [], laidByText := true, laidKinds := [.data, .pinned], laidTests := true, laidLooks := .later }
def BindReturnsUptoCardSaid : Prop := Claim7.holds Tryz.pinned (.plain (OpenSpec.upto bindReturnsSpec)) bindReturnsUptoCard

/-- THE SECOND FORM's CARD OF 'changelinglaw12.BindSupers'. -/
def bindSupersUptoCard : Claim7 := { stood := { row := bindSupersUptoRow, standIns := [], harness := (true, "df8403f2f058ee219799f155b0a13b7dc4bbd59d4a407ee81c2c1eef028e493a"), looks := true }, kinds := [], alts := [], laidByText := true, laidKinds := [.data, .pinned], laidTests := true, laidLooks := .later }
def BindSupersUptoCardSaid : Prop := Claim7.holds Tryz.pinned (.plain (OpenSpec.upto bindSupersSpec)) bindSupersUptoCard
end Rows
end Go.Proofs.YteibcpcfpdiphaaGreatDoor
