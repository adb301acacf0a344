/-
  DERIVED. GIVEN WITH THE SEED: THE CARDS: each row of YtagkkgadnicniaaGreatDoorRows.lean that lists a variable, with what it lists TIED to the program's text (the seventh form; the later family's looks); each row that meets fmt, with fmt's text TOLD by the authors' own Lean function (tested against real Go, not proved from fmt's source: count such statements apart). THE CARD IS WHAT COUNTS. Prove the row's statement (the work); the ties are given (YtagkkgadnicniaaGreatDoorTie.lean); close each card by the builder's one call (the guide's Derived/Test/ToyasCard.lean, 'card_holds'). Laid BY PROGRAM, IN A SANDBOX (cutbox-door.mjs). By AI agents, Wed Nov 11 2026. No macro, syntax, notation, axiom, sorry.
-/
import Derived.Test.YtagkkgadnicniaaGreatDoorRows
import GoSem.ClaimSeven
namespace Go.Proofs.YtagkkgadnicniaaGreatDoor
namespace Rows

/-- THE TIED CARD OF 'changelinglaw18.InheritRenames'. -/
def inheritRenamesCard : Claim7 := { stood := { row := inheritRenamesRow, standIns := [], harness := (true, "4247e6f640504987e6c5bffdb3b672368ac2da01cb6ac2abebd1892f74106e07"), looks := true }, kinds := [], alts := [], laidByText := true, laidKinds := [.data, .pinned], laidTests := true, laidLooks := .later }
def InheritRenamesCardSaid : Prop := Claim7.holds Tryz.pinned (.plain (OpenSpec.ofChange inheritRenamesSpec)) inheritRenamesCard

/-- THE TIED CARD OF 'changelinglaw18.InheritSupers'. -/
def inheritSupersCard : Claim7 := { stood := { row := inheritSupersRow, standIns := [], harness := (true, "4247e6f640504987e6c5bffdb3b672368ac2da01cb6ac2abebd1892f74106e07"), looks := true }, kinds := [], alts := [], laidByText := true, laidKinds := [.data, .pinned], laidTests := true, laidLooks := .later }
def InheritSupersCardSaid : Prop := Claim7.holds Tryz.pinned (.plain (OpenSpec.ofChange inheritSupersSpec)) inheritSupersCard

/-- THE TIED CARD OF 'changelinglaw18.InheritMoves'. -/
def inheritMovesCard : Claim7 := { stood := { row := inheritMovesRow, standIns := [], harness := (true, "4247e6f640504987e6c5bffdb3b672368ac2da01cb6ac2abebd1892f74106e07"), looks := true }, kinds := [], alts := [], laidByText := true, laidKinds := [.data, .pinned], laidTests := true, laidLooks := .later }
def InheritMovesCardSaid : Prop := Claim7.holds Tryz.pinned (.plain (OpenSpec.ofChange inheritMovesSpec)) inheritMovesCard

/-- THE SECOND FORM's CARD OF 'changelinglaw18.InheritRenames'. -/
def inheritRenamesUptoCard : Claim7 := { stood := { row := inheritRenamesUptoRow, standIns := [], harness := (true, "4247e6f640504987e6c5bffdb3b672368ac2da01cb6ac2abebd1892f74106e07"), looks := true }, kinds := [], alts := [], laidByText := true, laidKinds := [.data, .pinned], laidTests := true, laidLooks := .later }
def InheritRenamesUptoCardSaid : Prop := Claim7.holds Tryz.pinned (.plain (OpenSpec.upto inheritRenamesSpec)) inheritRenamesUptoCard

/-- THE SECOND FORM's CARD OF 'changelinglaw18.InheritSupers'. -/
def inheritSupersUptoCard : Claim7 := { stood := { row := inheritSupersUptoRow, standIns := [], harness := (true, "4247e6f640504987e6c5bffdb3b672368ac2da01cb6ac2abebd1892f74106e07"), looks := true }, kinds := [], alts := [], laidByText := true, laidKinds := [.data, .pinned], laidTests := true, laidLooks := .later }
def InheritSupersUptoCardSaid : Prop := Claim7.holds Tryz.pinned (.plain (OpenSpec.upto inheritSupersSpec)) inheritSupersUptoCard

/-- THE SECOND FORM's CARD OF 'changelinglaw18.InheritMoves'. -/
def inheritMovesUptoCard : Claim7 := { stood := { row := inheritMovesUptoRow, standIns := [], harness := (true, "4247e6f640504987e6c5bffdb3b672368ac2da01cb6ac2abebd1892f74106e07"), looks := true }, kinds := [], alts := [], laidByText := true, laidKinds := [.data, .pinned], laidTests := true, laidLooks := .later }
def InheritMovesUptoCardSaid : Prop := Claim7.holds Tryz.pinned (.plain (OpenSpec.upto inheritMovesSpec)) inheritMovesUptoCard
end Rows
end Go.Proofs.YtagkkgadnicniaaGreatDoor
