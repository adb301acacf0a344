/-
  DERIVED. GIVEN WITH THE SEED: THE CARDS: each row of YtaidendlmkpajaaGreatDoorRows.lean that lists a variable, with what it lists TIED to the program's text (the seventh form; the later family's looks); each row that meets fmt, with fmt's text TOLD by the authors' own Lean function (tested against real Go, not proved from fmt's source: count such statements apart). THE CARD IS WHAT COUNTS. Prove the row's statement (the work); the ties are given (YtaidendlmkpajaaGreatDoorTie.lean); close each card by the builder's one call (the guide's Derived/Test/ToyasCard.lean, 'card_holds'). Laid BY PROGRAM, IN A SANDBOX (cutbox-door.mjs). By AI agents, Wed Nov 11 2026. No macro, syntax, notation, axiom, sorry.
-/
import Derived.Test.YtaidendlmkpajaaGreatDoorRows
import GoSem.ClaimSeven
namespace Go.Proofs.YtaidendlmkpajaaGreatDoor
namespace Rows

/-- THE TIED CARD OF 'changelinglaw24.SuiteBack'. -/
def suiteBackCard : Claim7 := { stood := { row := suiteBackRow, standIns := [], harness := (true, "ca9a9b1bad226c499bfc838380007cc561ba816195ba0aa132317a6795963a58"), looks := true }, kinds := [], alts := [], laidByText := true, laidKinds := [.data, .pinned], laidTests := true, laidLooks := .later }
def SuiteBackCardSaid : Prop := Claim7.holds Tryz.pinned (.plain (OpenSpec.ofChange suiteBackSpec)) suiteBackCard

/-- THE TIED CARD OF 'changelinglaw24.SuiteMany'. -/
def suiteManyCard : Claim7 := { stood := { row := suiteManyRow, standIns := [], harness := (true, "ca9a9b1bad226c499bfc838380007cc561ba816195ba0aa132317a6795963a58"), looks := true }, kinds := [], alts := [], laidByText := true, laidKinds := [.data, .pinned], laidTests := true, laidLooks := .later }
def SuiteManyCardSaid : Prop := Claim7.holds Tryz.pinned (.plain (OpenSpec.ofChange suiteManySpec)) suiteManyCard

/-- THE TIED CARD OF 'changelinglaw24.SuiteBlanks'. -/
def suiteBlanksCard : Claim7 := { stood := { row := suiteBlanksRow, standIns := [], harness := (true, "ca9a9b1bad226c499bfc838380007cc561ba816195ba0aa132317a6795963a58"), looks := true }, kinds := [], alts := [], laidByText := true, laidKinds := [.data, .pinned], laidTests := true, laidLooks := .later }
def SuiteBlanksCardSaid : Prop := Claim7.holds Tryz.pinned (.plain (OpenSpec.ofChange suiteBlanksSpec)) suiteBlanksCard

/-- THE SECOND FORM's CARD OF 'changelinglaw24.SuiteBack'. -/
def suiteBackUptoCard : Claim7 := { stood := { row := suiteBackUptoRow, standIns := [], harness := (true, "ca9a9b1bad226c499bfc838380007cc561ba816195ba0aa132317a6795963a58"), looks := true }, kinds := [], alts := [], laidByText := true, laidKinds := [.data, .pinned], laidTests := true, laidLooks := .later }
def SuiteBackUptoCardSaid : Prop := Claim7.holds Tryz.pinned (.plain (OpenSpec.upto suiteBackSpec)) suiteBackUptoCard

/-- THE SECOND FORM's CARD OF 'changelinglaw24.SuiteMany'. -/
def suiteManyUptoCard : Claim7 := { stood := { row := suiteManyUptoRow, standIns := [], harness := (true, "ca9a9b1bad226c499bfc838380007cc561ba816195ba0aa132317a6795963a58"), looks := true }, kinds := [], alts := [], laidByText := true, laidKinds := [.data, .pinned], laidTests := true, laidLooks := .later }
def SuiteManyUptoCardSaid : Prop := Claim7.holds Tryz.pinned (.plain (OpenSpec.upto suiteManySpec)) suiteManyUptoCard

/-- THE SECOND FORM's CARD OF 'changelinglaw24.SuiteBlanks'. -/
def suiteBlanksUptoCard : Claim7 := { stood := { row := suiteBlanksUptoRow, standIns := [], harness := (true, "ca9a9b1bad226c499bfc838380007cc561ba816195ba0aa132317a6795963a58"), looks := true }, kinds := [], alts := [], laidByText := true, laidKinds := [.data, .pinned], laidTests := true, laidLooks := .later }
def SuiteBlanksUptoCardSaid : Prop := Claim7.holds Tryz.pinned (.plain (OpenSpec.upto suiteBlanksSpec)) suiteBlanksUptoCard
end Rows
end Go.Proofs.YtaidendlmkpajaaGreatDoor
