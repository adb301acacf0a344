/-
  Printed by six.py: closed facts of the program's text that the card of CatalogFields asks.
-/
import Derived.Test.YtaoildofpnnaiaaGreatDoorCards
import Derived.WalkKit
import Derived.ProofKit
import Derived.OpenShut
import Derived.SevenTiedAt
namespace Go.Proofs.YtaoildofpnnaiaaGreatDoor.catalogFields
theorem h_goes : false = Rows.catalogFieldsRow.goesBy Tryz.pinned.checked.prog := by kernel_rfl
end Go.Proofs.YtaoildofpnnaiaaGreatDoor.catalogFields
