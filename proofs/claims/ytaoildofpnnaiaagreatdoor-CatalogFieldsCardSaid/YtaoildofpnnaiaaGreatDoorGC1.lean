/-
  Printed by closed.py: facts of the program's text that the row of CatalogFields bears.
-/
import Derived.Test.YtaoildofpnnaiaaGreatDoorRows
import Derived.WalkKit
import Derived.ProofKit
import Derived.OpenShut
namespace Go.Proofs.YtaoildofpnnaiaaGreatDoor.catalogFields
theorem c_recurses : (Rows.catalogFieldsRow.recurses == Tryz.pinned.checked.prog.recurses 3) = true := by kernel_rfl
theorem c_named : (Rows.catalogFieldsRow.named == Tryz.pinned.checked.prog.varsNamed 3) = true := by kernel_rfl
end Go.Proofs.YtaoildofpnnaiaaGreatDoor.catalogFields
