/-
  Printed by closed.py: facts of the program's text that the row of CatalogFields bears.
-/
import Derived.Test.YtaoildofpnnaiaaGreatDoorRows
import Derived.WalkKit
import Derived.ProofKit
import Derived.OpenShut
namespace Go.Proofs.YtaoildofpnnaiaaGreatDoor.catalogFields
theorem c_inPlace : (Rows.catalogFieldsRow.inPlace == Tryz.pinned.checked.prog.inPlace 3) = true := by kernel_rfl
theorem c_unfollowed : (Rows.catalogFieldsRow.unfollowed == Tryz.pinned.checked.prog.unfollowed 3) = true := by kernel_rfl
end Go.Proofs.YtaoildofpnnaiaaGreatDoor.catalogFields
