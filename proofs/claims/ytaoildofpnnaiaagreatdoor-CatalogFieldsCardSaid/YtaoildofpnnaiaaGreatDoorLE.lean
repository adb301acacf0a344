/-
  Printed by six.py: closed facts of the program's text that the card of CatalogFields asks.
-/
import Derived.Test.YtaoildofpnnaiaaGreatDoorCards
import Derived.WalkKit
import Derived.ProofKit
import Derived.OpenShut
import Derived.SevenTiedAt
namespace Go.Proofs.YtaoildofpnnaiaaGreatDoor.catalogFields
theorem h_main : Tryz.pinned.checked.prog.mainIs = some (true, "a3ecf84b70e3a23bf7c18c5acd7ffa4d7b42a34b02bc9a809c1b15072fc9edf0".toList) := by kernel_rfl
theorem h_wf : Rows.catalogFieldsRow.wfByText (OpenSpec.ofChange Rows.catalogFieldsSpec) = true := by kernel_rfl
theorem h_fn : Tryz.prog.funcNamed "changeling/changelinglaw22.CatalogFields" = some 3 := by kernel_rfl
theorem h_all : ([3].all fun u => !Tryz.prog.wantsStandIn u) = true := by kernel_rfl
end Go.Proofs.YtaoildofpnnaiaaGreatDoor.catalogFields
