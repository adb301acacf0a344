/-
  Printed by closed.py: facts of the program's text that the row of InheritRenames bears.
-/
import Derived.Test.YtagkkgadnicniaaGreatDoorRows
import Derived.WalkKit
import Derived.ProofKit
import Derived.OpenShut
namespace Go.Proofs.YtagkkgadnicniaaGreatDoor.inheritRenames
theorem c_inPlace : (Rows.inheritRenamesRow.inPlace == Tryz.pinned.checked.prog.inPlace 3) = true := by kernel_rfl
theorem c_unfollowed : (Rows.inheritRenamesRow.unfollowed == Tryz.pinned.checked.prog.unfollowed 3) = true := by kernel_rfl
end Go.Proofs.YtagkkgadnicniaaGreatDoor.inheritRenames
