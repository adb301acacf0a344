/-
  Printed by closed.py: facts of the program's text that the row of InheritSupers bears.
-/
import Derived.Test.YtagkkgadnicniaaGreatDoorRows
import Derived.WalkKit
import Derived.ProofKit
import Derived.OpenShut
namespace Go.Proofs.YtagkkgadnicniaaGreatDoor.inheritSupers
theorem c_inPlace : (Rows.inheritSupersRow.inPlace == Tryz.pinned.checked.prog.inPlace 4) = true := by kernel_rfl
theorem c_unfollowed : (Rows.inheritSupersRow.unfollowed == Tryz.pinned.checked.prog.unfollowed 4) = true := by kernel_rfl
end Go.Proofs.YtagkkgadnicniaaGreatDoor.inheritSupers
