/-
  Printed by closed.py: facts of the program's text that the row of PolyNews bears.
-/
import Derived.Test.YtkhhemkkgblgiaaGreatDoorRows
import Derived.WalkKit
import Derived.ProofKit
import Derived.OpenShut
namespace Go.Proofs.YtkhhemkkgblgiaaGreatDoor.polyNews
theorem c_inPlace : (Rows.polyNewsRow.inPlace == Tryz.pinned.checked.prog.inPlace 5) = true := by kernel_rfl
theorem c_unfollowed : (Rows.polyNewsRow.unfollowed == Tryz.pinned.checked.prog.unfollowed 5) = true := by kernel_rfl
end Go.Proofs.YtkhhemkkgblgiaaGreatDoor.polyNews
