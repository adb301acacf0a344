/-
  Printed by closed.py: facts of the program's text that the row of InheritMoves bears.
-/
import Derived.Test.YtagkkgadnicniaaGreatDoorRows
import Derived.WalkKit
import Derived.ProofKit
import Derived.OpenShut
namespace Go.Proofs.YtagkkgadnicniaaGreatDoor.inheritMoves
theorem c_inPlace : (Rows.inheritMovesRow.inPlace == Tryz.pinned.checked.prog.inPlace 5) = true := by kernel_rfl
theorem c_unfollowed : (Rows.inheritMovesRow.unfollowed == Tryz.pinned.checked.prog.unfollowed 5) = true := by kernel_rfl
end Go.Proofs.YtagkkgadnicniaaGreatDoor.inheritMoves
