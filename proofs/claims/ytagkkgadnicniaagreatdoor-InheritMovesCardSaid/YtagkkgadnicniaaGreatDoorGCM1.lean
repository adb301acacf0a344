/-
  Printed by closed.py: facts of the program's text that the row of InheritMoves bears.
-/
import Derived.Test.YtagkkgadnicniaaGreatDoorRows
import Derived.WalkKit
import Derived.ProofKit
import Derived.OpenShut
namespace Go.Proofs.YtagkkgadnicniaaGreatDoor.inheritMoves
theorem c_recurses : (Rows.inheritMovesRow.recurses == Tryz.pinned.checked.prog.recurses 5) = true := by kernel_rfl
theorem c_named : (Rows.inheritMovesRow.named == Tryz.pinned.checked.prog.varsNamed 5) = true := by kernel_rfl
end Go.Proofs.YtagkkgadnicniaaGreatDoor.inheritMoves
