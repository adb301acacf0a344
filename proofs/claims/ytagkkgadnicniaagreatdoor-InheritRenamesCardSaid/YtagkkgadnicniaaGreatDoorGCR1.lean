/-
  Printed by closed.py: facts of the program's text that the row of InheritRenames bears.
-/
import Derived.Test.YtagkkgadnicniaaGreatDoorRows
import Derived.WalkKit
import Derived.ProofKit
import Derived.OpenShut
namespace Go.Proofs.YtagkkgadnicniaaGreatDoor.inheritRenames
theorem c_recurses : (Rows.inheritRenamesRow.recurses == Tryz.pinned.checked.prog.recurses 3) = true := by kernel_rfl
theorem c_named : (Rows.inheritRenamesRow.named == Tryz.pinned.checked.prog.varsNamed 3) = true := by kernel_rfl
end Go.Proofs.YtagkkgadnicniaaGreatDoor.inheritRenames
