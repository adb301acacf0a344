/-
  Printed by closed.py: facts of the program's text that the row of PolyNews bears.
-/
import Derived.Test.YtkhhemkkgblgiaaGreatDoorRows
import Derived.WalkKit
import Derived.ProofKit
import Derived.OpenShut
namespace Go.Proofs.YtkhhemkkgblgiaaGreatDoor.polyNews
theorem c_recurses : (Rows.polyNewsRow.recurses == Tryz.pinned.checked.prog.recurses 5) = true := by kernel_rfl
theorem c_named : (Rows.polyNewsRow.named == Tryz.pinned.checked.prog.varsNamed 5) = true := by kernel_rfl
end Go.Proofs.YtkhhemkkgblgiaaGreatDoor.polyNews
