/-
  Printed by closed.py: facts of the program's text that the row of SuiteBlanks bears.
-/
import Derived.Test.YtaidendlmkpajaaGreatDoorRows
import Derived.WalkKit
import Derived.ProofKit
import Derived.OpenShut
namespace Go.Proofs.YtaidendlmkpajaaGreatDoor.suiteBlanks
theorem c_recurses : (Rows.suiteBlanksRow.recurses == Tryz.pinned.checked.prog.recurses 5) = true := by kernel_rfl
theorem c_named : (Rows.suiteBlanksRow.named == Tryz.pinned.checked.prog.varsNamed 5) = true := by kernel_rfl
end Go.Proofs.YtaidendlmkpajaaGreatDoor.suiteBlanks
