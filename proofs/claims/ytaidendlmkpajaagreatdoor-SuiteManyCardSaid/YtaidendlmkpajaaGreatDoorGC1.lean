/-
  Printed by closed.py: facts of the program's text that the row of SuiteMany bears.
-/
import Derived.Test.YtaidendlmkpajaaGreatDoorRows
import Derived.WalkKit
import Derived.ProofKit
import Derived.OpenShut
namespace Go.Proofs.YtaidendlmkpajaaGreatDoor.suiteMany
theorem c_recurses : (Rows.suiteManyRow.recurses == Tryz.pinned.checked.prog.recurses 4) = true := by kernel_rfl
theorem c_named : (Rows.suiteManyRow.named == Tryz.pinned.checked.prog.varsNamed 4) = true := by kernel_rfl
end Go.Proofs.YtaidendlmkpajaaGreatDoor.suiteMany
