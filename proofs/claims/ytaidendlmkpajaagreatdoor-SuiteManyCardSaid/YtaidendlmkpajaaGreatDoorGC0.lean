/-
  Printed by closed.py: facts of the program's text that the row of SuiteMany bears.
-/
import Derived.Test.YtaidendlmkpajaaGreatDoorRows
import Derived.WalkKit
import Derived.ProofKit
import Derived.OpenShut
namespace Go.Proofs.YtaidendlmkpajaaGreatDoor.suiteMany
theorem c_inPlace : (Rows.suiteManyRow.inPlace == Tryz.pinned.checked.prog.inPlace 4) = true := by kernel_rfl
theorem c_unfollowed : (Rows.suiteManyRow.unfollowed == Tryz.pinned.checked.prog.unfollowed 4) = true := by kernel_rfl
end Go.Proofs.YtaidendlmkpajaaGreatDoor.suiteMany
