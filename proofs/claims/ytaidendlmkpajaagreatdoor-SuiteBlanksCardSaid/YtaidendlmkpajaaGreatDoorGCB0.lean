/-
  Printed by closed.py: facts of the program's text that the row of SuiteBlanks bears.
-/
import Derived.Test.YtaidendlmkpajaaGreatDoorRows
import Derived.WalkKit
import Derived.ProofKit
import Derived.OpenShut
namespace Go.Proofs.YtaidendlmkpajaaGreatDoor.suiteBlanks
theorem c_inPlace : (Rows.suiteBlanksRow.inPlace == Tryz.pinned.checked.prog.inPlace 5) = true := by kernel_rfl
theorem c_unfollowed : (Rows.suiteBlanksRow.unfollowed == Tryz.pinned.checked.prog.unfollowed 5) = true := by kernel_rfl
end Go.Proofs.YtaidendlmkpajaaGreatDoor.suiteBlanks
