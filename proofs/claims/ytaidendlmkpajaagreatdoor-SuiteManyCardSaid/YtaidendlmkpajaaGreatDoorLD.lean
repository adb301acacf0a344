/-
  Printed by six.py: closed facts of the program's text that the card of SuiteMany asks.
-/
import Derived.Test.YtaidendlmkpajaaGreatDoorCards
import Derived.WalkKit
import Derived.ProofKit
import Derived.OpenShut
import Derived.SevenTiedAt
namespace Go.Proofs.YtaidendlmkpajaaGreatDoor.suiteMany
theorem h_goes : false = Rows.suiteManyRow.goesBy Tryz.pinned.checked.prog := by kernel_rfl
end Go.Proofs.YtaidendlmkpajaaGreatDoor.suiteMany
