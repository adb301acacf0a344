/-
  Printed by six.py: closed facts of the program's text that the card of SuiteBlanks asks.
-/
import Derived.Test.YtaidendlmkpajaaGreatDoorCards
import Derived.WalkKit
import Derived.ProofKit
import Derived.OpenShut
import Derived.SevenTiedAt
namespace Go.Proofs.YtaidendlmkpajaaGreatDoor.suiteBlanks
theorem h_goes : false = Rows.suiteBlanksRow.goesBy Tryz.pinned.checked.prog := by kernel_rfl
end Go.Proofs.YtaidendlmkpajaaGreatDoor.suiteBlanks
