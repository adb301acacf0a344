/-
  Printed by six.py: closed facts of the program's text that the card of SuiteBlanks asks.
-/
import Derived.Test.YtaidendlmkpajaaGreatDoorCards
import Derived.WalkKit
import Derived.ProofKit
import Derived.OpenShut
import Derived.SevenTiedAt
namespace Go.Proofs.YtaidendlmkpajaaGreatDoor.suiteBlanks
theorem h_main : Tryz.pinned.checked.prog.mainIs = some (true, "ca9a9b1bad226c499bfc838380007cc561ba816195ba0aa132317a6795963a58".toList) := by kernel_rfl
theorem h_wf : Rows.suiteBlanksRow.wfByText (OpenSpec.ofChange Rows.suiteBlanksSpec) = true := by kernel_rfl
theorem h_fn : Tryz.prog.funcNamed "changeling/changelinglaw24.SuiteBlanks" = some 5 := by kernel_rfl
theorem h_all : ([3, 3, 3].all fun u => !Tryz.prog.wantsStandIn u) = true := by kernel_rfl
end Go.Proofs.YtaidendlmkpajaaGreatDoor.suiteBlanks
