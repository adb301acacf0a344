/-
  SuiteMany: whatever int it is given, the law returns true; nothing that was there is changed.
-/
import Derived.Test.YtaidendlmkpajaaGreatDoorGC0
import Derived.Test.YtaidendlmkpajaaGreatDoorGC1
import Derived.Test.YtaidendlmkpajaaGreatDoorRows
import Derived.Test.YtaidendlmkpajaaGreatDoorGW
import Derived.Test.YtaidendlmkpajaaGreatDoorZ3
import Derived.WalkKit
import Derived.ProofKit
import Derived.OpenShut
import Derived.Lay
import Derived.LaidMore
import Derived.Stop.Joined
import Derived.SevenTiedAt
import Derived.Test.YtaidendlmkpajaaGreatDoorCards
import Derived.Test.YtaidendlmkpajaaGreatDoorTie
import Derived.Test.YtaidendlmkpajaaGreatDoorLA
namespace Go.Proofs.YtaidendlmkpajaaGreatDoor.suiteMany
open Go.ChangeShapes Go.WideShapes Go.ChangeAt Go.RowKit
set_option linter.unusedVariables false      -- a walk need not use every 'w<i>' (that an integer argument fits its kind)
theorem over : Rows.suiteManyRow.holds Tryz.pinned (OpenSpec.ofChange Rows.suiteManySpec) :=
  OpenClaim.holds_of_wide 4 Tryz.f4 rfl rfl rfl rfl rfl rfl rfl ⟨rfl, rfl, rfl, rfl, rfl⟩ rfl rfl rfl rfl rfl (by kernel_rfl) Tryz.func4 (by unfold joinedFacts; rw [c_inPlace, c_unfollowed, c_recurses, c_named]; kernel_rfl)
    (of_decide_eq_true (by kernel_rfl)) (by unfold Func.isWrapper; first | (rw [if_pos (by decide +kernel)]; kernel_rfl) | (rw [if_neg (by decide +kernel)]; exact ⟨rfl, rfl⟩))
    (fun os started H enc _ => lifted os started H enc)
end Go.Proofs.YtaidendlmkpajaaGreatDoor.suiteMany
