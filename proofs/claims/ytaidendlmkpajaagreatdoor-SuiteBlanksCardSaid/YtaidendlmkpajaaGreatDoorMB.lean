/-
  SuiteBlanks: whatever three ints it is given, the law returns true; nothing that was there is changed.
-/
import Derived.Test.YtaidendlmkpajaaGreatDoorGCB0
import Derived.Test.YtaidendlmkpajaaGreatDoorGCB1
import Derived.Test.YtaidendlmkpajaaGreatDoorRows
import Derived.Test.YtaidendlmkpajaaGreatDoorGNJ
import Derived.Test.YtaidendlmkpajaaGreatDoorZ3
import Derived.WalkKit
import Derived.ProofKit
import Derived.OpenShut
import Derived.Lay
import Derived.LaidMore
import Derived.Stop.Joined
import Derived.SevenTiedAt
import Derived.Test.YtaidendlmkpajaaGreatDoorCards
import Derived.Test.YtaidendlmkpajaaGreatDoorTie
import Derived.Test.YtaidendlmkpajaaGreatDoorMA
namespace Go.Proofs.YtaidendlmkpajaaGreatDoor.suiteBlanks
open Go.ChangeShapes Go.WideShapes Go.ChangeAt Go.RowKit
set_option linter.unusedVariables false      -- a walk need not use every 'w<i>' (that an integer argument fits its kind)
theorem over : Rows.suiteBlanksRow.holds Tryz.pinned (OpenSpec.ofChange Rows.suiteBlanksSpec) :=
  OpenClaim.holds_of_wide 5 Tryz.f5 rfl rfl rfl rfl rfl rfl rfl ⟨rfl, rfl, rfl, rfl, rfl⟩ rfl rfl rfl rfl rfl (by kernel_rfl) Tryz.func5 (by unfold joinedFacts; rw [c_inPlace, c_unfollowed, c_recurses, c_named]; kernel_rfl)
    (of_decide_eq_true (by kernel_rfl)) (by unfold Func.isWrapper; first | (rw [if_pos (by decide +kernel)]; kernel_rfl) | (rw [if_neg (by decide +kernel)]; exact ⟨rfl, rfl⟩))
    (fun os started H enc _ => lifted os started H enc)
end Go.Proofs.YtaidendlmkpajaaGreatDoor.suiteBlanks
