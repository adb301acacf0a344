/-
  CatalogFields: whatever int it is given, the law returns true; nothing that was there is changed.
-/
import Derived.Test.YtaoildofpnnaiaaGreatDoorGC0
import Derived.Test.YtaoildofpnnaiaaGreatDoorGC1
import Derived.Test.YtaoildofpnnaiaaGreatDoorRows
import Derived.Test.YtaoildofpnnaiaaGreatDoorGW
import Derived.WalkKit
import Derived.ProofKit
import Derived.OpenShut
import Derived.Lay
import Derived.LaidMore
import Derived.Stop.Joined
import Derived.SevenTiedAt
import Derived.Test.YtaoildofpnnaiaaGreatDoorCards
import Derived.Test.YtaoildofpnnaiaaGreatDoorTie
import Derived.Test.YtaoildofpnnaiaaGreatDoorLA
namespace Go.Proofs.YtaoildofpnnaiaaGreatDoor.catalogFields
open Go.ChangeShapes Go.WideShapes Go.ChangeAt Go.RowKit
set_option linter.unusedVariables false      -- a walk need not use every 'w<i>' (that an integer argument fits its kind)
theorem over : Rows.catalogFieldsRow.holds Tryz.pinned (OpenSpec.ofChange Rows.catalogFieldsSpec) :=
  OpenClaim.holds_of_wide 3 Tryz.f3 rfl rfl rfl rfl rfl rfl rfl ⟨rfl, rfl, rfl, rfl, rfl⟩ rfl rfl rfl rfl rfl (by kernel_rfl) Tryz.func3 (by unfold joinedFacts; rw [c_inPlace, c_unfollowed, c_recurses, c_named]; kernel_rfl)
    (of_decide_eq_true (by kernel_rfl)) (by unfold Func.isWrapper; first | (rw [if_pos (by decide +kernel)]; kernel_rfl) | (rw [if_neg (by decide +kernel)]; exact ⟨rfl, rfl⟩))
    (fun os started H enc _ => lifted os started H enc)
end Go.Proofs.YtaoildofpnnaiaaGreatDoor.catalogFields
