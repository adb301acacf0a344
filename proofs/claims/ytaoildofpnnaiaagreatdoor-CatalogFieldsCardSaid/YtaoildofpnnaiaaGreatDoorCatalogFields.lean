/-
  CatalogFields: whatever int it is given, the law returns true; nothing that was there is changed.
-/
import Derived.Test.YtaoildofpnnaiaaGreatDoorLC
import Derived.Test.YtaoildofpnnaiaaGreatDoorLD
import Derived.Test.YtaoildofpnnaiaaGreatDoorLE
import Derived.Test.YtaoildofpnnaiaaGreatDoorGC0
import Derived.Test.YtaoildofpnnaiaaGreatDoorGC1
import Derived.Test.YtaoildofpnnaiaaGreatDoorRows
import Derived.Test.YtaoildofpnnaiaaGreatDoorGW
import Derived.WalkKit
import Derived.ProofKit
import Derived.OpenShut
import Derived.Lay
import Derived.LaidMore
import Derived.Stop.Joined
import Derived.SevenTiedAt
import Derived.Test.YtaoildofpnnaiaaGreatDoorCards
import Derived.Test.YtaoildofpnnaiaaGreatDoorTie
import Derived.Test.YtaoildofpnnaiaaGreatDoorLB
namespace Go.Proofs.YtaoildofpnnaiaaGreatDoor.catalogFields
open Go.ChangeShapes Go.WideShapes Go.ChangeAt Go.RowKit
set_option linter.unusedVariables false      -- a walk need not use every 'w<i>' (that an integer argument fits its kind)
/-- ████ THE STATEMENT ████ -/
theorem proved : Rows.CatalogFieldsCardSaid :=
  Claim7.holds_tied_plain_at .later [] [.data, .pinned] true (true, "a3ecf84b70e3a23bf7c18c5acd7ffa4d7b42a34b02bc9a809c1b15072fc9edf0") true over (fun _ h => by cases h) h_wf (fun _ h => by cases h) catalogFields_row_tie rfl ⟨rfl, rfl⟩ h_main rfl
    (fun f fn hf hfn => by
      obtain rfl : f = 3 := Option.some.inj (h_fn.symm.trans hf) |>.symm
      obtain rfl : fn = Tryz.f3 := (Option.some.inj (Tryz.func3.symm.trans hfn)).symm
      exact ⟨h_looks, fun j t ht => by
        rw [Tryz.params3] at ht
        have hm : t ∈ [3] := by simpa using Array.mem_of_getElem? ht
        have hall : ([3].all fun u => !Tryz.prog.wantsStandIn u) = true := h_all
        exact (show Tryz.prog.wantsStandIn t = false by simpa using List.all_eq_true.1 hall t hm)⟩)
    h_goes
#print axioms proved
end Go.Proofs.YtaoildofpnnaiaaGreatDoor.catalogFields
