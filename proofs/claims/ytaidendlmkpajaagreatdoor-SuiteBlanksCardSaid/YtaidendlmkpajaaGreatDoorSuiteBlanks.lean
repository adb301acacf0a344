/-
  SuiteBlanks: whatever three ints it is given, the law returns true; nothing that was there is changed.
-/
import Derived.Test.YtaidendlmkpajaaGreatDoorMC
import Derived.Test.YtaidendlmkpajaaGreatDoorMD
import Derived.Test.YtaidendlmkpajaaGreatDoorME
import Derived.Test.YtaidendlmkpajaaGreatDoorGCB0
import Derived.Test.YtaidendlmkpajaaGreatDoorGCB1
import Derived.Test.YtaidendlmkpajaaGreatDoorRows
import Derived.Test.YtaidendlmkpajaaGreatDoorGNJ
import Derived.Test.YtaidendlmkpajaaGreatDoorZ3
import Derived.WalkKit
import Derived.ProofKit
import Derived.OpenShut
import Derived.Lay
import Derived.LaidMore
import Derived.Stop.Joined
import Derived.SevenTiedAt
import Derived.Test.YtaidendlmkpajaaGreatDoorCards
import Derived.Test.YtaidendlmkpajaaGreatDoorTie
import Derived.Test.YtaidendlmkpajaaGreatDoorMB
namespace Go.Proofs.YtaidendlmkpajaaGreatDoor.suiteBlanks
open Go.ChangeShapes Go.WideShapes Go.ChangeAt Go.RowKit
set_option linter.unusedVariables false      -- a walk need not use every 'w<i>' (that an integer argument fits its kind)
/-- ████ THE STATEMENT ████ -/
theorem proved : Rows.SuiteBlanksCardSaid :=
  Claim7.holds_tied_plain_at .later [] [.data, .pinned] true (true, "ca9a9b1bad226c499bfc838380007cc561ba816195ba0aa132317a6795963a58") true over (fun _ h => by cases h) h_wf (fun _ h => by cases h) suiteBlanks_row_tie rfl ⟨rfl, rfl⟩ h_main rfl
    (fun f fn hf hfn => by
      obtain rfl : f = 5 := Option.some.inj (h_fn.symm.trans hf) |>.symm
      obtain rfl : fn = Tryz.f5 := (Option.some.inj (Tryz.func5.symm.trans hfn)).symm
      exact ⟨h_looks, fun j t ht => by
        rw [Tryz.params5] at ht
        have hm : t ∈ [3, 3, 3] := by simpa using Array.mem_of_getElem? ht
        have hall : ([3, 3, 3].all fun u => !Tryz.prog.wantsStandIn u) = true := h_all
        exact (show Tryz.prog.wantsStandIn t = false by simpa using List.all_eq_true.1 hall t hm)⟩)
    h_goes
#print axioms proved
end Go.Proofs.YtaidendlmkpajaaGreatDoor.suiteBlanks
