/-
  Printed by waysOA.py: all ways of OverloadArgs.
-/
import Derived.Test.YtkhhemkkgblgiaaGreatDoorGA0
import Derived.Test.YtkhhemkkgblgiaaGreatDoorGA1
import Derived.Test.YtkhhemkkgblgiaaGreatDoorGA2
set_option linter.unusedVariables false
set_option maxRecDepth 20000
namespace Go.Zev.Po
open Go Go.Zev Go.Proofs
theorem runs (a0 a1 : Int) : ∀ (r : Nat), r < 7 → lall (fun u => goT Tryz.prog (cfg mAll) (tab mAll) 4000 3 [.xi .i64 a0 (remX 7 r), .xi .i64 a1 (remX (r - 2 + 1) u)]) (below (r - 2 + 1)) = true
  | 0, _ => run0 a0 a1
  | 1, _ => run1 a0 a1
  | 2, _ => run2 a0 a1
  | 3, _ => run3 a0 a1
  | 4, _ => run4 a0 a1
  | 5, _ => run5 a0 a1
  | 6, _ => run6 a0 a1
  | _ + 7, h => by omega
end Go.Zev.Po
