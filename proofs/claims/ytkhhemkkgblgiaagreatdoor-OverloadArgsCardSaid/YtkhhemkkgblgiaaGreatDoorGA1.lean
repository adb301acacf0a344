/-
  Printed by waysOA.py: runs of OverloadArgs, so many arguments.
-/
import Derived.Test.YtkhhemkkgblgiaaGreatDoorK2
set_option linter.unusedVariables false
set_option maxRecDepth 20000
namespace Go.Zev.Po
open Go Go.Zev Go.Proofs
theorem run4 (a0 a1 : Int) : lall (fun u => goT Tryz.prog (cfg mAll) (tab mAll) 4000 3 [.xi .i64 a0 (remX 7 4), .xi .i64 a1 (remX (4 - 2 + 1) u)]) (below (4 - 2 + 1)) = true := by kernel_rfl
theorem run5 (a0 a1 : Int) : lall (fun u => goT Tryz.prog (cfg mAll) (tab mAll) 4000 3 [.xi .i64 a0 (remX 7 5), .xi .i64 a1 (remX (5 - 2 + 1) u)]) (below (5 - 2 + 1)) = true := by kernel_rfl
end Go.Zev.Po
