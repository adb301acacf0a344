/-
  Printed by waysOA.py: runs of OverloadArgs, so many arguments.
-/
import Derived.Test.YtkhhemkkgblgiaaGreatDoorK2
set_option linter.unusedVariables false
set_option maxRecDepth 20000
namespace Go.Zev.Po
open Go Go.Zev Go.Proofs
theorem run0 (a0 a1 : Int) : lall (fun u => goT Tryz.prog (cfg mAll) (tab mAll) 4000 3 [.xi .i64 a0 (remX 7 0), .xi .i64 a1 (remX (0 - 2 + 1) u)]) (below (0 - 2 + 1)) = true := by kernel_rfl
theorem run1 (a0 a1 : Int) : lall (fun u => goT Tryz.prog (cfg mAll) (tab mAll) 4000 3 [.xi .i64 a0 (remX 7 1), .xi .i64 a1 (remX (1 - 2 + 1) u)]) (below (1 - 2 + 1)) = true := by kernel_rfl
theorem run2 (a0 a1 : Int) : lall (fun u => goT Tryz.prog (cfg mAll) (tab mAll) 4000 3 [.xi .i64 a0 (remX 7 2), .xi .i64 a1 (remX (2 - 2 + 1) u)]) (below (2 - 2 + 1)) = true := by kernel_rfl
theorem run3 (a0 a1 : Int) : lall (fun u => goT Tryz.prog (cfg mAll) (tab mAll) 4000 3 [.xi .i64 a0 (remX 7 3), .xi .i64 a1 (remX (3 - 2 + 1) u)]) (below (3 - 2 + 1)) = true := by kernel_rfl
end Go.Zev.Po
