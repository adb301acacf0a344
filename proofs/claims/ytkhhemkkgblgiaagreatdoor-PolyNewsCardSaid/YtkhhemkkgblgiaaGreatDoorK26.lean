/-
  Printed by waysPN.py: runs of PolyNews, so many classes, so many ways.
-/
import Derived.Test.YtkhhemkkgblgiaaGreatDoorK11
set_option linter.unusedVariables false
set_option maxRecDepth 20000
namespace Go.Zev.Pn
open Go Go.Zev Go.Proofs
theorem run3_1_3 (a0 a1 a2 : Int) : lall (fun t => goT Tryz.prog (cfg mAll) (tab mAll) 4000 5 [.xi .i64 a0 (remX 5 3), .xi .i64 a1 (remX 5 1), .xi .i64 a2 (remX 4 t)]) [3] = true := by kernel_rfl
end Go.Zev.Pn
