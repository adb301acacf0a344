/-
  Printed by waysIN.py: runs of InheritMoves, how many.
-/
import Derived.Test.YtagkkgadnicniaaGreatDoorK2
set_option linter.unusedVariables false
set_option maxRecDepth 20000
namespace Go.Zev.Ih
open Go Go.Zev Go.Proofs
theorem moves4 (a0 a1 : Int) : lall (fun u => goT Tryz.prog (cfg mAll) (tab mAll) 4000 5 [.xi .i64 a0 (remX 5 4), .xi .i64 a1 (remX 5 u)]) (below 5) = true := by kernel_rfl
end Go.Zev.Ih
