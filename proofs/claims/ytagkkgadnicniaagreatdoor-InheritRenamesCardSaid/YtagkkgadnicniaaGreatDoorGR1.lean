/-
  Printed by waysIN.py: runs of InheritRenames, how often.
-/
import Derived.Test.YtagkkgadnicniaaGreatDoorK2
set_option linter.unusedVariables false
set_option maxRecDepth 20000
namespace Go.Zev.Ih
open Go Go.Zev Go.Proofs
theorem renames4 (a0 : Int) : goT Tryz.prog (cfg mAll) (tab mAll) 4000 3 [.xi .i64 a0 (remX 6 4)] = true := by kernel_rfl
theorem renames5 (a0 : Int) : goT Tryz.prog (cfg mAll) (tab mAll) 4000 3 [.xi .i64 a0 (remX 6 5)] = true := by kernel_rfl
end Go.Zev.Ih
