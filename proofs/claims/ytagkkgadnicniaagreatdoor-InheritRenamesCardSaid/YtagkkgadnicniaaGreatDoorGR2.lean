/-
  Printed by waysIN.py: all ways of InheritRenames.
-/
import Derived.Test.YtagkkgadnicniaaGreatDoorGR0
import Derived.Test.YtagkkgadnicniaaGreatDoorGR1
set_option linter.unusedVariables false
set_option maxRecDepth 20000
namespace Go.Zev.Ih
open Go Go.Zev Go.Proofs
theorem renamesWays (a0 : Int) : ∀ (r : Nat), r < 6 → goT Tryz.prog (cfg mAll) (tab mAll) 4000 3 [.xi .i64 a0 (remX 6 r)] = true
  | 0, _ => renames0 a0
  | 1, _ => renames1 a0
  | 2, _ => renames2 a0
  | 3, _ => renames3 a0
  | 4, _ => renames4 a0
  | 5, _ => renames5 a0
  | _ + 6, h => by omega
end Go.Zev.Ih
