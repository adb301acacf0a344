/-
  Printed by waysIN.py: all ways of InheritMoves.
-/
import Derived.Test.YtagkkgadnicniaaGreatDoorGM0
import Derived.Test.YtagkkgadnicniaaGreatDoorGM1
import Derived.Test.YtagkkgadnicniaaGreatDoorGM2
set_option linter.unusedVariables false
set_option maxRecDepth 20000
namespace Go.Zev.Ih
open Go Go.Zev Go.Proofs
theorem movesWays (a0 a1 : Int) : ∀ (r : Nat), r < 5 → lall (fun u => goT Tryz.prog (cfg mAll) (tab mAll) 4000 5 [.xi .i64 a0 (remX 5 r), .xi .i64 a1 (remX 5 u)]) (below 5) = true
  | 0, _ => moves0 a0 a1
  | 1, _ => moves1 a0 a1
  | 2, _ => moves2 a0 a1
  | 3, _ => moves3 a0 a1
  | 4, _ => moves4 a0 a1
  | _ + 5, h => by omega
end Go.Zev.Ih
