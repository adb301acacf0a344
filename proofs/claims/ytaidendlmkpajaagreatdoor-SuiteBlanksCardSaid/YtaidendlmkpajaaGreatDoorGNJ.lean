/-
  Printed by waysSM.py: all ways of SuiteBlanks.
-/
import Derived.Test.YtaidendlmkpajaaGreatDoorGN0
import Derived.Test.YtaidendlmkpajaaGreatDoorGN1
import Derived.Test.YtaidendlmkpajaaGreatDoorGN2
import Derived.Test.YtaidendlmkpajaaGreatDoorGN3
import Derived.Test.YtaidendlmkpajaaGreatDoorGN4
import Derived.Test.YtaidendlmkpajaaGreatDoorGN5
import Derived.Test.YtaidendlmkpajaaGreatDoorGN6
import Derived.Test.YtaidendlmkpajaaGreatDoorGN7
import Derived.Test.YtaidendlmkpajaaGreatDoorGN8
import Derived.Test.YtaidendlmkpajaaGreatDoorGN9
set_option linter.unusedVariables false
set_option maxRecDepth 20000
namespace Go.Zev.Su
open Go Go.Zev Go.Proofs
theorem blanksWays (x y z : Int) : ∀ (a : Nat), a < 10 → ∀ (b : Nat), b < 10 → lall (fun c => wayN x y z a b c) (below 10) = true
  | 0, _ => sb0 x y z
  | 1, _ => sb1 x y z
  | 2, _ => sb2 x y z
  | 3, _ => sb3 x y z
  | 4, _ => sb4 x y z
  | 5, _ => sb5 x y z
  | 6, _ => sb6 x y z
  | 7, _ => sb7 x y z
  | 8, _ => sb8 x y z
  | 9, _ => sb9 x y z
  | _ + 10, h => by omega
end Go.Zev.Su
