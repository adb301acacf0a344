/-
  Printed by waysSM.py: runs of SuiteMany, so many tests.
-/
import Derived.Test.YtaidendlmkpajaaGreatDoorK2
set_option linter.unusedVariables false
set_option maxRecDepth 20000
namespace Go.Zev.Su
open Go Go.Zev Go.Proofs
theorem sm0 (a0 : Int) : goT Tryz.prog (cfg mAll) (tab mAll) 4000 4 [.xi .i64 a0 (remX 8 0)] = true := by kernel_rfl
theorem sm1 (a0 : Int) : goT Tryz.prog (cfg mAll) (tab mAll) 4000 4 [.xi .i64 a0 (remX 8 1)] = true := by kernel_rfl
theorem sm2 (a0 : Int) : goT Tryz.prog (cfg mAll) (tab mAll) 4000 4 [.xi .i64 a0 (remX 8 2)] = true := by kernel_rfl
theorem sm3 (a0 : Int) : goT Tryz.prog (cfg mAll) (tab mAll) 4000 4 [.xi .i64 a0 (remX 8 3)] = true := by kernel_rfl
theorem sm4 (a0 : Int) : goT Tryz.prog (cfg mAll) (tab mAll) 4000 4 [.xi .i64 a0 (remX 8 4)] = true := by kernel_rfl
theorem sm5 (a0 : Int) : goT Tryz.prog (cfg mAll) (tab mAll) 4000 4 [.xi .i64 a0 (remX 8 5)] = true := by kernel_rfl
theorem sm6 (a0 : Int) : goT Tryz.prog (cfg mAll) (tab mAll) 4000 4 [.xi .i64 a0 (remX 8 6)] = true := by kernel_rfl
theorem sm7 (a0 : Int) : goT Tryz.prog (cfg mAll) (tab mAll) 4000 4 [.xi .i64 a0 (remX 8 7)] = true := by kernel_rfl
theorem manyWays (a0 : Int) : ∀ (r : Nat), r < 8 → goT Tryz.prog (cfg mAll) (tab mAll) 4000 4 [.xi .i64 a0 (remX 8 r)] = true
  | 0, _ => sm0 a0
  | 1, _ => sm1 a0
  | 2, _ => sm2 a0
  | 3, _ => sm3 a0
  | 4, _ => sm4 a0
  | 5, _ => sm5 a0
  | 6, _ => sm6 a0
  | 7, _ => sm7 a0
  | _ + 8, h => by omega
end Go.Zev.Su
