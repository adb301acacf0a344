/-
  Printed by waysCF.py: runs of CatalogFields, so many fields.
-/
import Derived.Test.YtaoildofpnnaiaaGreatDoorK6
set_option linter.unusedVariables false
set_option maxRecDepth 20000
namespace Go.Zev.Cf
open Go Go.Zev Go.Proofs
theorem cf0 (a0 : Int) : goT Tryz.prog (cfg mAll) (tab mAll) 4000 3 [.xi .i64 a0 (remX 13 0)] = true := by kernel_rfl
theorem cf1 (a0 : Int) : goT Tryz.prog (cfg mAll) (tab mAll) 4000 3 [.xi .i64 a0 (remX 13 1)] = true := by kernel_rfl
theorem cf2 (a0 : Int) : goT Tryz.prog (cfg mAll) (tab mAll) 4000 3 [.xi .i64 a0 (remX 13 2)] = true := by kernel_rfl
theorem cf3 (a0 : Int) : goT Tryz.prog (cfg mAll) (tab mAll) 4000 3 [.xi .i64 a0 (remX 13 3)] = true := by kernel_rfl
theorem cf4 (a0 : Int) : goT Tryz.prog (cfg mAll) (tab mAll) 4000 3 [.xi .i64 a0 (remX 13 4)] = true := by kernel_rfl
theorem cf5 (a0 : Int) : goT Tryz.prog (cfg mAll) (tab mAll) 4000 3 [.xi .i64 a0 (remX 13 5)] = true := by kernel_rfl
theorem cf6 (a0 : Int) : goT Tryz.prog (cfg mAll) (tab mAll) 4000 3 [.xi .i64 a0 (remX 13 6)] = true := by kernel_rfl
theorem cf7 (a0 : Int) : goT Tryz.prog (cfg mAll) (tab mAll) 4000 3 [.xi .i64 a0 (remX 13 7)] = true := by kernel_rfl
theorem cf8 (a0 : Int) : goT Tryz.prog (cfg mAll) (tab mAll) 4000 3 [.xi .i64 a0 (remX 13 8)] = true := by kernel_rfl
theorem cf9 (a0 : Int) : goT Tryz.prog (cfg mAll) (tab mAll) 4000 3 [.xi .i64 a0 (remX 13 9)] = true := by kernel_rfl
theorem cf10 (a0 : Int) : goT Tryz.prog (cfg mAll) (tab mAll) 4000 3 [.xi .i64 a0 (remX 13 10)] = true := by kernel_rfl
theorem cf11 (a0 : Int) : goT Tryz.prog (cfg mAll) (tab mAll) 4000 3 [.xi .i64 a0 (remX 13 11)] = true := by kernel_rfl
theorem cf12 (a0 : Int) : goT Tryz.prog (cfg mAll) (tab mAll) 4000 3 [.xi .i64 a0 (remX 13 12)] = true := by kernel_rfl
theorem fieldsWays (a0 : Int) : ∀ (r : Nat), r < 13 → goT Tryz.prog (cfg mAll) (tab mAll) 4000 3 [.xi .i64 a0 (remX 13 r)] = true
  | 0, _ => cf0 a0
  | 1, _ => cf1 a0
  | 2, _ => cf2 a0
  | 3, _ => cf3 a0
  | 4, _ => cf4 a0
  | 5, _ => cf5 a0
  | 6, _ => cf6 a0
  | 7, _ => cf7 a0
  | 8, _ => cf8 a0
  | 9, _ => cf9 a0
  | 10, _ => cf10 a0
  | 11, _ => cf11 a0
  | 12, _ => cf12 a0
  | _ + 13, h => by omega
end Go.Zev.Cf
