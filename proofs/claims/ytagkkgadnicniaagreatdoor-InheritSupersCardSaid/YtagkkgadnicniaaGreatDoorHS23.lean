/-
  Printed by waysSU.py: runs of InheritSupers, so many supers, of these kinds.
-/
import Derived.Test.YtagkkgadnicniaaGreatDoorHK2
set_option linter.unusedVariables false
set_option maxRecDepth 20000
namespace Go.Zev.Is
open Go Go.Zev Go.Proofs
theorem su2_0 (a0 a1 : Int) : goT Tryz.prog (cfg mAll) (tab mAll) 4000 4 [.xi .i64 a0 (remX 7 2), .xi .i64 a1 (maskX [false, false] 0)] = true := by kernel_rfl
theorem su2_1 (a0 a1 : Int) : goT Tryz.prog (cfg mAll) (tab mAll) 4000 4 [.xi .i64 a0 (remX 7 2), .xi .i64 a1 (maskX [false, true] 0)] = true := by kernel_rfl
theorem su2_2 (a0 a1 : Int) : goT Tryz.prog (cfg mAll) (tab mAll) 4000 4 [.xi .i64 a0 (remX 7 2), .xi .i64 a1 (maskX [true, false] 0)] = true := by kernel_rfl
theorem su2_3 (a0 a1 : Int) : goT Tryz.prog (cfg mAll) (tab mAll) 4000 4 [.xi .i64 a0 (remX 7 2), .xi .i64 a1 (maskX [true, true] 0)] = true := by kernel_rfl
theorem su1_0 (a0 a1 : Int) : goT Tryz.prog (cfg mAll) (tab mAll) 4000 4 [.xi .i64 a0 (remX 7 1), .xi .i64 a1 (maskX [false] 0)] = true := by kernel_rfl
theorem su1_1 (a0 a1 : Int) : goT Tryz.prog (cfg mAll) (tab mAll) 4000 4 [.xi .i64 a0 (remX 7 1), .xi .i64 a1 (maskX [true] 0)] = true := by kernel_rfl
theorem su0_0 (a0 a1 : Int) : goT Tryz.prog (cfg mAll) (tab mAll) 4000 4 [.xi .i64 a0 (remX 7 0), .xi .i64 a1 (maskX [] 0)] = true := by kernel_rfl
end Go.Zev.Is
