/-
  Printed by waysSU.py: runs of InheritSupers, so many supers, of these kinds.
-/
import Derived.Test.YtagkkgadnicniaaGreatDoorHK2
set_option linter.unusedVariables false
set_option maxRecDepth 20000
namespace Go.Zev.Is
open Go Go.Zev Go.Proofs
theorem su3_1 (a0 a1 : Int) : goT Tryz.prog (cfg mAll) (tab mAll) 4000 4 [.xi .i64 a0 (remX 7 3), .xi .i64 a1 (maskX [false, false, true] 0)] = true := by kernel_rfl
theorem su3_2 (a0 a1 : Int) : goT Tryz.prog (cfg mAll) (tab mAll) 4000 4 [.xi .i64 a0 (remX 7 3), .xi .i64 a1 (maskX [false, true, false] 0)] = true := by kernel_rfl
theorem su3_3 (a0 a1 : Int) : goT Tryz.prog (cfg mAll) (tab mAll) 4000 4 [.xi .i64 a0 (remX 7 3), .xi .i64 a1 (maskX [false, true, true] 0)] = true := by kernel_rfl
theorem su3_4 (a0 a1 : Int) : goT Tryz.prog (cfg mAll) (tab mAll) 4000 4 [.xi .i64 a0 (remX 7 3), .xi .i64 a1 (maskX [true, false, false] 0)] = true := by kernel_rfl
theorem su3_5 (a0 a1 : Int) : goT Tryz.prog (cfg mAll) (tab mAll) 4000 4 [.xi .i64 a0 (remX 7 3), .xi .i64 a1 (maskX [true, false, true] 0)] = true := by kernel_rfl
theorem su3_6 (a0 a1 : Int) : goT Tryz.prog (cfg mAll) (tab mAll) 4000 4 [.xi .i64 a0 (remX 7 3), .xi .i64 a1 (maskX [true, true, false] 0)] = true := by kernel_rfl
theorem su3_7 (a0 a1 : Int) : goT Tryz.prog (cfg mAll) (tab mAll) 4000 4 [.xi .i64 a0 (remX 7 3), .xi .i64 a1 (maskX [true, true, true] 0)] = true := by kernel_rfl
end Go.Zev.Is
