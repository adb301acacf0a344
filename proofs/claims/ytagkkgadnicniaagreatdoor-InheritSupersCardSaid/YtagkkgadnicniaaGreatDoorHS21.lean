/-
  Printed by waysSU.py: runs of InheritSupers, so many supers, of these kinds.
-/
import Derived.Test.YtagkkgadnicniaaGreatDoorHK2
set_option linter.unusedVariables false
set_option maxRecDepth 20000
namespace Go.Zev.Is
open Go Go.Zev Go.Proofs
theorem su4_11 (a0 a1 : Int) : goT Tryz.prog (cfg mAll) (tab mAll) 4000 4 [.xi .i64 a0 (remX 7 4), .xi .i64 a1 (maskX [true, false, true, true] 0)] = true := by kernel_rfl
theorem su4_12 (a0 a1 : Int) : goT Tryz.prog (cfg mAll) (tab mAll) 4000 4 [.xi .i64 a0 (remX 7 4), .xi .i64 a1 (maskX [true, true, false, false] 0)] = true := by kernel_rfl
theorem su4_13 (a0 a1 : Int) : goT Tryz.prog (cfg mAll) (tab mAll) 4000 4 [.xi .i64 a0 (remX 7 4), .xi .i64 a1 (maskX [true, true, false, true] 0)] = true := by kernel_rfl
theorem su4_14 (a0 a1 : Int) : goT Tryz.prog (cfg mAll) (tab mAll) 4000 4 [.xi .i64 a0 (remX 7 4), .xi .i64 a1 (maskX [true, true, true, false] 0)] = true := by kernel_rfl
theorem su4_15 (a0 a1 : Int) : goT Tryz.prog (cfg mAll) (tab mAll) 4000 4 [.xi .i64 a0 (remX 7 4), .xi .i64 a1 (maskX [true, true, true, true] 0)] = true := by kernel_rfl
theorem su3_0 (a0 a1 : Int) : goT Tryz.prog (cfg mAll) (tab mAll) 4000 4 [.xi .i64 a0 (remX 7 3), .xi .i64 a1 (maskX [false, false, false] 0)] = true := by kernel_rfl
end Go.Zev.Is
