/-
  Printed by waysSU.py: runs of InheritSupers, so many supers, of these kinds.
-/
import Derived.Test.YtagkkgadnicniaaGreatDoorHK2
set_option linter.unusedVariables false
set_option maxRecDepth 20000
namespace Go.Zev.Is
open Go Go.Zev Go.Proofs
theorem su6_5 (a0 a1 : Int) : goT Tryz.prog (cfg mAll) (tab mAll) 4000 4 [.xi .i64 a0 (remX 7 6), .xi .i64 a1 (maskX [false, false, false, true, false, true] 0)] = true := by kernel_rfl
theorem su6_6 (a0 a1 : Int) : goT Tryz.prog (cfg mAll) (tab mAll) 4000 4 [.xi .i64 a0 (remX 7 6), .xi .i64 a1 (maskX [false, false, false, true, true, false] 0)] = true := by kernel_rfl
theorem su6_7 (a0 a1 : Int) : goT Tryz.prog (cfg mAll) (tab mAll) 4000 4 [.xi .i64 a0 (remX 7 6), .xi .i64 a1 (maskX [false, false, false, true, true, true] 0)] = true := by kernel_rfl
theorem su6_8 (a0 a1 : Int) : goT Tryz.prog (cfg mAll) (tab mAll) 4000 4 [.xi .i64 a0 (remX 7 6), .xi .i64 a1 (maskX [false, false, true, false, false, false] 0)] = true := by kernel_rfl
theorem su6_9 (a0 a1 : Int) : goT Tryz.prog (cfg mAll) (tab mAll) 4000 4 [.xi .i64 a0 (remX 7 6), .xi .i64 a1 (maskX [false, false, true, false, false, true] 0)] = true := by kernel_rfl
end Go.Zev.Is
