/-
  Printed by waysSU.py: runs of InheritSupers, so many supers, of these kinds.
-/
import Derived.Test.YtagkkgadnicniaaGreatDoorHK2
set_option linter.unusedVariables false
set_option maxRecDepth 20000
namespace Go.Zev.Is
open Go Go.Zev Go.Proofs
theorem su5_11 (a0 a1 : Int) : goT Tryz.prog (cfg mAll) (tab mAll) 4000 4 [.xi .i64 a0 (remX 7 5), .xi .i64 a1 (maskX [false, true, false, true, true] 0)] = true := by kernel_rfl
theorem su5_12 (a0 a1 : Int) : goT Tryz.prog (cfg mAll) (tab mAll) 4000 4 [.xi .i64 a0 (remX 7 5), .xi .i64 a1 (maskX [false, true, true, false, false] 0)] = true := by kernel_rfl
theorem su5_13 (a0 a1 : Int) : goT Tryz.prog (cfg mAll) (tab mAll) 4000 4 [.xi .i64 a0 (remX 7 5), .xi .i64 a1 (maskX [false, true, true, false, true] 0)] = true := by kernel_rfl
theorem su5_14 (a0 a1 : Int) : goT Tryz.prog (cfg mAll) (tab mAll) 4000 4 [.xi .i64 a0 (remX 7 5), .xi .i64 a1 (maskX [false, true, true, true, false] 0)] = true := by kernel_rfl
theorem su5_15 (a0 a1 : Int) : goT Tryz.prog (cfg mAll) (tab mAll) 4000 4 [.xi .i64 a0 (remX 7 5), .xi .i64 a1 (maskX [false, true, true, true, true] 0)] = true := by kernel_rfl
end Go.Zev.Is
