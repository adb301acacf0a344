/-
  Printed by waysSU.py: runs of InheritSupers, so many supers, of these kinds.
-/
import Derived.Test.YtagkkgadnicniaaGreatDoorHK2
set_option linter.unusedVariables false
set_option maxRecDepth 20000
namespace Go.Zev.Is
open Go Go.Zev Go.Proofs
theorem su5_1 (a0 a1 : Int) : goT Tryz.prog (cfg mAll) (tab mAll) 4000 4 [.xi .i64 a0 (remX 7 5), .xi .i64 a1 (maskX [false, false, false, false, true] 0)] = true := by kernel_rfl
theorem su5_2 (a0 a1 : Int) : goT Tryz.prog (cfg mAll) (tab mAll) 4000 4 [.xi .i64 a0 (remX 7 5), .xi .i64 a1 (maskX [false, false, false, true, false] 0)] = true := by kernel_rfl
theorem su5_3 (a0 a1 : Int) : goT Tryz.prog (cfg mAll) (tab mAll) 4000 4 [.xi .i64 a0 (remX 7 5), .xi .i64 a1 (maskX [false, false, false, true, true] 0)] = true := by kernel_rfl
theorem su5_4 (a0 a1 : Int) : goT Tryz.prog (cfg mAll) (tab mAll) 4000 4 [.xi .i64 a0 (remX 7 5), .xi .i64 a1 (maskX [false, false, true, false, false] 0)] = true := by kernel_rfl
theorem su5_5 (a0 a1 : Int) : goT Tryz.prog (cfg mAll) (tab mAll) 4000 4 [.xi .i64 a0 (remX 7 5), .xi .i64 a1 (maskX [false, false, true, false, true] 0)] = true := by kernel_rfl
end Go.Zev.Is
