/-
  Printed by waysSU.py: runs of InheritSupers, so many supers, of these kinds.
-/
import Derived.Test.YtagkkgadnicniaaGreatDoorHK2
set_option linter.unusedVariables false
set_option maxRecDepth 20000
namespace Go.Zev.Is
open Go Go.Zev Go.Proofs
theorem su6_35 (a0 a1 : Int) : goT Tryz.prog (cfg mAll) (tab mAll) 4000 4 [.xi .i64 a0 (remX 7 6), .xi .i64 a1 (maskX [true, false, false, false, true, true] 0)] = true := by kernel_rfl
theorem su6_36 (a0 a1 : Int) : goT Tryz.prog (cfg mAll) (tab mAll) 4000 4 [.xi .i64 a0 (remX 7 6), .xi .i64 a1 (maskX [true, false, false, true, false, false] 0)] = true := by kernel_rfl
theorem su6_37 (a0 a1 : Int) : goT Tryz.prog (cfg mAll) (tab mAll) 4000 4 [.xi .i64 a0 (remX 7 6), .xi .i64 a1 (maskX [true, false, false, true, false, true] 0)] = true := by kernel_rfl
theorem su6_38 (a0 a1 : Int) : goT Tryz.prog (cfg mAll) (tab mAll) 4000 4 [.xi .i64 a0 (remX 7 6), .xi .i64 a1 (maskX [true, false, false, true, true, false] 0)] = true := by kernel_rfl
theorem su6_39 (a0 a1 : Int) : goT Tryz.prog (cfg mAll) (tab mAll) 4000 4 [.xi .i64 a0 (remX 7 6), .xi .i64 a1 (maskX [true, false, false, true, true, true] 0)] = true := by kernel_rfl
end Go.Zev.Is
