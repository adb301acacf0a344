/-
  Printed by waysOM.py: runs of OverMore, masks of one kind.
-/
import Derived.Test.YtkejeeabmknjiaaGB
set_option linter.unusedVariables false
set_option maxRecDepth 20000
namespace Go.Zev.T55
open Go Go.Zev Go.Proofs
theorem run15_0 (a0 a1 a2 : Int) : lall (fun t => lall (fun u => lall (fun v => goT Try.prog (cfg m1) (tab m1) 60 5 [.xi .i64 a0 (maskX ([true, true, true, true, false, false, false] ++ t) 0), .xi .i64 a1 (remX 2 u), .xi .i64 a2 (remX 2 v)]) (below 2)) (below 2)) (allB 2) = true := by kernel_rfl
theorem run15_1 (a0 a1 a2 : Int) : lall (fun t => lall (fun u => lall (fun v => goT Try.prog (cfg m1) (tab m1) 60 5 [.xi .i64 a0 (maskX ([true, true, true, true, false, false, true] ++ t) 0), .xi .i64 a1 (remX 2 u), .xi .i64 a2 (remX 2 v)]) (below 2)) (below 2)) (allB 2) = true := by kernel_rfl
theorem run15_2 (a0 a1 a2 : Int) : lall (fun t => lall (fun u => lall (fun v => goT Try.prog (cfg m1) (tab m1) 60 5 [.xi .i64 a0 (maskX ([true, true, true, true, false, true, false] ++ t) 0), .xi .i64 a1 (remX 2 u), .xi .i64 a2 (remX 2 v)]) (below 2)) (below 2)) (allB 2) = true := by kernel_rfl
theorem run15_3 (a0 a1 a2 : Int) : lall (fun t => lall (fun u => lall (fun v => goT Try.prog (cfg m1) (tab m1) 60 5 [.xi .i64 a0 (maskX ([true, true, true, true, false, true, true] ++ t) 0), .xi .i64 a1 (remX 2 u), .xi .i64 a2 (remX 2 v)]) (below 2)) (below 2)) (allB 2) = true := by kernel_rfl
theorem run15_4 (a0 a1 a2 : Int) : lall (fun t => lall (fun u => lall (fun v => goT Try.prog (cfg m1) (tab m1) 60 5 [.xi .i64 a0 (maskX ([true, true, true, true, true, false, false] ++ t) 0), .xi .i64 a1 (remX 2 u), .xi .i64 a2 (remX 2 v)]) (below 2)) (below 2)) (allB 2) = true := by kernel_rfl
theorem run15_5 (a0 a1 a2 : Int) : lall (fun t => lall (fun u => lall (fun v => goT Try.prog (cfg m1) (tab m1) 60 5 [.xi .i64 a0 (maskX ([true, true, true, true, true, false, true] ++ t) 0), .xi .i64 a1 (remX 2 u), .xi .i64 a2 (remX 2 v)]) (below 2)) (below 2)) (allB 2) = true := by kernel_rfl
theorem run15_6 (a0 a1 a2 : Int) : lall (fun t => lall (fun u => lall (fun v => goT Try.prog (cfg m1) (tab m1) 60 5 [.xi .i64 a0 (maskX ([true, true, true, true, true, true, false] ++ t) 0), .xi .i64 a1 (remX 2 u), .xi .i64 a2 (remX 2 v)]) (below 2)) (below 2)) (allB 2) = true := by kernel_rfl
theorem run15_7 (a0 a1 a2 : Int) : lall (fun t => lall (fun u => lall (fun v => goT Try.prog (cfg m1) (tab m1) 60 5 [.xi .i64 a0 (maskX ([true, true, true, true, true, true, true] ++ t) 0), .xi .i64 a1 (remX 2 u), .xi .i64 a2 (remX 2 v)]) (below 2)) (below 2)) (allB 2) = true := by kernel_rfl
theorem part15 (a0 a1 a2 : Int) : ∀ (b4 b5 b6 : Bool), lall (fun t => lall (fun u => lall (fun v => goT Try.prog (cfg m1) (tab m1) 60 5 [.xi .i64 a0 (maskX ([true, true, true, true, b4, b5, b6] ++ t) 0), .xi .i64 a1 (remX 2 u), .xi .i64 a2 (remX 2 v)]) (below 2)) (below 2)) (allB 2) = true
  | false, false, false => run15_0 a0 a1 a2
  | false, false, true => run15_1 a0 a1 a2
  | false, true, false => run15_2 a0 a1 a2
  | false, true, true => run15_3 a0 a1 a2
  | true, false, false => run15_4 a0 a1 a2
  | true, false, true => run15_5 a0 a1 a2
  | true, true, false => run15_6 a0 a1 a2
  | true, true, true => run15_7 a0 a1 a2
end Go.Zev.T55
