/-
  Printed by waysOM.py: runs of OverMore, masks of one kind.
-/
import Derived.Test.YtkejeeabmknjiaaGB
set_option linter.unusedVariables false
set_option maxRecDepth 20000
namespace Go.Zev.T55
open Go Go.Zev Go.Proofs
theorem run10_0 (a0 a1 a2 : Int) : lall (fun t => lall (fun u => lall (fun v => goT Try.prog (cfg m1) (tab m1) 60 5 [.xi .i64 a0 (maskX ([true, false, true, false, false, false, false] ++ t) 0), .xi .i64 a1 (remX 2 u), .xi .i64 a2 (remX 2 v)]) (below 2)) (below 2)) (allB 2) = true := by kernel_rfl
theorem run10_1 (a0 a1 a2 : Int) : lall (fun t => lall (fun u => lall (fun v => goT Try.prog (cfg m1) (tab m1) 60 5 [.xi .i64 a0 (maskX ([true, false, true, false, false, false, true] ++ t) 0), .xi .i64 a1 (remX 2 u), .xi .i64 a2 (remX 2 v)]) (below 2)) (below 2)) (allB 2) = true := by kernel_rfl
theorem run10_2 (a0 a1 a2 : Int) : lall (fun t => lall (fun u => lall (fun v => goT Try.prog (cfg m1) (tab m1) 60 5 [.xi .i64 a0 (maskX ([true, false, true, false, false, true, false] ++ t) 0), .xi .i64 a1 (remX 2 u), .xi .i64 a2 (remX 2 v)]) (below 2)) (below 2)) (allB 2) = true := by kernel_rfl
theorem run10_3 (a0 a1 a2 : Int) : lall (fun t => lall (fun u => lall (fun v => goT Try.prog (cfg m1) (tab m1) 60 5 [.xi .i64 a0 (maskX ([true, false, true, false, false, true, true] ++ t) 0), .xi .i64 a1 (remX 2 u), .xi .i64 a2 (remX 2 v)]) (below 2)) (below 2)) (allB 2) = true := by kernel_rfl
theorem run10_4 (a0 a1 a2 : Int) : lall (fun t => lall (fun u => lall (fun v => goT Try.prog (cfg m1) (tab m1) 60 5 [.xi .i64 a0 (maskX ([true, false, true, false, true, false, false] ++ t) 0), .xi .i64 a1 (remX 2 u), .xi .i64 a2 (remX 2 v)]) (below 2)) (below 2)) (allB 2) = true := by kernel_rfl
theorem run10_5 (a0 a1 a2 : Int) : lall (fun t => lall (fun u => lall (fun v => goT Try.prog (cfg m1) (tab m1) 60 5 [.xi .i64 a0 (maskX ([true, false, true, false, true, false, true] ++ t) 0), .xi .i64 a1 (remX 2 u), .xi .i64 a2 (remX 2 v)]) (below 2)) (below 2)) (allB 2) = true := by kernel_rfl
theorem run10_6 (a0 a1 a2 : Int) : lall (fun t => lall (fun u => lall (fun v => goT Try.prog (cfg m1) (tab m1) 60 5 [.xi .i64 a0 (maskX ([true, false, true, false, true, true, false] ++ t) 0), .xi .i64 a1 (remX 2 u), .xi .i64 a2 (remX 2 v)]) (below 2)) (below 2)) (allB 2) = true := by kernel_rfl
theorem run10_7 (a0 a1 a2 : Int) : lall (fun t => lall (fun u => lall (fun v => goT Try.prog (cfg m1) (tab m1) 60 5 [.xi .i64 a0 (maskX ([true, false, true, false, true, true, true] ++ t) 0), .xi .i64 a1 (remX 2 u), .xi .i64 a2 (remX 2 v)]) (below 2)) (below 2)) (allB 2) = true := by kernel_rfl
theorem part10 (a0 a1 a2 : Int) : ∀ (b4 b5 b6 : Bool), lall (fun t => lall (fun u => lall (fun v => goT Try.prog (cfg m1) (tab m1) 60 5 [.xi .i64 a0 (maskX ([true, false, true, false, b4, b5, b6] ++ t) 0), .xi .i64 a1 (remX 2 u), .xi .i64 a2 (remX 2 v)]) (below 2)) (below 2)) (allB 2) = true
  | false, false, false => run10_0 a0 a1 a2
  | false, false, true => run10_1 a0 a1 a2
  | false, true, false => run10_2 a0 a1 a2
  | false, true, true => run10_3 a0 a1 a2
  | true, false, false => run10_4 a0 a1 a2
  | true, false, true => run10_5 a0 a1 a2
  | true, true, false => run10_6 a0 a1 a2
  | true, true, true => run10_7 a0 a1 a2
end Go.Zev.T55
