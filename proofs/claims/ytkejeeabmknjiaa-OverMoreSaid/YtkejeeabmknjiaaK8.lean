/-
  Printed by waysOM.py: runs of OverMore, masks of one kind.
-/
import Derived.Test.YtkejeeabmknjiaaGB
set_option linter.unusedVariables false
set_option maxRecDepth 20000
namespace Go.Zev.T55
open Go Go.Zev Go.Proofs
theorem run8_0 (a0 a1 a2 : Int) : lall (fun t => lall (fun u => lall (fun v => goT Try.prog (cfg m1) (tab m1) 60 5 [.xi .i64 a0 (maskX ([true, false, false, false, false, false, false] ++ t) 0), .xi .i64 a1 (remX 2 u), .xi .i64 a2 (remX 2 v)]) (below 2)) (below 2)) (allB 2) = true := by kernel_rfl
theorem run8_1 (a0 a1 a2 : Int) : lall (fun t => lall (fun u => lall (fun v => goT Try.prog (cfg m1) (tab m1) 60 5 [.xi .i64 a0 (maskX ([true, false, false, false, false, false, true] ++ t) 0), .xi .i64 a1 (remX 2 u), .xi .i64 a2 (remX 2 v)]) (below 2)) (below 2)) (allB 2) = true := by kernel_rfl
theorem run8_2 (a0 a1 a2 : Int) : lall (fun t => lall (fun u => lall (fun v => goT Try.prog (cfg m1) (tab m1) 60 5 [.xi .i64 a0 (maskX ([true, false, false, false, false, true, false] ++ t) 0), .xi .i64 a1 (remX 2 u), .xi .i64 a2 (remX 2 v)]) (below 2)) (below 2)) (allB 2) = true := by kernel_rfl
theorem run8_3 (a0 a1 a2 : Int) : lall (fun t => lall (fun u => lall (fun v => goT Try.prog (cfg m1) (tab m1) 60 5 [.xi .i64 a0 (maskX ([true, false, false, false, false, true, true] ++ t) 0), .xi .i64 a1 (remX 2 u), .xi .i64 a2 (remX 2 v)]) (below 2)) (below 2)) (allB 2) = true := by kernel_rfl
theorem run8_4 (a0 a1 a2 : Int) : lall (fun t => lall (fun u => lall (fun v => goT Try.prog (cfg m1) (tab m1) 60 5 [.xi .i64 a0 (maskX ([true, false, false, false, true, false, false] ++ t) 0), .xi .i64 a1 (remX 2 u), .xi .i64 a2 (remX 2 v)]) (below 2)) (below 2)) (allB 2) = true := by kernel_rfl
theorem run8_5 (a0 a1 a2 : Int) : lall (fun t => lall (fun u => lall (fun v => goT Try.prog (cfg m1) (tab m1) 60 5 [.xi .i64 a0 (maskX ([true, false, false, false, true, false, true] ++ t) 0), .xi .i64 a1 (remX 2 u), .xi .i64 a2 (remX 2 v)]) (below 2)) (below 2)) (allB 2) = true := by kernel_rfl
theorem run8_6 (a0 a1 a2 : Int) : lall (fun t => lall (fun u => lall (fun v => goT Try.prog (cfg m1) (tab m1) 60 5 [.xi .i64 a0 (maskX ([true, false, false, false, true, true, false] ++ t) 0), .xi .i64 a1 (remX 2 u), .xi .i64 a2 (remX 2 v)]) (below 2)) (below 2)) (allB 2) = true := by kernel_rfl
theorem run8_7 (a0 a1 a2 : Int) : lall (fun t => lall (fun u => lall (fun v => goT Try.prog (cfg m1) (tab m1) 60 5 [.xi .i64 a0 (maskX ([true, false, false, false, true, true, true] ++ t) 0), .xi .i64 a1 (remX 2 u), .xi .i64 a2 (remX 2 v)]) (below 2)) (below 2)) (allB 2) = true := by kernel_rfl
theorem part8 (a0 a1 a2 : Int) : ∀ (b4 b5 b6 : Bool), lall (fun t => lall (fun u => lall (fun v => goT Try.prog (cfg m1) (tab m1) 60 5 [.xi .i64 a0 (maskX ([true, false, false, false, b4, b5, b6] ++ t) 0), .xi .i64 a1 (remX 2 u), .xi .i64 a2 (remX 2 v)]) (below 2)) (below 2)) (allB 2) = true
  | false, false, false => run8_0 a0 a1 a2
  | false, false, true => run8_1 a0 a1 a2
  | false, true, false => run8_2 a0 a1 a2
  | false, true, true => run8_3 a0 a1 a2
  | true, false, false => run8_4 a0 a1 a2
  | true, false, true => run8_5 a0 a1 a2
  | true, true, false => run8_6 a0 a1 a2
  | true, true, true => run8_7 a0 a1 a2
end Go.Zev.T55
