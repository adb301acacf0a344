/-
  Printed by waysSM.py: runs of SuiteBlanks.
-/
import Derived.Test.YtaidendlmkpajaaGreatDoorGN
set_option linter.unusedVariables false
set_option maxRecDepth 20000
namespace Go.Zev.Su
open Go Go.Zev Go.Proofs
theorem sb0_0 (x y z : Int) : lall (fun c => wayN x y z 0 0 c) (below 10) = true := by kernel_rfl
theorem sb0_1 (x y z : Int) : lall (fun c => wayN x y z 0 1 c) (below 10) = true := by kernel_rfl
theorem sb0_2 (x y z : Int) : lall (fun c => wayN x y z 0 2 c) (below 10) = true := by kernel_rfl
theorem sb0_3 (x y z : Int) : lall (fun c => wayN x y z 0 3 c) (below 10) = true := by kernel_rfl
theorem sb0_4 (x y z : Int) : lall (fun c => wayN x y z 0 4 c) (below 10) = true := by kernel_rfl
theorem sb0_5 (x y z : Int) : lall (fun c => wayN x y z 0 5 c) (below 10) = true := by kernel_rfl
theorem sb0_6 (x y z : Int) : lall (fun c => wayN x y z 0 6 c) (below 10) = true := by kernel_rfl
theorem sb0_7 (x y z : Int) : lall (fun c => wayN x y z 0 7 c) (below 10) = true := by kernel_rfl
theorem sb0_8 (x y z : Int) : lall (fun c => wayN x y z 0 8 c) (below 10) = true := by kernel_rfl
theorem sb0_9 (x y z : Int) : lall (fun c => wayN x y z 0 9 c) (below 10) = true := by kernel_rfl
theorem sb0 (x y z : Int) : ∀ (b : Nat), b < 10 → lall (fun c => wayN x y z 0 b c) (below 10) = true
  | 0, _ => sb0_0 x y z
  | 1, _ => sb0_1 x y z
  | 2, _ => sb0_2 x y z
  | 3, _ => sb0_3 x y z
  | 4, _ => sb0_4 x y z
  | 5, _ => sb0_5 x y z
  | 6, _ => sb0_6 x y z
  | 7, _ => sb0_7 x y z
  | 8, _ => sb0_8 x y z
  | 9, _ => sb0_9 x y z
  | _ + 10, h => by omega
end Go.Zev.Su
