/-
  Printed by waysSM.py: runs of SuiteBlanks.
-/
import Derived.Test.YtaidendlmkpajaaGreatDoorGN
set_option linter.unusedVariables false
set_option maxRecDepth 20000
namespace Go.Zev.Su
open Go Go.Zev Go.Proofs
theorem sb3_0 (x y z : Int) : lall (fun c => wayN x y z 3 0 c) (below 10) = true := by kernel_rfl
theorem sb3_1 (x y z : Int) : lall (fun c => wayN x y z 3 1 c) (below 10) = true := by kernel_rfl
theorem sb3_2 (x y z : Int) : lall (fun c => wayN x y z 3 2 c) (below 10) = true := by kernel_rfl
theorem sb3_3 (x y z : Int) : lall (fun c => wayN x y z 3 3 c) (below 10) = true := by kernel_rfl
theorem sb3_4 (x y z : Int) : lall (fun c => wayN x y z 3 4 c) (below 10) = true := by kernel_rfl
theorem sb3_5 (x y z : Int) : lall (fun c => wayN x y z 3 5 c) (below 10) = true := by kernel_rfl
theorem sb3_6 (x y z : Int) : lall (fun c => wayN x y z 3 6 c) (below 10) = true := by kernel_rfl
theorem sb3_7 (x y z : Int) : lall (fun c => wayN x y z 3 7 c) (below 10) = true := by kernel_rfl
theorem sb3_8 (x y z : Int) : lall (fun c => wayN x y z 3 8 c) (below 10) = true := by kernel_rfl
theorem sb3_9 (x y z : Int) : lall (fun c => wayN x y z 3 9 c) (below 10) = true := by kernel_rfl
theorem sb3 (x y z : Int) : ∀ (b : Nat), b < 10 → lall (fun c => wayN x y z 3 b c) (below 10) = true
  | 0, _ => sb3_0 x y z
  | 1, _ => sb3_1 x y z
  | 2, _ => sb3_2 x y z
  | 3, _ => sb3_3 x y z
  | 4, _ => sb3_4 x y z
  | 5, _ => sb3_5 x y z
  | 6, _ => sb3_6 x y z
  | 7, _ => sb3_7 x y z
  | 8, _ => sb3_8 x y z
  | 9, _ => sb3_9 x y z
  | _ + 10, h => by omega
end Go.Zev.Su
