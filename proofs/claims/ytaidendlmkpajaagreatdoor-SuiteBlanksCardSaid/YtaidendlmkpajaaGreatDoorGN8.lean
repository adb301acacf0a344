/-
  Printed by waysSM.py: runs of SuiteBlanks.
-/
import Derived.Test.YtaidendlmkpajaaGreatDoorGN
set_option linter.unusedVariables false
set_option maxRecDepth 20000
namespace Go.Zev.Su
open Go Go.Zev Go.Proofs
theorem sb8_0 (x y z : Int) : lall (fun c => wayN x y z 8 0 c) (below 10) = true := by kernel_rfl
theorem sb8_1 (x y z : Int) : lall (fun c => wayN x y z 8 1 c) (below 10) = true := by kernel_rfl
theorem sb8_2 (x y z : Int) : lall (fun c => wayN x y z 8 2 c) (below 10) = true := by kernel_rfl
theorem sb8_3 (x y z : Int) : lall (fun c => wayN x y z 8 3 c) (below 10) = true := by kernel_rfl
theorem sb8_4 (x y z : Int) : lall (fun c => wayN x y z 8 4 c) (below 10) = true := by kernel_rfl
theorem sb8_5 (x y z : Int) : lall (fun c => wayN x y z 8 5 c) (below 10) = true := by kernel_rfl
theorem sb8_6 (x y z : Int) : lall (fun c => wayN x y z 8 6 c) (below 10) = true := by kernel_rfl
theorem sb8_7 (x y z : Int) : lall (fun c => wayN x y z 8 7 c) (below 10) = true := by kernel_rfl
theorem sb8_8 (x y z : Int) : lall (fun c => wayN x y z 8 8 c) (below 10) = true := by kernel_rfl
theorem sb8_9 (x y z : Int) : lall (fun c => wayN x y z 8 9 c) (below 10) = true := by kernel_rfl
theorem sb8 (x y z : Int) : ∀ (b : Nat), b < 10 → lall (fun c => wayN x y z 8 b c) (below 10) = true
  | 0, _ => sb8_0 x y z
  | 1, _ => sb8_1 x y z
  | 2, _ => sb8_2 x y z
  | 3, _ => sb8_3 x y z
  | 4, _ => sb8_4 x y z
  | 5, _ => sb8_5 x y z
  | 6, _ => sb8_6 x y z
  | 7, _ => sb8_7 x y z
  | 8, _ => sb8_8 x y z
  | 9, _ => sb8_9 x y z
  | _ + 10, h => by omega
end Go.Zev.Su
