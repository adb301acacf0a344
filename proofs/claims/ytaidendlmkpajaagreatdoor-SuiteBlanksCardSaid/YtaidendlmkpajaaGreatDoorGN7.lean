/-
  Printed by waysSM.py: runs of SuiteBlanks.
-/
import Derived.Test.YtaidendlmkpajaaGreatDoorGN
set_option linter.unusedVariables false
set_option maxRecDepth 20000
namespace Go.Zev.Su
open Go Go.Zev Go.Proofs
theorem sb7_0 (x y z : Int) : lall (fun c => wayN x y z 7 0 c) (below 10) = true := by kernel_rfl
theorem sb7_1 (x y z : Int) : lall (fun c => wayN x y z 7 1 c) (below 10) = true := by kernel_rfl
theorem sb7_2 (x y z : Int) : lall (fun c => wayN x y z 7 2 c) (below 10) = true := by kernel_rfl
theorem sb7_3 (x y z : Int) : lall (fun c => wayN x y z 7 3 c) (below 10) = true := by kernel_rfl
theorem sb7_4 (x y z : Int) : lall (fun c => wayN x y z 7 4 c) (below 10) = true := by kernel_rfl
theorem sb7_5 (x y z : Int) : lall (fun c => wayN x y z 7 5 c) (below 10) = true := by kernel_rfl
theorem sb7_6 (x y z : Int) : lall (fun c => wayN x y z 7 6 c) (below 10) = true := by kernel_rfl
theorem sb7_7 (x y z : Int) : lall (fun c => wayN x y z 7 7 c) (below 10) = true := by kernel_rfl
theorem sb7_8 (x y z : Int) : lall (fun c => wayN x y z 7 8 c) (below 10) = true := by kernel_rfl
theorem sb7_9 (x y z : Int) : lall (fun c => wayN x y z 7 9 c) (below 10) = true := by kernel_rfl
theorem sb7 (x y z : Int) : ∀ (b : Nat), b < 10 → lall (fun c => wayN x y z 7 b c) (below 10) = true
  | 0, _ => sb7_0 x y z
  | 1, _ => sb7_1 x y z
  | 2, _ => sb7_2 x y z
  | 3, _ => sb7_3 x y z
  | 4, _ => sb7_4 x y z
  | 5, _ => sb7_5 x y z
  | 6, _ => sb7_6 x y z
  | 7, _ => sb7_7 x y z
  | 8, _ => sb7_8 x y z
  | 9, _ => sb7_9 x y z
  | _ + 10, h => by omega
end Go.Zev.Su
