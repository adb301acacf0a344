/-
  Printed by waysSM.py: runs of SuiteBlanks.
-/
import Derived.Test.YtaidendlmkpajaaGreatDoorGN
set_option linter.unusedVariables false
set_option maxRecDepth 20000
namespace Go.Zev.Su
open Go Go.Zev Go.Proofs
theorem sb1_0 (x y z : Int) : lall (fun c => wayN x y z 1 0 c) (below 10) = true := by kernel_rfl
theorem sb1_1 (x y z : Int) : lall (fun c => wayN x y z 1 1 c) (below 10) = true := by kernel_rfl
theorem sb1_2 (x y z : Int) : lall (fun c => wayN x y z 1 2 c) (below 10) = true := by kernel_rfl
theorem sb1_3 (x y z : Int) : lall (fun c => wayN x y z 1 3 c) (below 10) = true := by kernel_rfl
theorem sb1_4 (x y z : Int) : lall (fun c => wayN x y z 1 4 c) (below 10) = true := by kernel_rfl
theorem sb1_5 (x y z : Int) : lall (fun c => wayN x y z 1 5 c) (below 10) = true := by kernel_rfl
theorem sb1_6 (x y z : Int) : lall (fun c => wayN x y z 1 6 c) (below 10) = true := by kernel_rfl
theorem sb1_7 (x y z : Int) : lall (fun c => wayN x y z 1 7 c) (below 10) = true := by kernel_rfl
theorem sb1_8 (x y z : Int) : lall (fun c => wayN x y z 1 8 c) (below 10) = true := by kernel_rfl
theorem sb1_9 (x y z : Int) : lall (fun c => wayN x y z 1 9 c) (below 10) = true := by kernel_rfl
theorem sb1 (x y z : Int) : ∀ (b : Nat), b < 10 → lall (fun c => wayN x y z 1 b c) (below 10) = true
  | 0, _ => sb1_0 x y z
  | 1, _ => sb1_1 x y z
  | 2, _ => sb1_2 x y z
  | 3, _ => sb1_3 x y z
  | 4, _ => sb1_4 x y z
  | 5, _ => sb1_5 x y z
  | 6, _ => sb1_6 x y z
  | 7, _ => sb1_7 x y z
  | 8, _ => sb1_8 x y z
  | 9, _ => sb1_9 x y z
  | _ + 10, h => by omega
end Go.Zev.Su
