/-
  Printed by waysSM.py: runs of SuiteBlanks.
-/
import Derived.Test.YtaidendlmkpajaaGreatDoorGN
set_option linter.unusedVariables false
set_option maxRecDepth 20000
namespace Go.Zev.Su
open Go Go.Zev Go.Proofs
theorem sb4_0 (x y z : Int) : lall (fun c => wayN x y z 4 0 c) (below 10) = true := by kernel_rfl
theorem sb4_1 (x y z : Int) : lall (fun c => wayN x y z 4 1 c) (below 10) = true := by kernel_rfl
theorem sb4_2 (x y z : Int) : lall (fun c => wayN x y z 4 2 c) (below 10) = true := by kernel_rfl
theorem sb4_3 (x y z : Int) : lall (fun c => wayN x y z 4 3 c) (below 10) = true := by kernel_rfl
theorem sb4_4 (x y z : Int) : lall (fun c => wayN x y z 4 4 c) (below 10) = true := by kernel_rfl
theorem sb4_5 (x y z : Int) : lall (fun c => wayN x y z 4 5 c) (below 10) = true := by kernel_rfl
theorem sb4_6 (x y z : Int) : lall (fun c => wayN x y z 4 6 c) (below 10) = true := by kernel_rfl
theorem sb4_7 (x y z : Int) : lall (fun c => wayN x y z 4 7 c) (below 10) = true := by kernel_rfl
theorem sb4_8 (x y z : Int) : lall (fun c => wayN x y z 4 8 c) (below 10) = true := by kernel_rfl
theorem sb4_9 (x y z : Int) : lall (fun c => wayN x y z 4 9 c) (below 10) = true := by kernel_rfl
theorem sb4 (x y z : Int) : ∀ (b : Nat), b < 10 → lall (fun c => wayN x y z 4 b c) (below 10) = true
  | 0, _ => sb4_0 x y z
  | 1, _ => sb4_1 x y z
  | 2, _ => sb4_2 x y z
  | 3, _ => sb4_3 x y z
  | 4, _ => sb4_4 x y z
  | 5, _ => sb4_5 x y z
  | 6, _ => sb4_6 x y z
  | 7, _ => sb4_7 x y z
  | 8, _ => sb4_8 x y z
  | 9, _ => sb4_9 x y z
  | _ + 10, h => by omega
end Go.Zev.Su
