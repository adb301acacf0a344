/-
  Printed by waysSM.py: runs of SuiteBlanks.
-/
import Derived.Test.YtaidendlmkpajaaGreatDoorGN
set_option linter.unusedVariables false
set_option maxRecDepth 20000
namespace Go.Zev.Su
open Go Go.Zev Go.Proofs
theorem sb6_0 (x y z : Int) : lall (fun c => wayN x y z 6 0 c) (below 10) = true := by kernel_rfl
theorem sb6_1 (x y z : Int) : lall (fun c => wayN x y z 6 1 c) (below 10) = true := by kernel_rfl
theorem sb6_2 (x y z : Int) : lall (fun c => wayN x y z 6 2 c) (below 10) = true := by kernel_rfl
theorem sb6_3 (x y z : Int) : lall (fun c => wayN x y z 6 3 c) (below 10) = true := by kernel_rfl
theorem sb6_4 (x y z : Int) : lall (fun c => wayN x y z 6 4 c) (below 10) = true := by kernel_rfl
theorem sb6_5 (x y z : Int) : lall (fun c => wayN x y z 6 5 c) (below 10) = true := by kernel_rfl
theorem sb6_6 (x y z : Int) : lall (fun c => wayN x y z 6 6 c) (below 10) = true := by kernel_rfl
theorem sb6_7 (x y z : Int) : lall (fun c => wayN x y z 6 7 c) (below 10) = true := by kernel_rfl
theorem sb6_8 (x y z : Int) : lall (fun c => wayN x y z 6 8 c) (below 10) = true := by kernel_rfl
theorem sb6_9 (x y z : Int) : lall (fun c => wayN x y z 6 9 c) (below 10) = true := by kernel_rfl
theorem sb6 (x y z : Int) : ∀ (b : Nat), b < 10 → lall (fun c => wayN x y z 6 b c) (below 10) = true
  | 0, _ => sb6_0 x y z
  | 1, _ => sb6_1 x y z
  | 2, _ => sb6_2 x y z
  | 3, _ => sb6_3 x y z
  | 4, _ => sb6_4 x y z
  | 5, _ => sb6_5 x y z
  | 6, _ => sb6_6 x y z
  | 7, _ => sb6_7 x y z
  | 8, _ => sb6_8 x y z
  | 9, _ => sb6_9 x y z
  | _ + 10, h => by omega
end Go.Zev.Su
