/-
  Printed by waysSM.py: runs of SuiteBlanks.
-/
import Derived.Test.YtaidendlmkpajaaGreatDoorGN
set_option linter.unusedVariables false
set_option maxRecDepth 20000
namespace Go.Zev.Su
open Go Go.Zev Go.Proofs
theorem sb9_0 (x y z : Int) : lall (fun c => wayN x y z 9 0 c) (below 10) = true := by kernel_rfl
theorem sb9_1 (x y z : Int) : lall (fun c => wayN x y z 9 1 c) (below 10) = true := by kernel_rfl
theorem sb9_2 (x y z : Int) : lall (fun c => wayN x y z 9 2 c) (below 10) = true := by kernel_rfl
theorem sb9_3 (x y z : Int) : lall (fun c => wayN x y z 9 3 c) (below 10) = true := by kernel_rfl
theorem sb9_4 (x y z : Int) : lall (fun c => wayN x y z 9 4 c) (below 10) = true := by kernel_rfl
theorem sb9_5 (x y z : Int) : lall (fun c => wayN x y z 9 5 c) (below 10) = true := by kernel_rfl
theorem sb9_6 (x y z : Int) : lall (fun c => wayN x y z 9 6 c) (below 10) = true := by kernel_rfl
theorem sb9_7 (x y z : Int) : lall (fun c => wayN x y z 9 7 c) (below 10) = true := by kernel_rfl
theorem sb9_8 (x y z : Int) : lall (fun c => wayN x y z 9 8 c) (below 10) = true := by kernel_rfl
theorem sb9_9 (x y z : Int) : lall (fun c => wayN x y z 9 9 c) (below 10) = true := by kernel_rfl
theorem sb9 (x y z : Int) : ∀ (b : Nat), b < 10 → lall (fun c => wayN x y z 9 b c) (below 10) = true
  | 0, _ => sb9_0 x y z
  | 1, _ => sb9_1 x y z
  | 2, _ => sb9_2 x y z
  | 3, _ => sb9_3 x y z
  | 4, _ => sb9_4 x y z
  | 5, _ => sb9_5 x y z
  | 6, _ => sb9_6 x y z
  | 7, _ => sb9_7 x y z
  | 8, _ => sb9_8 x y z
  | 9, _ => sb9_9 x y z
  | _ + 10, h => by omega
end Go.Zev.Su
