/-
  Printed by waysSM.py: runs of SuiteBlanks.
-/
import Derived.Test.YtaidendlmkpajaaGreatDoorGN
set_option linter.unusedVariables false
set_option maxRecDepth 20000
namespace Go.Zev.Su
open Go Go.Zev Go.Proofs
theorem sb2_0 (x y z : Int) : lall (fun c => wayN x y z 2 0 c) (below 10) = true := by kernel_rfl
theorem sb2_1 (x y z : Int) : lall (fun c => wayN x y z 2 1 c) (below 10) = true := by kernel_rfl
theorem sb2_2 (x y z : Int) : lall (fun c => wayN x y z 2 2 c) (below 10) = true := by kernel_rfl
theorem sb2_3 (x y z : Int) : lall (fun c => wayN x y z 2 3 c) (below 10) = true := by kernel_rfl
theorem sb2_4 (x y z : Int) : lall (fun c => wayN x y z 2 4 c) (below 10) = true := by kernel_rfl
theorem sb2_5 (x y z : Int) : lall (fun c => wayN x y z 2 5 c) (below 10) = true := by kernel_rfl
theorem sb2_6 (x y z : Int) : lall (fun c => wayN x y z 2 6 c) (below 10) = true := by kernel_rfl
theorem sb2_7 (x y z : Int) : lall (fun c => wayN x y z 2 7 c) (below 10) = true := by kernel_rfl
theorem sb2_8 (x y z : Int) : lall (fun c => wayN x y z 2 8 c) (below 10) = true := by kernel_rfl
theorem sb2_9 (x y z : Int) : lall (fun c => wayN x y z 2 9 c) (below 10) = true := by kernel_rfl
theorem sb2 (x y z : Int) : ∀ (b : Nat), b < 10 → lall (fun c => wayN x y z 2 b c) (below 10) = true
  | 0, _ => sb2_0 x y z
  | 1, _ => sb2_1 x y z
  | 2, _ => sb2_2 x y z
  | 3, _ => sb2_3 x y z
  | 4, _ => sb2_4 x y z
  | 5, _ => sb2_5 x y z
  | 6, _ => sb2_6 x y z
  | 7, _ => sb2_7 x y z
  | 8, _ => sb2_8 x y z
  | 9, _ => sb2_9 x y z
  | _ + 10, h => by omega
end Go.Zev.Su
