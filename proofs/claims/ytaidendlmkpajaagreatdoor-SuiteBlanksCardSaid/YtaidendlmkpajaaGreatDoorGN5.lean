/-
  Printed by waysSM.py: runs of SuiteBlanks.
-/
import Derived.Test.YtaidendlmkpajaaGreatDoorGN
set_option linter.unusedVariables false
set_option maxRecDepth 20000
namespace Go.Zev.Su
open Go Go.Zev Go.Proofs
theorem sb5_0 (x y z : Int) : lall (fun c => wayN x y z 5 0 c) (below 10) = true := by kernel_rfl
theorem sb5_1 (x y z : Int) : lall (fun c => wayN x y z 5 1 c) (below 10) = true := by kernel_rfl
theorem sb5_2 (x y z : Int) : lall (fun c => wayN x y z 5 2 c) (below 10) = true := by kernel_rfl
theorem sb5_3 (x y z : Int) : lall (fun c => wayN x y z 5 3 c) (below 10) = true := by kernel_rfl
theorem sb5_4 (x y z : Int) : lall (fun c => wayN x y z 5 4 c) (below 10) = true := by kernel_rfl
theorem sb5_5 (x y z : Int) : lall (fun c => wayN x y z 5 5 c) (below 10) = true := by kernel_rfl
theorem sb5_6 (x y z : Int) : lall (fun c => wayN x y z 5 6 c) (below 10) = true := by kernel_rfl
theorem sb5_7 (x y z : Int) : lall (fun c => wayN x y z 5 7 c) (below 10) = true := by kernel_rfl
theorem sb5_8 (x y z : Int) : lall (fun c => wayN x y z 5 8 c) (below 10) = true := by kernel_rfl
theorem sb5_9 (x y z : Int) : lall (fun c => wayN x y z 5 9 c) (below 10) = true := by kernel_rfl
theorem sb5 (x y z : Int) : ∀ (b : Nat), b < 10 → lall (fun c => wayN x y z 5 b c) (below 10) = true
  | 0, _ => sb5_0 x y z
  | 1, _ => sb5_1 x y z
  | 2, _ => sb5_2 x y z
  | 3, _ => sb5_3 x y z
  | 4, _ => sb5_4 x y z
  | 5, _ => sb5_5 x y z
  | 6, _ => sb5_6 x y z
  | 7, _ => sb5_7 x y z
  | 8, _ => sb5_8 x y z
  | 9, _ => sb5_9 x y z
  | _ + 10, h => by omega
end Go.Zev.Su
