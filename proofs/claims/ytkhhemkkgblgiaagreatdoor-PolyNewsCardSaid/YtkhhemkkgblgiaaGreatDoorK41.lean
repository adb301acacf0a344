/-
  Printed by waysPN.py: all ways of PolyNews.
-/
import Derived.Test.YtkhhemkkgblgiaaGreatDoorK12
import Derived.Test.YtkhhemkkgblgiaaGreatDoorK13
import Derived.Test.YtkhhemkkgblgiaaGreatDoorK14
import Derived.Test.YtkhhemkkgblgiaaGreatDoorK15
import Derived.Test.YtkhhemkkgblgiaaGreatDoorK16
import Derived.Test.YtkhhemkkgblgiaaGreatDoorK17
import Derived.Test.YtkhhemkkgblgiaaGreatDoorK18
import Derived.Test.YtkhhemkkgblgiaaGreatDoorK19
import Derived.Test.YtkhhemkkgblgiaaGreatDoorK20
import Derived.Test.YtkhhemkkgblgiaaGreatDoorK21
import Derived.Test.YtkhhemkkgblgiaaGreatDoorK22
import Derived.Test.YtkhhemkkgblgiaaGreatDoorK23
import Derived.Test.YtkhhemkkgblgiaaGreatDoorK24
import Derived.Test.YtkhhemkkgblgiaaGreatDoorK25
import Derived.Test.YtkhhemkkgblgiaaGreatDoorK26
import Derived.Test.YtkhhemkkgblgiaaGreatDoorK27
import Derived.Test.YtkhhemkkgblgiaaGreatDoorK28
import Derived.Test.YtkhhemkkgblgiaaGreatDoorK29
import Derived.Test.YtkhhemkkgblgiaaGreatDoorK30
import Derived.Test.YtkhhemkkgblgiaaGreatDoorK31
import Derived.Test.YtkhhemkkgblgiaaGreatDoorK32
import Derived.Test.YtkhhemkkgblgiaaGreatDoorK33
import Derived.Test.YtkhhemkkgblgiaaGreatDoorK34
import Derived.Test.YtkhhemkkgblgiaaGreatDoorK35
import Derived.Test.YtkhhemkkgblgiaaGreatDoorK36
import Derived.Test.YtkhhemkkgblgiaaGreatDoorK37
import Derived.Test.YtkhhemkkgblgiaaGreatDoorK38
import Derived.Test.YtkhhemkkgblgiaaGreatDoorK39
import Derived.Test.YtkhhemkkgblgiaaGreatDoorK40
set_option linter.unusedVariables false
set_option maxRecDepth 20000
namespace Go.Zev.Pn
open Go Go.Zev Go.Proofs
theorem lall_cons {β : Type} {p : β → Bool} {x : β} {l : List β} (h1 : p x = true) (h2 : lall p l = true) : lall p (x :: l) = true := by rw [lall_eq, List.all_cons, h1, ← lall_eq, h2]; rfl
theorem four {p : Nat → Bool} {a b c d : List Nat} (ha : lall p a = true) (hb : lall p b = true) (hc : lall p c = true) (hd : lall p d = true) (h3 : 3 ∈ a := by simp) (h2 : 2 ∈ b := by simp) (h1 : 1 ∈ c := by simp) (h0 : 0 ∈ d := by simp) : lall p (below 4) = true := lall_cons (lall_mem ha h3) (lall_cons (lall_mem hb h2) (lall_cons (lall_mem hc h1) (lall_cons (lall_mem hd h0) rfl)))
theorem run0_0 (a0 a1 a2 : Int) : lall (fun t => goT Tryz.prog (cfg mAll) (tab mAll) 4000 5 [.xi .i64 a0 (remX 5 0), .xi .i64 a1 (remX 2 0), .xi .i64 a2 (remX 4 t)]) (below 4) = true := four (run0_0_0123 a0 a1 a2) (run0_0_0123 a0 a1 a2) (run0_0_0123 a0 a1 a2) (run0_0_0123 a0 a1 a2)
theorem run0_1 (a0 a1 a2 : Int) : lall (fun t => goT Tryz.prog (cfg mAll) (tab mAll) 4000 5 [.xi .i64 a0 (remX 5 0), .xi .i64 a1 (remX 2 1), .xi .i64 a2 (remX 4 t)]) (below 4) = true := four (run0_1_0123 a0 a1 a2) (run0_1_0123 a0 a1 a2) (run0_1_0123 a0 a1 a2) (run0_1_0123 a0 a1 a2)
theorem run1_0 (a0 a1 a2 : Int) : lall (fun t => goT Tryz.prog (cfg mAll) (tab mAll) 4000 5 [.xi .i64 a0 (remX 5 1), .xi .i64 a1 (remX 3 0), .xi .i64 a2 (remX 4 t)]) (below 4) = true := four (run1_0_3 a0 a1 a2) (run1_0_012 a0 a1 a2) (run1_0_012 a0 a1 a2) (run1_0_012 a0 a1 a2)
theorem run1_1 (a0 a1 a2 : Int) : lall (fun t => goT Tryz.prog (cfg mAll) (tab mAll) 4000 5 [.xi .i64 a0 (remX 5 1), .xi .i64 a1 (remX 3 1), .xi .i64 a2 (remX 4 t)]) (below 4) = true := four (run1_1_0123 a0 a1 a2) (run1_1_0123 a0 a1 a2) (run1_1_0123 a0 a1 a2) (run1_1_0123 a0 a1 a2)
theorem run1_2 (a0 a1 a2 : Int) : lall (fun t => goT Tryz.prog (cfg mAll) (tab mAll) 4000 5 [.xi .i64 a0 (remX 5 1), .xi .i64 a1 (remX 3 2), .xi .i64 a2 (remX 4 t)]) (below 4) = true := four (run1_2_0123 a0 a1 a2) (run1_2_0123 a0 a1 a2) (run1_2_0123 a0 a1 a2) (run1_2_0123 a0 a1 a2)
theorem run2_0 (a0 a1 a2 : Int) : lall (fun t => goT Tryz.prog (cfg mAll) (tab mAll) 4000 5 [.xi .i64 a0 (remX 5 2), .xi .i64 a1 (remX 4 0), .xi .i64 a2 (remX 4 t)]) (below 4) = true := four (run2_0_3 a0 a1 a2) (run2_0_2 a0 a1 a2) (run2_0_01 a0 a1 a2) (run2_0_01 a0 a1 a2)
theorem run2_1 (a0 a1 a2 : Int) : lall (fun t => goT Tryz.prog (cfg mAll) (tab mAll) 4000 5 [.xi .i64 a0 (remX 5 2), .xi .i64 a1 (remX 4 1), .xi .i64 a2 (remX 4 t)]) (below 4) = true := four (run2_1_3 a0 a1 a2) (run2_1_012 a0 a1 a2) (run2_1_012 a0 a1 a2) (run2_1_012 a0 a1 a2)
theorem run2_2 (a0 a1 a2 : Int) : lall (fun t => goT Tryz.prog (cfg mAll) (tab mAll) 4000 5 [.xi .i64 a0 (remX 5 2), .xi .i64 a1 (remX 4 2), .xi .i64 a2 (remX 4 t)]) (below 4) = true := four (run2_2_0123 a0 a1 a2) (run2_2_0123 a0 a1 a2) (run2_2_0123 a0 a1 a2) (run2_2_0123 a0 a1 a2)
theorem run2_3 (a0 a1 a2 : Int) : lall (fun t => goT Tryz.prog (cfg mAll) (tab mAll) 4000 5 [.xi .i64 a0 (remX 5 2), .xi .i64 a1 (remX 4 3), .xi .i64 a2 (remX 4 t)]) (below 4) = true := four (run2_3_0123 a0 a1 a2) (run2_3_0123 a0 a1 a2) (run2_3_0123 a0 a1 a2) (run2_3_0123 a0 a1 a2)
theorem run3_0 (a0 a1 a2 : Int) : lall (fun t => goT Tryz.prog (cfg mAll) (tab mAll) 4000 5 [.xi .i64 a0 (remX 5 3), .xi .i64 a1 (remX 5 0), .xi .i64 a2 (remX 4 t)]) (below 4) = true := four (run3_0_3 a0 a1 a2) (run3_0_2 a0 a1 a2) (run3_0_01 a0 a1 a2) (run3_0_01 a0 a1 a2)
theorem run3_1 (a0 a1 a2 : Int) : lall (fun t => goT Tryz.prog (cfg mAll) (tab mAll) 4000 5 [.xi .i64 a0 (remX 5 3), .xi .i64 a1 (remX 5 1), .xi .i64 a2 (remX 4 t)]) (below 4) = true := four (run3_1_3 a0 a1 a2) (run3_1_2 a0 a1 a2) (run3_1_01 a0 a1 a2) (run3_1_01 a0 a1 a2)
theorem run3_2 (a0 a1 a2 : Int) : lall (fun t => goT Tryz.prog (cfg mAll) (tab mAll) 4000 5 [.xi .i64 a0 (remX 5 3), .xi .i64 a1 (remX 5 2), .xi .i64 a2 (remX 4 t)]) (below 4) = true := four (run3_2_3 a0 a1 a2) (run3_2_012 a0 a1 a2) (run3_2_012 a0 a1 a2) (run3_2_012 a0 a1 a2)
theorem run3_3 (a0 a1 a2 : Int) : lall (fun t => goT Tryz.prog (cfg mAll) (tab mAll) 4000 5 [.xi .i64 a0 (remX 5 3), .xi .i64 a1 (remX 5 3), .xi .i64 a2 (remX 4 t)]) (below 4) = true := four (run3_3_0123 a0 a1 a2) (run3_3_0123 a0 a1 a2) (run3_3_0123 a0 a1 a2) (run3_3_0123 a0 a1 a2)
theorem run3_4 (a0 a1 a2 : Int) : lall (fun t => goT Tryz.prog (cfg mAll) (tab mAll) 4000 5 [.xi .i64 a0 (remX 5 3), .xi .i64 a1 (remX 5 4), .xi .i64 a2 (remX 4 t)]) (below 4) = true := four (run3_4_0123 a0 a1 a2) (run3_4_0123 a0 a1 a2) (run3_4_0123 a0 a1 a2) (run3_4_0123 a0 a1 a2)
theorem run4_0 (a0 a1 a2 : Int) : lall (fun t => goT Tryz.prog (cfg mAll) (tab mAll) 4000 5 [.xi .i64 a0 (remX 5 4), .xi .i64 a1 (remX 6 0), .xi .i64 a2 (remX 4 t)]) (below 4) = true := four (run4_0_0123 a0 a1 a2) (run4_0_0123 a0 a1 a2) (run4_0_0123 a0 a1 a2) (run4_0_0123 a0 a1 a2)
theorem run4_1 (a0 a1 a2 : Int) : lall (fun t => goT Tryz.prog (cfg mAll) (tab mAll) 4000 5 [.xi .i64 a0 (remX 5 4), .xi .i64 a1 (remX 6 1), .xi .i64 a2 (remX 4 t)]) (below 4) = true := four (run4_1_0123 a0 a1 a2) (run4_1_0123 a0 a1 a2) (run4_1_0123 a0 a1 a2) (run4_1_0123 a0 a1 a2)
theorem run4_2 (a0 a1 a2 : Int) : lall (fun t => goT Tryz.prog (cfg mAll) (tab mAll) 4000 5 [.xi .i64 a0 (remX 5 4), .xi .i64 a1 (remX 6 2), .xi .i64 a2 (remX 4 t)]) (below 4) = true := four (run4_2_0123 a0 a1 a2) (run4_2_0123 a0 a1 a2) (run4_2_0123 a0 a1 a2) (run4_2_0123 a0 a1 a2)
theorem run4_3 (a0 a1 a2 : Int) : lall (fun t => goT Tryz.prog (cfg mAll) (tab mAll) 4000 5 [.xi .i64 a0 (remX 5 4), .xi .i64 a1 (remX 6 3), .xi .i64 a2 (remX 4 t)]) (below 4) = true := four (run4_3_0123 a0 a1 a2) (run4_3_0123 a0 a1 a2) (run4_3_0123 a0 a1 a2) (run4_3_0123 a0 a1 a2)
theorem run4_4 (a0 a1 a2 : Int) : lall (fun t => goT Tryz.prog (cfg mAll) (tab mAll) 4000 5 [.xi .i64 a0 (remX 5 4), .xi .i64 a1 (remX 6 4), .xi .i64 a2 (remX 4 t)]) (below 4) = true := four (run4_4_0123 a0 a1 a2) (run4_4_0123 a0 a1 a2) (run4_4_0123 a0 a1 a2) (run4_4_0123 a0 a1 a2)
theorem run4_5 (a0 a1 a2 : Int) : lall (fun t => goT Tryz.prog (cfg mAll) (tab mAll) 4000 5 [.xi .i64 a0 (remX 5 4), .xi .i64 a1 (remX 6 5), .xi .i64 a2 (remX 4 t)]) (below 4) = true := four (run4_5_0123 a0 a1 a2) (run4_5_0123 a0 a1 a2) (run4_5_0123 a0 a1 a2) (run4_5_0123 a0 a1 a2)
theorem part0 (a0 a1 a2 : Int) : lall (fun u => lall (fun t => goT Tryz.prog (cfg mAll) (tab mAll) 4000 5 [.xi .i64 a0 (remX 5 0), .xi .i64 a1 (remX 2 u), .xi .i64 a2 (remX 4 t)]) (below 4)) (below 2) = true := (lall_cons (run0_1 a0 a1 a2) (lall_cons (run0_0 a0 a1 a2) rfl))
theorem part1 (a0 a1 a2 : Int) : lall (fun u => lall (fun t => goT Tryz.prog (cfg mAll) (tab mAll) 4000 5 [.xi .i64 a0 (remX 5 1), .xi .i64 a1 (remX 3 u), .xi .i64 a2 (remX 4 t)]) (below 4)) (below 3) = true := (lall_cons (run1_2 a0 a1 a2) (lall_cons (run1_1 a0 a1 a2) (lall_cons (run1_0 a0 a1 a2) rfl)))
theorem part2 (a0 a1 a2 : Int) : lall (fun u => lall (fun t => goT Tryz.prog (cfg mAll) (tab mAll) 4000 5 [.xi .i64 a0 (remX 5 2), .xi .i64 a1 (remX 4 u), .xi .i64 a2 (remX 4 t)]) (below 4)) (below 4) = true := (lall_cons (run2_3 a0 a1 a2) (lall_cons (run2_2 a0 a1 a2) (lall_cons (run2_1 a0 a1 a2) (lall_cons (run2_0 a0 a1 a2) rfl))))
theorem part3 (a0 a1 a2 : Int) : lall (fun u => lall (fun t => goT Tryz.prog (cfg mAll) (tab mAll) 4000 5 [.xi .i64 a0 (remX 5 3), .xi .i64 a1 (remX 5 u), .xi .i64 a2 (remX 4 t)]) (below 4)) (below 5) = true := (lall_cons (run3_4 a0 a1 a2) (lall_cons (run3_3 a0 a1 a2) (lall_cons (run3_2 a0 a1 a2) (lall_cons (run3_1 a0 a1 a2) (lall_cons (run3_0 a0 a1 a2) rfl)))))
theorem part4 (a0 a1 a2 : Int) : lall (fun u => lall (fun t => goT Tryz.prog (cfg mAll) (tab mAll) 4000 5 [.xi .i64 a0 (remX 5 4), .xi .i64 a1 (remX 6 u), .xi .i64 a2 (remX 4 t)]) (below 4)) (below 6) = true := (lall_cons (run4_5 a0 a1 a2) (lall_cons (run4_4 a0 a1 a2) (lall_cons (run4_3 a0 a1 a2) (lall_cons (run4_2 a0 a1 a2) (lall_cons (run4_1 a0 a1 a2) (lall_cons (run4_0 a0 a1 a2) rfl))))))
theorem pnWays (a0 a1 a2 : Int) : ∀ (r : Nat), r < 5 → lall (fun u => lall (fun t => goT Tryz.prog (cfg mAll) (tab mAll) 4000 5 [.xi .i64 a0 (remX 5 r), .xi .i64 a1 (remX (r + 2) u), .xi .i64 a2 (remX 4 t)]) (below 4)) (below (r + 2)) = true
  | 0, _ => part0 a0 a1 a2
  | 1, _ => part1 a0 a1 a2
  | 2, _ => part2 a0 a1 a2
  | 3, _ => part3 a0 a1 a2
  | 4, _ => part4 a0 a1 a2
  | _ + 5, h => by omega
end Go.Zev.Pn
