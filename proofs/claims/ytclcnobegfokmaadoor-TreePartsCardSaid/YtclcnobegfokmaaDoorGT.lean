/-
  Printed by zgen.py: the table.
-/
import Derived.Test.YtclcnobegfokmaaDoorG0
set_option linter.unusedVariables false
set_option maxRecDepth 20000
namespace Go.Zev.Dq
open Go Go.Zev Go.Proofs
variable {mm : FuncId → Option (List AV → Option AV)}
noncomputable def list0 (mm : FuncId → Option (List AV → Option AV)) : List (Nat × Ent) := [(3, entF Tryd.prog (cfg mm) 3 4 fun α => f3), (5, entF Tryd.prog (cfg mm) 5 1 fun α => f5), (6, entF Tryd.prog (cfg mm) 6 1 fun α => f6), (8, entF Tryd.prog (cfg mm) 8 1 fun α => f8), (9, entF Tryd.prog (cfg mm) 9 1 fun α => f9), (10, entF Tryd.prog (cfg mm) 10 1 fun α => f10), (11, entF Tryd.prog (cfg mm) 11 1 fun α => f11), (12, entF Tryd.prog (cfg mm) 12 2 fun α => f12), (13, entF Tryd.prog (cfg mm) 13 2 fun α => f13), (14, entF Tryd.prog (cfg mm) 14 2 fun α => f14), (15, entF Tryd.prog (cfg mm) 15 2 fun α => f15), (24, entF Tryd.prog (cfg mm) 24 2 fun α => f24), (25, entF Tryd.prog (cfg mm) 25 2 fun α => f25), (26, entF Tryd.prog (cfg mm) 26 1 fun α => f26), (27, entF Tryd.prog (cfg mm) 27 1 fun α => f27), (28, entF Tryd.prog (cfg mm) 28 1 fun α => f28), (29, entF Tryd.prog (cfg mm) 29 3 fun α => f29), (30, entF Tryd.prog (cfg mm) 30 2 fun α => f30), (31, entF Tryd.prog (cfg mm) 31 3 fun α => f31), (32, entF Tryd.prog (cfg mm) 32 2 fun α => f32)]
theorem list0_good : AllGood Tryd.prog (cfg mm) (list0 mm) := good_cons (by kernel_rfl) f3_good (good_cons (by kernel_rfl) f5_good (good_cons (by kernel_rfl) f6_good (good_cons (by kernel_rfl) f8_good (good_cons (by kernel_rfl) f9_good (good_cons (by kernel_rfl) f10_good (good_cons (by kernel_rfl) f11_good (good_cons (by kernel_rfl) f12_good (good_cons (by kernel_rfl) f13_good (good_cons (by kernel_rfl) f14_good (good_cons (by kernel_rfl) f15_good (good_cons (by kernel_rfl) f24_good (good_cons (by kernel_rfl) f25_good (good_cons (by kernel_rfl) f26_good (good_cons (by kernel_rfl) f27_good (good_cons (by kernel_rfl) f28_good (good_cons (by kernel_rfl) f29_good (good_cons (by kernel_rfl) f30_good (good_cons (by kernel_rfl) f31_good (good_cons (by kernel_rfl) f32_good (good_nil))))))))))))))))))))
noncomputable def tab (mm : FuncId → Option (List AV → Option AV)) : T8 Ent := T8.ofList (list0 mm)
theorem tab_ok : ∀ f E, (tab mm).get f = some E → Good Tryd.prog (cfg mm) f E := tab_good list0_good
end Go.Zev.Dq
