/-
  Of this program: what the evaluator asks of it; the law's own closed part.
-/
import Derived.Test.YtkhhemkkgblgiaaGreatDoorGT
import Derived.Test.YtkhhemkkgblgiaaGreatDoorZ3
namespace Go.Zev.Pn
open Go Go.Zev Go.Proofs
variable {mm : FuncId → Option (List AV → Option AV)}
theorem follows : Tryz.prog.follows .mixedOrders = true := by kernel_rfl
theorem funcs : funcsOK (cfg mm) Tryz.prog.funcs.toList 0 = true := by kernel_rfl
theorem names : lall (fun fn : Func => !(fn.name == "runtime.NumGoroutine")) Tryz.prog.funcs.toList = true := by kernel_rfl
theorem nvle : ∀ b : Bool, (Bool.rec (motive := fun _ => Nat) 512 511 b : Nat) ≤ 512 | true => by decide | false => by decide
theorem okm (h : ∀ f args av, memoOf (cfg mm) f args = some av → Fact Tryz.prog f args av) : CfgOK Tryz.prog (cfg mm) := cfgOK (fun f => by first | exact Nat.le_refl 512 | exact nvle _) funcs (names_ok names) h
theorem okM {l : List Known} {mask : Nat} (hl : AllKnown Tryz.prog l) : CfgOK Tryz.prog (cfg (memoL mask l)) := okm fun _ _ _ h => memoL_fact hl rfl h
theorem ok0 : CfgOK Tryz.prog (cfg fun _ => none) := okm (fun f args av h => by cases h)
end Go.Zev.Pn
