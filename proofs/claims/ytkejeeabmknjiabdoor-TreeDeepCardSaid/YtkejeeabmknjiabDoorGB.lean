/-
  Of this program: what the evaluator asks of it; the law's own closed part.
-/
import Derived.Test.YtkejeeabmknjiabDoorGT
import Derived.Test.YtkejeeabmknjiabDoorZ3
namespace Go.Zev.D31
open Go Go.Zev Go.Proofs
variable {mm : FuncId → Option (List AV → Option AV)}
theorem follows : Tryd.prog.follows .mixedOrders = true := by kernel_rfl
theorem funcs : funcsOK (cfg mm) Tryd.prog.funcs.toList 0 = true := by kernel_rfl
theorem names : lall (fun fn : Func => !(fn.name == "runtime.NumGoroutine")) Tryd.prog.funcs.toList = true := by kernel_rfl
theorem okm (h : ∀ f args av, memoOf (cfg mm) f args = some av → Fact Tryd.prog f args av) : CfgOK Tryd.prog (cfg mm) := cfgOK (fun _ => Nat.le_refl 512) funcs (names_ok names) h
theorem ok0 : CfgOK Tryd.prog (cfg fun _ => none) := okm (fun f args av h => by cases h)
/-- 'told' tells true. -/
theorem told : goT Tryd.prog (cfg fun _ => none) (tab fun _ => none) 70 5 [] = true := by kernel_rfl
theorem told_fact : Fact Tryd.prog 5 [] (.b true) := fact_of_run follows ok0 (n := 70) (by kernel_rfl) (goT_run tab_ok told)
noncomputable def m1 : FuncId → Option (List AV → Option AV) := fun f => Bool.rec none (some fun l => List.rec (some (.b true)) (fun _ _ _ => none) l) (Nat.beq f 5)
theorem ok1 : CfgOK Tryd.prog (cfg m1) := okm fun f args av h => by
  unfold memoOf at h
  obtain ⟨g, hg, h⟩ := ob_prop h
  have hg' : (Bool.rec none (some fun l => List.rec (some (AV.b true)) (fun _ _ _ => none) l) (Nat.beq f 5) : Option (List AV → Option AV)) = some g := hg
  cases hf : Nat.beq f 5 with
  | false => rw [hf] at hg'; cases hg'
  | true =>
    rw [hf] at hg'
    injection hg' with hg'
    subst hg'
    have := beq_iff.1 hf
    subst this
    cases args with
    | nil => cases h; exact told_fact
    | cons _ _ => cases h
end Go.Zev.D31
