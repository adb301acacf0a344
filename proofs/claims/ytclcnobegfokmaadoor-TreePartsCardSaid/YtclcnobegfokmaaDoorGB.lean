/-
  Of this program: what the evaluator asks of it; the law's own closed part.
-/
import Derived.Test.YtclcnobegfokmaaDoorGT
import Derived.Test.YtclcnobegfokmaaDoorZ4
namespace Go.Zev.Dq
open Go Go.Zev Go.Proofs
variable {mm : FuncId → Option (List AV → Option AV)}
theorem follows : Tryd.prog.follows .mixedOrders = true := by kernel_rfl
theorem funcs : funcsOK (cfg mm) Tryd.prog.funcs.toList 0 = true := by kernel_rfl
theorem names : lall (fun fn : Func => !(fn.name == "runtime.NumGoroutine")) Tryd.prog.funcs.toList = true := by kernel_rfl
theorem nvle : ∀ b : Bool, (Bool.rec (motive := fun _ => Nat) 512 511 b : Nat) ≤ 512 | true => by decide | false => by decide
theorem okm (h : ∀ f args av, memoOf (cfg mm) f args = some av → Fact Tryd.prog f args av) : CfgOK Tryd.prog (cfg mm) := cfgOK (fun f => by first | exact Nat.le_refl 512 | exact nvle _) funcs (names_ok names) h
theorem okM {l : List Known} {mask : Nat} (hl : AllKnown Tryd.prog l) : CfgOK Tryd.prog (cfg (memoL mask l)) := okm fun _ _ _ h => memoL_fact hl rfl h
theorem ok0 : CfgOK Tryd.prog (cfg fun _ => none) := okm (fun f args av h => by cases h)
/-- 'told' tells true. -/
theorem told : goT Tryd.prog (cfg fun _ => none) (tab fun _ => none) 400 7 [] = true := by kernel_rfl
theorem told_fact : Fact Tryd.prog 7 [] (.b true) := fact_of_run follows ok0 (n := 400) (by kernel_rfl) (goT_run tab_ok told) rfl
noncomputable def m1 : FuncId → Option (List AV → Option AV) := fun f => Bool.rec none (some fun l => List.rec (some (.b true)) (fun _ _ _ => none) l) (Nat.beq f 7)
theorem ok1 : CfgOK Tryd.prog (cfg m1) := okm fun f args av h => by
  unfold memoOf at h
  obtain ⟨g, hg, h⟩ := ob_prop h
  have hg' : (Bool.rec none (some fun l => List.rec (some (AV.b true)) (fun _ _ _ => none) l) (Nat.beq f 7) : Option (List AV → Option AV)) = some g := hg
  cases hf : Nat.beq f 7 with
  | false => rw [hf] at hg'; cases hg'
  | true =>
    rw [hf] at hg'
    injection hg' with hg'
    subst hg'
    have := beq_iff.1 hf
    subst this
    cases args with
    | nil => cases h; exact told_fact
    | cons _ _ => cases h
end Go.Zev.Dq
