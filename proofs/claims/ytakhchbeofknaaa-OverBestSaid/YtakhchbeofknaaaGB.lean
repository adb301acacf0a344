/-
  Of this program: what the evaluator asks of it; the law's own closed part.
-/
import Derived.Test.YtakhchbeofknaaaGT
import Derived.Test.YtakhchbeofknaaaZ3
namespace Go.Zev.Ob
open Go Go.Zev Go.Proofs
variable {mm : FuncId → Option (List AV → Option AV)}
theorem follows : Try.prog.follows .mixedOrders = true := by kernel_rfl
theorem funcs : funcsOK (cfg mm) Try.prog.funcs.toList 0 = true := by kernel_rfl
theorem names : lall (fun fn : Func => !(fn.name == "runtime.NumGoroutine")) Try.prog.funcs.toList = true := by kernel_rfl
theorem nvle : ∀ b c : Bool, (Bool.rec (motive := fun _ => Nat) (Bool.rec (motive := fun _ => Nat) 512 511 b) 510 c : Nat) ≤ 512 | true, true => by decide | false, true => by decide | true, false => by decide | false, false => by decide
theorem nvle1 : ∀ b : Bool, (Bool.rec (motive := fun _ => Nat) 512 511 b : Nat) ≤ 512 | true => by decide | false => by decide
theorem nvle2 : ∀ c : Bool, (Bool.rec (motive := fun _ => Nat) 512 510 c : Nat) ≤ 512 | true => by decide | false => by decide
theorem okm (h : ∀ f args av, memoOf (cfg mm) f args = some av → Fact Try.prog f args av) : CfgOK Try.prog (cfg mm) := cfgOK (fun f => by first | exact Nat.le_refl 512 | exact nvle1 _ | exact nvle2 _ | exact nvle _ _) funcs (names_ok names) h
theorem okM {l : List Known} {mask : Nat} (hl : AllKnown Try.prog l) : CfgOK Try.prog (cfg (memoL mask l)) := okm fun _ _ _ h => memoL_fact hl rfl h
theorem ok0 : CfgOK Try.prog (cfg fun _ => none) := okm (fun f args av h => by cases h)
/-- 'told' tells true. -/
theorem told : goT Try.prog (cfg fun _ => none) (tab fun _ => none) 4000 9 [] = true := by kernel_rfl
theorem told_fact : Fact Try.prog 9 [] (.b true) := fact_of_run follows ok0 (n := 4000) (by kernel_rfl) (goT_run tab_ok told) rfl
noncomputable def m1 : FuncId → Option (List AV → Option AV) := fun f => Bool.rec none (some fun l => List.rec (some (.b true)) (fun _ _ _ => none) l) (Nat.beq f 9)
theorem ok1 : CfgOK Try.prog (cfg m1) := okm fun f args av h => by
  unfold memoOf at h
  obtain ⟨g, hg, h⟩ := ob_prop h
  have hg' : (Bool.rec none (some fun l => List.rec (some (AV.b true)) (fun _ _ _ => none) l) (Nat.beq f 9) : Option (List AV → Option AV)) = some g := hg
  cases hf : Nat.beq f 9 with
  | false => rw [hf] at hg'; cases hg'
  | true =>
    rw [hf] at hg'
    injection hg' with hg'
    subst hg'
    have := beq_iff.1 hf
    subst this
    cases args with
    | nil => cases h; exact told_fact
    | cons _ _ => cases h
end Go.Zev.Ob
