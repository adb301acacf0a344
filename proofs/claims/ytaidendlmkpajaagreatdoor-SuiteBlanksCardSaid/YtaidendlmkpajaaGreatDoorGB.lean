/-
  Of this program: what the evaluator asks of it; the law's own closed part.
-/
import Derived.Test.YtaidendlmkpajaaGreatDoorGT
import Derived.Test.YtaidendlmkpajaaGreatDoorZ3
namespace Go.Zev.Su
open Go Go.Zev Go.Proofs
/-- What is known of the world: the library's variable MaxLen holds a number. -/
instance seatEnv : Env := ⟨fun k => k = 0, fun k o => ∀ w : World, w.heap[k]? = o → ∃ m, w.cell? ⟨k, 0, none⟩ = some (.int .i64 m)⟩
theorem hasMax : HasMax 0 := ⟨rfl, fun _ ho w hw => ho w hw⟩
theorem pins {w : World} (hm : ∃ m, w.cell? ⟨0, 0, none⟩ = some (.int .i64 m)) : Pins w := fun k hk => by
  have hk : k = 0 := hk
  subst hk
  obtain ⟨m, hm⟩ := hm
  exact ⟨lt_of_cell hm, fun w' hw => ⟨m, (cell_of_block hw).trans hm⟩⟩
variable {mm : FuncId → Option (List AV → Option AV)}
theorem follows : Tryz.prog.follows .mixedOrders = true := by kernel_rfl
theorem funcs : funcsOK (cfg mm) Tryz.prog.funcs.toList 0 = true := by kernel_rfl
theorem names : lall (fun fn : Func => !(fn.name == "runtime.NumGoroutine")) Tryz.prog.funcs.toList = true := by kernel_rfl
theorem nvle : ∀ b c : Bool, (Bool.rec (motive := fun _ => Nat) (Bool.rec (motive := fun _ => Nat) 512 511 b) 510 c : Nat) ≤ 512 | true, true => by decide | false, true => by decide | true, false => by decide | false, false => by decide
theorem nvle1 : ∀ b : Bool, (Bool.rec (motive := fun _ => Nat) 512 511 b : Nat) ≤ 512 | true => by decide | false => by decide
theorem nvle2 : ∀ c : Bool, (Bool.rec (motive := fun _ => Nat) 512 510 c : Nat) ≤ 512 | true => by decide | false => by decide
theorem okm (h : ∀ f args av, memoOf (cfg mm) f args = some av → Fact Tryz.prog f args av) : CfgOK Tryz.prog (cfg mm) := cfgOK (fun f => by first | exact Nat.le_refl 512 | exact nvle1 _ | exact nvle2 _ | exact nvle _ _) funcs (names_ok names) h
theorem okM {l : List Known} {mask : Nat} (hl : AllKnown Tryz.prog l) : CfgOK Tryz.prog (cfg (memoL mask l)) := okm fun _ _ _ h => memoL_fact hl rfl h
theorem ok0 : CfgOK Tryz.prog (cfg fun _ => none) := okm (fun f args av h => by cases h)
end Go.Zev.Su
