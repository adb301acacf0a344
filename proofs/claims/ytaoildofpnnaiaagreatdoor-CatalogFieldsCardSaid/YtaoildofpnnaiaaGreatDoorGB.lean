/-
  Of this program: what the evaluator asks of it; the law's own closed part.
-/
import Derived.Test.YtaoildofpnnaiaaGreatDoorGT
import Derived.Test.YtaoildofpnnaiaaGreatDoorZ3
namespace Go.Zev.Cf
open Go Go.Zev Go.Proofs
variable {mm : FuncId → Option (List AV → Option AV)}
theorem follows : Tryz.prog.follows .mixedOrders = true := by kernel_rfl
theorem funcs : funcsOK (cfg mm) Tryz.prog.funcs.toList 0 = true := by kernel_rfl
theorem names : lall (fun fn : Func => !(fn.name == "runtime.NumGoroutine")) Tryz.prog.funcs.toList = true := by kernel_rfl
theorem nvle : ∀ b c : Bool, (Bool.rec (motive := fun _ => Nat) (Bool.rec (motive := fun _ => Nat) 512 511 b) 510 c : Nat) ≤ 512 | true, true => by decide | false, true => by decide | true, false => by decide | false, false => by decide
theorem nvle1 : ∀ b : Bool, (Bool.rec (motive := fun _ => Nat) 512 511 b : Nat) ≤ 512 | true => by decide | false => by decide
theorem nvle2 : ∀ c : Bool, (Bool.rec (motive := fun _ => Nat) 512 510 c : Nat) ≤ 512 | true => by decide | false => by decide
theorem isov330 : IsOv Tryz.prog 330 := ⟨_, 76, 4, 111, Tryz.prog.cellsOf 111, Tryz.func330, by kernel_rfl, by kernel_rfl, by kernel_rfl, by kernel_rfl, Tryz.underlying76, fun w => by
  cases h : Tryz.prog.info? 111 with
  | none => exact absurd (show (Tryz.prog.info? 111).isSome = true by kernel_rfl) (by rw [h]; decide)
  | some i => simp [Go.sizeOf, Go.typeInfo, h, Go.Program.cellsOf]⟩
theorem isov : ∀ f, (cfg mm).ov f = true → IsOv Tryz.prog f := by
  intro f h
  have h : (Nat.beq f 330) = true := h
  rw [beq_iff.1 h]; exact isov330
theorem okm (h : ∀ f args av, memoOf (cfg mm) f args = some av → Fact Tryz.prog f args av) : CfgOK Tryz.prog (cfg mm) := cfgOK (fun f => by first | exact Nat.le_refl 512 | exact nvle1 _ | exact nvle2 _ | exact nvle _ _) funcs (names_ok names) h isov
theorem okM {l : List Known} {mask : Nat} (hl : AllKnown Tryz.prog l) : CfgOK Tryz.prog (cfg (memoL mask l)) := okm fun _ _ _ h => memoL_fact hl rfl h
theorem ok0 : CfgOK Tryz.prog (cfg fun _ => none) := okm (fun f args av h => by cases h)
end Go.Zev.Cf
