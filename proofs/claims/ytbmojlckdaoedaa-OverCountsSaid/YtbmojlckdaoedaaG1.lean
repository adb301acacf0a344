/-
  Printed by zgen.py: clean forms.
-/
import Derived.Test.YtbmojlckdaoedaaG0
set_option linter.unusedVariables false
namespace Go.Zev.G9
open Go Go.Zev Go.Proofs
variable {mm : FuncId → Option (List AV → Option AV)}
-- changeling/kin.Chain
noncomputable def b31 : Code := match Try.f31.body with | some c => c | none => .skip
noncomputable def rs31 : List ResultVar := Try.f31.results.toList
noncomputable def f31_3K {α : Type} (no : α) (call : Call' α) (n : Nat) (kr : AV → Heap → α) : Ex → K α := (nxK (R Try.prog no call n (cB (cB (cB b31))) (kend Try.prog no rs31 kr)) (kend Try.prog no rs31 kr))
noncomputable def f31_5K {α : Type} (no : α) (call : Call' α) (n : Nat) (kr : AV → Heap → α) (lp0 : AVs (Heap → α) 3) : Ex → K α := (nxK (fun t _ h => lp0 (Tm.get t 1) (Tm.get t 2) (Tm.get t 5) h) (blockK (cI (cA (cB (cB b31)))) (f31_3K no call n kr)))
noncomputable def f31_6K {α : Type} (no : α) (call : Call' α) (n : Nat) (kr : AV → Heap → α) (lp0 : AVs (Heap → α) 3) : Ex → K α := (nxK (R Try.prog no call n (cB (cA (cA (cA (cB (cB b31)))))) (f31_5K no call n kr lp0)) (f31_5K no call n kr lp0))
noncomputable def f31_7K {α : Type} (no : α) (call : Call' α) (n : Nat) (kr : AV → Heap → α) (lp0 : AVs (Heap → α) 3) : Ex → K α := (nxK (R Try.prog no call n (cB (cA (cA (cA (cA (cB (cB b31))))))) (f31_6K no call n kr lp0)) (f31_6K no call n kr lp0))
noncomputable def f31_4 {α : Type} (no : α) (call : Call' α) (n : Nat) (kr : AV → Heap → α) (m : Nat) : AVs (Heap → α) 3 :=
  Nat.rec (motive := fun _ => AVs (Heap → α) 3) (fun _ _ _ _ => no) (fun _ lp0 s1 s2 s5 h => loadNF no h 1 s2 fun v1 => call 27 [v1, s1] h fun v2 h => bkF no true v2 (call 30 [s5, s1] h fun v3 h => notF no v3 fun v4 => pickF no v2 v4 (.b false) fun v5 => ifF no v5 (fil1 no 1 1 0 s1 [[(.s 0 0)]] fun v6 => newEF h h.next 1 1 v6 fun v7 h => appendA Try.prog no h h.next 36 36 s5 v7 fun v8 h => loadNF no h 1 s2 fun v9 => call 37 [v9, s1] h fun v10 h => lp0 v10 s2 v8 h) (kr s5 h)) (pickF no v2 (.tup []) (.b false) fun v11 => ifF no v11 (fil1 no 1 1 0 s1 [[(.s 0 0)]] fun v12 => newEF h h.next 1 1 v12 fun v13 h => appendA Try.prog no h h.next 36 36 s5 v13 fun v14 h => loadNF no h 1 s2 fun v15 => call 37 [v15, s1] h fun v16 h => lp0 v16 s2 v14 h) (kr s5 h))) m
theorem f31_4_ok {α : Type} (no : α) (call : Call' α) (n : Nat) (kr : AV → Heap → α) : R Try.prog no call n (cA (cA (cB (cB b31)))) (blockK (cI (cA (cB (cB b31)))) (f31_3K no call n kr)) = fun t _ h => f31_4 no call n kr n (Tm.get t 1) (Tm.get t 2) (Tm.get t 5) h :=
  c_loop (F := fun m t _ h => f31_4 no call n kr m (Tm.get t 1) (Tm.get t 2) (Tm.get t 5) h) (by kernel_rfl) (by kernel_rfl) fun m => (c_seq (by kernel_rfl) rfl (c_seq (by kernel_rfl) rfl (r_start 4 (by kernel_rfl) (q_guard 4 8 (3, true) (by kernel_rfl) (by kernel_rfl) (by kernel_rfl) rfl)))).trans (by kernel_rfl)
noncomputable def f31_2 {α : Type} (no : α) (call : Call' α) (n : Nat) (kr : AV → Heap → α) (s1 s2 s5 : AV) (h : Heap) : α :=
  f31_4 no call n kr n s1 s2 s5 h
theorem f31_2_ok {α : Type} (no : α) (call : Call' α) (n : Nat) (kr : AV → Heap → α) : R Try.prog no call n (cB (cB b31)) (kend Try.prog no rs31 kr) = fun t _ h => f31_2 no call n kr (Tm.get t 1) (Tm.get t 2) (Tm.get t 5) h := (c_seq (by kernel_rfl) rfl (c_block (by kernel_rfl) (f31_4_ok no call n kr))).trans (by kernel_rfl)
noncomputable def f31_1 {α : Type} (no : α) (call : Call' α) (n : Nat) (kr : AV → Heap → α) (s1 s2 : AV) (h : Heap) : α :=
  f31_2 no call n kr s1 s2 .nsl h
theorem f31_1_ok {α : Type} (no : α) (call : Call' α) (n : Nat) (kr : AV → Heap → α) : R Try.prog no call n (cB b31) (kend Try.prog no rs31 kr) = fun t _ h => f31_1 no call n kr (Tm.get t 1) (Tm.get t 2) h := (c_seq (by kernel_rfl) (f31_2_ok no call n kr) rfl).trans (by kernel_rfl)
noncomputable def f31 {α : Type} (no : α) (call : Call' α) (n : Nat) (kr : AV → Heap → α) (a0 a1 : AV) (h : Heap) : α :=
  boxF no a0 h h.next fun v17 h => f31_1 no call n kr a1 v17 h
theorem f31_ok {α : Type} (no : α) (call : Call' α) (n : Nat) (kr : AV → Heap → α) : R Try.prog no call n b31 (kend Try.prog no rs31 kr) = fun t _ h => f31 no call n kr (Tm.get t 0) (Tm.get t 1) h := (c_seq (by kernel_rfl) (f31_1_ok no call n kr) rfl).trans (by kernel_rfl)
theorem f31_good : Good Try.prog (cfg mm) 31 (entF Try.prog (cfg mm) 31 2 fun α => f31) := entF_good (c := b31) (rs := rs31) (nt := 23) (by kernel_rfl) (by kernel_rfl) (by kernel_rfl) fun α no call n kr => f31_ok no call n kr
-- changeling/kin.look
noncomputable def b32 : Code := match Try.f32.body with | some c => c | none => .skip
noncomputable def rs32 : List ResultVar := Try.f32.results.toList
noncomputable def f32_2K {α : Type} (no : α) (call : Call' α) (n : Nat) (kr : AV → Heap → α) : Ex → K α := (nxK (R Try.prog no call n (cB (cB b32)) (kend Try.prog no rs32 kr)) (kend Try.prog no rs32 kr))
noncomputable def f32_4 {α : Type} (no : α) (call : Call' α) (n : Nat) (kr : AV → Heap → α) (m : Nat) : AVs (Heap → α) 4 :=
  Nat.rec (motive := fun _ => AVs (Heap → α) 4) (fun _ _ _ _ _ => no) (fun _ lp0 s1 s9 s10 s11 h => lssF Try.prog no 3 s11 s10 fun v1 => ifF no v1 (ixF no 4 s9 s11 fun v2 => loadNF no h 4 v2 fun v3 => newF h h.next 4 [(.s 0 0), (.s 0 0), .nsl, .nsl] fun v4 h => storeF no h 4 v4 v3 fun h => loadNF no h 4 v4 fun v5 => cfF no s1 [s11, v5] call h fun v6 h => neiF Try.prog no 3 v6 (.i .i64 0) fun v7 => ifF no v7 (layF no 0 v6 [(.i .i64 0), (.i .i64 0)] fun v8 => layF no 1 s11 v8 fun v9 => kr (.ifc 69 (.agg v9)) h) (addF Try.prog no 3 s11 (.i .i64 1) fun v10 => lp0 s1 s9 s10 v10 h)) (kr .nifc h)) m
theorem f32_4_ok {α : Type} (no : α) (call : Call' α) (n : Nat) (kr : AV → Heap → α) : R Try.prog no call n (cA (cB (cA (cB b32)))) (blockK (cI (cB (cA (cB b32)))) (f32_2K no call n kr)) = fun t _ h => f32_4 no call n kr n (Tm.get t 1) (Tm.get t 9) (Tm.get t 10) (Tm.get t 11) h :=
  c_loop (F := fun m t _ h => f32_4 no call n kr m (Tm.get t 1) (Tm.get t 9) (Tm.get t 10) (Tm.get t 11) h) (by kernel_rfl) (by kernel_rfl) fun m => by kernel_rfl
noncomputable def f32_3 {α : Type} (no : α) (call : Call' α) (n : Nat) (kr : AV → Heap → α) (s1 s9 s10 s11 : AV) (h : Heap) : α :=
  f32_4 no call n kr n s1 s9 s10 s11 h
theorem f32_3_ok {α : Type} (no : α) (call : Call' α) (n : Nat) (kr : AV → Heap → α) : R Try.prog no call n (cB (cA (cB b32))) (f32_2K no call n kr) = fun t _ h => f32_3 no call n kr (Tm.get t 1) (Tm.get t 9) (Tm.get t 10) (Tm.get t 11) h := (c_block (by kernel_rfl) (f32_4_ok no call n kr)).trans (by kernel_rfl)
noncomputable def f32_1 {α : Type} (no : α) (call : Call' α) (n : Nat) (kr : AV → Heap → α) (s1 s2 : AV) (h : Heap) : α :=
  faF no 0 s2 fun v11 => load1F no h v11 fun v12 => lenF no v12 fun v13 => f32_3 no call n kr s1 v12 v13 (.i .i64 0) h
theorem f32_1_ok {α : Type} (no : α) (call : Call' α) (n : Nat) (kr : AV → Heap → α) : R Try.prog no call n (cB b32) (kend Try.prog no rs32 kr) = fun t _ h => f32_1 no call n kr (Tm.get t 1) (Tm.get t 2) h := (c_seq (by kernel_rfl) rfl (c_seq (by kernel_rfl) (f32_3_ok no call n kr) rfl)).trans (by kernel_rfl)
noncomputable def f32 {α : Type} (no : α) (call : Call' α) (n : Nat) (kr : AV → Heap → α) (a0 a1 : AV) (h : Heap) : α :=
  boxF no a0 h h.next fun v14 h => f32_1 no call n kr a1 v14 h
theorem f32_ok {α : Type} (no : α) (call : Call' α) (n : Nat) (kr : AV → Heap → α) : R Try.prog no call n b32 (kend Try.prog no rs32 kr) = fun t _ h => f32 no call n kr (Tm.get t 0) (Tm.get t 1) h := (c_seq (by kernel_rfl) (f32_1_ok no call n kr) rfl).trans (by kernel_rfl)
theorem f32_good : Good Try.prog (cfg mm) 32 (entF Try.prog (cfg mm) 32 2 fun α => f32) := entF_good (c := b32) (rs := rs32) (nt := 27) (by kernel_rfl) (by kernel_rfl) (by kernel_rfl) fun α no call n kr => f32_ok no call n kr
-- changeling/kin.Check$1
noncomputable def b33 : Code := match Try.f33.body with | some c => c | none => .skip
noncomputable def rs33 : List ResultVar := Try.f33.results.toList
noncomputable def f33_2K {α : Type} (no : α) (call : Call' α) (n : Nat) (kr : AV → Heap → α) : Ex → K α := (nxK (R Try.prog no call n (cB (cB b33)) (kend Try.prog no rs33 kr)) (kend Try.prog no rs33 kr))
noncomputable def f33_3K {α : Type} (no : α) (call : Call' α) (n : Nat) (kr : AV → Heap → α) : Ex → K α := (nxK (R Try.prog no call n (cB (cA (cB b33))) (f33_2K no call n kr)) (f33_2K no call n kr))
noncomputable def f33_1 {α : Type} (no : α) (call : Call' α) (n : Nat) (kr : AV → Heap → α) (s0 s2 s4 : AV) (h : Heap) : α :=
  faF no 0 s4 fun v1 => load1F no h v1 fun v2 => call 34 [v2] h fun v3 h => bkF no false v3 (loadNF no h 1 s2 fun v4 => faF no 0 s4 fun v5 => load1F no h v5 fun v6 => call 35 [v4, v6] h fun v7 h => lssF Try.prog no 3 v7 s0 fun v8 => pickF no v3 (.b true) v8 fun v9 => ifF no v9 (kr (.i .i64 6) h) (kr (.i .i64 0) h)) (pickF no v3 (.b true) (.tup []) fun v10 => ifF no v10 (kr (.i .i64 6) h) (kr (.i .i64 0) h))
theorem f33_1_ok {α : Type} (no : α) (call : Call' α) (n : Nat) (kr : AV → Heap → α) : R Try.prog no call n (cB b33) (kend Try.prog no rs33 kr) = fun t _ h => f33_1 no call n kr (Tm.get t 0) (Tm.get t 2) (Tm.get t 4) h := (c_seq (by kernel_rfl) rfl (c_seq (by kernel_rfl) rfl (r_start 4 (by kernel_rfl) (q_guard 4 10 (3, false) (by kernel_rfl) (by kernel_rfl) (by kernel_rfl) rfl)))).trans (by kernel_rfl)
noncomputable def f33 {α : Type} (no : α) (call : Call' α) (n : Nat) (kr : AV → Heap → α) (a0 a1 a2 : AV) (h : Heap) : α :=
  boxF no a1 h h.next fun v11 h => f33_1 no call n kr a0 a2 v11 h
theorem f33_ok {α : Type} (no : α) (call : Call' α) (n : Nat) (kr : AV → Heap → α) : R Try.prog no call n b33 (kend Try.prog no rs33 kr) = fun t _ h => f33 no call n kr (Tm.get t 0) (Tm.get t 1) (Tm.get t 2) h := (c_seq (by kernel_rfl) (f33_1_ok no call n kr) rfl).trans (by kernel_rfl)
theorem f33_good : Good Try.prog (cfg mm) 33 (entF Try.prog (cfg mm) 33 3 fun α => f33) := entF_good (c := b33) (rs := rs33) (nt := 17) (by kernel_rfl) (by kernel_rfl) (by kernel_rfl) fun α no call n kr => f33_ok no call n kr
-- changeling/kin.Base
noncomputable def b34 : Code := match Try.f34.body with | some c => c | none => .skip
noncomputable def rs34 : List ResultVar := Try.f34.results.toList
noncomputable def f34 {α : Type} (no : α) (call : Call' α) (n : Nat) (kr : AV → Heap → α) (a0 : AV) (h : Heap) : α :=
  fil1 no 1 5 0 (.s 9 2037169923944901474373) (lrep [(.s 0 0)] 5) fun v1 => fil1 no 1 5 1 (.s 9 2147637572233774003534) v1 fun v2 => fil1 no 1 5 2 (.s 9 2147637572233908674883) v2 fun v3 => fil1 no 1 5 3 (.s 9 2147637572233824724314) v3 fun v4 => fil1 no 1 5 4 (.s 10 549795218491815995793746) v4 fun v5 => newEF h h.next 1 5 v5 fun v6 h => call 30 [v6, a0] h fun v7 h => kr v7 h
theorem f34_ok {α : Type} (no : α) (call : Call' α) (n : Nat) (kr : AV → Heap → α) : R Try.prog no call n b34 (kend Try.prog no rs34 kr) = fun t _ h => f34 no call n kr (Tm.get t 0) h := by kernel_rfl
theorem f34_good : Good Try.prog (cfg mm) 34 (entF Try.prog (cfg mm) 34 1 fun α => f34) := entF_good (c := b34) (rs := rs34) (nt := 6) (by kernel_rfl) (by kernel_rfl) (by kernel_rfl) fun α no call n kr => f34_ok no call n kr
-- changeling/kin.Find
noncomputable def b35 : Code := match Try.f35.body with | some c => c | none => .skip
noncomputable def rs35 : List ResultVar := Try.f35.results.toList
noncomputable def f35 {α : Type} (no : α) (call : Call' α) (n : Nat) (kr : AV → Heap → α) (a0 a1 : AV) (h : Heap) : α :=
  boxF no a0 h h.next fun v1 h => boxF no a1 h h.next fun v2 h => faF no 0 v1 fun v3 => load1F no h v3 fun v4 => call 48 [v4, (.fn (.func 49) [] [v2])] h fun v5 h => kr v5 h
theorem f35_ok {α : Type} (no : α) (call : Call' α) (n : Nat) (kr : AV → Heap → α) : R Try.prog no call n b35 (kend Try.prog no rs35 kr) = fun t _ h => f35 no call n kr (Tm.get t 0) (Tm.get t 1) h := by kernel_rfl
theorem f35_good : Good Try.prog (cfg mm) 35 (entF Try.prog (cfg mm) 35 2 fun α => f35) := entF_good (c := b35) (rs := rs35) (nt := 9) (by kernel_rfl) (by kernel_rfl) (by kernel_rfl) fun α no call n kr => f35_ok no call n kr
-- changeling/kin.Check$2
noncomputable def b36 : Code := match Try.f36.body with | some c => c | none => .skip
noncomputable def rs36 : List ResultVar := Try.f36.results.toList
noncomputable def f36 {α : Type} (no : α) (call : Call' α) (n : Nat) (kr : AV → Heap → α) (a0 a1 a2 : AV) (h : Heap) : α :=
  boxF no a1 h h.next fun v1 h => faF no 1 v1 fun v2 => load1F no h v2 fun v3 => eqsF Try.prog no 9 v3 (.s 0 0) fun v4 => ifF no v4 (kr (.i .i64 0) h) (loadNF no h 1 a2 fun v5 => faF no 1 v1 fun v6 => load1F no h v6 fun v7 => call 27 [v5, v7] h fun v8 h => notF no v8 fun v9 => ifF no v9 (kr (.i .i64 7) h) (loadNF no h 1 a2 fun v10 => faF no 0 v1 fun v11 => load1F no h v11 fun v12 => call 31 [v10, v12] h fun v13 h => dreg no h 9 fun base h => loadNF no (h.look 0) 1 a2 fun v14 => lenF no v13 fun v15 => binA Try.prog no .sub 3 v15 (.i .i64 1) fun v16 => ixF no 1 v13 v16 fun v17 => load1F no (h.look 62) v17 fun v18 => callD no call [] 37 [v14, v18] (h.look 0) fun v19 h => hb h.shut fun h => call 30 [v13, v19] h fun v20 h => ifF no v20 (kr (.i .i64 8) h) (kr (.i .i64 0) h)))
theorem f36_ok {α : Type} (no : α) (call : Call' α) (n : Nat) (kr : AV → Heap → α) : R Try.prog no call n b36 (kend Try.prog no rs36 kr) = fun t _ h => f36 no call n kr (Tm.get t 0) (Tm.get t 1) (Tm.get t 2) h := by kernel_rfl
theorem f36_good : Good Try.prog (cfg mm) 36 (entF Try.prog (cfg mm) 36 3 fun α => f36) := entF_good (c := b36) (rs := rs36) (nt := 31) (by kernel_rfl) (by kernel_rfl) (by kernel_rfl) fun α no call n kr => f36_ok no call n kr
-- changeling/kin.Super
noncomputable def b37 : Code := match Try.f37.body with | some c => c | none => .skip
noncomputable def rs37 : List ResultVar := Try.f37.results.toList
noncomputable def f37 {α : Type} (no : α) (call : Call' α) (n : Nat) (kr : AV → Heap → α) (a0 a1 : AV) (h : Heap) : α :=
  boxF no a0 h h.next fun v1 h => call 34 [a1] h fun v2 h => ifF no v2 (eqsF Try.prog no 9 a1 (.s 9 2037169923944901474373) fun v3 => ifF no v3 (kr (.s 0 0) h) (kr (.s 9 2037169923944901474373) h)) (loadNF no h 1 v1 fun v4 => call 35 [v4, a1] h fun v5 h => lssF Try.prog no 3 v5 (.i .i64 0) fun v6 => ifF no v6 (kr (.s 0 0) h) (faF no 0 v1 fun v7 => load1F no h v7 fun v8 => ixF no 4 v8 v5 fun v9 => faF no 1 v9 fun v10 => load1F no h v10 fun v11 => kr v11 h))
theorem f37_ok {α : Type} (no : α) (call : Call' α) (n : Nat) (kr : AV → Heap → α) : R Try.prog no call n b37 (kend Try.prog no rs37 kr) = fun t _ h => f37 no call n kr (Tm.get t 0) (Tm.get t 1) h := by kernel_rfl
theorem f37_good : Good Try.prog (cfg mm) 37 (entF Try.prog (cfg mm) 37 2 fun α => f37) := entF_good (c := b37) (rs := rs37) (nt := 21) (by kernel_rfl) (by kernel_rfl) (by kernel_rfl) fun α no call n kr => f37_ok no call n kr
-- slices.IndexFunc[[]changeling/api.Target,changeling/api.Target]
noncomputable def b38 : Code := match Try.f38.body with | some c => c | none => .skip
noncomputable def rs38 : List ResultVar := Try.f38.results.toList
noncomputable def f38_2K {α : Type} (no : α) (call : Call' α) (n : Nat) (kr : AV → Heap → α) : Ex → K α := (nxK (R Try.prog no call n (cB (cB b38)) (kend Try.prog no rs38 kr)) (kend Try.prog no rs38 kr))
noncomputable def f38_4 {α : Type} (no : α) (call : Call' α) (n : Nat) (kr : AV → Heap → α) (m : Nat) : AVs (Heap → α) 4 :=
  Nat.rec (motive := fun _ => AVs (Heap → α) 4) (fun _ _ _ _ _ => no) (fun _ lp0 s0 s1 s7 s8 h => lssF Try.prog no 3 s8 s7 fun v1 => ifF no v1 (ixF no 2 s0 s8 fun v2 => loadNF no h 2 v2 fun v3 => cfF no s1 [v3] call h fun v4 h => ifF no v4 (kr s8 h) (addF Try.prog no 3 s8 (.i .i64 1) fun v5 => lp0 s0 s1 s7 v5 h)) (kr (.i .i64 (-1)) h)) m
theorem f38_4_ok {α : Type} (no : α) (call : Call' α) (n : Nat) (kr : AV → Heap → α) : R Try.prog no call n (cA (cB (cA (cB b38)))) (blockK (cI (cB (cA (cB b38)))) (f38_2K no call n kr)) = fun t _ h => f38_4 no call n kr n (Tm.get t 0) (Tm.get t 1) (Tm.get t 7) (Tm.get t 8) h :=
  c_loop (F := fun m t _ h => f38_4 no call n kr m (Tm.get t 0) (Tm.get t 1) (Tm.get t 7) (Tm.get t 8) h) (by kernel_rfl) (by kernel_rfl) fun m => by kernel_rfl
noncomputable def f38_3 {α : Type} (no : α) (call : Call' α) (n : Nat) (kr : AV → Heap → α) (s0 s1 s7 s8 : AV) (h : Heap) : α :=
  f38_4 no call n kr n s0 s1 s7 s8 h
theorem f38_3_ok {α : Type} (no : α) (call : Call' α) (n : Nat) (kr : AV → Heap → α) : R Try.prog no call n (cB (cA (cB b38))) (f38_2K no call n kr) = fun t _ h => f38_3 no call n kr (Tm.get t 0) (Tm.get t 1) (Tm.get t 7) (Tm.get t 8) h := (c_block (by kernel_rfl) (f38_4_ok no call n kr)).trans (by kernel_rfl)
noncomputable def f38_1 {α : Type} (no : α) (call : Call' α) (n : Nat) (kr : AV → Heap → α) (s0 s1 : AV) (h : Heap) : α :=
  lenF no s0 fun v6 => f38_3 no call n kr s0 s1 v6 (.i .i64 0) h
theorem f38_1_ok {α : Type} (no : α) (call : Call' α) (n : Nat) (kr : AV → Heap → α) : R Try.prog no call n (cB b38) (kend Try.prog no rs38 kr) = fun t _ h => f38_1 no call n kr (Tm.get t 0) (Tm.get t 1) h := (c_seq (by kernel_rfl) rfl (c_seq (by kernel_rfl) (f38_3_ok no call n kr) rfl)).trans (by kernel_rfl)
noncomputable def f38 {α : Type} (no : α) (call : Call' α) (n : Nat) (kr : AV → Heap → α) (a0 a1 : AV) (h : Heap) : α :=
  f38_1 no call n kr a0 a1 h
theorem f38_ok {α : Type} (no : α) (call : Call' α) (n : Nat) (kr : AV → Heap → α) : R Try.prog no call n b38 (kend Try.prog no rs38 kr) = fun t _ h => f38 no call n kr (Tm.get t 0) (Tm.get t 1) h := (c_seq (by kernel_rfl) (f38_1_ok no call n kr) rfl).trans (by kernel_rfl)
theorem f38_good : Good Try.prog (cfg mm) 38 (entF Try.prog (cfg mm) 38 2 fun α => f38) := entF_good (c := b38) (rs := rs38) (nt := 19) (by kernel_rfl) (by kernel_rfl) (by kernel_rfl) fun α no call n kr => f38_ok no call n kr
-- changeling/over.read
noncomputable def b39 : Code := match Try.f39.body with | some c => c | none => .skip
noncomputable def rs39 : List ResultVar := Try.f39.results.toList
noncomputable def f39 {α : Type} (no : α) (call : Call' α) (n : Nat) (kr : AV → Heap → α) (a0 a1 : AV) (h : Heap) : α :=
  boxF no a0 h h.next fun v1 h => boxF no a1 h h.next fun v2 h => loadNF no h 1 v1 fun v3 => loadNF no h 2 v2 fun v4 => call 50 [v3, v4] h fun v5 h => exF no v5 0 fun v6 => exF no v5 1 fun v7 => newF h h.next 6 [(.b false), (.b false), (.s 0 0), (.s 0 0), .nsl, .nsl] fun v8 h => storeF no h 6 v8 v6 fun h => loadNF no h 2 v2 fun v9 => loadNF no h 6 v8 fun v10 => lay1 no 0 2 v9 [(.s 0 0), (.i .i64 0), (.b false), (.b false), (.s 0 0), (.s 0 0), .nsl, .nsl] fun v11 => lay1 no 2 6 v10 v11 fun v12 => kr (.ifc 79 (.agg v12)) h
theorem f39_ok {α : Type} (no : α) (call : Call' α) (n : Nat) (kr : AV → Heap → α) : R Try.prog no call n b39 (kend Try.prog no rs39 kr) = fun t _ h => f39 no call n kr (Tm.get t 0) (Tm.get t 1) h := by kernel_rfl
theorem f39_good : Good Try.prog (cfg mm) 39 (entF Try.prog (cfg mm) 39 2 fun α => f39) := entF_good (c := b39) (rs := rs39) (nt := 17) (by kernel_rfl) (by kernel_rfl) (by kernel_rfl) fun α no call n kr => f39_ok no call n kr
-- slices.ContainsFunc[[]changeling/over.candidate,changeling/over.candidate]
noncomputable def b40 : Code := match Try.f40.body with | some c => c | none => .skip
noncomputable def rs40 : List ResultVar := Try.f40.results.toList
noncomputable def f40 {α : Type} (no : α) (call : Call' α) (n : Nat) (kr : AV → Heap → α) (a0 a1 : AV) (h : Heap) : α :=
  call 51 [a0, a1] h fun v1 h => geqF Try.prog no 3 v1 (.i .i64 0) fun v2 => kr v2 h
theorem f40_ok {α : Type} (no : α) (call : Call' α) (n : Nat) (kr : AV → Heap → α) : R Try.prog no call n b40 (kend Try.prog no rs40 kr) = fun t _ h => f40 no call n kr (Tm.get t 0) (Tm.get t 1) h := by kernel_rfl
theorem f40_good : Good Try.prog (cfg mm) 40 (entF Try.prog (cfg mm) 40 2 fun α => f40) := entF_good (c := b40) (rs := rs40) (nt := 9) (by kernel_rfl) (by kernel_rfl) (by kernel_rfl) fun α no call n kr => f40_ok no call n kr
-- changeling/over.best$1
noncomputable def b41 : Code := match Try.f41.body with | some c => c | none => .skip
noncomputable def rs41 : List ResultVar := Try.f41.results.toList
noncomputable def f41 {α : Type} (no : α) (call : Call' α) (n : Nat) (kr : AV → Heap → α) (a0 a1 a2 : AV) (h : Heap) : α :=
  boxF no a0 h h.next fun v1 h => loadNF no h 1 a1 fun v2 => faF no 2 a2 fun v3 => loadNF no h 6 v3 fun v4 => faF no 2 v1 fun v5 => loadNF no h 6 v5 fun v6 => call 11 [v2, v4, v6] h fun v7 h => notF no v7 fun v8 => kr v8 h
theorem f41_ok {α : Type} (no : α) (call : Call' α) (n : Nat) (kr : AV → Heap → α) : R Try.prog no call n b41 (kend Try.prog no rs41 kr) = fun t _ h => f41 no call n kr (Tm.get t 0) (Tm.get t 1) (Tm.get t 2) h := by kernel_rfl
theorem f41_good : Good Try.prog (cfg mm) 41 (entF Try.prog (cfg mm) 41 3 fun α => f41) := entF_good (c := b41) (rs := rs41) (nt := 12) (by kernel_rfl) (by kernel_rfl) (by kernel_rfl) fun α no call n kr => f41_ok no call n kr
-- changeling/method.methods
noncomputable def b42 : Code := match Try.f42.body with | some c => c | none => .skip
noncomputable def rs42 : List ResultVar := Try.f42.results.toList
noncomputable def f42 {α : Type} (no : α) (call : Call' α) (n : Nat) (kr : AV → Heap → α) (a0 a1 : AV) (h : Heap) : α :=
  boxF no a0 h h.next fun v1 h => loadNF no h 1 v1 fun v2 => call 52 [v2, a1] h fun v3 h => assertA Try.prog no v3 25 true fun v4 => exF no v4 0 fun v5 => exF no v4 1 fun v6 => newF h h.next 4 [(.s 0 0), (.s 0 0), .nsl, .nsl] fun v7 h => storeF no h 4 v7 v5 fun h => notF no v6 fun v8 => ifF no v8 (kr .nsl h) (faF no 3 v7 fun v9 => load1F no h v9 fun v10 => kr v10 h)
theorem f42_ok {α : Type} (no : α) (call : Call' α) (n : Nat) (kr : AV → Heap → α) : R Try.prog no call n b42 (kend Try.prog no rs42 kr) = fun t _ h => f42 no call n kr (Tm.get t 0) (Tm.get t 1) h := by kernel_rfl
theorem f42_good : Good Try.prog (cfg mm) 42 (entF Try.prog (cfg mm) 42 2 fun α => f42) := entF_good (c := b42) (rs := rs42) (nt := 18) (by kernel_rfl) (by kernel_rfl) (by kernel_rfl) fun α no call n kr => f42_ok no call n kr
-- slices.ContainsFunc[[]changeling/api.Method,changeling/api.Method]
noncomputable def b43 : Code := match Try.f43.body with | some c => c | none => .skip
noncomputable def rs43 : List ResultVar := Try.f43.results.toList
noncomputable def f43 {α : Type} (no : α) (call : Call' α) (n : Nat) (kr : AV → Heap → α) (a0 a1 : AV) (h : Heap) : α :=
  call 53 [a0, a1] h fun v1 h => geqF Try.prog no 3 v1 (.i .i64 0) fun v2 => kr v2 h
theorem f43_ok {α : Type} (no : α) (call : Call' α) (n : Nat) (kr : AV → Heap → α) : R Try.prog no call n b43 (kend Try.prog no rs43 kr) = fun t _ h => f43 no call n kr (Tm.get t 0) (Tm.get t 1) h := by kernel_rfl
theorem f43_good : Good Try.prog (cfg mm) 43 (entF Try.prog (cfg mm) 43 2 fun α => f43) := entF_good (c := b43) (rs := rs43) (nt := 9) (by kernel_rfl) (by kernel_rfl) (by kernel_rfl) fun α no call n kr => f43_ok no call n kr
-- changeling/method.Every$1
noncomputable def b44 : Code := match Try.f44.body with | some c => c | none => .skip
noncomputable def rs44 : List ResultVar := Try.f44.results.toList
noncomputable def f44 {α : Type} (no : α) (call : Call' α) (n : Nat) (kr : AV → Heap → α) (a0 a1 : AV) (h : Heap) : α :=
  boxF no a0 h h.next fun v1 h => loadNF no h 6 v1 fun v2 => loadNF no h 6 a1 fun v3 => call 45 [v2, v3] h fun v4 h => kr v4 h
theorem f44_ok {α : Type} (no : α) (call : Call' α) (n : Nat) (kr : AV → Heap → α) : R Try.prog no call n b44 (kend Try.prog no rs44 kr) = fun t _ h => f44 no call n kr (Tm.get t 0) (Tm.get t 1) h := by kernel_rfl
theorem f44_good : Good Try.prog (cfg mm) 44 (entF Try.prog (cfg mm) 44 2 fun α => f44) := entF_good (c := b44) (rs := rs44) (nt := 7) (by kernel_rfl) (by kernel_rfl) (by kernel_rfl) fun α no call n kr => f44_ok no call n kr
-- changeling/method.Same
noncomputable def b45 : Code := match Try.f45.body with | some c => c | none => .skip
noncomputable def rs45 : List ResultVar := Try.f45.results.toList
noncomputable def f45_2K {α : Type} (no : α) (call : Call' α) (n : Nat) (kr : AV → Heap → α) : Ex → K α := (nxK (R Try.prog no call n (cB (cB b45)) (kend Try.prog no rs45 kr)) (kend Try.prog no rs45 kr))
noncomputable def f45_1 {α : Type} (no : α) (call : Call' α) (n : Nat) (kr : AV → Heap → α) (s2 s3 : AV) (h : Heap) : α :=
  faF no 3 s2 fun v1 => load1F no h v1 fun v2 => faF no 3 s3 fun v3 => load1F no h v3 fun v4 => eqsF Try.prog no 9 v2 v4 fun v5 => bkF no true v5 (loadNF no h 6 s2 fun v6 => loadNF no h 6 s3 fun v7 => call 54 [v6, v7] h fun v8 h => pickF no v5 v8 (.b false) fun v9 => kr v9 h) (pickF no v5 (.tup []) (.b false) fun v10 => kr v10 h)
theorem f45_1_ok {α : Type} (no : α) (call : Call' α) (n : Nat) (kr : AV → Heap → α) : R Try.prog no call n (cB b45) (kend Try.prog no rs45 kr) = fun t _ h => f45_1 no call n kr (Tm.get t 2) (Tm.get t 3) h := (c_seq (by kernel_rfl) rfl (r_start 6 (by kernel_rfl) (q_guard 6 9 (5, true) (by kernel_rfl) (by kernel_rfl) (by kernel_rfl) rfl))).trans (by kernel_rfl)
noncomputable def f45 {α : Type} (no : α) (call : Call' α) (n : Nat) (kr : AV → Heap → α) (a0 a1 : AV) (h : Heap) : α :=
  boxF no a0 h h.next fun v11 h => boxF no a1 h h.next fun v12 h => f45_1 no call n kr v11 v12 h
theorem f45_ok {α : Type} (no : α) (call : Call' α) (n : Nat) (kr : AV → Heap → α) : R Try.prog no call n b45 (kend Try.prog no rs45 kr) = fun t _ h => f45 no call n kr (Tm.get t 0) (Tm.get t 1) h := (c_seq (by kernel_rfl) (f45_1_ok no call n kr) rfl).trans (by kernel_rfl)
theorem f45_good : Good Try.prog (cfg mm) 45 (entF Try.prog (cfg mm) 45 2 fun α => f45) := entF_good (c := b45) (rs := rs45) (nt := 15) (by kernel_rfl) (by kernel_rfl) (by kernel_rfl) fun α no call n kr => f45_ok no call n kr
-- changeling/method.Makers
noncomputable def b46 : Code := match Try.f46.body with | some c => c | none => .skip
noncomputable def rs46 : List ResultVar := Try.f46.results.toList
noncomputable def f46_5 {α : Type} (no : α) (call : Call' α) (n : Nat) (kr : AV → Heap → α) (s5 : AV) (h : Heap) : α :=
  kr s5 h
theorem f46_5_ok {α : Type} (no : α) (call : Call' α) (n : Nat) (kr : AV → Heap → α) : R Try.prog no call n (cB (cB (cB (cB (cB b46))))) (kend Try.prog no rs46 kr) = fun t _ h => f46_5 no call n kr (Tm.get t 5) h := by kernel_rfl
noncomputable def f46_4 {α : Type} (no : α) (call : Call' α) (n : Nat) (kr : AV → Heap → α) (s1 s5 : AV) (h : Heap) : α :=
  lenF no s5 fun v1 => eqiF Try.prog no 3 v1 (.i .i64 0) fun v2 => ifF no v2 (layF no 0 s1 [(.s 0 0), (.i .i64 0)] fun v3 => layF no 1 (.i .i64 (-1)) v3 fun v4 => fil1 no 2 1 0 (.agg v4) [[(.s 0 0), (.i .i64 0)]] fun v5 => newEF h h.next 2 1 v5 fun v6 h => appendA Try.prog no h h.next 50 50 s5 v6 fun v7 h => f46_5 no call n kr v7 h) (f46_5 no call n kr s5 h)
theorem f46_4_ok {α : Type} (no : α) (call : Call' α) (n : Nat) (kr : AV → Heap → α) : R Try.prog no call n (cB (cB (cB (cB b46)))) (kend Try.prog no rs46 kr) = fun t _ h => f46_4 no call n kr (Tm.get t 1) (Tm.get t 5) h := (c_seq (by kernel_rfl) (f46_5_ok no call n kr) rfl).trans (by kernel_rfl)
noncomputable def f46_6K {α : Type} (no : α) (call : Call' α) (n : Nat) (kr : AV → Heap → α) : Ex → K α := (nxK (fun t _ h => f46_4 no call n kr (Tm.get t 1) (Tm.get t 5) h) (kend Try.prog no rs46 kr))
noncomputable def f46_8 {α : Type} (no : α) (call : Call' α) (n : Nat) (kr : AV → Heap → α) (m : Nat) : AVs (Heap → α) 5 :=
  Nat.rec (motive := fun _ => AVs (Heap → α) 5) (fun _ _ _ _ _ _ => no) (fun _ lp0 s1 s5 s14 s15 s16 h => lssF Try.prog no 3 s16 s15 fun v8 => ifF no v8 (ixF no 6 s14 s16 fun v9 => loadNF no h 6 v9 fun v10 => newF h h.next 6 [(.b false), (.b false), (.s 0 0), (.s 0 0), .nsl, .nsl] fun v11 h => storeF no h 6 v11 v10 fun h => faF no 1 v11 fun v12 => load1F no h v12 fun v13 => ifF no v13 (layF no 0 s1 [(.s 0 0), (.i .i64 0)] fun v14 => layF no 1 s16 v14 fun v15 => fil1 no 2 1 0 (.agg v15) [[(.s 0 0), (.i .i64 0)]] fun v16 => newEF h h.next 2 1 v16 fun v17 h => appendA Try.prog no h h.next 50 50 s5 v17 fun v18 h => addF Try.prog no 3 s16 (.i .i64 1) fun v19 => lp0 s1 v18 s14 s15 v19 h) (addF Try.prog no 3 s16 (.i .i64 1) fun v20 => lp0 s1 s5 s14 s15 v20 h)) (f46_4 no call n kr s1 s5 h)) m
theorem f46_8_ok {α : Type} (no : α) (call : Call' α) (n : Nat) (kr : AV → Heap → α) : R Try.prog no call n (cA (cB (cA (cB (cB (cB b46)))))) (blockK (cI (cB (cA (cB (cB (cB b46)))))) (f46_6K no call n kr)) = fun t _ h => f46_8 no call n kr n (Tm.get t 1) (Tm.get t 5) (Tm.get t 14) (Tm.get t 15) (Tm.get t 16) h :=
  c_loop (F := fun m t _ h => f46_8 no call n kr m (Tm.get t 1) (Tm.get t 5) (Tm.get t 14) (Tm.get t 15) (Tm.get t 16) h) (by kernel_rfl) (by kernel_rfl) fun m => by kernel_rfl
noncomputable def f46_7 {α : Type} (no : α) (call : Call' α) (n : Nat) (kr : AV → Heap → α) (s1 s5 s14 s15 s16 : AV) (h : Heap) : α :=
  f46_8 no call n kr n s1 s5 s14 s15 s16 h
theorem f46_7_ok {α : Type} (no : α) (call : Call' α) (n : Nat) (kr : AV → Heap → α) : R Try.prog no call n (cB (cA (cB (cB (cB b46))))) (f46_6K no call n kr) = fun t _ h => f46_7 no call n kr (Tm.get t 1) (Tm.get t 5) (Tm.get t 14) (Tm.get t 15) (Tm.get t 16) h := (c_block (by kernel_rfl) (f46_8_ok no call n kr)).trans (by kernel_rfl)
noncomputable def f46_3 {α : Type} (no : α) (call : Call' α) (n : Nat) (kr : AV → Heap → α) (s1 s2 s5 : AV) (h : Heap) : α :=
  loadNF no h 1 s2 fun v21 => call 42 [v21, s1] h fun v22 h => lenF no v22 fun v23 => f46_7 no call n kr s1 s5 v22 v23 (.i .i64 0) h
theorem f46_3_ok {α : Type} (no : α) (call : Call' α) (n : Nat) (kr : AV → Heap → α) : R Try.prog no call n (cB (cB (cB b46))) (kend Try.prog no rs46 kr) = fun t _ h => f46_3 no call n kr (Tm.get t 1) (Tm.get t 2) (Tm.get t 5) h := (c_seq (by kernel_rfl) (f46_4_ok no call n kr) (c_seq (by kernel_rfl) (f46_7_ok no call n kr) rfl)).trans (by kernel_rfl)
noncomputable def f46_2 {α : Type} (no : α) (call : Call' α) (n : Nat) (kr : AV → Heap → α) (s1 s2 : AV) (h : Heap) : α :=
  f46_3 no call n kr s1 s2 .nsl h
theorem f46_2_ok {α : Type} (no : α) (call : Call' α) (n : Nat) (kr : AV → Heap → α) : R Try.prog no call n (cB (cB b46)) (kend Try.prog no rs46 kr) = fun t _ h => f46_2 no call n kr (Tm.get t 1) (Tm.get t 2) h := (c_seq (by kernel_rfl) (f46_3_ok no call n kr) rfl).trans (by kernel_rfl)
noncomputable def f46_1 {α : Type} (no : α) (call : Call' α) (n : Nat) (kr : AV → Heap → α) (s1 s2 : AV) (h : Heap) : α :=
  loadNF no h 1 s2 fun v24 => call 27 [v24, s1] h fun v25 h => notF no v25 fun v26 => ifF no v26 (kr .nsl h) (f46_2 no call n kr s1 s2 h)
theorem f46_1_ok {α : Type} (no : α) (call : Call' α) (n : Nat) (kr : AV → Heap → α) : R Try.prog no call n (cB b46) (kend Try.prog no rs46 kr) = fun t _ h => f46_1 no call n kr (Tm.get t 1) (Tm.get t 2) h := (c_seq (by kernel_rfl) (f46_2_ok no call n kr) rfl).trans (by kernel_rfl)
noncomputable def f46 {α : Type} (no : α) (call : Call' α) (n : Nat) (kr : AV → Heap → α) (a0 a1 : AV) (h : Heap) : α :=
  boxF no a0 h h.next fun v27 h => f46_1 no call n kr a1 v27 h
theorem f46_ok {α : Type} (no : α) (call : Call' α) (n : Nat) (kr : AV → Heap → α) : R Try.prog no call n b46 (kend Try.prog no rs46 kr) = fun t _ h => f46 no call n kr (Tm.get t 0) (Tm.get t 1) h := (c_seq (by kernel_rfl) (f46_1_ok no call n kr) rfl).trans (by kernel_rfl)
theorem f46_good : Good Try.prog (cfg mm) 46 (entF Try.prog (cfg mm) 46 2 fun α => f46) := entF_good (c := b46) (rs := rs46) (nt := 39) (by kernel_rfl) (by kernel_rfl) (by kernel_rfl) fun α no call n kr => f46_ok no call n kr
-- slices.Index[[]string,string]
noncomputable def b47 : Code := match Try.f47.body with | some c => c | none => .skip
noncomputable def rs47 : List ResultVar := Try.f47.results.toList
noncomputable def f47_2K {α : Type} (no : α) (call : Call' α) (n : Nat) (kr : AV → Heap → α) : Ex → K α := (nxK (R Try.prog no call n (cB (cB b47)) (kend Try.prog no rs47 kr)) (kend Try.prog no rs47 kr))
noncomputable def f47_4 {α : Type} (no : α) (call : Call' α) (n : Nat) (kr : AV → Heap → α) (m : Nat) : AVs (Heap → α) 4 :=
  Nat.rec (motive := fun _ => AVs (Heap → α) 4) (fun _ _ _ _ _ => no) (fun _ lp0 s0 s1 s7 s8 h => lssF Try.prog no 3 s8 s7 fun v1 => ifF no v1 (ixF no 1 s0 s8 fun v2 => load1F no h v2 fun v3 => eqsF Try.prog no 9 s1 v3 fun v4 => ifF no v4 (kr s8 h) (addF Try.prog no 3 s8 (.i .i64 1) fun v5 => lp0 s0 s1 s7 v5 h)) (kr (.i .i64 (-1)) h)) m
theorem f47_4_ok {α : Type} (no : α) (call : Call' α) (n : Nat) (kr : AV → Heap → α) : R Try.prog no call n (cA (cB (cA (cB b47)))) (blockK (cI (cB (cA (cB b47)))) (f47_2K no call n kr)) = fun t _ h => f47_4 no call n kr n (Tm.get t 0) (Tm.get t 1) (Tm.get t 7) (Tm.get t 8) h :=
  c_loop (F := fun m t _ h => f47_4 no call n kr m (Tm.get t 0) (Tm.get t 1) (Tm.get t 7) (Tm.get t 8) h) (by kernel_rfl) (by kernel_rfl) fun m => by kernel_rfl
noncomputable def f47_3 {α : Type} (no : α) (call : Call' α) (n : Nat) (kr : AV → Heap → α) (s0 s1 s7 s8 : AV) (h : Heap) : α :=
  f47_4 no call n kr n s0 s1 s7 s8 h
theorem f47_3_ok {α : Type} (no : α) (call : Call' α) (n : Nat) (kr : AV → Heap → α) : R Try.prog no call n (cB (cA (cB b47))) (f47_2K no call n kr) = fun t _ h => f47_3 no call n kr (Tm.get t 0) (Tm.get t 1) (Tm.get t 7) (Tm.get t 8) h := (c_block (by kernel_rfl) (f47_4_ok no call n kr)).trans (by kernel_rfl)
noncomputable def f47_1 {α : Type} (no : α) (call : Call' α) (n : Nat) (kr : AV → Heap → α) (s0 s1 : AV) (h : Heap) : α :=
  lenF no s0 fun v6 => f47_3 no call n kr s0 s1 v6 (.i .i64 0) h
theorem f47_1_ok {α : Type} (no : α) (call : Call' α) (n : Nat) (kr : AV → Heap → α) : R Try.prog no call n (cB b47) (kend Try.prog no rs47 kr) = fun t _ h => f47_1 no call n kr (Tm.get t 0) (Tm.get t 1) h := (c_seq (by kernel_rfl) rfl (c_seq (by kernel_rfl) (f47_3_ok no call n kr) rfl)).trans (by kernel_rfl)
noncomputable def f47 {α : Type} (no : α) (call : Call' α) (n : Nat) (kr : AV → Heap → α) (a0 a1 : AV) (h : Heap) : α :=
  f47_1 no call n kr a0 a1 h
theorem f47_ok {α : Type} (no : α) (call : Call' α) (n : Nat) (kr : AV → Heap → α) : R Try.prog no call n b47 (kend Try.prog no rs47 kr) = fun t _ h => f47 no call n kr (Tm.get t 0) (Tm.get t 1) h := (c_seq (by kernel_rfl) (f47_1_ok no call n kr) rfl).trans (by kernel_rfl)
theorem f47_good : Good Try.prog (cfg mm) 47 (entF Try.prog (cfg mm) 47 2 fun α => f47) := entF_good (c := b47) (rs := rs47) (nt := 19) (by kernel_rfl) (by kernel_rfl) (by kernel_rfl) fun α no call n kr => f47_ok no call n kr
-- slices.IndexFunc[[]changeling/api.Class,changeling/api.Class]
noncomputable def b48 : Code := match Try.f48.body with | some c => c | none => .skip
noncomputable def rs48 : List ResultVar := Try.f48.results.toList
noncomputable def f48_2K {α : Type} (no : α) (call : Call' α) (n : Nat) (kr : AV → Heap → α) : Ex → K α := (nxK (R Try.prog no call n (cB (cB b48)) (kend Try.prog no rs48 kr)) (kend Try.prog no rs48 kr))
noncomputable def f48_4 {α : Type} (no : α) (call : Call' α) (n : Nat) (kr : AV → Heap → α) (m : Nat) : AVs (Heap → α) 4 :=
  Nat.rec (motive := fun _ => AVs (Heap → α) 4) (fun _ _ _ _ _ => no) (fun _ lp0 s0 s1 s7 s8 h => lssF Try.prog no 3 s8 s7 fun v1 => ifF no v1 (ixF no 4 s0 s8 fun v2 => loadNF no h 4 v2 fun v3 => cfF no s1 [v3] call h fun v4 h => ifF no v4 (kr s8 h) (addF Try.prog no 3 s8 (.i .i64 1) fun v5 => lp0 s0 s1 s7 v5 h)) (kr (.i .i64 (-1)) h)) m
theorem f48_4_ok {α : Type} (no : α) (call : Call' α) (n : Nat) (kr : AV → Heap → α) : R Try.prog no call n (cA (cB (cA (cB b48)))) (blockK (cI (cB (cA (cB b48)))) (f48_2K no call n kr)) = fun t _ h => f48_4 no call n kr n (Tm.get t 0) (Tm.get t 1) (Tm.get t 7) (Tm.get t 8) h :=
  c_loop (F := fun m t _ h => f48_4 no call n kr m (Tm.get t 0) (Tm.get t 1) (Tm.get t 7) (Tm.get t 8) h) (by kernel_rfl) (by kernel_rfl) fun m => by kernel_rfl
noncomputable def f48_3 {α : Type} (no : α) (call : Call' α) (n : Nat) (kr : AV → Heap → α) (s0 s1 s7 s8 : AV) (h : Heap) : α :=
  f48_4 no call n kr n s0 s1 s7 s8 h
theorem f48_3_ok {α : Type} (no : α) (call : Call' α) (n : Nat) (kr : AV → Heap → α) : R Try.prog no call n (cB (cA (cB b48))) (f48_2K no call n kr) = fun t _ h => f48_3 no call n kr (Tm.get t 0) (Tm.get t 1) (Tm.get t 7) (Tm.get t 8) h := (c_block (by kernel_rfl) (f48_4_ok no call n kr)).trans (by kernel_rfl)
noncomputable def f48_1 {α : Type} (no : α) (call : Call' α) (n : Nat) (kr : AV → Heap → α) (s0 s1 : AV) (h : Heap) : α :=
  lenF no s0 fun v6 => f48_3 no call n kr s0 s1 v6 (.i .i64 0) h
theorem f48_1_ok {α : Type} (no : α) (call : Call' α) (n : Nat) (kr : AV → Heap → α) : R Try.prog no call n (cB b48) (kend Try.prog no rs48 kr) = fun t _ h => f48_1 no call n kr (Tm.get t 0) (Tm.get t 1) h := (c_seq (by kernel_rfl) rfl (c_seq (by kernel_rfl) (f48_3_ok no call n kr) rfl)).trans (by kernel_rfl)
noncomputable def f48 {α : Type} (no : α) (call : Call' α) (n : Nat) (kr : AV → Heap → α) (a0 a1 : AV) (h : Heap) : α :=
  f48_1 no call n kr a0 a1 h
theorem f48_ok {α : Type} (no : α) (call : Call' α) (n : Nat) (kr : AV → Heap → α) : R Try.prog no call n b48 (kend Try.prog no rs48 kr) = fun t _ h => f48 no call n kr (Tm.get t 0) (Tm.get t 1) h := (c_seq (by kernel_rfl) (f48_1_ok no call n kr) rfl).trans (by kernel_rfl)
theorem f48_good : Good Try.prog (cfg mm) 48 (entF Try.prog (cfg mm) 48 2 fun α => f48) := entF_good (c := b48) (rs := rs48) (nt := 19) (by kernel_rfl) (by kernel_rfl) (by kernel_rfl) fun α no call n kr => f48_ok no call n kr
-- changeling/kin.Find$1
noncomputable def b49 : Code := match Try.f49.body with | some c => c | none => .skip
noncomputable def rs49 : List ResultVar := Try.f49.results.toList
noncomputable def f49 {α : Type} (no : α) (call : Call' α) (n : Nat) (kr : AV → Heap → α) (a0 a1 : AV) (h : Heap) : α :=
  boxF no a0 h h.next fun v1 h => faF no 0 v1 fun v2 => load1F no h v2 fun v3 => load1F no h a1 fun v4 => eqsF Try.prog no 9 v3 v4 fun v5 => kr v5 h
theorem f49_ok {α : Type} (no : α) (call : Call' α) (n : Nat) (kr : AV → Heap → α) : R Try.prog no call n b49 (kend Try.prog no rs49 kr) = fun t _ h => f49 no call n kr (Tm.get t 0) (Tm.get t 1) h := by kernel_rfl
theorem f49_good : Good Try.prog (cfg mm) 49 (entF Try.prog (cfg mm) 49 2 fun α => f49) := entF_good (c := b49) (rs := rs49) (nt := 8) (by kernel_rfl) (by kernel_rfl) (by kernel_rfl) fun α no call n kr => f49_ok no call n kr
-- changeling/method.At
noncomputable def b50 : Code := match Try.f50.body with | some c => c | none => .skip
noncomputable def rs50 : List ResultVar := Try.f50.results.toList
noncomputable def f50_3K {α : Type} (no : α) (call : Call' α) (n : Nat) (kr : AV → Heap → α) : Ex → K α := (nxK (R Try.prog no call n (cB (cB (cB b50))) (kend Try.prog no rs50 kr)) (kend Try.prog no rs50 kr))
noncomputable def f50_4K {α : Type} (no : α) (call : Call' α) (n : Nat) (kr : AV → Heap → α) : Ex → K α := (nxK (R Try.prog no call n (cB (cA (cB (cB b50)))) (f50_3K no call n kr)) (f50_3K no call n kr))
noncomputable def f50_2 {α : Type} (no : α) (call : Call' α) (n : Nat) (kr : AV → Heap → α) (s3 s4 s6 : AV) (h : Heap) : α :=
  faF no 1 s3 fun v1 => load1F no h v1 fun v2 => lssF Try.prog no 3 v2 (.i .i64 0) fun v3 => bkF no false v3 (faF no 1 s3 fun v4 => load1F no h v4 fun v5 => lenF no s6 fun v6 => geqF Try.prog no 3 v5 v6 fun v7 => pickF no v3 (.b true) v7 fun v8 => ifF no v8 (storeF no h 6 s4 (.agg [(.b false), (.b false), (.s 0 0), (.s 0 0), .nsl, .nsl]) fun h => on no (resV Try.prog h [(s4, some 33), ((.b false), none)]) fun v => kr v h) (faF no 1 s3 fun v9 => load1F no h v9 fun v10 => ixF no 6 s6 v10 fun v11 => loadNF no h 6 v11 fun v12 => storeF no h 6 s4 v12 fun h => on no (resV Try.prog h [(s4, some 33), ((.b true), none)]) fun v => kr v h)) (pickF no v3 (.b true) (.tup []) fun v13 => ifF no v13 (storeF no h 6 s4 (.agg [(.b false), (.b false), (.s 0 0), (.s 0 0), .nsl, .nsl]) fun h => on no (resV Try.prog h [(s4, some 33), ((.b false), none)]) fun v => kr v h) (faF no 1 s3 fun v14 => load1F no h v14 fun v15 => ixF no 6 s6 v15 fun v16 => loadNF no h 6 v16 fun v17 => storeF no h 6 s4 v17 fun h => on no (resV Try.prog h [(s4, some 33), ((.b true), none)]) fun v => kr v h))
theorem f50_2_ok {α : Type} (no : α) (call : Call' α) (n : Nat) (kr : AV → Heap → α) : R Try.prog no call n (cB (cB b50)) (kend Try.prog no rs50 kr) = fun t _ h => f50_2 no call n kr (Tm.get t 3) (Tm.get t 4) (Tm.get t 6) h := (c_seq (by kernel_rfl) rfl (c_seq (by kernel_rfl) rfl (r_start 4 (by kernel_rfl) (q_guard 4 9 (3, false) (by kernel_rfl) (by kernel_rfl) (by kernel_rfl) rfl)))).trans (by kernel_rfl)
noncomputable def f50_1 {α : Type} (no : α) (call : Call' α) (n : Nat) (kr : AV → Heap → α) (s2 s3 s4 : AV) (h : Heap) : α :=
  loadNF no h 1 s2 fun v18 => faF no 0 s3 fun v19 => load1F no h v19 fun v20 => call 42 [v18, v20] h fun v21 h => f50_2 no call n kr s3 s4 v21 h
theorem f50_1_ok {α : Type} (no : α) (call : Call' α) (n : Nat) (kr : AV → Heap → α) : R Try.prog no call n (cB b50) (kend Try.prog no rs50 kr) = fun t _ h => f50_1 no call n kr (Tm.get t 2) (Tm.get t 3) (Tm.get t 4) h := (c_seq (by kernel_rfl) (f50_2_ok no call n kr) rfl).trans (by kernel_rfl)
noncomputable def f50 {α : Type} (no : α) (call : Call' α) (n : Nat) (kr : AV → Heap → α) (a0 a1 : AV) (h : Heap) : α :=
  boxF no a0 h h.next fun v22 h => boxF no a1 h h.next fun v23 h => newF h h.next 6 [(.b false), (.b false), (.s 0 0), (.s 0 0), .nsl, .nsl] fun v24 h => f50_1 no call n kr v22 v23 v24 h
theorem f50_ok {α : Type} (no : α) (call : Call' α) (n : Nat) (kr : AV → Heap → α) : R Try.prog no call n b50 (kend Try.prog no rs50 kr) = fun t _ h => f50 no call n kr (Tm.get t 0) (Tm.get t 1) h := (c_seq (by kernel_rfl) (f50_1_ok no call n kr) rfl).trans (by kernel_rfl)
theorem f50_good : Good Try.prog (cfg mm) 50 (entF Try.prog (cfg mm) 50 2 fun α => f50) := entF_good (c := b50) (rs := rs50) (nt := 27) (by kernel_rfl) (by kernel_rfl) (by kernel_rfl) fun α no call n kr => f50_ok no call n kr
-- slices.IndexFunc[[]changeling/over.candidate,changeling/over.candidate]
noncomputable def b51 : Code := match Try.f51.body with | some c => c | none => .skip
noncomputable def rs51 : List ResultVar := Try.f51.results.toList
noncomputable def f51_2K {α : Type} (no : α) (call : Call' α) (n : Nat) (kr : AV → Heap → α) : Ex → K α := (nxK (R Try.prog no call n (cB (cB b51)) (kend Try.prog no rs51 kr)) (kend Try.prog no rs51 kr))
noncomputable def f51_4 {α : Type} (no : α) (call : Call' α) (n : Nat) (kr : AV → Heap → α) (m : Nat) : AVs (Heap → α) 4 :=
  Nat.rec (motive := fun _ => AVs (Heap → α) 4) (fun _ _ _ _ _ => no) (fun _ lp0 s0 s1 s7 s8 h => lssF Try.prog no 3 s8 s7 fun v1 => ifF no v1 (ixF no 8 s0 s8 fun v2 => loadNF no h 8 v2 fun v3 => cfF no s1 [v3] call h fun v4 h => ifF no v4 (kr s8 h) (addF Try.prog no 3 s8 (.i .i64 1) fun v5 => lp0 s0 s1 s7 v5 h)) (kr (.i .i64 (-1)) h)) m
theorem f51_4_ok {α : Type} (no : α) (call : Call' α) (n : Nat) (kr : AV → Heap → α) : R Try.prog no call n (cA (cB (cA (cB b51)))) (blockK (cI (cB (cA (cB b51)))) (f51_2K no call n kr)) = fun t _ h => f51_4 no call n kr n (Tm.get t 0) (Tm.get t 1) (Tm.get t 7) (Tm.get t 8) h :=
  c_loop (F := fun m t _ h => f51_4 no call n kr m (Tm.get t 0) (Tm.get t 1) (Tm.get t 7) (Tm.get t 8) h) (by kernel_rfl) (by kernel_rfl) fun m => by kernel_rfl
noncomputable def f51_3 {α : Type} (no : α) (call : Call' α) (n : Nat) (kr : AV → Heap → α) (s0 s1 s7 s8 : AV) (h : Heap) : α :=
  f51_4 no call n kr n s0 s1 s7 s8 h
theorem f51_3_ok {α : Type} (no : α) (call : Call' α) (n : Nat) (kr : AV → Heap → α) : R Try.prog no call n (cB (cA (cB b51))) (f51_2K no call n kr) = fun t _ h => f51_3 no call n kr (Tm.get t 0) (Tm.get t 1) (Tm.get t 7) (Tm.get t 8) h := (c_block (by kernel_rfl) (f51_4_ok no call n kr)).trans (by kernel_rfl)
noncomputable def f51_1 {α : Type} (no : α) (call : Call' α) (n : Nat) (kr : AV → Heap → α) (s0 s1 : AV) (h : Heap) : α :=
  lenF no s0 fun v6 => f51_3 no call n kr s0 s1 v6 (.i .i64 0) h
theorem f51_1_ok {α : Type} (no : α) (call : Call' α) (n : Nat) (kr : AV → Heap → α) : R Try.prog no call n (cB b51) (kend Try.prog no rs51 kr) = fun t _ h => f51_1 no call n kr (Tm.get t 0) (Tm.get t 1) h := (c_seq (by kernel_rfl) rfl (c_seq (by kernel_rfl) (f51_3_ok no call n kr) rfl)).trans (by kernel_rfl)
noncomputable def f51 {α : Type} (no : α) (call : Call' α) (n : Nat) (kr : AV → Heap → α) (a0 a1 : AV) (h : Heap) : α :=
  f51_1 no call n kr a0 a1 h
theorem f51_ok {α : Type} (no : α) (call : Call' α) (n : Nat) (kr : AV → Heap → α) : R Try.prog no call n b51 (kend Try.prog no rs51 kr) = fun t _ h => f51 no call n kr (Tm.get t 0) (Tm.get t 1) h := (c_seq (by kernel_rfl) (f51_1_ok no call n kr) rfl).trans (by kernel_rfl)
theorem f51_good : Good Try.prog (cfg mm) 51 (entF Try.prog (cfg mm) 51 2 fun α => f51) := entF_good (c := b51) (rs := rs51) (nt := 19) (by kernel_rfl) (by kernel_rfl) (by kernel_rfl) fun α no call n kr => f51_ok no call n kr
-- changeling/method.class
noncomputable def b52 : Code := match Try.f52.body with | some c => c | none => .skip
noncomputable def rs52 : List ResultVar := Try.f52.results.toList
noncomputable def f52 {α : Type} (no : α) (call : Call' α) (n : Nat) (kr : AV → Heap → α) (a0 a1 : AV) (h : Heap) : α :=
  boxF no a0 h h.next fun v1 h => loadNF no h 1 v1 fun v2 => call 35 [v2, a1] h fun v3 h => geqF Try.prog no 3 v3 (.i .i64 0) fun v4 => ifF no v4 (faF no 0 v1 fun v5 => load1F no h v5 fun v6 => ixF no 4 v6 v3 fun v7 => loadNF no h 4 v7 fun v8 => kr (.ifc 25 v8) h) (kr .nifc h)
theorem f52_ok {α : Type} (no : α) (call : Call' α) (n : Nat) (kr : AV → Heap → α) : R Try.prog no call n b52 (kend Try.prog no rs52 kr) = fun t _ h => f52 no call n kr (Tm.get t 0) (Tm.get t 1) h := by kernel_rfl
theorem f52_good : Good Try.prog (cfg mm) 52 (entF Try.prog (cfg mm) 52 2 fun α => f52) := entF_good (c := b52) (rs := rs52) (nt := 17) (by kernel_rfl) (by kernel_rfl) (by kernel_rfl) fun α no call n kr => f52_ok no call n kr
-- slices.IndexFunc[[]changeling/api.Method,changeling/api.Method]
noncomputable def b53 : Code := match Try.f53.body with | some c => c | none => .skip
noncomputable def rs53 : List ResultVar := Try.f53.results.toList
noncomputable def f53_2K {α : Type} (no : α) (call : Call' α) (n : Nat) (kr : AV → Heap → α) : Ex → K α := (nxK (R Try.prog no call n (cB (cB b53)) (kend Try.prog no rs53 kr)) (kend Try.prog no rs53 kr))
noncomputable def f53_4 {α : Type} (no : α) (call : Call' α) (n : Nat) (kr : AV → Heap → α) (m : Nat) : AVs (Heap → α) 4 :=
  Nat.rec (motive := fun _ => AVs (Heap → α) 4) (fun _ _ _ _ _ => no) (fun _ lp0 s0 s1 s7 s8 h => lssF Try.prog no 3 s8 s7 fun v1 => ifF no v1 (ixF no 6 s0 s8 fun v2 => loadNF no h 6 v2 fun v3 => cfF no s1 [v3] call h fun v4 h => ifF no v4 (kr s8 h) (addF Try.prog no 3 s8 (.i .i64 1) fun v5 => lp0 s0 s1 s7 v5 h)) (kr (.i .i64 (-1)) h)) m
theorem f53_4_ok {α : Type} (no : α) (call : Call' α) (n : Nat) (kr : AV → Heap → α) : R Try.prog no call n (cA (cB (cA (cB b53)))) (blockK (cI (cB (cA (cB b53)))) (f53_2K no call n kr)) = fun t _ h => f53_4 no call n kr n (Tm.get t 0) (Tm.get t 1) (Tm.get t 7) (Tm.get t 8) h :=
  c_loop (F := fun m t _ h => f53_4 no call n kr m (Tm.get t 0) (Tm.get t 1) (Tm.get t 7) (Tm.get t 8) h) (by kernel_rfl) (by kernel_rfl) fun m => by kernel_rfl
noncomputable def f53_3 {α : Type} (no : α) (call : Call' α) (n : Nat) (kr : AV → Heap → α) (s0 s1 s7 s8 : AV) (h : Heap) : α :=
  f53_4 no call n kr n s0 s1 s7 s8 h
theorem f53_3_ok {α : Type} (no : α) (call : Call' α) (n : Nat) (kr : AV → Heap → α) : R Try.prog no call n (cB (cA (cB b53))) (f53_2K no call n kr) = fun t _ h => f53_3 no call n kr (Tm.get t 0) (Tm.get t 1) (Tm.get t 7) (Tm.get t 8) h := (c_block (by kernel_rfl) (f53_4_ok no call n kr)).trans (by kernel_rfl)
noncomputable def f53_1 {α : Type} (no : α) (call : Call' α) (n : Nat) (kr : AV → Heap → α) (s0 s1 : AV) (h : Heap) : α :=
  lenF no s0 fun v6 => f53_3 no call n kr s0 s1 v6 (.i .i64 0) h
theorem f53_1_ok {α : Type} (no : α) (call : Call' α) (n : Nat) (kr : AV → Heap → α) : R Try.prog no call n (cB b53) (kend Try.prog no rs53 kr) = fun t _ h => f53_1 no call n kr (Tm.get t 0) (Tm.get t 1) h := (c_seq (by kernel_rfl) rfl (c_seq (by kernel_rfl) (f53_3_ok no call n kr) rfl)).trans (by kernel_rfl)
noncomputable def f53 {α : Type} (no : α) (call : Call' α) (n : Nat) (kr : AV → Heap → α) (a0 a1 : AV) (h : Heap) : α :=
  f53_1 no call n kr a0 a1 h
theorem f53_ok {α : Type} (no : α) (call : Call' α) (n : Nat) (kr : AV → Heap → α) : R Try.prog no call n b53 (kend Try.prog no rs53 kr) = fun t _ h => f53 no call n kr (Tm.get t 0) (Tm.get t 1) h := (c_seq (by kernel_rfl) (f53_1_ok no call n kr) rfl).trans (by kernel_rfl)
theorem f53_good : Good Try.prog (cfg mm) 53 (entF Try.prog (cfg mm) 53 2 fun α => f53) := entF_good (c := b53) (rs := rs53) (nt := 19) (by kernel_rfl) (by kernel_rfl) (by kernel_rfl) fun α no call n kr => f53_ok no call n kr
-- changeling/method.types
noncomputable def b54 : Code := match Try.f54.body with | some c => c | none => .skip
noncomputable def rs54 : List ResultVar := Try.f54.results.toList
noncomputable def f54 {α : Type} (no : α) (call : Call' α) (n : Nat) (kr : AV → Heap → α) (a0 a1 : AV) (h : Heap) : α :=
  boxF no a0 h h.next fun v1 h => boxF no a1 h h.next fun v2 h => faF no 4 v1 fun v3 => load1F no h v3 fun v4 => faF no 4 v2 fun v5 => load1F no h v5 fun v6 => call 18 [v4, v6, (.fn (.func 55) [] [])] h fun v7 h => kr v7 h
theorem f54_ok {α : Type} (no : α) (call : Call' α) (n : Nat) (kr : AV → Heap → α) : R Try.prog no call n b54 (kend Try.prog no rs54 kr) = fun t _ h => f54 no call n kr (Tm.get t 0) (Tm.get t 1) h := by kernel_rfl
theorem f54_good : Good Try.prog (cfg mm) 54 (entF Try.prog (cfg mm) 54 2 fun α => f54) := entF_good (c := b54) (rs := rs54) (nt := 10) (by kernel_rfl) (by kernel_rfl) (by kernel_rfl) fun α no call n kr => f54_ok no call n kr
-- changeling/method.types$1
noncomputable def b55 : Code := match Try.f55.body with | some c => c | none => .skip
noncomputable def rs55 : List ResultVar := Try.f55.results.toList
noncomputable def f55 {α : Type} (no : α) (call : Call' α) (n : Nat) (kr : AV → Heap → α) (a0 a1 : AV) (h : Heap) : α :=
  boxF no a0 h h.next fun v1 h => boxF no a1 h h.next fun v2 h => faF no 0 v1 fun v3 => load1F no h v3 fun v4 => faF no 0 v2 fun v5 => load1F no h v5 fun v6 => eqsF Try.prog no 9 v4 v6 fun v7 => kr v7 h
theorem f55_ok {α : Type} (no : α) (call : Call' α) (n : Nat) (kr : AV → Heap → α) : R Try.prog no call n b55 (kend Try.prog no rs55 kr) = fun t _ h => f55 no call n kr (Tm.get t 0) (Tm.get t 1) h := by kernel_rfl
theorem f55_good : Good Try.prog (cfg mm) 55 (entF Try.prog (cfg mm) 55 2 fun α => f55) := entF_good (c := b55) (rs := rs55) (nt := 10) (by kernel_rfl) (by kernel_rfl) (by kernel_rfl) fun α no call n kr => f55_ok no call n kr
end Go.Zev.G9
