/-
  Printed by zgen.py: clean forms.
-/
import Derived.Test.YtkhhemkkgblgiaaGreatDoorZ3
import Derived.Test.YtkhhemkkgblgiaaGreatDoorProg
import Derived.KernelRfl
set_option linter.unusedVariables false
set_option maxRecDepth 20000
namespace Go.Zev.Pn
open Go Go.Zev Go.Proofs
noncomputable abbrev Pq : Program := Tryz.prog
noncomputable def cfg (memo : FuncId → Option (List AV → Option AV)) : Cfg := ⟨fun f => Nat.beq f 50 || Nat.beq f 54 || Nat.beq f 65 || Nat.beq f 67 || Nat.beq f 103 || Nat.beq f 110 || Nat.beq f 173 || Nat.beq f 298, fun f => Bool.rec (motive := fun _ => Nat) 512 511 (Nat.beq f 43 || Nat.beq f 100 || Nat.beq f 101 || Nat.beq f 102), memo⟩
variable {mm : FuncId → Option (List AV → Option AV)}
noncomputable def b17 := bdy Tryz.f17
noncomputable def rs17 := Tryz.f17.results.toList
variable {α : Type} (o : α) (c : Call' α) (n : Nat) (k : AV → Heap → α) (w : FuncId → Nat)
noncomputable def f17 {α : Type} (o : α) (c : Call' α) (n : Nat) (k : AV → Heap → α) (a0 a1 : AV) (h : Heap) : α :=
  c 44 [a0, a1] h fun v1 h => pk k v1 h <| geqF Pq o 3 v1 (.i .i64 0) fun v2 => k v2 h
theorem f17_ok : R Pq o c n b17 (kend Pq o c n w rs17 k) = fun t _ h => f17 o c n k (t 0) (t 1) h := by kernel_rfl
theorem f17_good : Good Pq (cfg mm) 17 (entF Pq (cfg mm) 17 2 fun α => f17) := entG b17 rs17 9 fun _ => f17_ok
noncomputable def b36 := bdy Tryz.f36
noncomputable def rs36 := Tryz.f36.results.toList
noncomputable def f36_5K : Ex → K α := (nxK (R Pq o c n (cB (cB (cB (cB (cB b36))))) (kend Pq o c n w rs36 k)) (kend Pq o c n w rs36 k))
noncomputable def f36_8K (lp0 : AVs (Heap → α) 4) : Ex → K α := (nxK (fun t _ h => lp0 (t 0) (t 5) (t 6) (t 7) h) (blockK (cI (cB (cA (cB (cB (cB (cB b36))))))) (f36_5K o c n k w)))
noncomputable def f36_14 {α : Type} (o : α) (c : Call' α) (n : Nat) (k : AV → Heap → α) (lp0 : AVs (Heap → α) 4) (s0 s5 s6 s7 s9 : AV) (h : Heap) : α :=
  addF Pq o 3 s7 s9 fun v1 => lp0 s0 s5 s6 v1 h
theorem f36_14_ok (lp0 : AVs (Heap → α) 4) : R Pq o c n (cB (cB (cB (cB (cB (cA (cB (cA (cA (cB (cA (cB (cB (cB (cB b36))))))))))))))) (blockK (cI (cB (cA (cA (cB (cA (cB (cB (cB (cB b36)))))))))) (f36_8K o c n k w lp0)) = fun t _ h => f36_14 o c n k lp0 (t 0) (t 5) (t 6) (t 7) (t 9) h := by kernel_rfl
noncomputable def f36_13 (lp0 : AVs (Heap → α) 4) (s0 s5 s6 s7 s8 s9 : AV) (h : Heap) : α :=
  faF o 0 s8 fun v2 => load1F o h v2 fun v3 => gtrF Pq o 3 v3 (.i .i64 0) fun v4 => ifF o v4 (loadNF o h 3 s8 fun v5 => fil1 o 3 1 0 v5 [[(.i .i64 0), (.s 0 0), (.i .i64 0)]] fun v6 => newEF h h.next 3 1 v6 fun v7 h => appX Pq o h h.next 72 72 s6 v7 fun v8 h => f36_14 o c n k lp0 s0 s5 v8 s7 s9 h) (f36_14 o c n k lp0 s0 s5 s6 s7 s9 h)
theorem f36_13_ok (lp0 : AVs (Heap → α) 4) : R Pq o c n (cB (cB (cB (cB (cA (cB (cA (cA (cB (cA (cB (cB (cB (cB b36)))))))))))))) (blockK (cI (cB (cA (cA (cB (cA (cB (cB (cB (cB b36)))))))))) (f36_8K o c n k w lp0)) = fun t _ h => f36_13 o c n k lp0 (t 0) (t 5) (t 6) (t 7) (t 8) (t 9) h := (kseq (f36_14_ok o c n k w lp0) rfl).tk
noncomputable def f36_15K (lp0 : AVs (Heap → α) 4) : Ex → K α := (nxK (fun t _ h => f36_13 o c n k lp0 (t 0) (t 5) (t 6) (t 7) (t 8) (t 9) h) (blockK (cI (cB (cA (cA (cB (cA (cB (cB (cB (cB b36)))))))))) (f36_8K o c n k w lp0)))
noncomputable def f36_16 (lp0 : AVs (Heap → α) 4) (s0 s5 s6 s7 s8 s9 s40 : AV) (h : Heap) : α :=
  ifF o s40 (k (.tup [.nsl, (.i .i64 2), s5]) h) (f36_13 o c n k lp0 s0 s5 s6 s7 s8 s9 h)
theorem f36_16_ok (lp0 : AVs (Heap → α) 4) : R Pq o c n (cB (cA (cB (cB (cB (cA (cB (cA (cA (cB (cA (cB (cB (cB (cB b36))))))))))))))) (f36_15K o c n k w lp0) = fun t _ h => f36_16 o c n k lp0 (t 0) (t 5) (t 6) (t 7) (t 8) (t 9) (t 40) h := by kernel_rfl
noncomputable def f36_17K (lp0 : AVs (Heap → α) 4) : Ex → K α := (nxK (fun t _ h => f36_16 o c n k lp0 (t 0) (t 5) (t 6) (t 7) (t 8) (t 9) (t 40) h) (f36_15K o c n k w lp0))
noncomputable def f36_12 (lp0 : AVs (Heap → α) 4) (s0 s5 s6 s7 s8 s9 : AV) (h : Heap) : α :=
  geqF Pq o 3 s5 (.i .i64 0) fun v9 => bkF o true v9 (addF Pq o 3 s7 s9 fun v10 => gtrF Pq o 3 v10 s5 fun v11 => pickF o v9 v11 (.b false) fun v12 => f36_16 o c n k lp0 s0 s5 s6 s7 s8 s9 v12 h) (pickF o v9 (.tup []) (.b false) fun v13 => f36_16 o c n k lp0 s0 s5 s6 s7 s8 s9 v13 h)
theorem f36_12_ok (lp0 : AVs (Heap → α) 4) : R Pq o c n (cB (cB (cB (cA (cB (cA (cA (cB (cA (cB (cB (cB (cB b36))))))))))))) (blockK (cI (cB (cA (cA (cB (cA (cB (cB (cB (cB b36)))))))))) (f36_8K o c n k w lp0)) = fun t _ h => f36_12 o c n k lp0 (t 0) (t 5) (t 6) (t 7) (t 8) (t 9) h := (kseq (f36_13_ok o c n k w lp0) (kseq (f36_16_ok o c n k w lp0) (r_start 3 (by kernel_rfl) (q_guard 3 8 (2, true) (by kernel_rfl) (by kernel_rfl) (by kernel_rfl) rfl)))).tk
noncomputable def f36_11 (lp0 : AVs (Heap → α) 4) (s0 s5 s6 s7 s8 s9 : AV) (h : Heap) : α :=
  eqiF Pq o 3 s9 (.i .i64 0) fun v14 => ifF o v14 (k (.tup [.nsl, (.i .i64 2), s7]) h) (f36_12 o c n k lp0 s0 s5 s6 s7 s8 s9 h)
theorem f36_11_ok (lp0 : AVs (Heap → α) 4) : R Pq o c n (cB (cB (cA (cB (cA (cA (cB (cA (cB (cB (cB (cB b36)))))))))))) (blockK (cI (cB (cA (cA (cB (cA (cB (cB (cB (cB b36)))))))))) (f36_8K o c n k w lp0)) = fun t _ h => f36_11 o c n k lp0 (t 0) (t 5) (t 6) (t 7) (t 8) (t 9) h := (kseq (f36_12_ok o c n k w lp0) rfl).tk
noncomputable def f36_10 (lp0 : AVs (Heap → α) 4) (s0 s5 s6 s7 : AV) (h : Heap) : α :=
  c 77 [s0, s7] h fun v15 h => pk k v15 h <| exF o v15 0 fun v16 => exF o v15 1 fun v17 => newF h h.next 3 [(.i .i64 0), (.s 0 0), (.i .i64 0)] fun v18 h => storeF o h 3 v18 v16 fun h => f36_11 o c n k lp0 s0 s5 s6 s7 v18 v17 h
theorem f36_10_ok (lp0 : AVs (Heap → α) 4) : R Pq o c n (cB (cA (cB (cA (cA (cB (cA (cB (cB (cB (cB b36))))))))))) (blockK (cI (cB (cA (cA (cB (cA (cB (cB (cB (cB b36)))))))))) (f36_8K o c n k w lp0)) = fun t _ h => f36_10 o c n k lp0 (t 0) (t 5) (t 6) (t 7) h := (kseq (f36_11_ok o c n k w lp0) rfl).tk
noncomputable def f36_9 (lp0 : AVs (Heap → α) 4) (s0 s5 s6 s7 : AV) (h : Heap) : α :=
  eqiF Pq o 3 s7 s5 fun v19 => ifF o v19 (k (.tup [.nsl, (.i .i64 2), s5]) h) (f36_10 o c n k lp0 s0 s5 s6 s7 h)
theorem f36_9_ok (lp0 : AVs (Heap → α) 4) : R Pq o c n (cB (cA (cA (cB (cA (cB (cB (cB (cB b36))))))))) (f36_8K o c n k w lp0) = fun t _ h => f36_9 o c n k lp0 (t 0) (t 5) (t 6) (t 7) h := (kblk (kseq (f36_10_ok o c n k w lp0) rfl)).tk
noncomputable def f36_7 (m : Nat) : AVs (Heap → α) 4 :=
  Nat.rec (motive := fun _ => AVs (Heap → α) 4) (fun _ _ _ _ _ => o) (fun _ lp0 s0 s5 s6 s7 h => lensF o s0 fun v20 => lssF Pq o 3 s7 v20 fun v21 => ifF o v21 (f36_9 o c n k lp0 s0 s5 s6 s7 h) (k (.tup [s6, (.i .i64 0), (.i .i64 0)]) h)) m
theorem f36_7_ok : R Pq o c n (cA (cB (cA (cB (cB (cB (cB b36))))))) (blockK (cI (cB (cA (cB (cB (cB (cB b36))))))) (f36_5K o c n k w)) = fun t _ h => f36_7 o c n k n (t 0) (t 5) (t 6) (t 7) h :=
  c_loop (F := fun m t _ h => f36_7 o c n k m (t 0) (t 5) (t 6) (t 7) h) (by kernel_rfl) (by kernel_rfl) fun m => (kseq (f36_9_ok o c n k w (f36_7 o c n k m)) rfl).tk
noncomputable def f36_6 (s0 s5 s6 s7 : AV) (h : Heap) : α :=
  f36_7 o c n k n s0 s5 s6 s7 h
theorem f36_6_ok : R Pq o c n (cB (cA (cB (cB (cB (cB b36)))))) (f36_5K o c n k w) = fun t _ h => f36_6 o c n k (t 0) (t 5) (t 6) (t 7) h := (kblk (f36_7_ok o c n k w)).tk
noncomputable def f36_4 (s0 s5 s6 : AV) (h : Heap) : α :=
  f36_6 o c n k s0 s5 s6 (.i .i64 0) h
theorem f36_4_ok : R Pq o c n (cB (cB (cB (cB b36)))) (kend Pq o c n w rs36 k) = fun t _ h => f36_4 o c n k (t 0) (t 5) (t 6) h := (kseq rfl (kseq (f36_6_ok o c n k w) rfl)).tk
noncomputable def f36_3 (s0 s5 : AV) (h : Heap) : α :=
  f36_4 o c n k s0 s5 .nsl h
theorem f36_3_ok : R Pq o c n (cB (cB (cB b36))) (kend Pq o c n w rs36 k) = fun t _ h => f36_3 o c n k (t 0) (t 5) h := (kseq (f36_4_ok o c n k w) rfl).tk
noncomputable def f36_2 (s0 : AV) (h : Heap) : α :=
  c 76 [s0] h fun v22 h => pk k v22 h <| f36_3 o c n k s0 v22 h
theorem f36_2_ok : R Pq o c n (cB (cB b36)) (kend Pq o c n w rs36 k) = fun t _ h => f36_2 o c n k (t 0) h := (kseq (f36_3_ok o c n k w) rfl).tk
noncomputable def f36_1 (s0 : AV) (h : Heap) : α :=
  lensF o s0 fun v23 => gtrF Pq o 3 v23 (.i .i64 8000) fun v24 => ifF o v24 (k (.tup [.nsl, (.i .i64 5), (.i .i64 0)]) h) (f36_2 o c n k s0 h)
theorem f36_1_ok : R Pq o c n (cB b36) (kend Pq o c n w rs36 k) = fun t _ h => f36_1 o c n k (t 0) h := (kseq (f36_2_ok o c n k w) rfl).tk
noncomputable def f36 (a0 : AV) (h : Heap) : α :=
  f36_1 o c n k a0 h
theorem f36_ok : R Pq o c n b36 (kend Pq o c n w rs36 k) = fun t _ h => f36 o c n k (t 0) h := (kseq (f36_1_ok o c n k w) rfl).tk
theorem f36_good : Good Pq (cfg mm) 36 (entF Pq (cfg mm) 36 1 fun α => f36) := entG b36 rs36 53 fun _ => f36_ok
noncomputable def b37 := bdy Tryz.f37
noncomputable def rs37 := Tryz.f37.results.toList
noncomputable def f37 {α : Type} (o : α) (c : Call' α) (n : Nat) (k : AV → Heap → α) (a0 a1 : AV) (h : Heap) : α :=
  c 39 [a0, a1] h fun v1 h => pk k v1 h <| notF o v1 fun v2 => ifF o v2 (c 78 [a0, (.i .i64 3)] h fun v3 h => pk k v3 h <| k (.tup []) h) (k (.tup []) h)
theorem f37_ok : R Pq o c n b37 (kend Pq o c n w rs37 k) = fun t _ h => f37 o c n k (t 0) (t 1) h := by kernel_rfl
theorem f37_good : Good Pq (cfg mm) 37 (entF Pq (cfg mm) 37 2 fun α => f37) := entG b37 rs37 10 fun _ => f37_ok
noncomputable def b38 := bdy Tryz.f38
noncomputable def rs38 := Tryz.f38.results.toList
noncomputable def f38 {α : Type} (o : α) (c : Call' α) (n : Nat) (k : AV → Heap → α) (a0 : AV) (h : Heap) : α :=
  c 79 [a0, (.i .i64 0)] h fun v1 h => pk k v1 h <| notF o v1 fun v2 => ifF o v2 (c 78 [a0, (.i .i64 3)] h fun v3 h => pk k v3 h <| k (.s 0 0) h) (c 80 [a0] h fun v4 h => pk k v4 h <| k v4 h)
theorem f38_ok : R Pq o c n b38 (kend Pq o c n w rs38 k) = fun t _ h => f38 o c n k (t 0) h := by kernel_rfl
theorem f38_good : Good Pq (cfg mm) 38 (entF Pq (cfg mm) 38 1 fun α => f38) := entG b38 rs38 10 fun _ => f38_ok
noncomputable def b39 := bdy Tryz.f39
noncomputable def rs39 := Tryz.f39.results.toList
noncomputable def f39_2K : Ex → K α := (nxK (R Pq o c n (cB (cB b39)) (kend Pq o c n w rs39 k)) (kend Pq o c n w rs39 k))
noncomputable def f39_3 {α : Type} (o : α) (c : Call' α) (n : Nat) (k : AV → Heap → α) (s0 s12 : AV) (h : Heap) : α :=
  ifF o s12 (nilChk o s0 fun v1 => faF o 2 v1 fun v2 => load1F o h v2 fun v3 => addF Pq o 3 v3 (.i .i64 1) fun v4 => nilChk o s0 fun v5 => faF o 2 v5 fun v6 => storeF o h 1 v6 v4 fun h => k (.b true) h) (k (.b false) h)
theorem f39_3_ok : R Pq o c n (cB (cA (cB b39))) (f39_2K o c n k w) = fun t _ h => f39_3 o c n k (t 0) (t 12) h := by kernel_rfl
noncomputable def f39_4K : Ex → K α := (nxK (fun t _ h => f39_3 o c n k (t 0) (t 12) h) (f39_2K o c n k w))
noncomputable def f39_1 (s0 s1 : AV) (h : Heap) : α :=
  c 40 [s0, s1] h fun v7 h => pk k v7 h <| bkF o false v7 (c 81 [s0, s1] h fun v8 h => pk k v8 h <| pickF o v7 (.b true) v8 fun v9 => f39_3 o c n k s0 v9 h) (pickF o v7 (.b true) (.tup []) fun v10 => f39_3 o c n k s0 v10 h)
theorem f39_1_ok : R Pq o c n (cB b39) (kend Pq o c n w rs39 k) = fun t _ h => f39_1 o c n k (t 0) (t 1) h := (kseq rfl (kseq (f39_3_ok o c n k w) (r_start 4 (by kernel_rfl) (q_guard 4 7 (3, false) (by kernel_rfl) (by kernel_rfl) (by kernel_rfl) rfl)))).tk
noncomputable def f39 (a0 a1 : AV) (h : Heap) : α :=
  f39_1 o c n k a0 a1 h
theorem f39_ok : R Pq o c n b39 (kend Pq o c n w rs39 k) = fun t _ h => f39 o c n k (t 0) (t 1) h := (kseq (f39_1_ok o c n k w) rfl).tk
theorem f39_good : Good Pq (cfg mm) 39 (entF Pq (cfg mm) 39 2 fun α => f39) := entG b39 rs39 20 fun _ => f39_ok
noncomputable def b40 := bdy Tryz.f40
noncomputable def rs40 := Tryz.f40.results.toList
noncomputable def f40 {α : Type} (o : α) (c : Call' α) (n : Nat) (k : AV → Heap → α) (a0 a1 : AV) (h : Heap) : α :=
  c 82 [a0, (.i .i64 0), (.i .i64 4), a1] h fun v1 h => pk k v1 h <| k v1 h
theorem f40_ok : R Pq o c n b40 (kend Pq o c n w rs40 k) = fun t _ h => f40 o c n k (t 0) (t 1) h := by kernel_rfl
theorem f40_good : Good Pq (cfg mm) 40 (entF Pq (cfg mm) 40 2 fun α => f40) := entG b40 rs40 8 fun _ => f40_ok
noncomputable def b44 := bdy Tryz.f44
noncomputable def rs44 := Tryz.f44.results.toList
noncomputable def f44_2K : Ex → K α := (nxK (R Pq o c n (cB (cB b44)) (kend Pq o c n w rs44 k)) (kend Pq o c n w rs44 k))
noncomputable def f44_4 {α : Type} (o : α) (c : Call' α) (n : Nat) (k : AV → Heap → α) (m : Nat) : AVs (Heap → α) 4 :=
  Nat.rec (motive := fun _ => AVs (Heap → α) 4) (fun _ _ _ _ _ => o) (fun _ lp0 s0 s1 s7 s8 h => lssF Pq o 3 s8 s7 fun v1 => ifF o v1 (ixF o 1 s0 s8 fun v2 => load1F o h v2 fun v3 => eqsF Pq o 9 s1 v3 fun v4 => ifF o v4 (k s8 h) (addF Pq o 3 s8 (.i .i64 1) fun v5 => lp0 s0 s1 s7 v5 h)) (k (.i .i64 (-1)) h)) m
theorem f44_4_ok : R Pq o c n (cA (cB (cA (cB b44)))) (blockK (cI (cB (cA (cB b44)))) (f44_2K o c n k w)) = fun t _ h => f44_4 o c n k n (t 0) (t 1) (t 7) (t 8) h :=
  c_loop (F := fun m t _ h => f44_4 o c n k m (t 0) (t 1) (t 7) (t 8) h) (by kernel_rfl) (by kernel_rfl) fun m => by kernel_rfl
noncomputable def f44_3 (s0 s1 s7 s8 : AV) (h : Heap) : α :=
  f44_4 o c n k n s0 s1 s7 s8 h
theorem f44_3_ok : R Pq o c n (cB (cA (cB b44))) (f44_2K o c n k w) = fun t _ h => f44_3 o c n k (t 0) (t 1) (t 7) (t 8) h := (kblk (f44_4_ok o c n k w)).tk
noncomputable def f44_1 (s0 s1 : AV) (h : Heap) : α :=
  lenF o s0 fun v6 => f44_3 o c n k s0 s1 v6 (.i .i64 0) h
theorem f44_1_ok : R Pq o c n (cB b44) (kend Pq o c n w rs44 k) = fun t _ h => f44_1 o c n k (t 0) (t 1) h := (kseq rfl (kseq (f44_3_ok o c n k w) rfl)).tk
noncomputable def f44 (a0 a1 : AV) (h : Heap) : α :=
  f44_1 o c n k a0 a1 h
theorem f44_ok : R Pq o c n b44 (kend Pq o c n w rs44 k) = fun t _ h => f44 o c n k (t 0) (t 1) h := (kseq (f44_1_ok o c n k w) rfl).tk
theorem f44_good : Good Pq (cfg mm) 44 (entF Pq (cfg mm) 44 2 fun α => f44) := entG b44 rs44 19 fun _ => f44_ok
noncomputable def b46 := bdy Tryz.f46
noncomputable def rs46 := Tryz.f46.results.toList
noncomputable def f46 {α : Type} (o : α) (c : Call' α) (n : Nat) (k : AV → Heap → α) (a0 a1 : AV) (h : Heap) : α :=
  boxF o a1 h h.next fun v1 h => nilChk o a0 fun v2 => faF o 4 v2 fun v3 => load1F o h v3 fun v4 => addF Pq o 3 v4 (.i .i64 1) fun v5 => nilChk o a0 fun v6 => faF o 4 v6 fun v7 => storeF o h 1 v7 v5 fun h => dreg o h 32 fun base h => nilChk o a0 fun v8 => faF o 2 v8 fun v9 => rootF o v9 a0 <| load1F o (h.look 14) v9 fun v10 => nilChk o a0 fun v11 => faF o 1 v11 fun v12 => rootF o v12 a0 <| load1F o (h.look 224) v12 fun v13 => nilChk o a0 fun v14 => faF o 0 v14 fun v15 => faF o 0 v15 fun v16 => rootF o v16 a0 <| load1F o (h.look 7680) v16 fun v17 => nilChk o a0 fun v18 => faF o 3 v18 fun v19 => rootF o v19 a0 <| load1F o (h.look 114688) v19 fun v20 => ixF o 4 v17 v20 fun v21 => faF o 0 v21 fun v22 => load1F o (h.look 1048064) v22 fun v23 => nilChk o a0 fun v24 => faF o 4 v24 fun v25 => rootF o v25 a0 <| load1F o (h.look 14680064) v25 fun v26 => loadNF o (h.look 0) 1 v1 fun v27 => layF o 0 v13 [(.s 0 0), (.s 0 0), (.i .i64 0), .nsl] fun v28 => layF o 1 v23 v28 fun v29 => layF o 2 v26 v29 fun v30 => layF o 3 v27 v30 fun v31 => fil1 o 4 1 0 (.agg v31) [[(.s 0 0), (.s 0 0), (.i .i64 0), .nsl]] fun v32 => newEF (h.look 134217696) (Nat.add base 27) 4 1 v32 fun v33 h => lb [] fun ids => appD o ids (Nat.add base 28) <| appendY Pq o (hide ids (h.look 268435454)) (Nat.add base 28) 28 28 v10 v33 fun v34 g => hb (back h ids g) fun h => nilChk o a0 fun v35 => faF o 2 v35 fun v36 => rootF o v36 a0 <| storeF o (h.look 2147483647) 1 v36 v34 fun h => hb h.shut fun h => k (.tup []) h
theorem f46_ok : R Pq o c n b46 (kend Pq o c n w rs46 k) = fun t _ h => f46 o c n k (t 0) (t 1) h := by kernel_rfl
theorem f46_good : Good Pq (cfg mm) 46 (entF Pq (cfg mm) 46 2 fun α => f46) := entG b46 rs46 42 fun _ => f46_ok
noncomputable def b50 := bdy Tryz.f50
noncomputable def rs50 := Tryz.f50.results.toList
noncomputable def f50 {α : Type} (o : α) (c : Call' α) (n : Nat) (k : AV → Heap → α) (a0 : AV) (h : Heap) : α :=
  eqiF Pq o 49 a0 .nsl fun v1 => ifF o v1 (k .nsl h) (newEF h h.next 6 0 [] fun v2 h => appX Pq o h h.next 49 49 v2 a0 fun v3 h => k v3 h)
theorem f50_ok : R Pq o c n b50 (kend Pq o c n w rs50 k) = fun t _ h => f50 o c n k (t 0) h := by kernel_rfl
theorem f50_good : Good Pq (cfg mm) 50 (entF Pq (cfg mm) 50 1 fun α => f50) := entG b50 rs50 8 fun _ => f50_ok
noncomputable def b54 := bdy Tryz.f54
noncomputable def rs54 := Tryz.f54.results.toList
noncomputable def f54 {α : Type} (o : α) (c : Call' α) (n : Nat) (k : AV → Heap → α) (a0 : AV) (h : Heap) : α :=
  eqiF Pq o 55 a0 .nsl fun v1 => ifF o v1 (k .nsl h) (newEF h h.next 8 0 [] fun v2 h => appX Pq o h h.next 55 55 v2 a0 fun v3 h => k v3 h)
theorem f54_ok : R Pq o c n b54 (kend Pq o c n w rs54 k) = fun t _ h => f54 o c n k (t 0) h := by kernel_rfl
theorem f54_good : Good Pq (cfg mm) 54 (entF Pq (cfg mm) 54 1 fun α => f54) := entG b54 rs54 8 fun _ => f54_ok
noncomputable def b65 := bdy Tryz.f65
noncomputable def rs65 := Tryz.f65.results.toList
noncomputable def f65 {α : Type} (o : α) (c : Call' α) (n : Nat) (k : AV → Heap → α) (a0 : AV) (h : Heap) : α :=
  eqiF Pq o 48 a0 .nsl fun v1 => ifF o v1 (k .nsl h) (newEF h h.next 4 0 [] fun v2 h => appX Pq o h h.next 48 48 v2 a0 fun v3 h => k v3 h)
theorem f65_ok : R Pq o c n b65 (kend Pq o c n w rs65 k) = fun t _ h => f65 o c n k (t 0) h := by kernel_rfl
theorem f65_good : Good Pq (cfg mm) 65 (entF Pq (cfg mm) 65 1 fun α => f65) := entG b65 rs65 8 fun _ => f65_ok
noncomputable def b67 := bdy Tryz.f67
noncomputable def rs67 := Tryz.f67.results.toList
noncomputable def f67 {α : Type} (o : α) (c : Call' α) (n : Nat) (k : AV → Heap → α) (a0 : AV) (h : Heap) : α :=
  eqiF Pq o 60 a0 .nsl fun v1 => ifF o v1 (k .nsl h) (newEF h h.next 2 0 [] fun v2 h => appX Pq o h h.next 60 60 v2 a0 fun v3 h => k v3 h)
theorem f67_ok : R Pq o c n b67 (kend Pq o c n w rs67 k) = fun t _ h => f67 o c n k (t 0) h := by kernel_rfl
theorem f67_good : Good Pq (cfg mm) 67 (entF Pq (cfg mm) 67 1 fun α => f67) := entG b67 rs67 8 fun _ => f67_ok
noncomputable def b69 := bdy Tryz.f69
noncomputable def rs69 := Tryz.f69.results.toList
noncomputable def f69_2K : Ex → K α := (nxK (R Pq o c n (cB (cB b69)) (kend Pq o c n w rs69 k)) (kend Pq o c n w rs69 k))
noncomputable def f69_1 {α : Type} (o : α) (c : Call' α) (n : Nat) (k : AV → Heap → α) (s1 s2 : AV) (h : Heap) : α :=
  c 117 [s1] h fun v1 h => pk k v1 h <| bkF o false v1 (loadNF o h 1 s2 fun v2 => c 118 [v2, s1] h fun v3 h => pk k v3 h <| geqF Pq o 3 v3 (.i .i64 0) fun v4 => pickF o v1 (.b true) v4 fun v5 => k v5 h) (pickF o v1 (.b true) (.tup []) fun v6 => k v6 h)
theorem f69_1_ok : R Pq o c n (cB b69) (kend Pq o c n w rs69 k) = fun t _ h => f69_1 o c n k (t 1) (t 2) h := (kseq rfl (r_start 3 (by kernel_rfl) (q_guard 3 7 (2, false) (by kernel_rfl) (by kernel_rfl) (by kernel_rfl) rfl))).tk
noncomputable def f69 (a0 a1 : AV) (h : Heap) : α :=
  boxF o a0 h h.next fun v7 h => f69_1 o c n k a1 v7 h
theorem f69_ok : R Pq o c n b69 (kend Pq o c n w rs69 k) = fun t _ h => f69 o c n k (t 0) (t 1) h := (kseq (f69_1_ok o c n k w) rfl).tk
theorem f69_good : Good Pq (cfg mm) 69 (entF Pq (cfg mm) 69 2 fun α => f69) := entG b69 rs69 13 fun _ => f69_ok
noncomputable def b72 := bdy Tryz.f72
noncomputable def rs72 := Tryz.f72.results.toList
noncomputable def f72_3K : Ex → K α := (nxK (R Pq o c n (cB (cB (cB b72))) (kend Pq o c n w rs72 k)) (kend Pq o c n w rs72 k))
noncomputable def f72_6K (lp0 : AVs (Heap → α) 2) : Ex → K α := (nxK (fun t _ h => lp0 (t 1) (t 6) h) (blockK (cI (cB (cA (cB (cB b72))))) (f72_3K o c n k w)))
noncomputable def f72_8 {α : Type} (o : α) (c : Call' α) (n : Nat) (k : AV → Heap → α) (lp0 : AVs (Heap → α) 2) (s1 s6 : AV) (h : Heap) : α :=
  addF Pq o 3 s6 (.i .i64 1) fun v1 => lp0 s1 v1 h
theorem f72_8_ok (lp0 : AVs (Heap → α) 2) : R Pq o c n (cB (cB (cA (cA (cB (cA (cB (cB b72)))))))) (f72_6K o c n k w lp0) = fun t _ h => f72_8 o c n k lp0 (t 1) (t 6) h := by kernel_rfl
noncomputable def f72_7 (lp0 : AVs (Heap → α) 2) (s1 s6 : AV) (h : Heap) : α :=
  faF o 0 s1 fun v2 => load1F o h v2 fun v3 => ixF o 4 v3 s6 fun v4 => loadNF o h 4 v4 fun v5 => newF h h.next 4 [(.s 0 0), (.s 0 0), .nsl, .nsl] fun v6 h => storeF o h 4 v6 v5 fun h => faF o 1 v6 fun v7 => load1F o h v7 fun v8 => eqsF Pq o 9 v8 (.s 0 0) fun v9 => ifF o v9 (f72_8 o c n k lp0 s1 s6 h) (loadNF o h 1 s1 fun v10 => faF o 1 v6 fun v11 => load1F o h v11 fun v12 => c 121 [v10, v12] h fun v13 h => pk k v13 h <| notF o v13 fun v14 => ifF o v14 (k (.tup [(.i .i64 7), s6]) h) (loadNF o h 1 s1 fun v15 => faF o 0 v6 fun v16 => load1F o h v16 fun v17 => c 122 [v15, v17] h fun v18 h => pk k v18 h <| dreg o h 9 fun base h => loadNF o (h.look 0) 1 s1 fun v19 => lenF o v18 fun v20 => binA Pq o .sub 3 v20 (.i .i64 1) fun v21 => ixF o 1 v18 v21 fun v22 => rootF o v22 v18 <| load1F o (h.look 62) v22 fun v23 => callD o c [] 123 [v19, v23] (h.look 0) fun v24 h => pnF v24 (fun x => hb h.shut fun hd => k x.pn hd) <| hb h.shut fun h => loadNF o h 1 s1 fun v25 => c 121 [v25, v24] h fun v26 h => pk k v26 h <| ifF o v26 (k (.tup [(.i .i64 8), s6]) h) (f72_8 o c n k lp0 s1 s6 h)))
theorem f72_7_ok (lp0 : AVs (Heap → α) 2) : R Pq o c n (cB (cA (cA (cB (cA (cB (cB b72))))))) (f72_6K o c n k w lp0) = fun t _ h => f72_7 o c n k lp0 (t 1) (t 6) h := (kseq (f72_8_ok o c n k w lp0) rfl).tk
noncomputable def f72_5 (m : Nat) : AVs (Heap → α) 2 :=
  Nat.rec (motive := fun _ => AVs (Heap → α) 2) (fun _ _ _ => o) (fun _ lp0 s1 s6 h => faF o 0 s1 fun v27 => load1F o h v27 fun v28 => lenF o v28 fun v29 => lssF Pq o 3 s6 v29 fun v30 => ifF o v30 (f72_7 o c n k lp0 s1 s6 h) (k (.tup [(.i .i64 0), (.i .i64 0)]) h)) m
theorem f72_5_ok : R Pq o c n (cA (cB (cA (cB (cB b72))))) (blockK (cI (cB (cA (cB (cB b72))))) (f72_3K o c n k w)) = fun t _ h => f72_5 o c n k n (t 1) (t 6) h :=
  c_loop (F := fun m t _ h => f72_5 o c n k m (t 1) (t 6) h) (by kernel_rfl) (by kernel_rfl) fun m => (kseq (f72_7_ok o c n k w (f72_5 o c n k m)) rfl).tk
noncomputable def f72_4 (s1 s6 : AV) (h : Heap) : α :=
  f72_5 o c n k n s1 s6 h
theorem f72_4_ok : R Pq o c n (cB (cA (cB (cB b72)))) (f72_3K o c n k w) = fun t _ h => f72_4 o c n k (t 1) (t 6) h := (kblk (f72_5_ok o c n k w)).tk
noncomputable def f72_2 (s1 : AV) (h : Heap) : α :=
  f72_4 o c n k s1 (.i .i64 0) h
theorem f72_2_ok : R Pq o c n (cB (cB b72)) (kend Pq o c n w rs72 k) = fun t _ h => f72_2 o c n k (t 1) h := (kseq rfl (kseq (f72_4_ok o c n k w) rfl)).tk
noncomputable def f72_9K : Ex → K α := (nxK (fun t _ h => f72_2 o c n k (t 1) h) (kend Pq o c n w rs72 k))
noncomputable def f72_12K (lp0 : AVs (Heap → α) 2) : Ex → K α := (nxK (fun t _ h => lp0 (t 1) (t 4) h) (blockK (cI (cB (cA (cB b72)))) (f72_9K o c n k w)))
noncomputable def f72_14 {α : Type} (o : α) (c : Call' α) (n : Nat) (k : AV → Heap → α) (lp0 : AVs (Heap → α) 2) (s1 s4 : AV) (h : Heap) : α :=
  addF Pq o 3 s4 (.i .i64 1) fun v31 => lp0 s1 v31 h
theorem f72_14_ok (lp0 : AVs (Heap → α) 2) : R Pq o c n (cB (cB (cA (cA (cB (cA (cB b72))))))) (f72_12K o c n k w lp0) = fun t _ h => f72_14 o c n k lp0 (t 1) (t 4) h := by kernel_rfl
noncomputable def f72_15K (lp0 : AVs (Heap → α) 2) : Ex → K α := (nxK (fun t _ h => f72_14 o c n k lp0 (t 1) (t 4) h) (f72_12K o c n k w lp0))
noncomputable def f72_17 (lp0 : AVs (Heap → α) 2) (s1 s4 s32 : AV) (h : Heap) : α :=
  ifF o s32 (k (.tup [(.i .i64 6), s4]) h) (f72_14 o c n k lp0 s1 s4 h)
theorem f72_17_ok (lp0 : AVs (Heap → α) 2) : R Pq o c n (cB (cB (cA (cA (cB (cA (cA (cB (cA (cB b72)))))))))) (blockK (cI (cA (cB (cA (cA (cB (cA (cB b72)))))))) (f72_15K o c n k w lp0)) = fun t _ h => f72_17 o c n k lp0 (t 1) (t 4) (t 32) h := by kernel_rfl
noncomputable def f72_18K (lp0 : AVs (Heap → α) 2) : Ex → K α := (nxK (fun t _ h => f72_17 o c n k lp0 (t 1) (t 4) (t 32) h) (blockK (cI (cA (cB (cA (cA (cB (cA (cB b72)))))))) (f72_15K o c n k w lp0)))
noncomputable def f72_16 (lp0 : AVs (Heap → α) 2) (s1 s4 s5 : AV) (h : Heap) : α :=
  faF o 0 s5 fun v32 => load1F o h v32 fun v33 => c 119 [v33] h fun v34 h => pk k v34 h <| bkF o false v34 (loadNF o h 1 s1 fun v35 => faF o 0 s5 fun v36 => load1F o h v36 fun v37 => c 120 [v35, v37] h fun v38 h => pk k v38 h <| neiF Pq o 3 v38 s4 fun v39 => pickF o v34 (.b true) v39 fun v40 => f72_17 o c n k lp0 s1 s4 v40 h) (pickF o v34 (.b true) (.tup []) fun v41 => f72_17 o c n k lp0 s1 s4 v41 h)
theorem f72_16_ok (lp0 : AVs (Heap → α) 2) : R Pq o c n (cB (cA (cA (cB (cA (cA (cB (cA (cB b72))))))))) (blockK (cI (cA (cB (cA (cA (cB (cA (cB b72)))))))) (f72_15K o c n k w lp0)) = fun t _ h => f72_16 o c n k lp0 (t 1) (t 4) (t 5) h := (kseq (f72_17_ok o c n k w lp0) (r_start 4 (by kernel_rfl) (q_guard 4 10 (3, false) (by kernel_rfl) (by kernel_rfl) (by kernel_rfl) rfl))).tk
noncomputable def f72_13 (lp0 : AVs (Heap → α) 2) (s1 s4 : AV) (h : Heap) : α :=
  faF o 0 s1 fun v42 => load1F o h v42 fun v43 => ixF o 4 v43 s4 fun v44 => loadNF o h 4 v44 fun v45 => newF h h.next 4 [(.s 0 0), (.s 0 0), .nsl, .nsl] fun v46 h => storeF o h 4 v46 v45 fun h => f72_16 o c n k lp0 s1 s4 v46 h
theorem f72_13_ok (lp0 : AVs (Heap → α) 2) : R Pq o c n (cB (cA (cA (cB (cA (cB b72)))))) (f72_12K o c n k w lp0) = fun t _ h => f72_13 o c n k lp0 (t 1) (t 4) h := (kseq (f72_14_ok o c n k w lp0) (kblk (kseq (f72_16_ok o c n k w lp0) rfl))).tk
noncomputable def f72_11 (m : Nat) : AVs (Heap → α) 2 :=
  Nat.rec (motive := fun _ => AVs (Heap → α) 2) (fun _ _ _ => o) (fun _ lp0 s1 s4 h => faF o 0 s1 fun v47 => load1F o h v47 fun v48 => lenF o v48 fun v49 => lssF Pq o 3 s4 v49 fun v50 => ifF o v50 (f72_13 o c n k lp0 s1 s4 h) (f72_2 o c n k s1 h)) m
theorem f72_11_ok : R Pq o c n (cA (cB (cA (cB b72)))) (blockK (cI (cB (cA (cB b72)))) (f72_9K o c n k w)) = fun t _ h => f72_11 o c n k n (t 1) (t 4) h :=
  c_loop (F := fun m t _ h => f72_11 o c n k m (t 1) (t 4) h) (by kernel_rfl) (by kernel_rfl) fun m => (kseq (f72_13_ok o c n k w (f72_11 o c n k m)) rfl).tk
noncomputable def f72_10 (s1 s4 : AV) (h : Heap) : α :=
  f72_11 o c n k n s1 s4 h
theorem f72_10_ok : R Pq o c n (cB (cA (cB b72))) (f72_9K o c n k w) = fun t _ h => f72_10 o c n k (t 1) (t 4) h := (kblk (f72_11_ok o c n k w)).tk
noncomputable def f72_1 (s1 : AV) (h : Heap) : α :=
  f72_10 o c n k s1 (.i .i64 0) h
theorem f72_1_ok : R Pq o c n (cB b72) (kend Pq o c n w rs72 k) = fun t _ h => f72_1 o c n k (t 1) h := (kseq (f72_2_ok o c n k w) (kseq (f72_10_ok o c n k w) rfl)).tk
noncomputable def f72 (a0 : AV) (h : Heap) : α :=
  boxF o a0 h h.next fun v51 h => f72_1 o c n k v51 h
theorem f72_ok : R Pq o c n b72 (kend Pq o c n w rs72 k) = fun t _ h => f72 o c n k (t 0) h := (kseq (f72_1_ok o c n k w) rfl).tk
theorem f72_good : Good Pq (cfg mm) 72 (entF Pq (cfg mm) 72 1 fun α => f72) := entG b72 rs72 71 fun _ => f72_ok
noncomputable def b76 := bdy Tryz.f76
noncomputable def rs76 := Tryz.f76.results.toList
noncomputable def f76_2K : Ex → K α := (nxK (R Pq o c n (cB (cB b76)) (kend Pq o c n w rs76 k)) (kend Pq o c n w rs76 k))
noncomputable def f76_4 {α : Type} (o : α) (c : Call' α) (n : Nat) (k : AV → Heap → α) (m : Nat) : AVs (Heap → α) 2 :=
  Nat.rec (motive := fun _ => AVs (Heap → α) 2) (fun _ _ _ => o) (fun _ lp0 s0 s3 h => lensF o s0 fun v1 => lssF Pq o 3 s3 v1 fun v2 => ifF o v2 (c 132 [s0, s3] h fun v3 h => pk k v3 h <| newF h h.next 3 [(.i .i32 0), (.i .i64 0), (.b false)] fun v4 h => storeF o h 3 v4 v3 fun h => faF o 2 v4 fun v5 => load1F o h v5 fun v6 => ifF o v6 (k s3 h) (faF o 1 v4 fun v7 => load1F o h v7 fun v8 => addF Pq o 3 s3 v8 fun v9 => lp0 s0 v9 h)) (k (.i .i64 (-1)) h)) m
theorem f76_4_ok : R Pq o c n (cA (cB (cA (cB b76)))) (blockK (cI (cB (cA (cB b76)))) (f76_2K o c n k w)) = fun t _ h => f76_4 o c n k n (t 0) (t 3) h :=
  c_loop (F := fun m t _ h => f76_4 o c n k m (t 0) (t 3) h) (by kernel_rfl) (by kernel_rfl) fun m => by kernel_rfl
noncomputable def f76_3 (s0 s3 : AV) (h : Heap) : α :=
  f76_4 o c n k n s0 s3 h
theorem f76_3_ok : R Pq o c n (cB (cA (cB b76))) (f76_2K o c n k w) = fun t _ h => f76_3 o c n k (t 0) (t 3) h := (kblk (f76_4_ok o c n k w)).tk
noncomputable def f76_1 (s0 : AV) (h : Heap) : α :=
  f76_3 o c n k s0 (.i .i64 0) h
theorem f76_1_ok : R Pq o c n (cB b76) (kend Pq o c n w rs76 k) = fun t _ h => f76_1 o c n k (t 0) h := (kseq rfl (kseq (f76_3_ok o c n k w) rfl)).tk
noncomputable def f76 (a0 : AV) (h : Heap) : α :=
  f76_1 o c n k a0 h
theorem f76_ok : R Pq o c n b76 (kend Pq o c n w rs76 k) = fun t _ h => f76 o c n k (t 0) h := (kseq (f76_1_ok o c n k w) rfl).tk
theorem f76_good : Good Pq (cfg mm) 76 (entF Pq (cfg mm) 76 1 fun α => f76) := entG b76 rs76 19 fun _ => f76_ok
noncomputable def b77 := bdy Tryz.f77
noncomputable def rs77 := Tryz.f77.results.toList
noncomputable def f77_5 {α : Type} (o : α) (c : Call' α) (n : Nat) (k : AV → Heap → α) (s0 s1 s4 : AV) (h : Heap) : α :=
  fil1 o 1 17 0 (.s 1 123) (lrep [(.s 0 0)] 17) fun v1 => fil1 o 1 17 1 (.s 1 125) v1 fun v2 => fil1 o 1 17 2 (.s 1 40) v2 fun v3 => fil1 o 1 17 3 (.s 1 41) v3 fun v4 => fil1 o 1 17 4 (.s 1 59) v4 fun v5 => fil1 o 1 17 5 (.s 1 44) v5 fun v6 => fil1 o 1 17 6 (.s 1 46) v6 fun v7 => fil1 o 1 17 7 (.s 1 61) v7 fun v8 => fil1 o 1 17 8 (.s 1 60) v8 fun v9 => fil1 o 1 17 9 (.s 1 43) v9 fun v10 => fil1 o 1 17 10 (.s 1 45) v10 fun v11 => fil1 o 1 17 11 (.s 1 42) v11 fun v12 => fil1 o 1 17 12 (.s 1 47) v12 fun v13 => fil1 o 1 17 13 (.s 1 37) v13 fun v14 => fil1 o 1 17 14 (.s 1 33) v14 fun v15 => fil1 o 1 17 15 (.s 1 35) v15 fun v16 => fil1 o 1 17 16 (.s 1 64) v16 fun v17 => newEF h h.next 1 17 v17 fun v18 h => addF Pq o 3 s1 (.i .i64 1) fun v19 => ssF Pq o 9 s0 (some s1) (some v19) fun v20 => c 137 [v18, v20] h fun v21 h => pk k v21 h <| ifF o v21 (addF Pq o 3 s1 (.i .i64 1) fun v22 => ssF Pq o 9 s0 (some s1) (some v22) fun v23 => layF o 0 (.i .i64 4) [(.i .i64 0), (.s 0 0), (.i .i64 0)] fun v24 => layF o 1 v23 v24 fun v25 => layF o 2 s1 v25 fun v26 => storeF o h 3 s4 (.agg v26) fun h => on o (resV Pq h [(s4, some 126), ((.i .i64 1), none)]) fun v => k v h) (storeF o h 3 s4 (.agg [(.i .i64 0), (.s 0 0), (.i .i64 0)]) fun h => on o (resV Pq h [(s4, some 126), ((.i .i64 0), none)]) fun v => k v h)
theorem f77_5_ok : R Pq o c n (cB (cB (cB (cB (cB b77))))) (kend Pq o c n w rs77 k) = fun t _ h => f77_5 o c n k (t 0) (t 1) (t 4) h := by kernel_rfl
noncomputable def f77_6K : Ex → K α := (nxK (fun t _ h => f77_5 o c n k (t 0) (t 1) (t 4) h) (kend Pq o c n w rs77 k))
noncomputable def f77_7 (s0 s1 s4 s160 : AV) (h : Heap) : α :=
  ifF o s160 (addF Pq o 3 s1 (.i .i64 2) fun v27 => ssF Pq o 9 s0 (some s1) (some v27) fun v28 => layF o 0 (.i .i64 4) [(.i .i64 0), (.s 0 0), (.i .i64 0)] fun v29 => layF o 1 v28 v29 fun v30 => layF o 2 s1 v30 fun v31 => storeF o h 3 s4 (.agg v31) fun h => on o (resV Pq h [(s4, some 126), ((.i .i64 2), none)]) fun v => k v h) (f77_5 o c n k s0 s1 s4 h)
theorem f77_7_ok : R Pq o c n (cB (cA (cB (cB (cB (cB b77)))))) (f77_6K o c n k w) = fun t _ h => f77_7 o c n k (t 0) (t 1) (t 4) (t 160) h := by kernel_rfl
noncomputable def f77_8K : Ex → K α := (nxK (fun t _ h => f77_7 o c n k (t 0) (t 1) (t 4) (t 160) h) (f77_6K o c n k w))
noncomputable def f77_4 (s0 s1 s4 : AV) (h : Heap) : α :=
  addF Pq o 3 s1 (.i .i64 2) fun v32 => lensF o s0 fun v33 => leqF Pq o 3 v32 v33 fun v34 => bkF o true v34 (fil1 o 1 6 0 (.s 2 14906) (lrep [(.s 0 0)] 6) fun v35 => fil1 o 1 6 1 (.s 2 15676) v35 fun v36 => fil1 o 1 6 2 (.s 2 15677) v36 fun v37 => fil1 o 1 6 3 (.s 2 15649) v37 fun v38 => fil1 o 1 6 4 (.s 2 9766) v38 fun v39 => fil1 o 1 6 5 (.s 2 31868) v39 fun v40 => newEF h h.next 1 6 v40 fun v41 h => addF Pq o 3 s1 (.i .i64 2) fun v42 => ssF Pq o 9 s0 (some s1) (some v42) fun v43 => c 137 [v41, v43] h fun v44 h => pk k v44 h <| pickF o v34 v44 (.b false) fun v45 => f77_7 o c n k s0 s1 s4 v45 h) (pickF o v34 (.tup []) (.b false) fun v46 => f77_7 o c n k s0 s1 s4 v46 h)
theorem f77_4_ok : R Pq o c n (cB (cB (cB (cB b77)))) (kend Pq o c n w rs77 k) = fun t _ h => f77_4 o c n k (t 0) (t 1) (t 4) h := (kseq (f77_5_ok o c n k w) (kseq (f77_7_ok o c n k w) (r_start 6 (by kernel_rfl) (q_guard 6 13 (5, true) (by kernel_rfl) (by kernel_rfl) (by kernel_rfl) rfl)))).tk
noncomputable def f77_9K : Ex → K α := (nxK (fun t _ h => f77_4 o c n k (t 0) (t 1) (t 4) h) (kend Pq o c n w rs77 k))
noncomputable def f77_12K : Ex → K α := (nxK (R Pq o c n (cB (cA (cB (cB (cB (cA (cA (cB (cB (cB b77)))))))))) (blockK (cI (cA (cB (cB (cB b77))))) (f77_9K o c n k w))) (blockK (cI (cA (cB (cB (cB b77))))) (f77_9K o c n k w)))
noncomputable def f77_14K (lp0 : AVs (Heap → α) 4) : Ex → K α := (nxK (fun t _ h => lp0 (t 0) (t 1) (t 4) (t 7) h) (blockK (cI (cA (cA (cB (cB (cB (cA (cA (cB (cB (cB b77))))))))))) (f77_12K o c n k w)))
noncomputable def f77_15 {α : Type} (o : α) (c : Call' α) (n : Nat) (k : AV → Heap → α) (lp0 : AVs (Heap → α) 4) (s0 s1 s4 s7 : AV) (h : Heap) : α :=
  addF Pq o 3 s7 (.i .i64 1) fun v47 => lp0 s0 s1 s4 v47 h
theorem f77_15_ok (lp0 : AVs (Heap → α) 4) : R Pq o c n (cB (cA (cA (cA (cA (cB (cB (cB (cA (cA (cB (cB (cB b77))))))))))))) (f77_14K o c n k w lp0) = fun t _ h => f77_15 o c n k lp0 (t 0) (t 1) (t 4) (t 7) h := by kernel_rfl
noncomputable def f77_16K (lp0 : AVs (Heap → α) 4) : Ex → K α := (nxK (fun t _ h => f77_15 o c n k lp0 (t 0) (t 1) (t 4) (t 7) h) (f77_14K o c n k w lp0))
noncomputable def f77_17K (lp0 : AVs (Heap → α) 4) : Ex → K α := (nxK (R Pq o c n (cB (cA (cA (cA (cA (cA (cB (cB (cB (cA (cA (cB (cB (cB b77)))))))))))))) (f77_16K o c n k w lp0)) (f77_16K o c n k w lp0))
noncomputable def f77_13 (m : Nat) : AVs (Heap → α) 4 :=
  Nat.rec (motive := fun _ => AVs (Heap → α) 4) (fun _ _ _ _ _ => o) (fun _ lp0 s0 s1 s4 s7 h => addF Pq o 3 s1 s7 fun v48 => lensF o s0 fun v49 => lssF Pq o 3 v48 v49 fun v50 => bkF o true v50 (addF Pq o 3 s1 s7 fun v51 => sxF o s0 v51 fun v52 => neiF Pq o 5 v52 (.i .u8 10) fun v53 => pickF o v50 v53 (.b false) fun v54 => ifF o v54 (f77_15 o c n k lp0 s0 s1 s4 s7 h) (storeF o h 3 s4 (.agg [(.i .i64 0), (.s 0 0), (.i .i64 0)]) fun h => on o (resV Pq h [(s4, some 126), (s7, none)]) fun v => k v h)) (pickF o v50 (.tup []) (.b false) fun v55 => ifF o v55 (f77_15 o c n k lp0 s0 s1 s4 s7 h) (storeF o h 3 s4 (.agg [(.i .i64 0), (.s 0 0), (.i .i64 0)]) fun h => on o (resV Pq h [(s4, some 126), (s7, none)]) fun v => k v h))) m
theorem f77_13_ok : R Pq o c n (cA (cA (cA (cB (cB (cB (cA (cA (cB (cB (cB b77))))))))))) (blockK (cI (cA (cA (cB (cB (cB (cA (cA (cB (cB (cB b77))))))))))) (f77_12K o c n k w)) = fun t _ h => f77_13 o c n k n (t 0) (t 1) (t 4) (t 7) h :=
  c_loop (F := fun m t _ h => f77_13 o c n k m (t 0) (t 1) (t 4) (t 7) h) (by kernel_rfl) (by kernel_rfl) fun m => (kseq (f77_15_ok o c n k w (f77_13 o c n k m)) (kseq rfl (r_start 7 (by kernel_rfl) (q_guard 7 13 (6, true) (by kernel_rfl) (by kernel_rfl) (by kernel_rfl) rfl)))).tk
noncomputable def f77_19K : Ex → K α := (nxK (R Pq o c n (cB (cA (cB (cB (cB (cB (cB (cA (cA (cB (cB (cB b77)))))))))))) (blockK (cI (cA (cB (cB (cB b77))))) (f77_9K o c n k w))) (blockK (cI (cA (cB (cB (cB b77))))) (f77_9K o c n k w)))
noncomputable def f77_21K (lp0 : AVs (Heap → α) 4) : Ex → K α := (nxK (fun t _ h => lp0 (t 0) (t 1) (t 4) (t 7) h) (blockK (cI (cA (cA (cB (cB (cB (cB (cB (cA (cA (cB (cB (cB b77))))))))))))) (f77_19K o c n k w)))
noncomputable def f77_22 {α : Type} (o : α) (c : Call' α) (n : Nat) (k : AV → Heap → α) (lp0 : AVs (Heap → α) 4) (s0 s1 s4 s7 : AV) (h : Heap) : α :=
  addF Pq o 3 s7 (.i .i64 1) fun v56 => lp0 s0 s1 s4 v56 h
theorem f77_22_ok (lp0 : AVs (Heap → α) 4) : R Pq o c n (cB (cA (cA (cA (cA (cB (cB (cB (cB (cB (cA (cA (cB (cB (cB b77))))))))))))))) (f77_21K o c n k w lp0) = fun t _ h => f77_22 o c n k lp0 (t 0) (t 1) (t 4) (t 7) h := by kernel_rfl
noncomputable def f77_23K (lp0 : AVs (Heap → α) 4) : Ex → K α := (nxK (fun t _ h => f77_22 o c n k lp0 (t 0) (t 1) (t 4) (t 7) h) (f77_21K o c n k w lp0))
noncomputable def f77_24K (lp0 : AVs (Heap → α) 4) : Ex → K α := (nxK (R Pq o c n (cB (cA (cA (cA (cA (cA (cB (cB (cB (cB (cB (cA (cA (cB (cB (cB b77)))))))))))))))) (f77_23K o c n k w lp0)) (f77_23K o c n k w lp0))
noncomputable def f77_20 (m : Nat) : AVs (Heap → α) 4 :=
  Nat.rec (motive := fun _ => AVs (Heap → α) 4) (fun _ _ _ _ _ => o) (fun _ lp0 s0 s1 s4 s7 h => addF Pq o 3 s1 s7 fun v57 => lensF o s0 fun v58 => lssF Pq o 3 v57 v58 fun v59 => bkF o true v59 (addF Pq o 3 s1 s7 fun v60 => sxF o s0 v60 fun v61 => convA Pq o 5 21 v61 fun v62 => c 133 [v62] h fun v63 h => pk k v63 h <| pickF o v59 v63 (.b false) fun v64 => ifF o v64 (f77_22 o c n k lp0 s0 s1 s4 s7 h) (addF Pq o 3 s1 s7 fun v65 => ssF Pq o 9 s0 (some s1) (some v65) fun v66 => layF o 0 (.i .i64 2) [(.i .i64 0), (.s 0 0), (.i .i64 0)] fun v67 => layF o 1 v66 v67 fun v68 => layF o 2 s1 v68 fun v69 => storeF o h 3 s4 (.agg v69) fun h => on o (resV Pq h [(s4, some 126), (s7, none)]) fun v => k v h)) (pickF o v59 (.tup []) (.b false) fun v70 => ifF o v70 (f77_22 o c n k lp0 s0 s1 s4 s7 h) (addF Pq o 3 s1 s7 fun v71 => ssF Pq o 9 s0 (some s1) (some v71) fun v72 => layF o 0 (.i .i64 2) [(.i .i64 0), (.s 0 0), (.i .i64 0)] fun v73 => layF o 1 v72 v73 fun v74 => layF o 2 s1 v74 fun v75 => storeF o h 3 s4 (.agg v75) fun h => on o (resV Pq h [(s4, some 126), (s7, none)]) fun v => k v h))) m
theorem f77_20_ok : R Pq o c n (cA (cA (cA (cB (cB (cB (cB (cB (cA (cA (cB (cB (cB b77))))))))))))) (blockK (cI (cA (cA (cB (cB (cB (cB (cB (cA (cA (cB (cB (cB b77))))))))))))) (f77_19K o c n k w)) = fun t _ h => f77_20 o c n k n (t 0) (t 1) (t 4) (t 7) h :=
  c_loop (F := fun m t _ h => f77_20 o c n k m (t 0) (t 1) (t 4) (t 7) h) (by kernel_rfl) (by kernel_rfl) fun m => (kseq (f77_22_ok o c n k w (f77_20 o c n k m)) (kseq rfl (r_start 7 (by kernel_rfl) (q_guard 7 14 (6, true) (by kernel_rfl) (by kernel_rfl) (by kernel_rfl) rfl)))).tk
noncomputable def f77_26K : Ex → K α := (nxK (R Pq o c n (cB (cA (cB (cB (cB (cB (cB (cB (cB (cA (cA (cB (cB (cB b77)))))))))))))) (blockK (cI (cA (cB (cB (cB b77))))) (f77_9K o c n k w))) (blockK (cI (cA (cB (cB (cB b77))))) (f77_9K o c n k w)))
noncomputable def f77_28K (lp0 : AVs (Heap → α) 4) : Ex → K α := (nxK (fun t _ h => lp0 (t 0) (t 1) (t 4) (t 7) h) (blockK (cI (cA (cA (cB (cB (cB (cB (cB (cB (cB (cA (cA (cB (cB (cB b77))))))))))))))) (f77_26K o c n k w)))
noncomputable def f77_29 {α : Type} (o : α) (c : Call' α) (n : Nat) (k : AV → Heap → α) (lp0 : AVs (Heap → α) 4) (s0 s1 s4 s7 : AV) (h : Heap) : α :=
  addF Pq o 3 s7 (.i .i64 1) fun v76 => lp0 s0 s1 s4 v76 h
theorem f77_29_ok (lp0 : AVs (Heap → α) 4) : R Pq o c n (cB (cA (cA (cA (cA (cB (cB (cB (cB (cB (cB (cB (cA (cA (cB (cB (cB b77))))))))))))))))) (f77_28K o c n k w lp0) = fun t _ h => f77_29 o c n k lp0 (t 0) (t 1) (t 4) (t 7) h := by kernel_rfl
noncomputable def f77_30K (lp0 : AVs (Heap → α) 4) : Ex → K α := (nxK (fun t _ h => f77_29 o c n k lp0 (t 0) (t 1) (t 4) (t 7) h) (f77_28K o c n k w lp0))
noncomputable def f77_31K (lp0 : AVs (Heap → α) 4) : Ex → K α := (nxK (R Pq o c n (cB (cA (cA (cA (cA (cA (cB (cB (cB (cB (cB (cB (cB (cA (cA (cB (cB (cB b77)))))))))))))))))) (f77_30K o c n k w lp0)) (f77_30K o c n k w lp0))
noncomputable def f77_27 (m : Nat) : AVs (Heap → α) 4 :=
  Nat.rec (motive := fun _ => AVs (Heap → α) 4) (fun _ _ _ _ _ => o) (fun _ lp0 s0 s1 s4 s7 h => addF Pq o 3 s1 s7 fun v77 => lensF o s0 fun v78 => lssF Pq o 3 v77 v78 fun v79 => bkF o true v79 (addF Pq o 3 s1 s7 fun v80 => sxF o s0 v80 fun v81 => c 134 [v81] h fun v82 h => pk k v82 h <| pickF o v79 v82 (.b false) fun v83 => ifF o v83 (f77_29 o c n k lp0 s0 s1 s4 s7 h) (addF Pq o 3 s1 s7 fun v84 => ssF Pq o 9 s0 (some s1) (some v84) fun v85 => layF o 0 (.i .i64 1) [(.i .i64 0), (.s 0 0), (.i .i64 0)] fun v86 => layF o 1 v85 v86 fun v87 => layF o 2 s1 v87 fun v88 => storeF o h 3 s4 (.agg v88) fun h => on o (resV Pq h [(s4, some 126), (s7, none)]) fun v => k v h)) (pickF o v79 (.tup []) (.b false) fun v89 => ifF o v89 (f77_29 o c n k lp0 s0 s1 s4 s7 h) (addF Pq o 3 s1 s7 fun v90 => ssF Pq o 9 s0 (some s1) (some v90) fun v91 => layF o 0 (.i .i64 1) [(.i .i64 0), (.s 0 0), (.i .i64 0)] fun v92 => layF o 1 v91 v92 fun v93 => layF o 2 s1 v93 fun v94 => storeF o h 3 s4 (.agg v94) fun h => on o (resV Pq h [(s4, some 126), (s7, none)]) fun v => k v h))) m
theorem f77_27_ok : R Pq o c n (cA (cA (cA (cB (cB (cB (cB (cB (cB (cB (cA (cA (cB (cB (cB b77))))))))))))))) (blockK (cI (cA (cA (cB (cB (cB (cB (cB (cB (cB (cA (cA (cB (cB (cB b77))))))))))))))) (f77_26K o c n k w)) = fun t _ h => f77_27 o c n k n (t 0) (t 1) (t 4) (t 7) h :=
  c_loop (F := fun m t _ h => f77_27 o c n k m (t 0) (t 1) (t 4) (t 7) h) (by kernel_rfl) (by kernel_rfl) fun m => (kseq (f77_29_ok o c n k w (f77_27 o c n k m)) (kseq rfl (r_start 7 (by kernel_rfl) (q_guard 7 13 (6, true) (by kernel_rfl) (by kernel_rfl) (by kernel_rfl) rfl)))).tk
noncomputable def f77_25 (s0 s1 s4 s6 s7 s94 : AV) (h : Heap) : α :=
  ifF o s94 (f77_27 o c n k n s0 s1 s4 s7 h) (eqiF Pq o 5 s6 (.i .u8 34) fun v95 => ifF o v95 (c 135 [s0, s1] h fun v96 h => pk k v96 h <| eqiF Pq o 3 v96 (.i .i64 0) fun v97 => ifF o v97 (storeF o h 3 s4 (.agg [(.i .i64 0), (.s 0 0), (.i .i64 0)]) fun h => on o (resV Pq h [(s4, some 126), ((.i .i64 0), none)]) fun v => k v h) (addF Pq o 3 s1 (.i .i64 1) fun v98 => addF Pq o 3 s1 v96 fun v99 => binA Pq o .sub 3 v99 (.i .i64 1) fun v100 => ssF Pq o 9 s0 (some v98) (some v100) fun v101 => c 136 [v101] h fun v102 h => pk k v102 h <| exF o v102 0 fun v103 => exF o v102 1 fun v104 => layF o 0 (.i .i64 3) [(.i .i64 0), (.s 0 0), (.i .i64 0)] fun v105 => layF o 1 v103 v105 fun v106 => layF o 2 s1 v106 fun v107 => storeF o h 3 s4 (.agg v107) fun h => on o (resV Pq h [(s4, some 126), (v96, none)]) fun v => k v h)) (f77_4 o c n k s0 s1 s4 h))
theorem f77_25_ok : R Pq o c n (cB (cB (cB (cB (cB (cB (cB (cA (cA (cB (cB (cB b77)))))))))))) (blockK (cI (cA (cB (cB (cB b77))))) (f77_9K o c n k w)) = fun t _ h => f77_25 o c n k (t 0) (t 1) (t 4) (t 6) (t 7) (t 94) h := (c_cond (by kernel_rfl) (kseq rfl (kblk (f77_27_ok o c n k w))) rfl).tk
noncomputable def f77_18 (s0 s1 s4 s6 s7 s64 : AV) (h : Heap) : α :=
  ifF o s64 (f77_20 o c n k n s0 s1 s4 s7 h) (c 134 [s6] h fun v108 h => pk k v108 h <| f77_25 o c n k s0 s1 s4 s6 s7 v108 h)
theorem f77_18_ok : R Pq o c n (cB (cB (cB (cB (cB (cA (cA (cB (cB (cB b77)))))))))) (blockK (cI (cA (cB (cB (cB b77))))) (f77_9K o c n k w)) = fun t _ h => f77_18 o c n k (t 0) (t 1) (t 4) (t 6) (t 7) (t 64) h := (c_cond (by kernel_rfl) (kseq rfl (kblk (f77_20_ok o c n k w))) (kseq (f77_25_ok o c n k w) rfl)).tk
noncomputable def f77_11 (s0 s1 s4 s6 s7 s29 : AV) (h : Heap) : α :=
  ifF o s29 (f77_13 o c n k n s0 s1 s4 s7 h) (convA Pq o 5 21 s6 fun v109 => c 133 [v109] h fun v110 h => pk k v110 h <| f77_18 o c n k s0 s1 s4 s6 s7 v110 h)
theorem f77_11_ok : R Pq o c n (cB (cB (cB (cA (cA (cB (cB (cB b77)))))))) (blockK (cI (cA (cB (cB (cB b77))))) (f77_9K o c n k w)) = fun t _ h => f77_11 o c n k (t 0) (t 1) (t 4) (t 6) (t 7) (t 29) h := (c_cond (by kernel_rfl) (kseq rfl (kblk (f77_13_ok o c n k w))) (kseq (f77_18_ok o c n k w) rfl)).tk
noncomputable def f77_32K : Ex → K α := (nxK (fun t _ h => f77_11 o c n k (t 0) (t 1) (t 4) (t 6) (t 7) (t 29) h) (blockK (cI (cA (cB (cB (cB b77))))) (f77_9K o c n k w)))
noncomputable def f77_33 (s0 s1 s4 s6 s7 s32 s37 : AV) (h : Heap) : α :=
  pickF o s32 s37 (.b false) fun v111 => bkF o true v111 (addF Pq o 3 s1 (.i .i64 1) fun v112 => sxF o s0 v112 fun v113 => eqiF Pq o 5 v113 (.i .u8 47) fun v114 => pickF o v111 v114 (.b false) fun v115 => f77_11 o c n k s0 s1 s4 s6 s7 v115 h) (pickF o v111 (.tup []) (.b false) fun v116 => f77_11 o c n k s0 s1 s4 s6 s7 v116 h)
theorem f77_33_ok : Q Pq o c (cO (cA (cB (cB (cA (cA (cB (cB (cB b77))))))))) (f77_32K o c n k w) 8 = fun t _ h => f77_33 o c n k (t 0) (t 1) (t 4) (t 6) (t 7) (t 32) (t 37) h := (q_seg 8 10 (by kernel_rfl) (q_guard 10 15 (9, true) (by kernel_rfl) (by kernel_rfl) (by kernel_rfl) rfl)).tk
noncomputable def f77_10 (s0 s1 s4 s6 s7 s13 : AV) (h : Heap) : α :=
  ifF o s13 (storeF o h 3 s4 (.agg [(.i .i64 0), (.s 0 0), (.i .i64 0)]) fun h => on o (resV Pq h [(s4, some 126), ((.i .i64 1), none)]) fun v => k v h) (eqiF Pq o 5 s6 (.i .u8 47) fun v117 => bkF o true v117 (addF Pq o 3 s1 (.i .i64 1) fun v118 => lensF o s0 fun v119 => lssF Pq o 3 v118 v119 fun v120 => f77_33 o c n k s0 s1 s4 s6 s7 v117 v120 h) (f77_33 o c n k s0 s1 s4 s6 s7 v117 (.tup []) h))
theorem f77_10_ok : R Pq o c n (cB (cA (cA (cB (cB (cB b77)))))) (blockK (cI (cA (cB (cB (cB b77))))) (f77_9K o c n k w)) = fun t _ h => f77_10 o c n k (t 0) (t 1) (t 4) (t 6) (t 7) (t 13) h := (c_cond (by kernel_rfl) rfl (kseq (f77_11_ok o c n k w) (r_start 3 (by kernel_rfl) (q_guard 3 8 (2, true) (by kernel_rfl) (by kernel_rfl) (by kernel_rfl) (f77_33_ok o c n k w))))).tk
noncomputable def f77_34K : Ex → K α := (nxK (fun t _ h => f77_10 o c n k (t 0) (t 1) (t 4) (t 6) (t 7) (t 13) h) (blockK (cI (cA (cB (cB (cB b77))))) (f77_9K o c n k w)))
noncomputable def f77_36 (s0 s1 s4 s6 s7 s20 s22 : AV) (h : Heap) : α :=
  pickF o s20 (.b true) s22 fun v121 => bkF o false v121 (eqiF Pq o 5 s6 (.i .u8 13) fun v122 => pickF o v121 (.b true) v122 fun v123 => f77_10 o c n k s0 s1 s4 s6 s7 v123 h) (pickF o v121 (.b true) (.tup []) fun v124 => f77_10 o c n k s0 s1 s4 s6 s7 v124 h)
theorem f77_36_ok : Q Pq o c (cO (cA (cA (cA (cB (cB (cB b77))))))) (f77_34K o c n k w) 9 = fun t _ h => f77_36 o c n k (t 0) (t 1) (t 4) (t 6) (t 7) (t 20) (t 22) h := (q_seg 9 11 (by kernel_rfl) (q_guard 11 13 (10, false) (by kernel_rfl) (by kernel_rfl) (by kernel_rfl) rfl)).tk
noncomputable def f77_35 (s0 s1 s4 s6 s7 s16 s18 : AV) (h : Heap) : α :=
  pickF o s16 (.b true) s18 fun v125 => bkF o false v125 (eqiF Pq o 5 s6 (.i .u8 10) fun v126 => f77_36 o c n k s0 s1 s4 s6 s7 v125 v126 h) (f77_36 o c n k s0 s1 s4 s6 s7 v125 (.tup []) h)
theorem f77_35_ok : Q Pq o c (cO (cA (cA (cA (cB (cB (cB b77))))))) (f77_34K o c n k w) 5 = fun t _ h => f77_35 o c n k (t 0) (t 1) (t 4) (t 6) (t 7) (t 16) (t 18) h := (q_seg 5 7 (by kernel_rfl) (q_guard 7 9 (6, false) (by kernel_rfl) (by kernel_rfl) (by kernel_rfl) (f77_36_ok o c n k w))).tk
noncomputable def f77_3 (s0 s1 s4 s6 s7 : AV) (h : Heap) : α :=
  eqiF Pq o 5 s6 (.i .u8 32) fun v127 => bkF o false v127 (eqiF Pq o 5 s6 (.i .u8 9) fun v128 => f77_35 o c n k s0 s1 s4 s6 s7 v127 v128 h) (f77_35 o c n k s0 s1 s4 s6 s7 v127 (.tup []) h)
theorem f77_3_ok : R Pq o c n (cB (cB (cB b77))) (kend Pq o c n w rs77 k) = fun t _ h => f77_3 o c n k (t 0) (t 1) (t 4) (t 6) (t 7) h := (kseq (f77_4_ok o c n k w) (kblk (kseq (f77_10_ok o c n k w) (r_start 3 (by kernel_rfl) (q_guard 3 5 (2, false) (by kernel_rfl) (by kernel_rfl) (by kernel_rfl) (f77_35_ok o c n k w)))))).tk
noncomputable def f77_2 (s0 s1 s4 s6 : AV) (h : Heap) : α :=
  f77_3 o c n k s0 s1 s4 s6 (.i .i64 1) h
theorem f77_2_ok : R Pq o c n (cB (cB b77)) (kend Pq o c n w rs77 k) = fun t _ h => f77_2 o c n k (t 0) (t 1) (t 4) (t 6) h := (kseq (f77_3_ok o c n k w) rfl).tk
noncomputable def f77_1 (s0 s1 s4 : AV) (h : Heap) : α :=
  sxF o s0 s1 fun v129 => f77_2 o c n k s0 s1 s4 v129 h
theorem f77_1_ok : R Pq o c n (cB b77) (kend Pq o c n w rs77 k) = fun t _ h => f77_1 o c n k (t 0) (t 1) (t 4) h := (kseq (f77_2_ok o c n k w) rfl).tk
noncomputable def f77 (a0 a1 : AV) (h : Heap) : α :=
  newF h h.next 3 [(.i .i64 0), (.s 0 0), (.i .i64 0)] fun v130 h => f77_1 o c n k a0 a1 v130 h
theorem f77_ok : R Pq o c n b77 (kend Pq o c n w rs77 k) = fun t _ h => f77 o c n k (t 0) (t 1) h := (kseq (f77_1_ok o c n k w) rfl).tk
theorem f77_good : Good Pq (cfg mm) 77 (entF Pq (cfg mm) 77 2 fun α => f77) := entG b77 rs77 183 fun _ => f77_ok
noncomputable def b80 := bdy Tryz.f80
noncomputable def rs80 := Tryz.f80.results.toList
noncomputable def f80 {α : Type} (o : α) (c : Call' α) (n : Nat) (k : AV → Heap → α) (a0 : AV) (h : Heap) : α :=
  dreg o h 12 fun base h => nilChk o a0 fun v1 => faF o 0 v1 fun v2 => rootF o v2 a0 <| load1F o (h.look 7) v2 fun v3 => nilChk o a0 fun v4 => faF o 2 v4 fun v5 => rootF o v5 a0 <| load1F o (h.look 112) v5 fun v6 => ixF o 3 v3 v6 fun v7 => faF o 1 v7 fun v8 => load1F o (h.look 1023) v8 fun v9 => hb h.shut fun h => lensF o v9 fun v10 => gtrF Pq o 3 v10 (.i .i64 20) fun v11 => ifF o v11 (c 78 [a0, (.i .i64 5)] h fun v12 h => pk k v12 h <| k (.s 0 0) h) (nilChk o a0 fun v13 => faF o 2 v13 fun v14 => load1F o h v14 fun v15 => addF Pq o 3 v15 (.i .i64 1) fun v16 => nilChk o a0 fun v17 => faF o 2 v17 fun v18 => storeF o h 1 v18 v16 fun h => k v9 h)
theorem f80_ok : R Pq o c n b80 (kend Pq o c n w rs80 k) = fun t _ h => f80 o c n k (t 0) h := by kernel_rfl
theorem f80_good : Good Pq (cfg mm) 80 (entF Pq (cfg mm) 80 1 fun α => f80) := entG b80 rs80 28 fun _ => f80_ok
noncomputable def b81 := bdy Tryz.f81
noncomputable def rs81 := Tryz.f81.results.toList
noncomputable def f81 {α : Type} (o : α) (c : Call' α) (n : Nat) (k : AV → Heap → α) (a0 a1 : AV) (h : Heap) : α :=
  c 82 [a0, (.i .i64 0), (.i .i64 1), a1] h fun v1 h => pk k v1 h <| k v1 h
theorem f81_ok : R Pq o c n b81 (kend Pq o c n w rs81 k) = fun t _ h => f81 o c n k (t 0) (t 1) h := by kernel_rfl
theorem f81_good : Good Pq (cfg mm) 81 (entF Pq (cfg mm) 81 2 fun α => f81) := entG b81 rs81 8 fun _ => f81_ok
noncomputable def b82 := bdy Tryz.f82
noncomputable def rs82 := Tryz.f82.results.toList
noncomputable def f82_3K : Ex → K α := (nxK (R Pq o c n (cB (cB (cB b82))) (kend Pq o c n w rs82 k)) (kend Pq o c n w rs82 k))
noncomputable def f82_7 {α : Type} (o : α) (c : Call' α) (n : Nat) (k : AV → Heap → α) (s42 s45 s55 : AV) (h : Heap) : α :=
  bkF o true s42 (pickF o s45 (.b true) s55 fun v1 => pickF o s42 v1 (.b false) fun v2 => k v2 h) (pickF o s42 (.tup []) (.b false) fun v3 => k v3 h)
theorem f82_7_ok : Q Pq o c (cO (cA (cB (cB b82)))) (f82_3K o c n k w) 40 = fun t _ h => f82_7 o c n k (t 42) (t 45) (t 55) h := (q_seg 40 40 (by kernel_rfl) (q_guard 40 41 (26, true) (by kernel_rfl) (by kernel_rfl) (by kernel_rfl) rfl)).tk
noncomputable def f82_6 (s0 s3 s9 s42 s45 : AV) (h : Heap) : α :=
  bkF o false s45 (nilChk o s0 fun v4 => faF o 0 v4 fun v5 => load1F o h v5 fun v6 => ixF o 3 v6 s9 fun v7 => faF o 1 v7 fun v8 => load1F o h v8 fun v9 => eqsF Pq o 9 v9 s3 fun v10 => f82_7 o c n k s42 s45 v10 h) (f82_7 o c n k s42 s45 (.tup []) h)
theorem f82_6_ok : Q Pq o c (cO (cA (cB (cB b82)))) (f82_3K o c n k w) 30 = fun t _ h => f82_6 o c n k (t 0) (t 3) (t 9) (t 42) (t 45) h := (q_seg 30 30 (by kernel_rfl) (q_guard 30 40 (29, false) (by kernel_rfl) (by kernel_rfl) (by kernel_rfl) (f82_7_ok o c n k w))).tk
noncomputable def f82_5 (s0 s3 s9 s30 s40 : AV) (h : Heap) : α :=
  pickF o s30 s40 (.b false) fun v11 => bkF o true v11 (eqsF Pq o 9 s3 (.s 0 0) fun v12 => f82_6 o c n k s0 s3 s9 v11 v12 h) (f82_6 o c n k s0 s3 s9 v11 (.tup []) h)
theorem f82_5_ok : Q Pq o c (cO (cA (cB (cB b82)))) (f82_3K o c n k w) 25 = fun t _ h => f82_5 o c n k (t 0) (t 3) (t 9) (t 30) (t 40) h := (q_seg 25 27 (by kernel_rfl) (q_guard 27 30 (26, true) (by kernel_rfl) (by kernel_rfl) (by kernel_rfl) (f82_6_ok o c n k w))).tk
noncomputable def f82_4 (s0 s2 s3 s9 s21 s28 : AV) (h : Heap) : α :=
  pickF o s21 s28 (.b false) fun v13 => bkF o true v13 (nilChk o s0 fun v14 => faF o 0 v14 fun v15 => load1F o h v15 fun v16 => ixF o 3 v16 s9 fun v17 => faF o 0 v17 fun v18 => load1F o h v18 fun v19 => eqiF Pq o 3 v19 s2 fun v20 => f82_5 o c n k s0 s3 s9 v13 v20 h) (f82_5 o c n k s0 s3 s9 v13 (.tup []) h)
theorem f82_4_ok : Q Pq o c (cO (cA (cB (cB b82)))) (f82_3K o c n k w) 13 = fun t _ h => f82_4 o c n k (t 0) (t 2) (t 3) (t 9) (t 21) (t 28) h := (q_seg 13 15 (by kernel_rfl) (q_guard 15 25 (14, true) (by kernel_rfl) (by kernel_rfl) (by kernel_rfl) (f82_5_ok o c n k w))).tk
noncomputable def f82_2 (s0 s2 s3 s9 : AV) (h : Heap) : α :=
  nilChk o s0 fun v21 => faF o 3 v21 fun v22 => load1F o h v22 fun v23 => eqiF Pq o 3 v23 (.i .i64 0) fun v24 => bkF o true v24 (nilChk o s0 fun v25 => faF o 0 v25 fun v26 => load1F o h v26 fun v27 => lenF o v27 fun v28 => lssF Pq o 3 s9 v28 fun v29 => f82_4 o c n k s0 s2 s3 s9 v24 v29 h) (f82_4 o c n k s0 s2 s3 s9 v24 (.tup []) h)
theorem f82_2_ok : R Pq o c n (cB (cB b82)) (kend Pq o c n w rs82 k) = fun t _ h => f82_2 o c n k (t 0) (t 2) (t 3) (t 9) h := (kseq rfl (r_start 6 (by kernel_rfl) (q_guard 6 13 (5, true) (by kernel_rfl) (by kernel_rfl) (by kernel_rfl) (f82_4_ok o c n k w)))).tk
noncomputable def f82_1 (s0 s1 s2 s3 : AV) (h : Heap) : α :=
  nilChk o s0 fun v30 => faF o 2 v30 fun v31 => load1F o h v31 fun v32 => addF Pq o 3 v32 s1 fun v33 => f82_2 o c n k s0 s2 s3 v33 h
theorem f82_1_ok : R Pq o c n (cB b82) (kend Pq o c n w rs82 k) = fun t _ h => f82_1 o c n k (t 0) (t 1) (t 2) (t 3) h := (kseq (f82_2_ok o c n k w) rfl).tk
noncomputable def f82 (a0 a1 a2 a3 : AV) (h : Heap) : α :=
  f82_1 o c n k a0 a1 a2 a3 h
theorem f82_ok : R Pq o c n b82 (kend Pq o c n w rs82 k) = fun t _ h => f82 o c n k (t 0) (t 1) (t 2) (t 3) h := (kseq (f82_1_ok o c n k w) rfl).tk
theorem f82_good : Good Pq (cfg mm) 82 (entF Pq (cfg mm) 82 4 fun α => f82) := entG b82 rs82 58 fun _ => f82_ok
noncomputable def b85 := bdy Tryz.f85
noncomputable def rs85 := Tryz.f85.results.toList
noncomputable def f85 {α : Type} (o : α) (c : Call' α) (n : Nat) (k : AV → Heap → α) (a0 : AV) (h : Heap) : α :=
  c 142 [a0, (.i .i64 0)] h fun v1 h => pk k v1 h <| notF o v1 fun v2 => ifF o v2 (c 78 [a0, (.i .i64 3)] h fun v3 h => pk k v3 h <| k (.s 0 0) h) (c 80 [a0] h fun v4 h => pk k v4 h <| k v4 h)
theorem f85_ok : R Pq o c n b85 (kend Pq o c n w rs85 k) = fun t _ h => f85 o c n k (t 0) h := by kernel_rfl
theorem f85_good : Good Pq (cfg mm) 85 (entF Pq (cfg mm) 85 1 fun α => f85) := entG b85 rs85 10 fun _ => f85_ok
noncomputable def b86 := bdy Tryz.f86
noncomputable def rs86 := Tryz.f86.results.toList
noncomputable def f86 {α : Type} (o : α) (c : Call' α) (n : Nat) (k : AV → Heap → α) (a0 : AV) (h : Heap) : α :=
  c 143 [a0, (.i .i64 0)] h fun v1 h => pk k v1 h <| notF o v1 fun v2 => ifF o v2 (c 78 [a0, (.i .i64 3)] h fun v3 h => pk k v3 h <| k (.s 0 0) h) (c 80 [a0] h fun v4 h => pk k v4 h <| k v4 h)
theorem f86_ok : R Pq o c n b86 (kend Pq o c n w rs86 k) = fun t _ h => f86 o c n k (t 0) h := by kernel_rfl
theorem f86_good : Good Pq (cfg mm) 86 (entF Pq (cfg mm) 86 1 fun α => f86) := entG b86 rs86 10 fun _ => f86_ok
noncomputable def b89 := bdy Tryz.f89
noncomputable def rs89 := Tryz.f89.results.toList
noncomputable def f89_2K : Ex → K α := (nxK (R Pq o c n (cB (cB b89)) (kend Pq o c n w rs89 k)) (kend Pq o c n w rs89 k))
noncomputable def f89_3 {α : Type} (o : α) (c : Call' α) (n : Nat) (k : AV → Heap → α) (s0 s5 s9 : AV) (h : Heap) : α :=
  pickF o s5 s9 (.b false) fun v1 => bkF o true v1 (nesF Pq o 9 s0 (.s 6 113723913172051) fun v2 => pickF o v1 v2 (.b false) fun v3 => k v3 h) (pickF o v1 (.tup []) (.b false) fun v4 => k v4 h)
theorem f89_3_ok : Q Pq o c (cO (cA (cB b89))) (f89_2K o c n k w) 7 = fun t _ h => f89_3 o c n k (t 0) (t 5) (t 9) h := (q_seg 7 9 (by kernel_rfl) (q_guard 9 11 (8, true) (by kernel_rfl) (by kernel_rfl) (by kernel_rfl) rfl)).tk
noncomputable def f89_1 (s0 : AV) (h : Heap) : α :=
  c 147 [s0, (.i .i64 20)] h fun v5 h => pk k v5 h <| bkF o true v5 (sxF o s0 (.i .i64 0) fun v6 => convA Pq o 5 21 v6 fun v7 => c 148 [v7] h fun v8 h => pk k v8 h <| f89_3 o c n k s0 v5 v8 h) (f89_3 o c n k s0 v5 (.tup []) h)
theorem f89_1_ok : R Pq o c n (cB b89) (kend Pq o c n w rs89 k) = fun t _ h => f89_1 o c n k (t 0) h := (kseq rfl (r_start 3 (by kernel_rfl) (q_guard 3 7 (2, true) (by kernel_rfl) (by kernel_rfl) (by kernel_rfl) (f89_3_ok o c n k w)))).tk
noncomputable def f89 (a0 : AV) (h : Heap) : α :=
  f89_1 o c n k a0 h
theorem f89_ok : R Pq o c n b89 (kend Pq o c n w rs89 k) = fun t _ h => f89 o c n k (t 0) h := (kseq (f89_1_ok o c n k w) rfl).tk
theorem f89_good : Good Pq (cfg mm) 89 (entF Pq (cfg mm) 89 1 fun α => f89) := entG b89 rs89 15 fun _ => f89_ok
noncomputable def b90 := bdy Tryz.f90
noncomputable def rs90 := Tryz.f90.results.toList
noncomputable def f90_2K : Ex → K α := (nxK (R Pq o c n (cB (cB b90)) (kend Pq o c n w rs90 k)) (kend Pq o c n w rs90 k))
noncomputable def f90_4 {α : Type} (o : α) (c : Call' α) (n : Nat) (k : AV → Heap → α) (s0 s9 s11 : AV) (h : Heap) : α :=
  pickF o s9 (.b true) s11 fun v1 => bkF o false v1 (c 89 [s0] h fun v2 h => pk k v2 h <| pickF o v1 (.b true) v2 fun v3 => k v3 h) (pickF o v1 (.b true) (.tup []) fun v4 => k v4 h)
theorem f90_4_ok : Q Pq o c (cO (cA (cB b90))) (f90_2K o c n k w) 9 = fun t _ h => f90_4 o c n k (t 0) (t 9) (t 11) h := (q_seg 9 11 (by kernel_rfl) (q_guard 11 13 (10, false) (by kernel_rfl) (by kernel_rfl) (by kernel_rfl) rfl)).tk
noncomputable def f90_3 (s0 s5 s7 : AV) (h : Heap) : α :=
  pickF o s5 (.b true) s7 fun v5 => bkF o false v5 (eqsF Pq o 9 s0 (.s 6 113723913172051) fun v6 => f90_4 o c n k s0 v5 v6 h) (f90_4 o c n k s0 v5 (.tup []) h)
theorem f90_3_ok : Q Pq o c (cO (cA (cB b90))) (f90_2K o c n k w) 5 = fun t _ h => f90_3 o c n k (t 0) (t 5) (t 7) h := (q_seg 5 7 (by kernel_rfl) (q_guard 7 9 (6, false) (by kernel_rfl) (by kernel_rfl) (by kernel_rfl) (f90_4_ok o c n k w))).tk
noncomputable def f90_1 (s0 : AV) (h : Heap) : α :=
  eqsF Pq o 9 s0 (.s 3 7630441) fun v7 => bkF o false v7 (eqsF Pq o 9 s0 (.s 7 31069335677005666) fun v8 => f90_3 o c n k s0 v7 v8 h) (f90_3 o c n k s0 v7 (.tup []) h)
theorem f90_1_ok : R Pq o c n (cB b90) (kend Pq o c n w rs90 k) = fun t _ h => f90_1 o c n k (t 0) h := (kseq rfl (r_start 3 (by kernel_rfl) (q_guard 3 5 (2, false) (by kernel_rfl) (by kernel_rfl) (by kernel_rfl) (f90_3_ok o c n k w)))).tk
noncomputable def f90 (a0 : AV) (h : Heap) : α :=
  f90_1 o c n k a0 h
theorem f90_ok : R Pq o c n b90 (kend Pq o c n w rs90 k) = fun t _ h => f90 o c n k (t 0) h := (kseq (f90_1_ok o c n k w) rfl).tk
theorem f90_good : Good Pq (cfg mm) 90 (entF Pq (cfg mm) 90 1 fun α => f90) := entG b90 rs90 17 fun _ => f90_ok
noncomputable def b91 := bdy Tryz.f91
noncomputable def rs91 := Tryz.f91.results.toList
noncomputable def f91_2K : Ex → K α := (nxK (R Pq o c n (cB (cB b91)) (kend Pq o c n w rs91 k)) (kend Pq o c n w rs91 k))
noncomputable def f91_3 {α : Type} (o : α) (c : Call' α) (n : Nat) (k : AV → Heap → α) (s0 s5 s9 : AV) (h : Heap) : α :=
  pickF o s5 s9 (.b false) fun v1 => bkF o true v1 (c 150 [s0] h fun v2 h => pk k v2 h <| notF o v2 fun v3 => pickF o v1 v3 (.b false) fun v4 => k v4 h) (pickF o v1 (.tup []) (.b false) fun v5 => k v5 h)
theorem f91_3_ok : Q Pq o c (cO (cA (cB b91))) (f91_2K o c n k w) 7 = fun t _ h => f91_3 o c n k (t 0) (t 5) (t 9) h := (q_seg 7 9 (by kernel_rfl) (q_guard 9 12 (8, true) (by kernel_rfl) (by kernel_rfl) (by kernel_rfl) rfl)).tk
noncomputable def f91_1 (s0 : AV) (h : Heap) : α :=
  c 147 [s0, (.i .i64 20)] h fun v6 h => pk k v6 h <| bkF o true v6 (sxF o s0 (.i .i64 0) fun v7 => convA Pq o 5 21 v7 fun v8 => c 149 [v8] h fun v9 h => pk k v9 h <| f91_3 o c n k s0 v6 v9 h) (f91_3 o c n k s0 v6 (.tup []) h)
theorem f91_1_ok : R Pq o c n (cB b91) (kend Pq o c n w rs91 k) = fun t _ h => f91_1 o c n k (t 0) h := (kseq rfl (r_start 3 (by kernel_rfl) (q_guard 3 7 (2, true) (by kernel_rfl) (by kernel_rfl) (by kernel_rfl) (f91_3_ok o c n k w)))).tk
noncomputable def f91 (a0 : AV) (h : Heap) : α :=
  f91_1 o c n k a0 h
theorem f91_ok : R Pq o c n b91 (kend Pq o c n w rs91 k) = fun t _ h => f91 o c n k (t 0) h := (kseq (f91_1_ok o c n k w) rfl).tk
theorem f91_good : Good Pq (cfg mm) 91 (entF Pq (cfg mm) 91 1 fun α => f91) := entG b91 rs91 16 fun _ => f91_ok
noncomputable def b97 := bdy Tryz.f97
noncomputable def rs97 := Tryz.f97.results.toList
noncomputable def f97 {α : Type} (o : α) (c : Call' α) (n : Nat) (k : AV → Heap → α) (a0 : AV) (h : Heap) : α :=
  boxF o a0 h h.next fun v1 h => loadNF o h 1 v1 fun v2 => c 158 [v2, (.fn (.func 159) [] [v1])] h fun v3 h => pk k v3 h <| assertA Pq o v3 187 true fun v4 => exF o v4 0 fun v5 => exF o v4 1 fun v6 => newF h h.next 2 [(.i .i64 0), (.i .i64 0)] fun v7 h => storeF o h 2 v7 v5 fun h => ifF o v6 (dreg o h 6 fun base h => faF o 0 v7 fun v8 => rootF o v8 v7 <| load1F o (h.look 1) v8 fun v9 => faF o 1 v7 fun v10 => rootF o v10 v7 <| load1F o (h.look 4) v10 fun v11 => hb h.shut fun h => k (.tup [v9, v11]) h) (loadNF o h 1 v1 fun v12 => c 158 [v12, (.fn (.func 160) [] [v1])] h fun v13 h => pk k v13 h <| assertA Pq o v13 187 true fun v14 => exF o v14 0 fun v15 => exF o v14 1 fun v16 => newF h h.next 2 [(.i .i64 0), (.i .i64 0)] fun v17 h => storeF o h 2 v17 v15 fun h => ifF o v16 (dreg o h 6 fun base h => faF o 0 v17 fun v18 => rootF o v18 v17 <| load1F o (h.look 1) v18 fun v19 => faF o 1 v17 fun v20 => rootF o v20 v17 <| load1F o (h.look 4) v20 fun v21 => hb h.shut fun h => k (.tup [v19, v21]) h) (k (.tup [(.i .i64 0), (.i .i64 0)]) h))
theorem f97_ok : R Pq o c n b97 (kend Pq o c n w rs97 k) = fun t _ h => f97 o c n k (t 0) h := by kernel_rfl
theorem f97_good : Good Pq (cfg mm) 97 (entF Pq (cfg mm) 97 1 fun α => f97) := entG b97 rs97 32 fun _ => f97_ok
noncomputable def b115 := bdy Tryz.f115
noncomputable def rs115 := Tryz.f115.results.toList
noncomputable def f115_3K : Ex → K α := (nxK (R Pq o c n (cB (cB (cB b115))) (kend Pq o c n w rs115 k)) (kend Pq o c n w rs115 k))
noncomputable def f115_5K (lp0 : AVs (Heap → α) 3) : Ex → K α := (nxK (fun t _ h => lp0 (t 1) (t 2) (t 5) h) (blockK (cI (cA (cB (cB b115)))) (f115_3K o c n k w)))
noncomputable def f115_6 {α : Type} (o : α) (c : Call' α) (n : Nat) (k : AV → Heap → α) (lp0 : AVs (Heap → α) 3) (s1 s2 s5 : AV) (h : Heap) : α :=
  fil1 o 1 1 0 s1 [[(.s 0 0)]] fun v1 => newEF h h.next 1 1 v1 fun v2 h => appX Pq o h h.next 37 37 s5 v2 fun v3 h => loadNF o h 1 s2 fun v4 => c 116 [v4, s1] h fun v5 h => pk k v5 h <| lp0 v5 s2 v3 h
theorem f115_6_ok (lp0 : AVs (Heap → α) 3) : R Pq o c n (cB (cA (cA (cA (cB (cB b115)))))) (f115_5K o c n k w lp0) = fun t _ h => f115_6 o c n k lp0 (t 1) (t 2) (t 5) h := by kernel_rfl
noncomputable def f115_7K (lp0 : AVs (Heap → α) 3) : Ex → K α := (nxK (fun t _ h => f115_6 o c n k lp0 (t 1) (t 2) (t 5) h) (f115_5K o c n k w lp0))
noncomputable def f115_8K (lp0 : AVs (Heap → α) 3) : Ex → K α := (nxK (R Pq o c n (cB (cA (cA (cA (cA (cB (cB b115))))))) (f115_7K o c n k w lp0)) (f115_7K o c n k w lp0))
noncomputable def f115_4 (m : Nat) : AVs (Heap → α) 3 :=
  Nat.rec (motive := fun _ => AVs (Heap → α) 3) (fun _ _ _ _ => o) (fun _ lp0 s1 s2 s5 h => loadNF o h 1 s2 fun v6 => c 69 [v6, s1] h fun v7 h => pk k v7 h <| bkF o true v7 (c 17 [s5, s1] h fun v8 h => pk k v8 h <| notF o v8 fun v9 => pickF o v7 v9 (.b false) fun v10 => ifF o v10 (f115_6 o c n k lp0 s1 s2 s5 h) (k s5 h)) (pickF o v7 (.tup []) (.b false) fun v11 => ifF o v11 (f115_6 o c n k lp0 s1 s2 s5 h) (k s5 h))) m
theorem f115_4_ok : R Pq o c n (cA (cA (cB (cB b115)))) (blockK (cI (cA (cB (cB b115)))) (f115_3K o c n k w)) = fun t _ h => f115_4 o c n k n (t 1) (t 2) (t 5) h :=
  c_loop (F := fun m t _ h => f115_4 o c n k m (t 1) (t 2) (t 5) h) (by kernel_rfl) (by kernel_rfl) fun m => (kseq (f115_6_ok o c n k w (f115_4 o c n k m)) (kseq rfl (r_start 4 (by kernel_rfl) (q_guard 4 8 (3, true) (by kernel_rfl) (by kernel_rfl) (by kernel_rfl) rfl)))).tk
noncomputable def f115_2 (s1 s2 s5 : AV) (h : Heap) : α :=
  f115_4 o c n k n s1 s2 s5 h
theorem f115_2_ok : R Pq o c n (cB (cB b115)) (kend Pq o c n w rs115 k) = fun t _ h => f115_2 o c n k (t 1) (t 2) (t 5) h := (kseq rfl (kblk (f115_4_ok o c n k w))).tk
noncomputable def f115_1 (s1 s2 : AV) (h : Heap) : α :=
  f115_2 o c n k s1 s2 .nsl h
theorem f115_1_ok : R Pq o c n (cB b115) (kend Pq o c n w rs115 k) = fun t _ h => f115_1 o c n k (t 1) (t 2) h := (kseq (f115_2_ok o c n k w) rfl).tk
noncomputable def f115 (a0 a1 : AV) (h : Heap) : α :=
  boxF o a0 h h.next fun v12 h => f115_1 o c n k a1 v12 h
theorem f115_ok : R Pq o c n b115 (kend Pq o c n w rs115 k) = fun t _ h => f115 o c n k (t 0) (t 1) h := (kseq (f115_1_ok o c n k w) rfl).tk
theorem f115_good : Good Pq (cfg mm) 115 (entF Pq (cfg mm) 115 2 fun α => f115) := entG b115 rs115 23 fun _ => f115_ok
noncomputable def b116 := bdy Tryz.f116
noncomputable def rs116 := Tryz.f116.results.toList
noncomputable def f116 {α : Type} (o : α) (c : Call' α) (n : Nat) (k : AV → Heap → α) (a0 a1 : AV) (h : Heap) : α :=
  boxF o a0 h h.next fun v1 h => c 117 [a1] h fun v2 h => pk k v2 h <| ifF o v2 (eqsF Pq o 9 a1 (.s 9 2037169923944901474373) fun v3 => ifF o v3 (k (.s 0 0) h) (k (.s 9 2037169923944901474373) h)) (loadNF o h 1 v1 fun v4 => c 118 [v4, a1] h fun v5 h => pk k v5 h <| lssF Pq o 3 v5 (.i .i64 0) fun v6 => ifF o v6 (k (.s 0 0) h) (faF o 0 v1 fun v7 => load1F o h v7 fun v8 => ixF o 4 v8 v5 fun v9 => faF o 1 v9 fun v10 => load1F o h v10 fun v11 => k v11 h))
theorem f116_ok : R Pq o c n b116 (kend Pq o c n w rs116 k) = fun t _ h => f116 o c n k (t 0) (t 1) h := by kernel_rfl
theorem f116_good : Good Pq (cfg mm) 116 (entF Pq (cfg mm) 116 2 fun α => f116) := entG b116 rs116 21 fun _ => f116_ok
noncomputable def b117 := bdy Tryz.f117
noncomputable def rs117 := Tryz.f117.results.toList
noncomputable def f117 {α : Type} (o : α) (c : Call' α) (n : Nat) (k : AV → Heap → α) (a0 : AV) (h : Heap) : α :=
  fil1 o 1 5 0 (.s 9 2037169923944901474373) (lrep [(.s 0 0)] 5) fun v1 => fil1 o 1 5 1 (.s 9 2147637572233774003534) v1 fun v2 => fil1 o 1 5 2 (.s 9 2147637572233908674883) v2 fun v3 => fil1 o 1 5 3 (.s 9 2147637572233824724314) v3 fun v4 => fil1 o 1 5 4 (.s 10 549795218491815995793746) v4 fun v5 => newEF h h.next 1 5 v5 fun v6 h => c 17 [v6, a0] h fun v7 h => pk k v7 h <| k v7 h
theorem f117_ok : R Pq o c n b117 (kend Pq o c n w rs117 k) = fun t _ h => f117 o c n k (t 0) h := by kernel_rfl
theorem f117_good : Good Pq (cfg mm) 117 (entF Pq (cfg mm) 117 1 fun α => f117) := entG b117 rs117 6 fun _ => f117_ok
noncomputable def b118 := bdy Tryz.f118
noncomputable def rs118 := Tryz.f118.results.toList
noncomputable def f118 {α : Type} (o : α) (c : Call' α) (n : Nat) (k : AV → Heap → α) (a0 a1 : AV) (h : Heap) : α :=
  boxF o a0 h h.next fun v1 h => boxF o a1 h h.next fun v2 h => faF o 0 v1 fun v3 => load1F o h v3 fun v4 => c 183 [v4, (.fn (.func 184) [] [v2])] h fun v5 h => pk k v5 h <| k v5 h
theorem f118_ok : R Pq o c n b118 (kend Pq o c n w rs118 k) = fun t _ h => f118 o c n k (t 0) (t 1) h := by kernel_rfl
theorem f118_good : Good Pq (cfg mm) 118 (entF Pq (cfg mm) 118 2 fun α => f118) := entG b118 rs118 9 fun _ => f118_ok
noncomputable def b119 := bdy Tryz.f119
noncomputable def rs119 := Tryz.f119.results.toList
noncomputable def f119 {α : Type} (o : α) (c : Call' α) (n : Nat) (k : AV → Heap → α) (a0 : AV) (h : Heap) : α :=
  fil1 o 1 5 0 (.s 9 2037169923944901474373) (lrep [(.s 0 0)] 5) fun v1 => fil1 o 1 5 1 (.s 9 2147637572233774003534) v1 fun v2 => fil1 o 1 5 2 (.s 9 2147637572233908674883) v2 fun v3 => fil1 o 1 5 3 (.s 9 2147637572233824724314) v3 fun v4 => fil1 o 1 5 4 (.s 10 549795218491815995793746) v4 fun v5 => newEF h h.next 1 5 v5 fun v6 h => c 137 [v6, a0] h fun v7 h => pk k v7 h <| k v7 h
theorem f119_ok : R Pq o c n b119 (kend Pq o c n w rs119 k) = fun t _ h => f119 o c n k (t 0) h := by kernel_rfl
theorem f119_good : Good Pq (cfg mm) 119 (entF Pq (cfg mm) 119 1 fun α => f119) := entG b119 rs119 6 fun _ => f119_ok
noncomputable def b120 := bdy Tryz.f120
noncomputable def rs120 := Tryz.f120.results.toList
noncomputable def f120_2K : Ex → K α := (nxK (R Pq o c n (cB (cB b120)) (kend Pq o c n w rs120 k)) (kend Pq o c n w rs120 k))
noncomputable def f120_4 {α : Type} (o : α) (c : Call' α) (n : Nat) (k : AV → Heap → α) (m : Nat) : AVs (Heap → α) 3 :=
  Nat.rec (motive := fun _ => AVs (Heap → α) 3) (fun _ _ _ _ => o) (fun _ lp0 s1 s2 s5 h => faF o 0 s2 fun v1 => load1F o h v1 fun v2 => lenF o v2 fun v3 => lssF Pq o 3 s5 v3 fun v4 => ifF o v4 (faF o 0 s2 fun v5 => load1F o h v5 fun v6 => ixF o 4 v6 s5 fun v7 => faF o 0 v7 fun v8 => load1F o h v8 fun v9 => eqsF Pq o 9 v9 s1 fun v10 => ifF o v10 (k s5 h) (addF Pq o 3 s5 (.i .i64 1) fun v11 => lp0 s1 s2 v11 h)) (k (.i .i64 (-1)) h)) m
theorem f120_4_ok : R Pq o c n (cA (cB (cA (cB b120)))) (blockK (cI (cB (cA (cB b120)))) (f120_2K o c n k w)) = fun t _ h => f120_4 o c n k n (t 1) (t 2) (t 5) h :=
  c_loop (F := fun m t _ h => f120_4 o c n k m (t 1) (t 2) (t 5) h) (by kernel_rfl) (by kernel_rfl) fun m => by kernel_rfl
noncomputable def f120_3 (s1 s2 s5 : AV) (h : Heap) : α :=
  f120_4 o c n k n s1 s2 s5 h
theorem f120_3_ok : R Pq o c n (cB (cA (cB b120))) (f120_2K o c n k w) = fun t _ h => f120_3 o c n k (t 1) (t 2) (t 5) h := (kblk (f120_4_ok o c n k w)).tk
noncomputable def f120_1 (s1 s2 : AV) (h : Heap) : α :=
  f120_3 o c n k s1 s2 (.i .i64 0) h
theorem f120_1_ok : R Pq o c n (cB b120) (kend Pq o c n w rs120 k) = fun t _ h => f120_1 o c n k (t 1) (t 2) h := (kseq rfl (kseq (f120_3_ok o c n k w) rfl)).tk
noncomputable def f120 (a0 a1 : AV) (h : Heap) : α :=
  boxF o a0 h h.next fun v12 h => f120_1 o c n k a1 v12 h
theorem f120_ok : R Pq o c n b120 (kend Pq o c n w rs120 k) = fun t _ h => f120 o c n k (t 0) (t 1) h := (kseq (f120_1_ok o c n k w) rfl).tk
theorem f120_good : Good Pq (cfg mm) 120 (entF Pq (cfg mm) 120 2 fun α => f120) := entG b120 rs120 22 fun _ => f120_ok
noncomputable def b121 := bdy Tryz.f121
noncomputable def rs121 := Tryz.f121.results.toList
noncomputable def f121_2K : Ex → K α := (nxK (R Pq o c n (cB (cB b121)) (kend Pq o c n w rs121 k)) (kend Pq o c n w rs121 k))
noncomputable def f121_1 {α : Type} (o : α) (c : Call' α) (n : Nat) (k : AV → Heap → α) (s1 s2 : AV) (h : Heap) : α :=
  c 119 [s1] h fun v1 h => pk k v1 h <| bkF o false v1 (loadNF o h 1 s2 fun v2 => c 120 [v2, s1] h fun v3 h => pk k v3 h <| geqF Pq o 3 v3 (.i .i64 0) fun v4 => pickF o v1 (.b true) v4 fun v5 => k v5 h) (pickF o v1 (.b true) (.tup []) fun v6 => k v6 h)
theorem f121_1_ok : R Pq o c n (cB b121) (kend Pq o c n w rs121 k) = fun t _ h => f121_1 o c n k (t 1) (t 2) h := (kseq rfl (r_start 3 (by kernel_rfl) (q_guard 3 7 (2, false) (by kernel_rfl) (by kernel_rfl) (by kernel_rfl) rfl))).tk
noncomputable def f121 (a0 a1 : AV) (h : Heap) : α :=
  boxF o a0 h h.next fun v7 h => f121_1 o c n k a1 v7 h
theorem f121_ok : R Pq o c n b121 (kend Pq o c n w rs121 k) = fun t _ h => f121 o c n k (t 0) (t 1) h := (kseq (f121_1_ok o c n k w) rfl).tk
theorem f121_good : Good Pq (cfg mm) 121 (entF Pq (cfg mm) 121 2 fun α => f121) := entG b121 rs121 13 fun _ => f121_ok
noncomputable def b122 := bdy Tryz.f122
noncomputable def rs122 := Tryz.f122.results.toList
noncomputable def f122_3K : Ex → K α := (nxK (R Pq o c n (cB (cB (cB b122))) (kend Pq o c n w rs122 k)) (kend Pq o c n w rs122 k))
noncomputable def f122_5K (lp0 : AVs (Heap → α) 3) : Ex → K α := (nxK (fun t _ h => lp0 (t 1) (t 2) (t 5) h) (blockK (cI (cA (cB (cB b122)))) (f122_3K o c n k w)))
noncomputable def f122_6 {α : Type} (o : α) (c : Call' α) (n : Nat) (k : AV → Heap → α) (lp0 : AVs (Heap → α) 3) (s1 s2 s5 : AV) (h : Heap) : α :=
  fil1 o 1 1 0 s1 [[(.s 0 0)]] fun v1 => newEF h h.next 1 1 v1 fun v2 h => appX Pq o h h.next 37 37 s5 v2 fun v3 h => loadNF o h 1 s2 fun v4 => c 123 [v4, s1] h fun v5 h => pk k v5 h <| lp0 v5 s2 v3 h
theorem f122_6_ok (lp0 : AVs (Heap → α) 3) : R Pq o c n (cB (cA (cA (cA (cB (cB b122)))))) (f122_5K o c n k w lp0) = fun t _ h => f122_6 o c n k lp0 (t 1) (t 2) (t 5) h := by kernel_rfl
noncomputable def f122_7K (lp0 : AVs (Heap → α) 3) : Ex → K α := (nxK (fun t _ h => f122_6 o c n k lp0 (t 1) (t 2) (t 5) h) (f122_5K o c n k w lp0))
noncomputable def f122_8K (lp0 : AVs (Heap → α) 3) : Ex → K α := (nxK (R Pq o c n (cB (cA (cA (cA (cA (cB (cB b122))))))) (f122_7K o c n k w lp0)) (f122_7K o c n k w lp0))
noncomputable def f122_4 (m : Nat) : AVs (Heap → α) 3 :=
  Nat.rec (motive := fun _ => AVs (Heap → α) 3) (fun _ _ _ _ => o) (fun _ lp0 s1 s2 s5 h => loadNF o h 1 s2 fun v6 => c 121 [v6, s1] h fun v7 h => pk k v7 h <| bkF o true v7 (c 137 [s5, s1] h fun v8 h => pk k v8 h <| notF o v8 fun v9 => pickF o v7 v9 (.b false) fun v10 => ifF o v10 (f122_6 o c n k lp0 s1 s2 s5 h) (k s5 h)) (pickF o v7 (.tup []) (.b false) fun v11 => ifF o v11 (f122_6 o c n k lp0 s1 s2 s5 h) (k s5 h))) m
theorem f122_4_ok : R Pq o c n (cA (cA (cB (cB b122)))) (blockK (cI (cA (cB (cB b122)))) (f122_3K o c n k w)) = fun t _ h => f122_4 o c n k n (t 1) (t 2) (t 5) h :=
  c_loop (F := fun m t _ h => f122_4 o c n k m (t 1) (t 2) (t 5) h) (by kernel_rfl) (by kernel_rfl) fun m => (kseq (f122_6_ok o c n k w (f122_4 o c n k m)) (kseq rfl (r_start 4 (by kernel_rfl) (q_guard 4 8 (3, true) (by kernel_rfl) (by kernel_rfl) (by kernel_rfl) rfl)))).tk
noncomputable def f122_2 (s1 s2 s5 : AV) (h : Heap) : α :=
  f122_4 o c n k n s1 s2 s5 h
theorem f122_2_ok : R Pq o c n (cB (cB b122)) (kend Pq o c n w rs122 k) = fun t _ h => f122_2 o c n k (t 1) (t 2) (t 5) h := (kseq rfl (kblk (f122_4_ok o c n k w))).tk
noncomputable def f122_1 (s1 s2 : AV) (h : Heap) : α :=
  f122_2 o c n k s1 s2 .nsl h
theorem f122_1_ok : R Pq o c n (cB b122) (kend Pq o c n w rs122 k) = fun t _ h => f122_1 o c n k (t 1) (t 2) h := (kseq (f122_2_ok o c n k w) rfl).tk
noncomputable def f122 (a0 a1 : AV) (h : Heap) : α :=
  boxF o a0 h h.next fun v12 h => f122_1 o c n k a1 v12 h
theorem f122_ok : R Pq o c n b122 (kend Pq o c n w rs122 k) = fun t _ h => f122 o c n k (t 0) (t 1) h := (kseq (f122_1_ok o c n k w) rfl).tk
theorem f122_good : Good Pq (cfg mm) 122 (entF Pq (cfg mm) 122 2 fun α => f122) := entG b122 rs122 23 fun _ => f122_ok
noncomputable def b123 := bdy Tryz.f123
noncomputable def rs123 := Tryz.f123.results.toList
noncomputable def f123 {α : Type} (o : α) (c : Call' α) (n : Nat) (k : AV → Heap → α) (a0 a1 : AV) (h : Heap) : α :=
  boxF o a0 h h.next fun v1 h => c 119 [a1] h fun v2 h => pk k v2 h <| ifF o v2 (eqsF Pq o 9 a1 (.s 9 2037169923944901474373) fun v3 => ifF o v3 (k (.s 0 0) h) (k (.s 9 2037169923944901474373) h)) (loadNF o h 1 v1 fun v4 => c 120 [v4, a1] h fun v5 h => pk k v5 h <| geqF Pq o 3 v5 (.i .i64 0) fun v6 => ifF o v6 (faF o 0 v1 fun v7 => load1F o h v7 fun v8 => ixF o 4 v8 v5 fun v9 => faF o 1 v9 fun v10 => load1F o h v10 fun v11 => k v11 h) (k (.s 0 0) h))
theorem f123_ok : R Pq o c n b123 (kend Pq o c n w rs123 k) = fun t _ h => f123 o c n k (t 0) (t 1) h := by kernel_rfl
theorem f123_good : Good Pq (cfg mm) 123 (entF Pq (cfg mm) 123 2 fun α => f123) := entG b123 rs123 21 fun _ => f123_ok
noncomputable def b126 := bdy Tryz.f126
noncomputable def rs126 := Tryz.f126.results.toList
noncomputable def f126_2K : Ex → K α := (nxK (R Pq o c n (cB (cB b126)) (kend Pq o c n w rs126 k)) (kend Pq o c n w rs126 k))
noncomputable def f126_4 {α : Type} (o : α) (c : Call' α) (n : Nat) (k : AV → Heap → α) (s1 s2 s11 s13 : AV) (h : Heap) : α :=
  pickF o s11 (.b true) s13 fun v1 => bkF o false v1 (loadNF o h 1 s2 fun v2 => c 121 [v2, s1] h fun v3 h => pk k v3 h <| pickF o v1 (.b true) v3 fun v4 => k v4 h) (pickF o v1 (.b true) (.tup []) fun v5 => k v5 h)
theorem f126_4_ok : Q Pq o c (cO (cA (cB b126))) (f126_2K o c n k w) 9 = fun t _ h => f126_4 o c n k (t 1) (t 2) (t 11) (t 13) h := (q_seg 9 11 (by kernel_rfl) (q_guard 11 14 (10, false) (by kernel_rfl) (by kernel_rfl) (by kernel_rfl) rfl)).tk
noncomputable def f126_3 (s1 s2 s7 s9 : AV) (h : Heap) : α :=
  pickF o s7 (.b true) s9 fun v6 => bkF o false v6 (eqsF Pq o 9 s1 (.s 6 113723913172051) fun v7 => f126_4 o c n k s1 s2 v6 v7 h) (f126_4 o c n k s1 s2 v6 (.tup []) h)
theorem f126_3_ok : Q Pq o c (cO (cA (cB b126))) (f126_2K o c n k w) 5 = fun t _ h => f126_3 o c n k (t 1) (t 2) (t 7) (t 9) h := (q_seg 5 7 (by kernel_rfl) (q_guard 7 9 (6, false) (by kernel_rfl) (by kernel_rfl) (by kernel_rfl) (f126_4_ok o c n k w))).tk
noncomputable def f126_1 (s1 s2 : AV) (h : Heap) : α :=
  eqsF Pq o 9 s1 (.s 3 7630441) fun v8 => bkF o false v8 (eqsF Pq o 9 s1 (.s 7 31069335677005666) fun v9 => f126_3 o c n k s1 s2 v8 v9 h) (f126_3 o c n k s1 s2 v8 (.tup []) h)
theorem f126_1_ok : R Pq o c n (cB b126) (kend Pq o c n w rs126 k) = fun t _ h => f126_1 o c n k (t 1) (t 2) h := (kseq rfl (r_start 3 (by kernel_rfl) (q_guard 3 5 (2, false) (by kernel_rfl) (by kernel_rfl) (by kernel_rfl) (f126_3_ok o c n k w)))).tk
noncomputable def f126 (a0 a1 : AV) (h : Heap) : α :=
  boxF o a0 h h.next fun v10 h => f126_1 o c n k a1 v10 h
theorem f126_ok : R Pq o c n b126 (kend Pq o c n w rs126 k) = fun t _ h => f126 o c n k (t 0) (t 1) h := (kseq (f126_1_ok o c n k w) rfl).tk
theorem f126_good : Good Pq (cfg mm) 126 (entF Pq (cfg mm) 126 2 fun α => f126) := entG b126 rs126 20 fun _ => f126_ok
noncomputable def b131 := bdy Tryz.f131
noncomputable def rs131 := Tryz.f131.results.toList
noncomputable def f131 {α : Type} (o : α) (c : Call' α) (n : Nat) (k : AV → Heap → α) (a0 a1 a2 : AV) (h : Heap) : α :=
  boxF o a0 h h.next fun v1 h => newF h h.next 2 [(.s 0 0), (.i .i64 0)] fun v2 h => loadNF o h 1 v1 fun v3 => c 121 [v3, a1] h fun v4 h => pk k v4 h <| notF o v4 fun v5 => ifF o v5 (storeF o h 2 v2 (.agg [(.s 0 0), (.i .i64 0)]) fun h => on o (resV Pq h [(v2, some 168), ((.i .i64 7), none)]) fun v => k v h) (dreg o h 10 fun base h => loadNF o (h.look 0) 1 v1 fun v6 => loadNF o (h.look 0) 1 v1 fun v7 => callD o c (hidD false [(.fn (.func 197) [] []), v7, a1] [] (sBlk v1 [])) 197 [v7, a1] (h.look 0) fun v8 h => pnF v8 (fun x => hb h.shut fun hd => k x.pn hd) <| callD o c [] 196 [v6, v8, a2] (h.look 0) fun v9 h => pnF v9 (fun x => hb h.shut fun hd => k x.pn hd) <| exF o v9 0 fun v10 => exF o v9 1 fun v11 => storeF o (h.look 255) 2 v2 v10 fun h => hb h.shut fun h => on o (resV Pq h [(v2, some 168), (v11, none)]) fun v => k v h)
theorem f131_ok : R Pq o c n b131 (kend Pq o c n w rs131 k) = fun t _ h => f131 o c n k (t 0) (t 1) (t 2) h := by kernel_rfl
theorem f131_good : Good Pq (cfg mm) 131 (entF Pq (cfg mm) 131 3 fun α => f131) := entG b131 rs131 21 fun _ => f131_ok
noncomputable def b132 := bdy Tryz.f132
noncomputable def rs132 := Tryz.f132.results.toList
noncomputable def f132_7K : Ex → K α := (nxK (R Pq o c n (cB (cB (cB (cB (cB (cB (cB b132))))))) (kend Pq o c n w rs132 k)) (kend Pq o c n w rs132 k))
noncomputable def f132_10K (lp0 : AVs (Heap → α) 8) : Ex → K α := (nxK (fun t _ h => lp0 (t 0) (t 1) (t 4) (t 6) (t 7) (t 8) (t 9) (t 10) h) (blockK (cI (cB (cA (cB (cB (cB (cB (cB (cB b132))))))))) (f132_7K o c n k w)))
noncomputable def f132_12 {α : Type} (o : α) (c : Call' α) (n : Nat) (k : AV → Heap → α) (lp0 : AVs (Heap → α) 8) (s0 s1 s4 s6 s7 s8 s9 s10 : AV) (h : Heap) : α :=
  addF Pq o 3 s10 (.i .i64 1) fun v1 => lp0 s0 s1 s4 s6 s7 s8 s9 v1 h
theorem f132_12_ok (lp0 : AVs (Heap → α) 8) : R Pq o c n (cB (cB (cA (cA (cB (cA (cB (cB (cB (cB (cB (cB b132)))))))))))) (f132_10K o c n k w lp0) = fun t _ h => f132_12 o c n k lp0 (t 0) (t 1) (t 4) (t 6) (t 7) (t 8) (t 9) (t 10) h := by kernel_rfl
noncomputable def f132_13K (lp0 : AVs (Heap → α) 8) : Ex → K α := (nxK (fun t _ h => f132_12 o c n k lp0 (t 0) (t 1) (t 4) (t 6) (t 7) (t 8) (t 9) (t 10) h) (f132_10K o c n k w lp0))
noncomputable def f132_15 (lp0 : AVs (Heap → α) 8) (s0 s1 s4 s6 s7 s8 s9 s10 s11 : AV) (h : Heap) : α :=
  binA Pq o .shl 21 s9 (.i .u64 6) fun v2 => binA Pq o .and 3 s11 (.i .i64 63) fun v3 => convA Pq o 3 21 v3 fun v4 => binA Pq o .or 21 v2 v4 fun v5 => f132_12 o c n k lp0 s0 s1 s4 s6 s7 s8 v5 s10 h
theorem f132_15_ok (lp0 : AVs (Heap → α) 8) : R Pq o c n (cB (cB (cA (cA (cB (cA (cA (cB (cA (cB (cB (cB (cB (cB (cB b132))))))))))))))) (blockK (cI (cA (cB (cA (cA (cB (cA (cB (cB (cB (cB (cB (cB b132))))))))))))) (f132_13K o c n k w lp0)) = fun t _ h => f132_15 o c n k lp0 (t 0) (t 1) (t 4) (t 6) (t 7) (t 8) (t 9) (t 10) (t 11) h := by kernel_rfl
noncomputable def f132_16K (lp0 : AVs (Heap → α) 8) : Ex → K α := (nxK (fun t _ h => f132_15 o c n k lp0 (t 0) (t 1) (t 4) (t 6) (t 7) (t 8) (t 9) (t 10) (t 11) h) (blockK (cI (cA (cB (cA (cA (cB (cA (cB (cB (cB (cB (cB (cB b132))))))))))))) (f132_13K o c n k w lp0)))
noncomputable def f132_17 (lp0 : AVs (Heap → α) 8) (s0 s1 s4 s6 s7 s8 s9 s10 s11 s99 : AV) (h : Heap) : α :=
  ifF o s99 (layF o 0 (.i .i32 65533) [(.i .i32 0), (.i .i64 0), (.b false)] fun v6 => layF o 1 (.i .i64 1) v6 fun v7 => layF o 2 (.b true) v7 fun v8 => storeF o h 3 s4 (.agg v8) fun h => on o (resV Pq h [(s4, some 172)]) fun v => k v h) (f132_15 o c n k lp0 s0 s1 s4 s6 s7 s8 s9 s10 s11 h)
theorem f132_17_ok (lp0 : AVs (Heap → α) 8) : R Pq o c n (cB (cA (cB (cA (cA (cB (cA (cA (cB (cA (cB (cB (cB (cB (cB (cB b132)))))))))))))))) (f132_16K o c n k w lp0) = fun t _ h => f132_17 o c n k lp0 (t 0) (t 1) (t 4) (t 6) (t 7) (t 8) (t 9) (t 10) (t 11) (t 99) h := by kernel_rfl
noncomputable def f132_18K (lp0 : AVs (Heap → α) 8) : Ex → K α := (nxK (fun t _ h => f132_17 o c n k lp0 (t 0) (t 1) (t 4) (t 6) (t 7) (t 8) (t 9) (t 10) (t 11) (t 99) h) (f132_16K o c n k w lp0))
noncomputable def f132_22 (lp0 : AVs (Heap → α) 8) (s0 s1 s4 s6 s7 s8 s9 s10 s11 s92 s94 : AV) (h : Heap) : α :=
  pickF o s92 (.b true) s94 fun v9 => bkF o false v9 (gtrF Pq o 3 s11 (.i .i64 191) fun v10 => pickF o v9 (.b true) v10 fun v11 => f132_17 o c n k lp0 s0 s1 s4 s6 s7 s8 s9 s10 s11 v11 h) (pickF o v9 (.b true) (.tup []) fun v12 => f132_17 o c n k lp0 s0 s1 s4 s6 s7 s8 s9 s10 s11 v12 h)
theorem f132_22_ok (lp0 : AVs (Heap → α) 8) : Q Pq o c (cO (cA (cA (cB (cA (cA (cB (cA (cA (cB (cA (cB (cB (cB (cB (cB (cB b132))))))))))))))))) (f132_18K o c n k w lp0) 15 = fun t _ h => f132_22 o c n k lp0 (t 0) (t 1) (t 4) (t 6) (t 7) (t 8) (t 9) (t 10) (t 11) (t 92) (t 94) h := (q_seg 15 17 (by kernel_rfl) (q_guard 17 19 (16, false) (by kernel_rfl) (by kernel_rfl) (by kernel_rfl) rfl)).tk
noncomputable def f132_21 (lp0 : AVs (Heap → α) 8) (s0 s1 s4 s6 s7 s8 s9 s10 s11 s82 s90 : AV) (h : Heap) : α :=
  pickF o s82 s90 (.b false) fun v13 => bkF o false v13 (lssF Pq o 3 s11 (.i .i64 128) fun v14 => f132_22 o c n k lp0 s0 s1 s4 s6 s7 s8 s9 s10 s11 v13 v14 h) (f132_22 o c n k lp0 s0 s1 s4 s6 s7 s8 s9 s10 s11 v13 (.tup []) h)
theorem f132_21_ok (lp0 : AVs (Heap → α) 8) : Q Pq o c (cO (cA (cA (cB (cA (cA (cB (cA (cA (cB (cA (cB (cB (cB (cB (cB (cB b132))))))))))))))))) (f132_18K o c n k w lp0) 11 = fun t _ h => f132_21 o c n k lp0 (t 0) (t 1) (t 4) (t 6) (t 7) (t 8) (t 9) (t 10) (t 11) (t 82) (t 90) h := (q_seg 11 13 (by kernel_rfl) (q_guard 13 15 (12, false) (by kernel_rfl) (by kernel_rfl) (by kernel_rfl) (f132_22_ok o c n k w lp0))).tk
noncomputable def f132_20 (lp0 : AVs (Heap → α) 8) (s0 s1 s4 s6 s7 s8 s9 s10 s11 s82 s86 s89 : AV) (h : Heap) : α :=
  bkF o true s82 (pickF o s86 (.b true) s89 fun v15 => f132_21 o c n k lp0 s0 s1 s4 s6 s7 s8 s9 s10 s11 s82 v15 h) (f132_21 o c n k lp0 s0 s1 s4 s6 s7 s8 s9 s10 s11 s82 (.tup []) h)
theorem f132_20_ok (lp0 : AVs (Heap → α) 8) : Q Pq o c (cO (cA (cA (cB (cA (cA (cB (cA (cA (cB (cA (cB (cB (cB (cB (cB (cB b132))))))))))))))))) (f132_18K o c n k w lp0) 10 = fun t _ h => f132_20 o c n k lp0 (t 0) (t 1) (t 4) (t 6) (t 7) (t 8) (t 9) (t 10) (t 11) (t 82) (t 86) (t 89) h := (q_seg 10 10 (by kernel_rfl) (q_guard 10 11 (2, true) (by kernel_rfl) (by kernel_rfl) (by kernel_rfl) (f132_21_ok o c n k w lp0))).tk
noncomputable def f132_19 (lp0 : AVs (Heap → α) 8) (s0 s1 s4 s6 s7 s8 s9 s10 s11 s82 s86 : AV) (h : Heap) : α :=
  bkF o false s86 (gtrF Pq o 3 s11 s8 fun v16 => f132_20 o c n k lp0 s0 s1 s4 s6 s7 s8 s9 s10 s11 s82 s86 v16 h) (f132_20 o c n k lp0 s0 s1 s4 s6 s7 s8 s9 s10 s11 s82 s86 (.tup []) h)
theorem f132_19_ok (lp0 : AVs (Heap → α) 8) : Q Pq o c (cO (cA (cA (cB (cA (cA (cB (cA (cA (cB (cA (cB (cB (cB (cB (cB (cB b132))))))))))))))))) (f132_18K o c n k w lp0) 7 = fun t _ h => f132_19 o c n k lp0 (t 0) (t 1) (t 4) (t 6) (t 7) (t 8) (t 9) (t 10) (t 11) (t 82) (t 86) h := (q_seg 7 7 (by kernel_rfl) (q_guard 7 10 (6, false) (by kernel_rfl) (by kernel_rfl) (by kernel_rfl) (f132_20_ok o c n k w lp0))).tk
noncomputable def f132_14 (lp0 : AVs (Heap → α) 8) (s0 s1 s4 s6 s7 s8 s9 s10 s11 : AV) (h : Heap) : α :=
  eqiF Pq o 3 s10 (.i .i64 1) fun v17 => bkF o true v17 (lssF Pq o 3 s11 s7 fun v18 => f132_19 o c n k lp0 s0 s1 s4 s6 s7 s8 s9 s10 s11 v17 v18 h) (f132_19 o c n k lp0 s0 s1 s4 s6 s7 s8 s9 s10 s11 v17 (.tup []) h)
theorem f132_14_ok (lp0 : AVs (Heap → α) 8) : R Pq o c n (cB (cA (cA (cB (cA (cA (cB (cA (cB (cB (cB (cB (cB (cB b132)))))))))))))) (blockK (cI (cA (cB (cA (cA (cB (cA (cB (cB (cB (cB (cB (cB b132))))))))))))) (f132_13K o c n k w lp0)) = fun t _ h => f132_14 o c n k lp0 (t 0) (t 1) (t 4) (t 6) (t 7) (t 8) (t 9) (t 10) (t 11) h := (kseq (f132_15_ok o c n k w lp0) (kseq (f132_17_ok o c n k w lp0) (r_start 3 (by kernel_rfl) (q_guard 3 7 (2, true) (by kernel_rfl) (by kernel_rfl) (by kernel_rfl) (f132_19_ok o c n k w lp0))))).tk
noncomputable def f132_11 (lp0 : AVs (Heap → α) 8) (s0 s1 s4 s6 s7 s8 s9 s10 : AV) (h : Heap) : α :=
  addF Pq o 3 s1 s10 fun v19 => sxF o s0 v19 fun v20 => convA Pq o 5 3 v20 fun v21 => f132_14 o c n k lp0 s0 s1 s4 s6 s7 s8 s9 s10 v21 h
theorem f132_11_ok (lp0 : AVs (Heap → α) 8) : R Pq o c n (cB (cA (cA (cB (cA (cB (cB (cB (cB (cB (cB b132))))))))))) (f132_10K o c n k w lp0) = fun t _ h => f132_11 o c n k lp0 (t 0) (t 1) (t 4) (t 6) (t 7) (t 8) (t 9) (t 10) h := (kseq (f132_12_ok o c n k w lp0) (kblk (kseq (f132_14_ok o c n k w lp0) rfl))).tk
noncomputable def f132_9 (m : Nat) : AVs (Heap → α) 8 :=
  Nat.rec (motive := fun _ => AVs (Heap → α) 8) (fun _ _ _ _ _ _ _ _ _ => o) (fun _ lp0 s0 s1 s4 s6 s7 s8 s9 s10 h => lssF Pq o 3 s10 s6 fun v22 => ifF o v22 (f132_11 o c n k lp0 s0 s1 s4 s6 s7 s8 s9 s10 h) (layF o 0 s9 [(.i .i32 0), (.i .i64 0), (.b false)] fun v23 => layF o 1 s6 v23 fun v24 => storeF o h 3 s4 (.agg v24) fun h => on o (resV Pq h [(s4, some 172)]) fun v => k v h)) m
theorem f132_9_ok : R Pq o c n (cA (cB (cA (cB (cB (cB (cB (cB (cB b132))))))))) (blockK (cI (cB (cA (cB (cB (cB (cB (cB (cB b132))))))))) (f132_7K o c n k w)) = fun t _ h => f132_9 o c n k n (t 0) (t 1) (t 4) (t 6) (t 7) (t 8) (t 9) (t 10) h :=
  c_loop (F := fun m t _ h => f132_9 o c n k m (t 0) (t 1) (t 4) (t 6) (t 7) (t 8) (t 9) (t 10) h) (by kernel_rfl) (by kernel_rfl) fun m => (kseq (f132_11_ok o c n k w (f132_9 o c n k m)) rfl).tk
noncomputable def f132_8 (s0 s1 s4 s6 s7 s8 s9 s10 : AV) (h : Heap) : α :=
  f132_9 o c n k n s0 s1 s4 s6 s7 s8 s9 s10 h
theorem f132_8_ok : R Pq o c n (cB (cA (cB (cB (cB (cB (cB (cB b132)))))))) (f132_7K o c n k w) = fun t _ h => f132_8 o c n k (t 0) (t 1) (t 4) (t 6) (t 7) (t 8) (t 9) (t 10) h := (kblk (f132_9_ok o c n k w)).tk
noncomputable def f132_6 (s0 s1 s4 s6 s7 s8 s9 : AV) (h : Heap) : α :=
  f132_8 o c n k s0 s1 s4 s6 s7 s8 s9 (.i .i64 1) h
theorem f132_6_ok : R Pq o c n (cB (cB (cB (cB (cB (cB b132)))))) (kend Pq o c n w rs132 k) = fun t _ h => f132_6 o c n k (t 0) (t 1) (t 4) (t 6) (t 7) (t 8) (t 9) h := (kseq rfl (kseq (f132_8_ok o c n k w) rfl)).tk
noncomputable def f132_5 (s0 s1 s4 s5 s6 s7 s8 : AV) (h : Heap) : α :=
  convA Pq o 5 21 s5 fun v25 => binA Pq o .sub 3 (.i .i64 7) s6 fun v26 => convA Pq o 3 22 v26 fun v27 => binA Pq o .shl 21 (.i .i32 1) v27 fun v28 => binA Pq o .sub 21 v28 (.i .i32 1) fun v29 => binA Pq o .and 21 v25 v29 fun v30 => f132_6 o c n k s0 s1 s4 s6 s7 s8 v30 h
theorem f132_5_ok : R Pq o c n (cB (cB (cB (cB (cB b132))))) (kend Pq o c n w rs132 k) = fun t _ h => f132_5 o c n k (t 0) (t 1) (t 4) (t 5) (t 6) (t 7) (t 8) h := (kseq (f132_6_ok o c n k w) rfl).tk
noncomputable def f132_23K : Ex → K α := (nxK (fun t _ h => f132_5 o c n k (t 0) (t 1) (t 4) (t 5) (t 6) (t 7) (t 8) h) (kend Pq o c n w rs132 k))
noncomputable def f132_24 (s0 s1 s4 s5 s6 s7 s8 s59 : AV) (h : Heap) : α :=
  ifF o s59 (layF o 0 (.i .i32 65533) [(.i .i32 0), (.i .i64 0), (.b false)] fun v31 => layF o 1 (.i .i64 1) v31 fun v32 => layF o 2 (.b true) v32 fun v33 => storeF o h 3 s4 (.agg v33) fun h => on o (resV Pq h [(s4, some 172)]) fun v => k v h) (f132_5 o c n k s0 s1 s4 s5 s6 s7 s8 h)
theorem f132_24_ok : R Pq o c n (cB (cA (cB (cB (cB (cB b132)))))) (f132_23K o c n k w) = fun t _ h => f132_24 o c n k (t 0) (t 1) (t 4) (t 5) (t 6) (t 7) (t 8) (t 59) h := by kernel_rfl
noncomputable def f132_25K : Ex → K α := (nxK (fun t _ h => f132_24 o c n k (t 0) (t 1) (t 4) (t 5) (t 6) (t 7) (t 8) (t 59) h) (f132_23K o c n k w))
noncomputable def f132_4 (s0 s1 s4 s5 s6 s7 s8 : AV) (h : Heap) : α :=
  eqiF Pq o 3 s6 (.i .i64 0) fun v34 => bkF o false v34 (addF Pq o 3 s1 s6 fun v35 => lensF o s0 fun v36 => gtrF Pq o 3 v35 v36 fun v37 => pickF o v34 (.b true) v37 fun v38 => f132_24 o c n k s0 s1 s4 s5 s6 s7 s8 v38 h) (pickF o v34 (.b true) (.tup []) fun v39 => f132_24 o c n k s0 s1 s4 s5 s6 s7 s8 v39 h)
theorem f132_4_ok : R Pq o c n (cB (cB (cB (cB b132)))) (kend Pq o c n w rs132 k) = fun t _ h => f132_4 o c n k (t 0) (t 1) (t 4) (t 5) (t 6) (t 7) (t 8) h := (kseq (f132_5_ok o c n k w) (kseq (f132_24_ok o c n k w) (r_start 3 (by kernel_rfl) (q_guard 3 9 (2, false) (by kernel_rfl) (by kernel_rfl) (by kernel_rfl) rfl)))).tk
noncomputable def f132_26K : Ex → K α := (nxK (fun t _ h => f132_4 o c n k (t 0) (t 1) (t 4) (t 5) (t 6) (t 7) (t 8) h) (kend Pq o c n w rs132 k))
noncomputable def f132_31 (s0 s1 s4 s5 s6 s7 s8 : AV) (h : Heap) : α :=
  eqiF Pq o 5 s5 (.i .u8 237) fun v40 => ifF o v40 (f132_4 o c n k s0 s1 s4 s5 s6 s7 (.i .i64 159) h) (f132_4 o c n k s0 s1 s4 s5 s6 s7 s8 h)
theorem f132_31_ok : R Pq o c n (cB (cB (cA (cB (cB (cB (cB (cB (cA (cA (cB (cB (cB b132))))))))))))) (blockK (cI (cA (cB (cB (cB b132))))) (f132_26K o c n k w)) = fun t _ h => f132_31 o c n k (t 0) (t 1) (t 4) (t 5) (t 6) (t 7) (t 8) h := by kernel_rfl
noncomputable def f132_30 (s0 s1 s4 s5 s6 s7 s8 : AV) (h : Heap) : α :=
  eqiF Pq o 5 s5 (.i .u8 224) fun v41 => ifF o v41 (f132_31 o c n k s0 s1 s4 s5 s6 (.i .i64 160) s8 h) (f132_31 o c n k s0 s1 s4 s5 s6 s7 s8 h)
theorem f132_30_ok : R Pq o c n (cB (cA (cB (cB (cB (cB (cB (cA (cA (cB (cB (cB b132)))))))))))) (blockK (cI (cA (cB (cB (cB b132))))) (f132_26K o c n k w)) = fun t _ h => f132_30 o c n k (t 0) (t 1) (t 4) (t 5) (t 6) (t 7) (t 8) h := (kseq (f132_31_ok o c n k w) rfl).tk
noncomputable def f132_34 (s0 s1 s4 s5 s6 s7 s8 : AV) (h : Heap) : α :=
  eqiF Pq o 5 s5 (.i .u8 244) fun v42 => ifF o v42 (f132_4 o c n k s0 s1 s4 s5 s6 s7 (.i .i64 143) h) (f132_4 o c n k s0 s1 s4 s5 s6 s7 s8 h)
theorem f132_34_ok : R Pq o c n (cB (cB (cA (cB (cB (cB (cB (cB (cB (cB (cA (cA (cB (cB (cB b132))))))))))))))) (blockK (cI (cA (cB (cB (cB b132))))) (f132_26K o c n k w)) = fun t _ h => f132_34 o c n k (t 0) (t 1) (t 4) (t 5) (t 6) (t 7) (t 8) h := by kernel_rfl
noncomputable def f132_33 (s0 s1 s4 s5 s6 s7 s8 : AV) (h : Heap) : α :=
  eqiF Pq o 5 s5 (.i .u8 240) fun v43 => ifF o v43 (f132_34 o c n k s0 s1 s4 s5 s6 (.i .i64 144) s8 h) (f132_34 o c n k s0 s1 s4 s5 s6 s7 s8 h)
theorem f132_33_ok : R Pq o c n (cB (cA (cB (cB (cB (cB (cB (cB (cB (cA (cA (cB (cB (cB b132)))))))))))))) (blockK (cI (cA (cB (cB (cB b132))))) (f132_26K o c n k w)) = fun t _ h => f132_33 o c n k (t 0) (t 1) (t 4) (t 5) (t 6) (t 7) (t 8) h := (kseq (f132_34_ok o c n k w) rfl).tk
noncomputable def f132_32 (s0 s1 s4 s5 s6 s7 s8 s39 : AV) (h : Heap) : α :=
  ifF o s39 (f132_33 o c n k s0 s1 s4 s5 (.i .i64 4) s7 s8 h) (f132_4 o c n k s0 s1 s4 s5 s6 s7 s8 h)
theorem f132_32_ok : R Pq o c n (cB (cB (cB (cB (cB (cB (cB (cA (cA (cB (cB (cB b132)))))))))))) (blockK (cI (cA (cB (cB (cB b132))))) (f132_26K o c n k w)) = fun t _ h => f132_32 o c n k (t 0) (t 1) (t 4) (t 5) (t 6) (t 7) (t 8) (t 39) h := (c_cond (by kernel_rfl) (kseq (f132_33_ok o c n k w) rfl) rfl).tk
noncomputable def f132_35K : Ex → K α := (nxK (fun t _ h => f132_32 o c n k (t 0) (t 1) (t 4) (t 5) (t 6) (t 7) (t 8) (t 39) h) (blockK (cI (cA (cB (cB (cB b132))))) (f132_26K o c n k w)))
noncomputable def f132_29 (s0 s1 s4 s5 s6 s7 s8 s28 : AV) (h : Heap) : α :=
  ifF o s28 (f132_30 o c n k s0 s1 s4 s5 (.i .i64 3) s7 s8 h) (geqF Pq o 5 s5 (.i .u8 240) fun v44 => bkF o true v44 (leqF Pq o 5 s5 (.i .u8 244) fun v45 => pickF o v44 v45 (.b false) fun v46 => f132_32 o c n k s0 s1 s4 s5 s6 s7 s8 v46 h) (pickF o v44 (.tup []) (.b false) fun v47 => f132_32 o c n k s0 s1 s4 s5 s6 s7 s8 v47 h))
theorem f132_29_ok : R Pq o c n (cB (cB (cB (cB (cB (cA (cA (cB (cB (cB b132)))))))))) (blockK (cI (cA (cB (cB (cB b132))))) (f132_26K o c n k w)) = fun t _ h => f132_29 o c n k (t 0) (t 1) (t 4) (t 5) (t 6) (t 7) (t 8) (t 28) h := (c_cond (by kernel_rfl) (kseq (f132_30_ok o c n k w) rfl) (kseq (f132_32_ok o c n k w) (r_start 3 (by kernel_rfl) (q_guard 3 5 (2, true) (by kernel_rfl) (by kernel_rfl) (by kernel_rfl) rfl)))).tk
noncomputable def f132_36K : Ex → K α := (nxK (fun t _ h => f132_29 o c n k (t 0) (t 1) (t 4) (t 5) (t 6) (t 7) (t 8) (t 28) h) (blockK (cI (cA (cB (cB (cB b132))))) (f132_26K o c n k w)))
noncomputable def f132_28 (s0 s1 s4 s5 s6 s7 s8 s21 : AV) (h : Heap) : α :=
  ifF o s21 (f132_4 o c n k s0 s1 s4 s5 (.i .i64 2) s7 s8 h) (geqF Pq o 5 s5 (.i .u8 224) fun v48 => bkF o true v48 (leqF Pq o 5 s5 (.i .u8 239) fun v49 => pickF o v48 v49 (.b false) fun v50 => f132_29 o c n k s0 s1 s4 s5 s6 s7 s8 v50 h) (pickF o v48 (.tup []) (.b false) fun v51 => f132_29 o c n k s0 s1 s4 s5 s6 s7 s8 v51 h))
theorem f132_28_ok : R Pq o c n (cB (cB (cB (cA (cA (cB (cB (cB b132)))))))) (blockK (cI (cA (cB (cB (cB b132))))) (f132_26K o c n k w)) = fun t _ h => f132_28 o c n k (t 0) (t 1) (t 4) (t 5) (t 6) (t 7) (t 8) (t 21) h := (c_cond (by kernel_rfl) rfl (kseq (f132_29_ok o c n k w) (r_start 3 (by kernel_rfl) (q_guard 3 5 (2, true) (by kernel_rfl) (by kernel_rfl) (by kernel_rfl) rfl)))).tk
noncomputable def f132_37K : Ex → K α := (nxK (fun t _ h => f132_28 o c n k (t 0) (t 1) (t 4) (t 5) (t 6) (t 7) (t 8) (t 21) h) (blockK (cI (cA (cB (cB (cB b132))))) (f132_26K o c n k w)))
noncomputable def f132_27 (s0 s1 s4 s5 s6 s7 s8 s15 : AV) (h : Heap) : α :=
  ifF o s15 (convA Pq o 5 21 s5 fun v52 => layF o 0 v52 [(.i .i32 0), (.i .i64 0), (.b false)] fun v53 => layF o 1 (.i .i64 1) v53 fun v54 => storeF o h 3 s4 (.agg v54) fun h => on o (resV Pq h [(s4, some 172)]) fun v => k v h) (geqF Pq o 5 s5 (.i .u8 194) fun v55 => bkF o true v55 (leqF Pq o 5 s5 (.i .u8 223) fun v56 => pickF o v55 v56 (.b false) fun v57 => f132_28 o c n k s0 s1 s4 s5 s6 s7 s8 v57 h) (pickF o v55 (.tup []) (.b false) fun v58 => f132_28 o c n k s0 s1 s4 s5 s6 s7 s8 v58 h))
theorem f132_27_ok : R Pq o c n (cB (cA (cA (cB (cB (cB b132)))))) (blockK (cI (cA (cB (cB (cB b132))))) (f132_26K o c n k w)) = fun t _ h => f132_27 o c n k (t 0) (t 1) (t 4) (t 5) (t 6) (t 7) (t 8) (t 15) h := (c_cond (by kernel_rfl) rfl (kseq (f132_28_ok o c n k w) (r_start 3 (by kernel_rfl) (q_guard 3 5 (2, true) (by kernel_rfl) (by kernel_rfl) (by kernel_rfl) rfl)))).tk
noncomputable def f132_3 (s0 s1 s4 s5 s6 s7 s8 : AV) (h : Heap) : α :=
  lssF Pq o 5 s5 (.i .u8 128) fun v59 => f132_27 o c n k s0 s1 s4 s5 s6 s7 s8 v59 h
theorem f132_3_ok : R Pq o c n (cB (cB (cB b132))) (kend Pq o c n w rs132 k) = fun t _ h => f132_3 o c n k (t 0) (t 1) (t 4) (t 5) (t 6) (t 7) (t 8) h := (kseq (f132_4_ok o c n k w) (kblk (kseq (f132_27_ok o c n k w) rfl))).tk
noncomputable def f132_2 (s0 s1 s4 s5 : AV) (h : Heap) : α :=
  f132_3 o c n k s0 s1 s4 s5 (.i .i64 0) (.i .i64 128) (.i .i64 191) h
theorem f132_2_ok : R Pq o c n (cB (cB b132)) (kend Pq o c n w rs132 k) = fun t _ h => f132_2 o c n k (t 0) (t 1) (t 4) (t 5) h := (kseq (f132_3_ok o c n k w) rfl).tk
noncomputable def f132_1 (s0 s1 s4 : AV) (h : Heap) : α :=
  sxF o s0 s1 fun v60 => f132_2 o c n k s0 s1 s4 v60 h
theorem f132_1_ok : R Pq o c n (cB b132) (kend Pq o c n w rs132 k) = fun t _ h => f132_1 o c n k (t 0) (t 1) (t 4) h := (kseq (f132_2_ok o c n k w) rfl).tk
noncomputable def f132 (a0 a1 : AV) (h : Heap) : α :=
  newF h h.next 3 [(.i .i32 0), (.i .i64 0), (.b false)] fun v61 h => f132_1 o c n k a0 a1 v61 h
theorem f132_ok : R Pq o c n b132 (kend Pq o c n w rs132 k) = fun t _ h => f132 o c n k (t 0) (t 1) h := (kseq (f132_1_ok o c n k w) rfl).tk
theorem f132_good : Good Pq (cfg mm) 132 (entF Pq (cfg mm) 132 2 fun α => f132) := entG b132 rs132 110 fun _ => f132_ok
noncomputable def b133 := bdy Tryz.f133
noncomputable def rs133 := Tryz.f133.results.toList
noncomputable def f133_2K : Ex → K α := (nxK (R Pq o c n (cB (cB b133)) (kend Pq o c n w rs133 k)) (kend Pq o c n w rs133 k))
noncomputable def f133_1 {α : Type} (o : α) (c : Call' α) (n : Nat) (k : AV → Heap → α) (s0 : AV) (h : Heap) : α :=
  geqF Pq o 21 s0 (.i .i32 48) fun v1 => bkF o true v1 (leqF Pq o 21 s0 (.i .i32 57) fun v2 => pickF o v1 v2 (.b false) fun v3 => k v3 h) (pickF o v1 (.tup []) (.b false) fun v4 => k v4 h)
theorem f133_1_ok : R Pq o c n (cB b133) (kend Pq o c n w rs133 k) = fun t _ h => f133_1 o c n k (t 0) h := (kseq rfl (r_start 3 (by kernel_rfl) (q_guard 3 5 (2, true) (by kernel_rfl) (by kernel_rfl) (by kernel_rfl) rfl))).tk
noncomputable def f133 (a0 : AV) (h : Heap) : α :=
  f133_1 o c n k a0 h
theorem f133_ok : R Pq o c n b133 (kend Pq o c n w rs133 k) = fun t _ h => f133 o c n k (t 0) h := (kseq (f133_1_ok o c n k w) rfl).tk
theorem f133_good : Good Pq (cfg mm) 133 (entF Pq (cfg mm) 133 1 fun α => f133) := entG b133 rs133 9 fun _ => f133_ok
noncomputable def b134 := bdy Tryz.f134
noncomputable def rs134 := Tryz.f134.results.toList
noncomputable def f134_2K : Ex → K α := (nxK (R Pq o c n (cB (cB b134)) (kend Pq o c n w rs134 k)) (kend Pq o c n w rs134 k))
noncomputable def f134_3 {α : Type} (o : α) (c : Call' α) (n : Nat) (k : AV → Heap → α) (s0 s6 s9 : AV) (h : Heap) : α :=
  pickF o s6 (.b true) s9 fun v1 => bkF o false v1 (convA Pq o 5 21 s0 fun v2 => c 133 [v2] h fun v3 h => pk k v3 h <| pickF o v1 (.b true) v3 fun v4 => k v4 h) (pickF o v1 (.b true) (.tup []) fun v5 => k v5 h)
theorem f134_3_ok : Q Pq o c (cO (cA (cB b134))) (f134_2K o c n k w) 7 = fun t _ h => f134_3 o c n k (t 0) (t 6) (t 9) h := (q_seg 7 9 (by kernel_rfl) (q_guard 9 12 (8, false) (by kernel_rfl) (by kernel_rfl) (by kernel_rfl) rfl)).tk
noncomputable def f134_1 (s0 : AV) (h : Heap) : α :=
  convA Pq o 5 21 s0 fun v6 => c 149 [v6] h fun v7 h => pk k v7 h <| bkF o false v7 (convA Pq o 5 21 s0 fun v8 => c 148 [v8] h fun v9 h => pk k v9 h <| f134_3 o c n k s0 v7 v9 h) (f134_3 o c n k s0 v7 (.tup []) h)
theorem f134_1_ok : R Pq o c n (cB b134) (kend Pq o c n w rs134 k) = fun t _ h => f134_1 o c n k (t 0) h := (kseq rfl (r_start 4 (by kernel_rfl) (q_guard 4 7 (3, false) (by kernel_rfl) (by kernel_rfl) (by kernel_rfl) (f134_3_ok o c n k w)))).tk
noncomputable def f134 (a0 : AV) (h : Heap) : α :=
  f134_1 o c n k a0 h
theorem f134_ok : R Pq o c n b134 (kend Pq o c n w rs134 k) = fun t _ h => f134 o c n k (t 0) h := (kseq (f134_1_ok o c n k w) rfl).tk
theorem f134_good : Good Pq (cfg mm) 134 (entF Pq (cfg mm) 134 1 fun α => f134) := entG b134 rs134 16 fun _ => f134_ok
noncomputable def b137 := bdy Tryz.f137
noncomputable def rs137 := Tryz.f137.results.toList
noncomputable def f137_2K : Ex → K α := (nxK (R Pq o c n (cB (cB b137)) (kend Pq o c n w rs137 k)) (kend Pq o c n w rs137 k))
noncomputable def f137_4 {α : Type} (o : α) (c : Call' α) (n : Nat) (k : AV → Heap → α) (m : Nat) : AVs (Heap → α) 3 :=
  Nat.rec (motive := fun _ => AVs (Heap → α) 3) (fun _ _ _ _ => o) (fun _ lp0 s0 s1 s5 h => lenF o s0 fun v1 => lssF Pq o 3 s5 v1 fun v2 => ifF o v2 (ixF o 1 s0 s5 fun v3 => load1F o h v3 fun v4 => eqsF Pq o 9 v4 s1 fun v5 => ifF o v5 (k (.b true) h) (addF Pq o 3 s5 (.i .i64 1) fun v6 => lp0 s0 s1 v6 h)) (k (.b false) h)) m
theorem f137_4_ok : R Pq o c n (cA (cB (cA (cB b137)))) (blockK (cI (cB (cA (cB b137)))) (f137_2K o c n k w)) = fun t _ h => f137_4 o c n k n (t 0) (t 1) (t 5) h :=
  c_loop (F := fun m t _ h => f137_4 o c n k m (t 0) (t 1) (t 5) h) (by kernel_rfl) (by kernel_rfl) fun m => by kernel_rfl
noncomputable def f137_3 (s0 s1 s5 : AV) (h : Heap) : α :=
  f137_4 o c n k n s0 s1 s5 h
theorem f137_3_ok : R Pq o c n (cB (cA (cB b137))) (f137_2K o c n k w) = fun t _ h => f137_3 o c n k (t 0) (t 1) (t 5) h := (kblk (f137_4_ok o c n k w)).tk
noncomputable def f137_1 (s0 s1 : AV) (h : Heap) : α :=
  f137_3 o c n k s0 s1 (.i .i64 0) h
theorem f137_1_ok : R Pq o c n (cB b137) (kend Pq o c n w rs137 k) = fun t _ h => f137_1 o c n k (t 0) (t 1) h := (kseq rfl (kseq (f137_3_ok o c n k w) rfl)).tk
noncomputable def f137 (a0 a1 : AV) (h : Heap) : α :=
  f137_1 o c n k a0 a1 h
theorem f137_ok : R Pq o c n b137 (kend Pq o c n w rs137 k) = fun t _ h => f137 o c n k (t 0) (t 1) h := (kseq (f137_1_ok o c n k w) rfl).tk
theorem f137_good : Good Pq (cfg mm) 137 (entF Pq (cfg mm) 137 2 fun α => f137) := entG b137 rs137 18 fun _ => f137_ok
noncomputable def b138 := bdy Tryz.f138
noncomputable def rs138 := Tryz.f138.results.toList
noncomputable def f138 {α : Type} (o : α) (c : Call' α) (n : Nat) (k : AV → Heap → α) (a0 : AV) (h : Heap) : α :=
  dreg o h 10 fun base h => nilChk o a0 fun v1 => faF o 2 v1 fun v2 => rootF o v2 a0 <| load1F o (h.look 7) v2 fun v3 => nilChk o a0 fun v4 => faF o 0 v4 fun v5 => rootF o v5 a0 <| load1F o (h.look 112) v5 fun v6 => lenF o v6 fun v7 => lssF Pq o 3 v3 v7 fun v8 => hb h.shut fun h => ifF o v8 (dreg o h 12 fun base h => nilChk o a0 fun v9 => faF o 0 v9 fun v10 => rootF o v10 a0 <| load1F o (h.look 7) v10 fun v11 => nilChk o a0 fun v12 => faF o 2 v12 fun v13 => rootF o v13 a0 <| load1F o (h.look 112) v13 fun v14 => ixF o 3 v11 v14 fun v15 => faF o 2 v15 fun v16 => load1F o (h.look 1023) v16 fun v17 => hb h.shut fun h => k v17 h) (nilChk o a0 fun v18 => faF o 1 v18 fun v19 => load1F o h v19 fun v20 => k v20 h)
theorem f138_ok : R Pq o c n b138 (kend Pq o c n w rs138 k) = fun t _ h => f138 o c n k (t 0) h := by kernel_rfl
theorem f138_good : Good Pq (cfg mm) 138 (entF Pq (cfg mm) 138 1 fun α => f138) := entG b138 rs138 28 fun _ => f138_ok
noncomputable def b139 := bdy Tryz.f139
noncomputable def rs139 := Tryz.f139.results.toList
noncomputable def f139_2K : Ex → K α := (nxK (R Pq o c n (cB (cB b139)) (kend Pq o c n w rs139 k)) (kend Pq o c n w rs139 k))
noncomputable def f139_3 {α : Type} (o : α) (c : Call' α) (n : Nat) (k : AV → Heap → α) (s0 s5 s9 : AV) (h : Heap) : α :=
  pickF o s5 s9 (.b false) fun v1 => bkF o true v1 (nesF Pq o 9 s0 (.s 6 113723913172051) fun v2 => pickF o v1 v2 (.b false) fun v3 => k v3 h) (pickF o v1 (.tup []) (.b false) fun v4 => k v4 h)
theorem f139_3_ok : Q Pq o c (cO (cA (cB b139))) (f139_2K o c n k w) 7 = fun t _ h => f139_3 o c n k (t 0) (t 5) (t 9) h := (q_seg 7 9 (by kernel_rfl) (q_guard 9 11 (8, true) (by kernel_rfl) (by kernel_rfl) (by kernel_rfl) rfl)).tk
noncomputable def f139_1 (s0 : AV) (h : Heap) : α :=
  nesF Pq o 9 s0 (.s 0 0) fun v5 => bkF o true v5 (sxF o s0 (.i .i64 0) fun v6 => convA Pq o 5 21 v6 fun v7 => c 148 [v7] h fun v8 h => pk k v8 h <| f139_3 o c n k s0 v5 v8 h) (f139_3 o c n k s0 v5 (.tup []) h)
theorem f139_1_ok : R Pq o c n (cB b139) (kend Pq o c n w rs139 k) = fun t _ h => f139_1 o c n k (t 0) h := (kseq rfl (r_start 3 (by kernel_rfl) (q_guard 3 7 (2, true) (by kernel_rfl) (by kernel_rfl) (by kernel_rfl) (f139_3_ok o c n k w)))).tk
noncomputable def f139 (a0 : AV) (h : Heap) : α :=
  f139_1 o c n k a0 h
theorem f139_ok : R Pq o c n b139 (kend Pq o c n w rs139 k) = fun t _ h => f139 o c n k (t 0) h := (kseq (f139_1_ok o c n k w) rfl).tk
theorem f139_good : Good Pq (cfg mm) 139 (entF Pq (cfg mm) 139 1 fun α => f139) := entG b139 rs139 15 fun _ => f139_ok
noncomputable def b140 := bdy Tryz.f140
noncomputable def rs140 := Tryz.f140.results.toList
noncomputable def f140 {α : Type} (o : α) (c : Call' α) (n : Nat) (k : AV → Heap → α) (a0 : AV) (h : Heap) : α :=
  nilChk o a0 fun v1 => faF o 5 v1 fun v2 => load1F o h v2 fun v3 => gtrF Pq o 3 v3 (.i .i64 40) fun v4 => ifF o v4 (c 78 [a0, (.i .i64 4)] h fun v5 h => pk k v5 h <| k (.b false) h) (nilChk o a0 fun v6 => faF o 5 v6 fun v7 => load1F o h v7 fun v8 => addF Pq o 3 v8 (.i .i64 1) fun v9 => nilChk o a0 fun v10 => faF o 5 v10 fun v11 => storeF o h 1 v11 v9 fun h => k (.b true) h)
theorem f140_ok : R Pq o c n b140 (kend Pq o c n w rs140 k) = fun t _ h => f140 o c n k (t 0) h := by kernel_rfl
theorem f140_good : Good Pq (cfg mm) 140 (entF Pq (cfg mm) 140 1 fun α => f140) := entG b140 rs140 17 fun _ => f140_ok
noncomputable def b144 := bdy Tryz.f144
noncomputable def rs144 := Tryz.f144.results.toList
noncomputable def f144_4K : Ex → K α := (nxK (R Pq o c n (cB (cB (cB (cB b144)))) (kend Pq o c n w rs144 k)) (kend Pq o c n w rs144 k))
noncomputable def f144_6K (lp0 : AVs (Heap → α) 4) : Ex → K α := (nxK (fun t _ h => lp0 (t 0) (t 1) (t 4) (t 5) h) (blockK (cI (cA (cB (cB (cB b144))))) (f144_4K o c n k w)))
noncomputable def f144_7K (lp0 : AVs (Heap → α) 4) : Ex → K α := (nxK (R Pq o c n (cB (cA (cA (cA (cB (cB (cB b144))))))) (f144_6K o c n k w lp0)) (f144_6K o c n k w lp0))
noncomputable def f144_8K (lp0 : AVs (Heap → α) 4) : Ex → K α := (nxK (R Pq o c n (cB (cA (cA (cA (cA (cB (cB (cB b144)))))))) (f144_7K o c n k w lp0)) (f144_7K o c n k w lp0))
noncomputable def f144_23 {α : Type} (o : α) (c : Call' α) (n : Nat) (k : AV → Heap → α) (lp0 : AVs (Heap → α) 4) (base : Nat) (s0 s1 s4 s5 s18 s32 : AV) (h : Heap) : α :=
  pickF o s18 s32 (.b false) fun v1 => hb h.shut fun h => ifF o v1 (dreg o h 12 fun base h => nilChk o s0 fun v2 => faF o 0 v2 fun v3 => rootF o v3 s0 <| load1F o (h.look 7) v3 fun v4 => nilChk o s0 fun v5 => faF o 2 v5 fun v6 => rootF o v6 s0 <| load1F o (h.look 112) v6 fun v7 => ixF o 3 v4 v7 fun v8 => faF o 1 v8 fun v9 => load1F o (h.look 1023) v9 fun v10 => hb h.shut fun h => nilChk o s0 fun v11 => faF o 2 v11 fun v12 => load1F o h v12 fun v13 => addF Pq o 3 v13 (.i .i64 1) fun v14 => nilChk o s0 fun v15 => faF o 2 v15 fun v16 => storeF o h 1 v16 v14 fun h => addF Pq o 3 s1 (.i .i64 1) fun v17 => c 144 [s0, v17] h fun v18 h => pk k v18 h <| newF h h.next 8 [(.i .i64 0), (.i .i32 0), (.s 0 0), (.s 0 0), (.s 0 0), .nsl, (.s 0 0), (.i .i64 0)] fun v19 h => storeF o h 8 v19 v18 fun h => loadNF o h 8 s5 fun v20 => loadNF o h 8 v19 fun v21 => fil1 o 8 2 0 v20 [[(.i .i64 0), (.i .i32 0), (.s 0 0), (.s 0 0), (.s 0 0), .nsl, (.s 0 0), (.i .i64 0)], [(.i .i64 0), (.i .i32 0), (.s 0 0), (.s 0 0), (.s 0 0), .nsl, (.s 0 0), (.i .i64 0)]] fun v22 => fil1 o 8 2 1 v21 v22 fun v23 => newEF h h.next 8 2 v23 fun v24 h => layF o 0 (.i .i64 17) [(.i .i64 0), (.i .i32 0), (.s 0 0), (.s 0 0), (.s 0 0), .nsl, (.s 0 0), (.i .i64 0)] fun v25 => layF o 3 v10 v25 fun v26 => layF o 5 v24 v26 fun v27 => storeF o h 8 s5 (.agg v27) fun h => lp0 s0 s1 s4 s5 h) (loadNF o h 8 s5 fun v28 => storeF o h 8 s4 v28 fun h => on o (resV Pq h [(s4, some 57)]) fun v => k v h)
theorem f144_23_ok (lp0 : AVs (Heap → α) 4) (base : Nat) : QD Pq o c (cO (cA (cA (cA (cA (cA (cB (cB (cB b144))))))))) base ((f144_8K o c n k w lp0)) 17 = fun t _ h => f144_23 o c n k lp0 base (t 0) (t 1) (t 4) (t 5) (t 18) (t 32) h := by kernel_rfl
noncomputable def f144_22 (lp0 : AVs (Heap → α) 4) (base : Nat) (s0 s1 s4 s5 s18 s30 s31 : AV) (h : Heap) : α :=
  bkF o true s18 (eqiF Pq o 3 s30 s31 fun v29 => f144_23 o c n k lp0 base s0 s1 s4 s5 s18 v29 (h.look 0)) (f144_23 o c n k lp0 base s0 s1 s4 s5 s18 (.tup []) (h.look 0))
theorem f144_22_ok (lp0 : AVs (Heap → α) 4) (base : Nat) : QD Pq o c (cO (cA (cA (cA (cA (cA (cB (cB (cB b144))))))))) base ((f144_8K o c n k w lp0)) 16 = fun t _ h => f144_22 o c n k lp0 base (t 0) (t 1) (t 4) (t 5) (t 18) (t 30) (t 31) h := (qd_seg 16 17 (by kernel_rfl) (f144_23_ok o c n k w lp0 base)).tk
noncomputable def f144_21 (lp0 : AVs (Heap → α) 4) (base : Nat) (s0 s1 s4 s5 s18 s30 : AV) (h : Heap) : α :=
  bkF o true s18 (f144_22 o c n k lp0 base s0 s1 s4 s5 s18 s30 s1 (h.look 0)) (f144_22 o c n k lp0 base s0 s1 s4 s5 s18 s30 (.tup []) (h.look 0))
theorem f144_21_ok (lp0 : AVs (Heap → α) 4) (base : Nat) : QD Pq o c (cO (cA (cA (cA (cA (cA (cB (cB (cB b144))))))))) base ((f144_8K o c n k w lp0)) 15 = fun t _ h => f144_21 o c n k lp0 base (t 0) (t 1) (t 4) (t 5) (t 18) (t 30) h := (qd_seg 15 16 (by kernel_rfl) (f144_22_ok o c n k w lp0 base)).tk
noncomputable def f144_20 (lp0 : AVs (Heap → α) 4) (base : Nat) (s0 s1 s4 s5 s18 s29 : AV) (h : Heap) : α :=
  bkF o true s18 (callD o c [] 206 [s29] h fun v30 h => pnF v30 (fun x => hb h.shut fun hd => bkF o true s18 (k x.pn hd) (k x.pn hd)) <| f144_21 o c n k lp0 base s0 s1 s4 s5 s18 v30 h) (f144_21 o c n k lp0 base s0 s1 s4 s5 s18 (.tup []) h)
theorem f144_20_ok (lp0 : AVs (Heap → α) 4) (base : Nat) : QD Pq o c (cO (cA (cA (cA (cA (cA (cB (cB (cB b144))))))))) base ((f144_8K o c n k w lp0)) 14 = fun t _ h => f144_20 o c n k lp0 base (t 0) (t 1) (t 4) (t 5) (t 18) (t 29) h := (qd_seg 14 15 (by kernel_rfl) (f144_21_ok o c n k w lp0 base)).tk
noncomputable def f144_19 (lp0 : AVs (Heap → α) 4) (base : Nat) (s0 s1 s4 s5 s18 s28 : AV) (h : Heap) : α :=
  bkF o true s18 (load1F o (h.look 8191) s28 fun v31 => f144_20 o c n k lp0 base s0 s1 s4 s5 s18 v31 (h.look 0)) (f144_20 o c n k lp0 base s0 s1 s4 s5 s18 (.tup []) (h.look 0))
theorem f144_19_ok (lp0 : AVs (Heap → α) 4) (base : Nat) : QD Pq o c (cO (cA (cA (cA (cA (cA (cB (cB (cB b144))))))))) base ((f144_8K o c n k w lp0)) 13 = fun t _ h => f144_19 o c n k lp0 base (t 0) (t 1) (t 4) (t 5) (t 18) (t 28) h := (qd_seg 13 14 (by kernel_rfl) (f144_20_ok o c n k w lp0 base)).tk
noncomputable def f144_18 (lp0 : AVs (Heap → α) 4) (base : Nat) (s0 s1 s4 s5 s18 s27 : AV) (h : Heap) : α :=
  bkF o true s18 (faF o 1 s27 fun v32 => f144_19 o c n k lp0 base s0 s1 s4 s5 s18 v32 (h.look 0)) (f144_19 o c n k lp0 base s0 s1 s4 s5 s18 (.tup []) (h.look 0))
theorem f144_18_ok (lp0 : AVs (Heap → α) 4) (base : Nat) : QD Pq o c (cO (cA (cA (cA (cA (cA (cB (cB (cB b144))))))))) base ((f144_8K o c n k w lp0)) 12 = fun t _ h => f144_18 o c n k lp0 base (t 0) (t 1) (t 4) (t 5) (t 18) (t 27) h := (qd_seg 12 13 (by kernel_rfl) (f144_19_ok o c n k w lp0 base)).tk
noncomputable def f144_17 (lp0 : AVs (Heap → α) 4) (base : Nat) (s0 s1 s4 s5 s18 s22 s26 : AV) (h : Heap) : α :=
  bkF o true s18 (ixF o 3 s22 s26 fun v33 => f144_18 o c n k lp0 base s0 s1 s4 s5 s18 v33 (h.look 0)) (f144_18 o c n k lp0 base s0 s1 s4 s5 s18 (.tup []) (h.look 0))
theorem f144_17_ok (lp0 : AVs (Heap → α) 4) (base : Nat) : QD Pq o c (cO (cA (cA (cA (cA (cA (cB (cB (cB b144))))))))) base ((f144_8K o c n k w lp0)) 11 = fun t _ h => f144_17 o c n k lp0 base (t 0) (t 1) (t 4) (t 5) (t 18) (t 22) (t 26) h := (qd_seg 11 12 (by kernel_rfl) (f144_18_ok o c n k w lp0 base)).tk
noncomputable def f144_16 (lp0 : AVs (Heap → α) 4) (base : Nat) (s0 s1 s4 s5 s18 s22 s25 : AV) (h : Heap) : α :=
  rootF o s25 s0 <| bkF o true s18 (load1F o (h.look 903) s25 fun v34 => f144_17 o c n k lp0 base s0 s1 s4 s5 s18 s22 v34 (h.look 0)) (f144_17 o c n k lp0 base s0 s1 s4 s5 s18 s22 (.tup []) (h.look 0))
theorem f144_16_ok (lp0 : AVs (Heap → α) 4) (base : Nat) : QD Pq o c (cO (cA (cA (cA (cA (cA (cB (cB (cB b144))))))))) base ((f144_8K o c n k w lp0)) 10 = fun t _ h => f144_16 o c n k lp0 base (t 0) (t 1) (t 4) (t 5) (t 18) (t 22) (t 25) h := (qd_seg 10 11 (by kernel_rfl) (f144_17_ok o c n k w lp0 base)).tk
noncomputable def f144_15 (lp0 : AVs (Heap → α) 4) (base : Nat) (s0 s1 s4 s5 s18 s22 s24 : AV) (h : Heap) : α :=
  bkF o true s18 (faF o 2 s24 fun v35 => f144_16 o c n k lp0 base s0 s1 s4 s5 s18 s22 v35 (h.look 0)) (f144_16 o c n k lp0 base s0 s1 s4 s5 s18 s22 (.tup []) (h.look 0))
theorem f144_15_ok (lp0 : AVs (Heap → α) 4) (base : Nat) : QD Pq o c (cO (cA (cA (cA (cA (cA (cB (cB (cB b144))))))))) base ((f144_8K o c n k w lp0)) 9 = fun t _ h => f144_15 o c n k lp0 base (t 0) (t 1) (t 4) (t 5) (t 18) (t 22) (t 24) h := (qd_seg 9 10 (by kernel_rfl) (f144_16_ok o c n k w lp0 base)).tk
noncomputable def f144_14 (lp0 : AVs (Heap → α) 4) (base : Nat) (s0 s1 s4 s5 s18 s22 s23 : AV) (h : Heap) : α :=
  bkF o true s18 (nilChk o s23 fun v36 => f144_15 o c n k lp0 base s0 s1 s4 s5 s18 s22 v36 (h.look 0)) (f144_15 o c n k lp0 base s0 s1 s4 s5 s18 s22 (.tup []) (h.look 0))
theorem f144_14_ok (lp0 : AVs (Heap → α) 4) (base : Nat) : QD Pq o c (cO (cA (cA (cA (cA (cA (cB (cB (cB b144))))))))) base ((f144_8K o c n k w lp0)) 8 = fun t _ h => f144_14 o c n k lp0 base (t 0) (t 1) (t 4) (t 5) (t 18) (t 22) (t 23) h := (qd_seg 8 9 (by kernel_rfl) (f144_15_ok o c n k w lp0 base)).tk
noncomputable def f144_13 (lp0 : AVs (Heap → α) 4) (base : Nat) (s0 s1 s4 s5 s18 s22 : AV) (h : Heap) : α :=
  bkF o true s18 (f144_14 o c n k lp0 base s0 s1 s4 s5 s18 s22 s0 (h.look 0)) (f144_14 o c n k lp0 base s0 s1 s4 s5 s18 s22 (.tup []) (h.look 0))
theorem f144_13_ok (lp0 : AVs (Heap → α) 4) (base : Nat) : QD Pq o c (cO (cA (cA (cA (cA (cA (cB (cB (cB b144))))))))) base ((f144_8K o c n k w lp0)) 7 = fun t _ h => f144_13 o c n k lp0 base (t 0) (t 1) (t 4) (t 5) (t 18) (t 22) h := (qd_seg 7 8 (by kernel_rfl) (f144_14_ok o c n k w lp0 base)).tk
noncomputable def f144_12 (lp0 : AVs (Heap → α) 4) (base : Nat) (s0 s1 s4 s5 s18 s21 : AV) (h : Heap) : α :=
  rootF o s21 s0 <| bkF o true s18 (load1F o (h.look 63) s21 fun v37 => f144_13 o c n k lp0 base s0 s1 s4 s5 s18 v37 (h.look 0)) (f144_13 o c n k lp0 base s0 s1 s4 s5 s18 (.tup []) (h.look 0))
theorem f144_12_ok (lp0 : AVs (Heap → α) 4) (base : Nat) : QD Pq o c (cO (cA (cA (cA (cA (cA (cB (cB (cB b144))))))))) base ((f144_8K o c n k w lp0)) 6 = fun t _ h => f144_12 o c n k lp0 base (t 0) (t 1) (t 4) (t 5) (t 18) (t 21) h := (qd_seg 6 7 (by kernel_rfl) (f144_13_ok o c n k w lp0 base)).tk
noncomputable def f144_11 (lp0 : AVs (Heap → α) 4) (base : Nat) (s0 s1 s4 s5 s18 s20 : AV) (h : Heap) : α :=
  bkF o true s18 (faF o 0 s20 fun v38 => f144_12 o c n k lp0 base s0 s1 s4 s5 s18 v38 (h.look 0)) (f144_12 o c n k lp0 base s0 s1 s4 s5 s18 (.tup []) (h.look 0))
theorem f144_11_ok (lp0 : AVs (Heap → α) 4) (base : Nat) : QD Pq o c (cO (cA (cA (cA (cA (cA (cB (cB (cB b144))))))))) base ((f144_8K o c n k w lp0)) 5 = fun t _ h => f144_11 o c n k lp0 base (t 0) (t 1) (t 4) (t 5) (t 18) (t 20) h := (qd_seg 5 6 (by kernel_rfl) (f144_12_ok o c n k w lp0 base)).tk
noncomputable def f144_10 (lp0 : AVs (Heap → α) 4) (base : Nat) (s0 s1 s4 s5 s18 s19 : AV) (h : Heap) : α :=
  bkF o true s18 (nilChk o s19 fun v39 => f144_11 o c n k lp0 base s0 s1 s4 s5 s18 v39 (h.look 0)) (f144_11 o c n k lp0 base s0 s1 s4 s5 s18 (.tup []) (h.look 0))
theorem f144_10_ok (lp0 : AVs (Heap → α) 4) (base : Nat) : QD Pq o c (cO (cA (cA (cA (cA (cA (cB (cB (cB b144))))))))) base ((f144_8K o c n k w lp0)) 4 = fun t _ h => f144_10 o c n k lp0 base (t 0) (t 1) (t 4) (t 5) (t 18) (t 19) h := (qd_seg 4 5 (by kernel_rfl) (f144_11_ok o c n k w lp0 base)).tk
noncomputable def f144_9 (lp0 : AVs (Heap → α) 4) (base : Nat) (s0 s1 s4 s5 s17 : AV) (h : Heap) : α :=
  bkF o true s17 (f144_10 o c n k lp0 base s0 s1 s4 s5 s17 s0 (h.look 0)) (f144_10 o c n k lp0 base s0 s1 s4 s5 s17 (.tup []) (h.look 0))
theorem f144_9_ok (lp0 : AVs (Heap → α) 4) (base : Nat) : QD Pq o c (cO (cA (cA (cA (cA (cA (cB (cB (cB b144))))))))) base ((f144_8K o c n k w lp0)) 2 = fun t _ h => f144_9 o c n k lp0 base (t 0) (t 1) (t 4) (t 5) (t 17) h := (qd_seg 2 4 (by kernel_rfl) (f144_10_ok o c n k w lp0 base)).tk
noncomputable def f144_5 (m : Nat) : AVs (Heap → α) 4 :=
  Nat.rec (motive := fun _ => AVs (Heap → α) 4) (fun _ _ _ _ _ => o) (fun _ lp0 s0 s1 s4 s5 h => dreg o h 18 fun base h => callD o c [] 82 [s0, (.i .i64 0), (.i .i64 4), (.s 0 0)] (h.look 0) fun v40 h => pnF v40 (fun x => hb h.shut fun hd => k x.pn hd) <| f144_9 o c n k lp0 base s0 s1 s4 s5 v40 h) m
theorem f144_5_ok : R Pq o c n (cA (cA (cB (cB (cB b144))))) (blockK (cI (cA (cB (cB (cB b144))))) (f144_4K o c n k w)) = fun t _ h => f144_5 o c n k n (t 0) (t 1) (t 4) (t 5) h :=
  c_loop (F := fun m t _ h => f144_5 o c n k m (t 0) (t 1) (t 4) (t 5) h) (by kernel_rfl) (by kernel_rfl) fun m => (kseq rfl (kseq rfl (r_startD 2 (by kernel_rfl) (by kernel_rfl) (X := fun base => fun t _ h => f144_9 o c n k (f144_5 o c n k m) base (t 0) (t 1) (t 4) (t 5) (t 17) h) (fun base => f144_9_ok o c n k w (f144_5 o c n k m) base)))).tk
noncomputable def f144_3 (s0 s1 s4 s5 : AV) (h : Heap) : α :=
  f144_5 o c n k n s0 s1 s4 s5 h
theorem f144_3_ok : R Pq o c n (cB (cB (cB b144))) (kend Pq o c n w rs144 k) = fun t _ h => f144_3 o c n k (t 0) (t 1) (t 4) (t 5) h := (kseq rfl (kblk (f144_5_ok o c n k w))).tk
noncomputable def f144_2 (s0 s1 s4 : AV) (h : Heap) : α :=
  addF Pq o 3 s1 (.i .i64 1) fun v41 => c 144 [s0, v41] h fun v42 h => pk k v42 h <| newF h h.next 8 [(.i .i64 0), (.i .i32 0), (.s 0 0), (.s 0 0), (.s 0 0), .nsl, (.s 0 0), (.i .i64 0)] fun v43 h => storeF o h 8 v43 v42 fun h => f144_3 o c n k s0 s1 s4 v43 h
theorem f144_2_ok : R Pq o c n (cB (cB b144)) (kend Pq o c n w rs144 k) = fun t _ h => f144_2 o c n k (t 0) (t 1) (t 4) h := (kseq (f144_3_ok o c n k w) rfl).tk
noncomputable def f144_1 (s0 s1 s4 : AV) (h : Heap) : α :=
  gtrF Pq o 3 s1 (.i .i64 6) fun v44 => ifF o v44 (c 205 [s0] h fun v45 h => pk k v45 h <| storeF o h 8 s4 v45 fun h => on o (resV Pq h [(s4, some 57)]) fun v => k v h) (f144_2 o c n k s0 s1 s4 h)
theorem f144_1_ok : R Pq o c n (cB b144) (kend Pq o c n w rs144 k) = fun t _ h => f144_1 o c n k (t 0) (t 1) (t 4) h := (kseq (f144_2_ok o c n k w) rfl).tk
noncomputable def f144 (a0 a1 : AV) (h : Heap) : α :=
  newF h h.next 8 [(.i .i64 0), (.i .i32 0), (.s 0 0), (.s 0 0), (.s 0 0), .nsl, (.s 0 0), (.i .i64 0)] fun v46 h => f144_1 o c n k a0 a1 v46 h
theorem f144_ok : R Pq o c n b144 (kend Pq o c n w rs144 k) = fun t _ h => f144 o c n k (t 0) (t 1) h := (kseq (f144_1_ok o c n k w) rfl).tk
theorem f144_good : Good Pq (cfg mm) 144 (entF Pq (cfg mm) 144 2 fun α => f144) := entG b144 rs144 62 fun _ => f144_ok
noncomputable def b145 := bdy Tryz.f145
noncomputable def rs145 := Tryz.f145.results.toList
noncomputable def f145_3K : Ex → K α := (nxK (R Pq o c n (cB (cB (cB b145))) (kend Pq o c n w rs145 k)) (kend Pq o c n w rs145 k))
noncomputable def f145_5 {α : Type} (o : α) (c : Call' α) (n : Nat) (k : AV → Heap → α) (m : Nat) : AVs (Heap → α) 3 :=
  Nat.rec (motive := fun _ => AVs (Heap → α) 3) (fun _ _ _ _ => o) (fun _ lp0 s0 s3 s4 h => lenF o s0 fun v1 => lssF Pq o 3 s4 v1 fun v2 => ifF o v2 (ixF o 8 s0 s4 fun v3 => loadNF o h 8 v3 fun v4 => c 207 [v4] h fun v5 h => pk k v5 h <| addF Pq o 3 s3 v5 fun v6 => addF Pq o 3 s4 (.i .i64 1) fun v7 => lp0 s0 v6 v7 h) (k s3 h)) m
theorem f145_5_ok : R Pq o c n (cA (cB (cA (cB (cB b145))))) (blockK (cI (cB (cA (cB (cB b145))))) (f145_3K o c n k w)) = fun t _ h => f145_5 o c n k n (t 0) (t 3) (t 4) h :=
  c_loop (F := fun m t _ h => f145_5 o c n k m (t 0) (t 3) (t 4) h) (by kernel_rfl) (by kernel_rfl) fun m => by kernel_rfl
noncomputable def f145_4 (s0 s3 s4 : AV) (h : Heap) : α :=
  f145_5 o c n k n s0 s3 s4 h
theorem f145_4_ok : R Pq o c n (cB (cA (cB (cB b145)))) (f145_3K o c n k w) = fun t _ h => f145_4 o c n k (t 0) (t 3) (t 4) h := (kblk (f145_5_ok o c n k w)).tk
noncomputable def f145_2 (s0 s3 : AV) (h : Heap) : α :=
  f145_4 o c n k s0 s3 (.i .i64 0) h
theorem f145_2_ok : R Pq o c n (cB (cB b145)) (kend Pq o c n w rs145 k) = fun t _ h => f145_2 o c n k (t 0) (t 3) h := (kseq rfl (kseq (f145_4_ok o c n k w) rfl)).tk
noncomputable def f145_1 (s0 : AV) (h : Heap) : α :=
  f145_2 o c n k s0 (.i .i64 0) h
theorem f145_1_ok : R Pq o c n (cB b145) (kend Pq o c n w rs145 k) = fun t _ h => f145_1 o c n k (t 0) h := (kseq (f145_2_ok o c n k w) rfl).tk
noncomputable def f145 (a0 : AV) (h : Heap) : α :=
  f145_1 o c n k a0 h
theorem f145_ok : R Pq o c n b145 (kend Pq o c n w rs145 k) = fun t _ h => f145 o c n k (t 0) h := (kseq (f145_1_ok o c n k w) rfl).tk
theorem f145_good : Good Pq (cfg mm) 145 (entF Pq (cfg mm) 145 1 fun α => f145) := entG b145 rs145 19 fun _ => f145_ok
noncomputable def b146 := bdy Tryz.f146
noncomputable def rs146 := Tryz.f146.results.toList
noncomputable def f146_3K : Ex → K α := (nxK (R Pq o c n (cB (cB (cB b146))) (kend Pq o c n w rs146 k)) (kend Pq o c n w rs146 k))
noncomputable def f146_6K (lp0 : AVs (Heap → α) 3) : Ex → K α := (nxK (fun t _ h => lp0 (t 0) (t 3) (t 4) h) (blockK (cI (cB (cA (cB (cB b146))))) (f146_3K o c n k w)))
noncomputable def f146_8K (lp0 : AVs (Heap → α) 3) : Ex → K α := (nxK (R Pq o c n (cB (cB (cA (cA (cB (cA (cB (cB b146)))))))) (f146_6K o c n k w lp0)) (f146_6K o c n k w lp0))
noncomputable def f146_12 {α : Type} (o : α) (c : Call' α) (n : Nat) (k : AV → Heap → α) (lp0 : AVs (Heap → α) 3) (base : Nat) (s0 s4 s33 s39 : AV) (h : Heap) : α :=
  addF Pq o 3 s33 s39 fun v1 => hb h.shut fun h => addF Pq o 3 s4 (.i .i64 1) fun v2 => lp0 s0 v1 v2 h
theorem f146_12_ok (lp0 : AVs (Heap → α) 3) (base : Nat) : QD Pq o c (cO (cA (cA (cB (cA (cA (cB (cA (cB (cB b146)))))))))) base ((blockK (cI (cA (cB (cA (cA (cB (cA (cB (cB b146))))))))) (f146_8K o c n k w lp0))) 29 = fun t _ h => f146_12 o c n k lp0 base (t 0) (t 4) (t 33) (t 39) h := by kernel_rfl
noncomputable def f146_11 (lp0 : AVs (Heap → α) 3) (base : Nat) (s0 s4 s26 s32 : AV) (h : Heap) : α :=
  addF Pq o 3 s26 s32 fun v3 => ixF o 9 s0 s4 fun v4 => faF o 7 v4 fun v5 => rootF o v5 s0 <| load1F o (h.look 125829120) v5 fun v6 => callD o c [] 146 [v6] (h.look 0) fun v7 h => pnF v7 (fun x => hb h.shut fun hd => k x.pn hd) <| f146_12 o c n k lp0 base s0 s4 v3 v7 h
theorem f146_11_ok (lp0 : AVs (Heap → α) 3) (base : Nat) : QD Pq o c (cO (cA (cA (cB (cA (cA (cB (cA (cB (cB b146)))))))))) base ((blockK (cI (cA (cB (cA (cA (cB (cA (cB (cB b146))))))))) (f146_8K o c n k w lp0))) 22 = fun t _ h => f146_11 o c n k lp0 base (t 0) (t 4) (t 26) (t 32) h := (qd_seg 22 29 (by kernel_rfl) (f146_12_ok o c n k w lp0 base)).tk
noncomputable def f146_10 (lp0 : AVs (Heap → α) 3) (base : Nat) (s0 s4 s19 s25 : AV) (h : Heap) : α :=
  addF Pq o 3 s19 s25 fun v8 => ixF o 9 s0 s4 fun v9 => faF o 6 v9 fun v10 => rootF o v10 s0 <| load1F o (h.look 983040) v10 fun v11 => callD o c (hidD false [(.fn (.func 146) [] []), v11] [] (sBlk s0 [])) 146 [v11] (h.look 0) fun v12 h => pnF v12 (fun x => hb h.shut fun hd => ixF o 9 s0 s4 fun v13 => faF o 7 v13 fun v14 => rootF o v14 s0 <| load1F o (h.look 125829120) v14 fun v15 => k x.pn hd) <| f146_11 o c n k lp0 base s0 s4 v8 v12 h
theorem f146_10_ok (lp0 : AVs (Heap → α) 3) (base : Nat) : QD Pq o c (cO (cA (cA (cB (cA (cA (cB (cA (cB (cB b146)))))))))) base ((blockK (cI (cA (cB (cA (cA (cB (cA (cB (cB b146))))))))) (f146_8K o c n k w lp0))) 15 = fun t _ h => f146_10 o c n k lp0 base (t 0) (t 4) (t 19) (t 25) h := (qd_seg 15 22 (by kernel_rfl) (f146_11_ok o c n k w lp0 base)).tk
noncomputable def f146_9 (lp0 : AVs (Heap → α) 3) (base : Nat) (s0 s4 s12 s18 : AV) (h : Heap) : α :=
  addF Pq o 3 s12 s18 fun v16 => ixF o 9 s0 s4 fun v17 => faF o 5 v17 fun v18 => rootF o v18 s0 <| load1F o (h.look 7680) v18 fun v19 => callD o c (hidD false [(.fn (.func 146) [] []), v19] [] (sBlk s0 (sBlk s0 []))) 146 [v19] (h.look 0) fun v20 h => pnF v20 (fun x => hb h.shut fun hd => ixF o 9 s0 s4 fun v21 => faF o 6 v21 fun v22 => rootF o v22 s0 <| load1F o (h.look 983040) v22 fun v23 => ixF o 9 s0 s4 fun v24 => faF o 7 v24 fun v25 => rootF o v25 s0 <| load1F o (h.look 125829120) v25 fun v26 => k x.pn hd) <| f146_10 o c n k lp0 base s0 s4 v16 v20 h
theorem f146_9_ok (lp0 : AVs (Heap → α) 3) (base : Nat) : QD Pq o c (cO (cA (cA (cB (cA (cA (cB (cA (cB (cB b146)))))))))) base ((blockK (cI (cA (cB (cA (cA (cB (cA (cB (cB b146))))))))) (f146_8K o c n k w lp0))) 8 = fun t _ h => f146_9 o c n k lp0 base (t 0) (t 4) (t 12) (t 18) h := (qd_seg 8 15 (by kernel_rfl) (f146_10_ok o c n k w lp0 base)).tk
noncomputable def f146_7 (lp0 : AVs (Heap → α) 3) (s0 s3 s4 : AV) (h : Heap) : α :=
  dreg o h 31 fun base h => addF Pq o 3 s3 (.i .i64 1) fun v27 => ixF o 9 s0 s4 fun v28 => faF o 4 v28 fun v29 => rootF o v29 s0 <| load1F o (h.look 60) v29 fun v30 => callD o c (hidD false [(.fn (.func 145) [] []), v30] [] (sBlk s0 (sBlk s0 (sBlk s0 [])))) 145 [v30] (h.look 0) fun v31 h => pnF v31 (fun x => hb h.shut fun hd => ixF o 9 s0 s4 fun v32 => faF o 5 v32 fun v33 => rootF o v33 s0 <| load1F o (h.look 7680) v33 fun v34 => ixF o 9 s0 s4 fun v35 => faF o 6 v35 fun v36 => rootF o v36 s0 <| load1F o (h.look 983040) v36 fun v37 => ixF o 9 s0 s4 fun v38 => faF o 7 v38 fun v39 => rootF o v39 s0 <| load1F o (h.look 125829120) v39 fun v40 => k x.pn hd) <| f146_9 o c n k lp0 base s0 s4 v27 v31 h
theorem f146_7_ok (lp0 : AVs (Heap → α) 3) : R Pq o c n (cB (cA (cA (cB (cA (cB (cB b146))))))) (f146_6K o c n k w lp0) = fun t _ h => f146_7 o c n k lp0 (t 0) (t 3) (t 4) h := (kseq rfl (kblk (r_startD 8 (by kernel_rfl) (by kernel_rfl) (X := fun base => fun t _ h => f146_9 o c n k lp0 base (t 0) (t 4) (t 12) (t 18) h) (fun base => f146_9_ok o c n k w lp0 base)))).tk
noncomputable def f146_5 (m : Nat) : AVs (Heap → α) 3 :=
  Nat.rec (motive := fun _ => AVs (Heap → α) 3) (fun _ _ _ _ => o) (fun _ lp0 s0 s3 s4 h => lenF o s0 fun v41 => lssF Pq o 3 s4 v41 fun v42 => ifF o v42 (f146_7 o c n k lp0 s0 s3 s4 h) (k s3 h)) m
theorem f146_5_ok : R Pq o c n (cA (cB (cA (cB (cB b146))))) (blockK (cI (cB (cA (cB (cB b146))))) (f146_3K o c n k w)) = fun t _ h => f146_5 o c n k n (t 0) (t 3) (t 4) h :=
  c_loop (F := fun m t _ h => f146_5 o c n k m (t 0) (t 3) (t 4) h) (by kernel_rfl) (by kernel_rfl) fun m => (kseq (f146_7_ok o c n k w (f146_5 o c n k m)) rfl).tk
noncomputable def f146_4 (s0 s3 s4 : AV) (h : Heap) : α :=
  f146_5 o c n k n s0 s3 s4 h
theorem f146_4_ok : R Pq o c n (cB (cA (cB (cB b146)))) (f146_3K o c n k w) = fun t _ h => f146_4 o c n k (t 0) (t 3) (t 4) h := (kblk (f146_5_ok o c n k w)).tk
noncomputable def f146_2 (s0 s3 : AV) (h : Heap) : α :=
  f146_4 o c n k s0 s3 (.i .i64 0) h
theorem f146_2_ok : R Pq o c n (cB (cB b146)) (kend Pq o c n w rs146 k) = fun t _ h => f146_2 o c n k (t 0) (t 3) h := (kseq rfl (kseq (f146_4_ok o c n k w) rfl)).tk
noncomputable def f146_1 (s0 : AV) (h : Heap) : α :=
  f146_2 o c n k s0 (.i .i64 0) h
theorem f146_1_ok : R Pq o c n (cB b146) (kend Pq o c n w rs146 k) = fun t _ h => f146_1 o c n k (t 0) h := (kseq (f146_2_ok o c n k w) rfl).tk
noncomputable def f146 (a0 : AV) (h : Heap) : α :=
  f146_1 o c n k a0 h
theorem f146_ok : R Pq o c n b146 (kend Pq o c n w rs146 k) = fun t _ h => f146 o c n k (t 0) h := (kseq (f146_1_ok o c n k w) rfl).tk
theorem f146_good : Good Pq (cfg mm) 146 (entF Pq (cfg mm) 146 1 fun α => f146) := entG b146 rs146 42 fun _ => f146_ok
noncomputable def b147 := bdy Tryz.f147
noncomputable def rs147 := Tryz.f147.results.toList
noncomputable def f147_3K : Ex → K α := (nxK (R Pq o c n (cB (cB (cB b147))) (kend Pq o c n w rs147 k)) (kend Pq o c n w rs147 k))
noncomputable def f147_2 {α : Type} (o : α) (c : Call' α) (n : Nat) (k : AV → Heap → α) (s0 s1 : AV) (h : Heap) : α :=
  lensF o s0 fun v1 => geqF Pq o 3 v1 (.i .i64 1) fun v2 => bkF o true v2 (lensF o s0 fun v3 => leqF Pq o 3 v3 s1 fun v4 => pickF o v2 v4 (.b false) fun v5 => k v5 h) (pickF o v2 (.tup []) (.b false) fun v6 => k v6 h)
theorem f147_2_ok : R Pq o c n (cB (cB b147)) (kend Pq o c n w rs147 k) = fun t _ h => f147_2 o c n k (t 0) (t 1) h := (kseq rfl (r_start 4 (by kernel_rfl) (q_guard 4 8 (3, true) (by kernel_rfl) (by kernel_rfl) (by kernel_rfl) rfl))).tk
noncomputable def f147_4K : Ex → K α := (nxK (fun t _ h => f147_2 o c n k (t 0) (t 1) h) (kend Pq o c n w rs147 k))
noncomputable def f147_7K (lp0 : AVs (Heap → α) 3) : Ex → K α := (nxK (fun t _ h => lp0 (t 0) (t 1) (t 5) h) (blockK (cI (cB (cA (cB b147)))) (f147_4K o c n k w)))
noncomputable def f147_9 {α : Type} (o : α) (c : Call' α) (n : Nat) (k : AV → Heap → α) (lp0 : AVs (Heap → α) 3) (s0 s1 s5 : AV) (h : Heap) : α :=
  addF Pq o 3 s5 (.i .i64 1) fun v7 => lp0 s0 s1 v7 h
theorem f147_9_ok (lp0 : AVs (Heap → α) 3) : R Pq o c n (cB (cB (cA (cA (cB (cA (cB b147))))))) (f147_7K o c n k w lp0) = fun t _ h => f147_9 o c n k lp0 (t 0) (t 1) (t 5) h := by kernel_rfl
noncomputable def f147_10K (lp0 : AVs (Heap → α) 3) : Ex → K α := (nxK (fun t _ h => f147_9 o c n k lp0 (t 0) (t 1) (t 5) h) (f147_7K o c n k w lp0))
noncomputable def f147_12 (lp0 : AVs (Heap → α) 3) (s0 s1 s5 s29 : AV) (h : Heap) : α :=
  ifF o s29 (k (.b false) h) (f147_9 o c n k lp0 s0 s1 s5 h)
theorem f147_12_ok (lp0 : AVs (Heap → α) 3) : R Pq o c n (cB (cB (cA (cA (cB (cA (cA (cB (cA (cB b147)))))))))) (blockK (cI (cA (cB (cA (cA (cB (cA (cB b147)))))))) (f147_10K o c n k w lp0)) = fun t _ h => f147_12 o c n k lp0 (t 0) (t 1) (t 5) (t 29) h := by kernel_rfl
noncomputable def f147_13K (lp0 : AVs (Heap → α) 3) : Ex → K α := (nxK (fun t _ h => f147_12 o c n k lp0 (t 0) (t 1) (t 5) (t 29) h) (blockK (cI (cA (cB (cA (cA (cB (cA (cB b147)))))))) (f147_10K o c n k w lp0)))
noncomputable def f147_14 (lp0 : AVs (Heap → α) 3) (s0 s1 s5 s6 s20 s23 : AV) (h : Heap) : α :=
  pickF o s20 s23 (.b false) fun v8 => bkF o true v8 (c 133 [s6] h fun v9 h => pk k v9 h <| notF o v9 fun v10 => pickF o v8 v10 (.b false) fun v11 => f147_12 o c n k lp0 s0 s1 s5 v11 h) (pickF o v8 (.tup []) (.b false) fun v12 => f147_12 o c n k lp0 s0 s1 s5 v12 h)
theorem f147_14_ok (lp0 : AVs (Heap → α) 3) : Q Pq o c (cO (cA (cB (cA (cA (cB (cA (cA (cB (cA (cB b147))))))))))) (f147_13K o c n k w lp0) 7 = fun t _ h => f147_14 o c n k lp0 (t 0) (t 1) (t 5) (t 6) (t 20) (t 23) h := (q_seg 7 9 (by kernel_rfl) (q_guard 9 12 (8, true) (by kernel_rfl) (by kernel_rfl) (by kernel_rfl) rfl)).tk
noncomputable def f147_11 (lp0 : AVs (Heap → α) 3) (s0 s1 s5 s6 : AV) (h : Heap) : α :=
  c 149 [s6] h fun v13 h => pk k v13 h <| notF o v13 fun v14 => bkF o true v14 (c 148 [s6] h fun v15 h => pk k v15 h <| notF o v15 fun v16 => f147_14 o c n k lp0 s0 s1 s5 s6 v14 v16 h) (f147_14 o c n k lp0 s0 s1 s5 s6 v14 (.tup []) h)
theorem f147_11_ok (lp0 : AVs (Heap → α) 3) : R Pq o c n (cB (cA (cA (cB (cA (cA (cB (cA (cB b147))))))))) (blockK (cI (cA (cB (cA (cA (cB (cA (cB b147)))))))) (f147_10K o c n k w lp0)) = fun t _ h => f147_11 o c n k lp0 (t 0) (t 1) (t 5) (t 6) h := (kseq (f147_12_ok o c n k w lp0) (r_start 4 (by kernel_rfl) (q_guard 4 7 (3, true) (by kernel_rfl) (by kernel_rfl) (by kernel_rfl) (f147_14_ok o c n k w lp0)))).tk
noncomputable def f147_8 (lp0 : AVs (Heap → α) 3) (s0 s1 s5 : AV) (h : Heap) : α :=
  sxF o s0 s5 fun v17 => convA Pq o 5 21 v17 fun v18 => f147_11 o c n k lp0 s0 s1 s5 v18 h
theorem f147_8_ok (lp0 : AVs (Heap → α) 3) : R Pq o c n (cB (cA (cA (cB (cA (cB b147)))))) (f147_7K o c n k w lp0) = fun t _ h => f147_8 o c n k lp0 (t 0) (t 1) (t 5) h := (kseq (f147_9_ok o c n k w lp0) (kblk (kseq (f147_11_ok o c n k w lp0) rfl))).tk
noncomputable def f147_6 (m : Nat) : AVs (Heap → α) 3 :=
  Nat.rec (motive := fun _ => AVs (Heap → α) 3) (fun _ _ _ _ => o) (fun _ lp0 s0 s1 s5 h => lensF o s0 fun v19 => lssF Pq o 3 s5 v19 fun v20 => ifF o v20 (f147_8 o c n k lp0 s0 s1 s5 h) (f147_2 o c n k s0 s1 h)) m
theorem f147_6_ok : R Pq o c n (cA (cB (cA (cB b147)))) (blockK (cI (cB (cA (cB b147)))) (f147_4K o c n k w)) = fun t _ h => f147_6 o c n k n (t 0) (t 1) (t 5) h :=
  c_loop (F := fun m t _ h => f147_6 o c n k m (t 0) (t 1) (t 5) h) (by kernel_rfl) (by kernel_rfl) fun m => (kseq (f147_8_ok o c n k w (f147_6 o c n k m)) rfl).tk
noncomputable def f147_5 (s0 s1 s5 : AV) (h : Heap) : α :=
  f147_6 o c n k n s0 s1 s5 h
theorem f147_5_ok : R Pq o c n (cB (cA (cB b147))) (f147_4K o c n k w) = fun t _ h => f147_5 o c n k (t 0) (t 1) (t 5) h := (kblk (f147_6_ok o c n k w)).tk
noncomputable def f147_1 (s0 s1 : AV) (h : Heap) : α :=
  f147_5 o c n k s0 s1 (.i .i64 0) h
theorem f147_1_ok : R Pq o c n (cB b147) (kend Pq o c n w rs147 k) = fun t _ h => f147_1 o c n k (t 0) (t 1) h := (kseq (f147_2_ok o c n k w) (kseq (f147_5_ok o c n k w) rfl)).tk
noncomputable def f147 (a0 a1 : AV) (h : Heap) : α :=
  f147_1 o c n k a0 a1 h
theorem f147_ok : R Pq o c n b147 (kend Pq o c n w rs147 k) = fun t _ h => f147 o c n k (t 0) (t 1) h := (kseq (f147_1_ok o c n k w) rfl).tk
theorem f147_good : Good Pq (cfg mm) 147 (entF Pq (cfg mm) 147 2 fun α => f147) := entG b147 rs147 39 fun _ => f147_ok
noncomputable def b148 := bdy Tryz.f148
noncomputable def rs148 := Tryz.f148.results.toList
noncomputable def f148_2K : Ex → K α := (nxK (R Pq o c n (cB (cB b148)) (kend Pq o c n w rs148 k)) (kend Pq o c n w rs148 k))
noncomputable def f148_1 {α : Type} (o : α) (c : Call' α) (n : Nat) (k : AV → Heap → α) (s0 : AV) (h : Heap) : α :=
  geqF Pq o 21 s0 (.i .i32 65) fun v1 => bkF o true v1 (leqF Pq o 21 s0 (.i .i32 90) fun v2 => pickF o v1 v2 (.b false) fun v3 => k v3 h) (pickF o v1 (.tup []) (.b false) fun v4 => k v4 h)
theorem f148_1_ok : R Pq o c n (cB b148) (kend Pq o c n w rs148 k) = fun t _ h => f148_1 o c n k (t 0) h := (kseq rfl (r_start 3 (by kernel_rfl) (q_guard 3 5 (2, true) (by kernel_rfl) (by kernel_rfl) (by kernel_rfl) rfl))).tk
noncomputable def f148 (a0 : AV) (h : Heap) : α :=
  f148_1 o c n k a0 h
theorem f148_ok : R Pq o c n b148 (kend Pq o c n w rs148 k) = fun t _ h => f148 o c n k (t 0) h := (kseq (f148_1_ok o c n k w) rfl).tk
theorem f148_good : Good Pq (cfg mm) 148 (entF Pq (cfg mm) 148 1 fun α => f148) := entG b148 rs148 9 fun _ => f148_ok
noncomputable def b149 := bdy Tryz.f149
noncomputable def rs149 := Tryz.f149.results.toList
noncomputable def f149_2K : Ex → K α := (nxK (R Pq o c n (cB (cB b149)) (kend Pq o c n w rs149 k)) (kend Pq o c n w rs149 k))
noncomputable def f149_1 {α : Type} (o : α) (c : Call' α) (n : Nat) (k : AV → Heap → α) (s0 : AV) (h : Heap) : α :=
  geqF Pq o 21 s0 (.i .i32 97) fun v1 => bkF o true v1 (leqF Pq o 21 s0 (.i .i32 122) fun v2 => pickF o v1 v2 (.b false) fun v3 => k v3 h) (pickF o v1 (.tup []) (.b false) fun v4 => k v4 h)
theorem f149_1_ok : R Pq o c n (cB b149) (kend Pq o c n w rs149 k) = fun t _ h => f149_1 o c n k (t 0) h := (kseq rfl (r_start 3 (by kernel_rfl) (q_guard 3 5 (2, true) (by kernel_rfl) (by kernel_rfl) (by kernel_rfl) rfl))).tk
noncomputable def f149 (a0 : AV) (h : Heap) : α :=
  f149_1 o c n k a0 h
theorem f149_ok : R Pq o c n b149 (kend Pq o c n w rs149 k) = fun t _ h => f149 o c n k (t 0) h := (kseq (f149_1_ok o c n k w) rfl).tk
theorem f149_good : Good Pq (cfg mm) 149 (entF Pq (cfg mm) 149 1 fun α => f149) := entG b149 rs149 9 fun _ => f149_ok
noncomputable def b150 := bdy Tryz.f150
noncomputable def rs150 := Tryz.f150.results.toList
noncomputable def f150 {α : Type} (o : α) (c : Call' α) (n : Nat) (k : AV → Heap → α) (a0 : AV) (h : Heap) : α :=
  fil1 o 1 24 0 (.s 7 31069335677005666) (lrep [(.s 0 0)] 24) fun v1 => fil1 o 1 24 1 (.s 3 7630441) v1 fun v2 => fil1 o 1 24 2 (.s 4 1684631414) v2 fun v3 => fil1 o 1 24 3 (.s 5 495857003619) v3 fun v4 => fil1 o 1 24 4 (.s 7 32480047633037413) v4 fun v5 => fil1 o 1 24 5 (.s 6 109304575259763) v5 fun v6 => fil1 o 1 24 6 (.s 3 7824750) v6 fun v7 => fil1 o 1 24 7 (.s 4 1936287860) v7 fun v8 => fil1 o 1 24 8 (.s 5 491328140659) v8 fun v9 => fil1 o 1 24 9 (.s 4 1819047278) v9 fun v10 => fil1 o 1 24 10 (.s 4 1702195828) v10 fun v11 => fil1 o 1 24 11 (.s 5 435728179558) v11 fun v12 => fil1 o 1 24 12 (.s 2 26217) v12 fun v13 => fil1 o 1 24 13 (.s 4 1702063205) v13 fun v14 => fil1 o 1 24 14 (.s 5 435610544247) v14 fun v15 => fil1 o 1 24 15 (.s 6 121437875889522) v15 fun v16 => fil1 o 1 24 16 (.s 5 500068610672) v16 fun v17 => fil1 o 1 24 17 (.s 6 128034677158753) v17 fun v18 => fil1 o 1 24 18 (.s 5 512970877044) v18 fun v19 => fil1 o 1 24 19 (.s 3 7959156) v19 fun v20 => fil1 o 1 24 20 (.s 5 448345170275) v20 fun v21 => fil1 o 1 24 21 (.s 7 34177684928883046) v21 fun v22 => fil1 o 1 24 22 (.s 2 29537) v22 fun v23 => fil1 o 1 24 23 (.s 2 29545) v23 fun v24 => newEF h h.next 1 24 v24 fun v25 h => c 137 [v25, a0] h fun v26 h => pk k v26 h <| k v26 h
theorem f150_ok : R Pq o c n b150 (kend Pq o c n w rs150 k) = fun t _ h => f150 o c n k (t 0) h := by kernel_rfl
theorem f150_good : Good Pq (cfg mm) 150 (entF Pq (cfg mm) 150 1 fun α => f150) := entG b150 rs150 6 fun _ => f150_ok
noncomputable def b154 := bdy Tryz.f154
noncomputable def rs154 := Tryz.f154.results.toList
noncomputable def f154_2K : Ex → K α := (nxK (R Pq o c n (cB (cB b154)) (kend Pq o c n w rs154 k)) (kend Pq o c n w rs154 k))
noncomputable def f154_5 {α : Type} (o : α) (c : Call' α) (n : Nat) (k : AV → Heap → α) (s0 s13 s15 : AV) (h : Heap) : α :=
  pickF o s13 (.b true) s15 fun v1 => bkF o false v1 (eqiF Pq o 3 s0 (.i .i64 16) fun v2 => pickF o v1 (.b true) v2 fun v3 => k v3 h) (pickF o v1 (.b true) (.tup []) fun v4 => k v4 h)
theorem f154_5_ok : Q Pq o c (cO (cA (cB b154))) (f154_2K o c n k w) 13 = fun t _ h => f154_5 o c n k (t 0) (t 13) (t 15) h := (q_seg 13 15 (by kernel_rfl) (q_guard 15 17 (14, false) (by kernel_rfl) (by kernel_rfl) (by kernel_rfl) rfl)).tk
noncomputable def f154_4 (s0 s9 s11 : AV) (h : Heap) : α :=
  pickF o s9 (.b true) s11 fun v5 => bkF o false v5 (eqiF Pq o 3 s0 (.i .i64 15) fun v6 => f154_5 o c n k s0 v5 v6 h) (f154_5 o c n k s0 v5 (.tup []) h)
theorem f154_4_ok : Q Pq o c (cO (cA (cB b154))) (f154_2K o c n k w) 9 = fun t _ h => f154_4 o c n k (t 0) (t 9) (t 11) h := (q_seg 9 11 (by kernel_rfl) (q_guard 11 13 (10, false) (by kernel_rfl) (by kernel_rfl) (by kernel_rfl) (f154_5_ok o c n k w))).tk
noncomputable def f154_3 (s0 s5 s7 : AV) (h : Heap) : α :=
  pickF o s5 (.b true) s7 fun v7 => bkF o false v7 (eqiF Pq o 3 s0 (.i .i64 14) fun v8 => f154_4 o c n k s0 v7 v8 h) (f154_4 o c n k s0 v7 (.tup []) h)
theorem f154_3_ok : Q Pq o c (cO (cA (cB b154))) (f154_2K o c n k w) 5 = fun t _ h => f154_3 o c n k (t 0) (t 5) (t 7) h := (q_seg 5 7 (by kernel_rfl) (q_guard 7 9 (6, false) (by kernel_rfl) (by kernel_rfl) (by kernel_rfl) (f154_4_ok o c n k w))).tk
noncomputable def f154_1 (s0 : AV) (h : Heap) : α :=
  eqiF Pq o 3 s0 (.i .i64 9) fun v9 => bkF o false v9 (eqiF Pq o 3 s0 (.i .i64 13) fun v10 => f154_3 o c n k s0 v9 v10 h) (f154_3 o c n k s0 v9 (.tup []) h)
theorem f154_1_ok : R Pq o c n (cB b154) (kend Pq o c n w rs154 k) = fun t _ h => f154_1 o c n k (t 0) h := (kseq rfl (r_start 3 (by kernel_rfl) (q_guard 3 5 (2, false) (by kernel_rfl) (by kernel_rfl) (by kernel_rfl) (f154_3_ok o c n k w)))).tk
noncomputable def f154 (a0 : AV) (h : Heap) : α :=
  f154_1 o c n k a0 h
theorem f154_ok : R Pq o c n b154 (kend Pq o c n w rs154 k) = fun t _ h => f154 o c n k (t 0) h := (kseq (f154_1_ok o c n k w) rfl).tk
theorem f154_good : Good Pq (cfg mm) 154 (entF Pq (cfg mm) 154 1 fun α => f154) := entG b154 rs154 21 fun _ => f154_ok
noncomputable def b155 := bdy Tryz.f155
noncomputable def rs155 := Tryz.f155.results.toList
noncomputable def f155_2K : Ex → K α := (nxK (R Pq o c n (cB (cB b155)) (kend Pq o c n w rs155 k)) (kend Pq o c n w rs155 k))
noncomputable def f155_5K (lp0 : AVs (Heap → α) 4) : Ex → K α := (nxK (fun t _ h => lp0 (t 0) (t 1) (t 2) (t 7) h) (blockK (cI (cB (cA (cB b155)))) (f155_2K o c n k w)))
noncomputable def f155_7 {α : Type} (o : α) (c : Call' α) (n : Nat) (k : AV → Heap → α) (lp0 : AVs (Heap → α) 4) (s0 s1 s2 s7 : AV) (h : Heap) : α :=
  addF Pq o 3 s7 (.i .i64 1) fun v1 => lp0 s0 s1 s2 v1 h
theorem f155_7_ok (lp0 : AVs (Heap → α) 4) : R Pq o c n (cB (cB (cA (cA (cB (cA (cB b155))))))) (f155_5K o c n k w lp0) = fun t _ h => f155_7 o c n k lp0 (t 0) (t 1) (t 2) (t 7) h := by kernel_rfl
noncomputable def f155_8K (lp0 : AVs (Heap → α) 4) : Ex → K α := (nxK (fun t _ h => f155_7 o c n k lp0 (t 0) (t 1) (t 2) (t 7) h) (f155_5K o c n k w lp0))
noncomputable def f155_12 (lp0 : AVs (Heap → α) 4) (s0 s1 s2 s7 s76 : AV) (h : Heap) : α :=
  ifF o s76 (k (.b false) h) (f155_7 o c n k lp0 s0 s1 s2 s7 h)
theorem f155_12_ok (lp0 : AVs (Heap → α) 4) : R Pq o c n (cB (cB (cB (cB (cA (cA (cB (cA (cA (cB (cA (cB b155)))))))))))) (blockK (cI (cA (cB (cA (cA (cB (cA (cB b155)))))))) (f155_8K o c n k w lp0)) = fun t _ h => f155_12 o c n k lp0 (t 0) (t 1) (t 2) (t 7) (t 76) h := by kernel_rfl
noncomputable def f155_13K (lp0 : AVs (Heap → α) 4) : Ex → K α := (nxK (fun t _ h => f155_12 o c n k lp0 (t 0) (t 1) (t 2) (t 7) (t 76) h) (blockK (cI (cA (cB (cA (cA (cB (cA (cB b155)))))))) (f155_8K o c n k w lp0)))
noncomputable def f155_14 (lp0 : AVs (Heap → α) 4) (s0 s1 s2 s7 s8 s61 s67 : AV) (h : Heap) : α :=
  pickF o s61 (.b true) s67 fun v2 => bkF o false v2 (faF o 7 s8 fun v3 => load1F o h v3 fun v4 => addF Pq o 3 s1 (.i .i64 1) fun v5 => c 155 [v4, v5, (.b false)] h fun v6 h => pk k v6 h <| notF o v6 fun v7 => pickF o v2 (.b true) v7 fun v8 => f155_12 o c n k lp0 s0 s1 s2 s7 v8 h) (pickF o v2 (.b true) (.tup []) fun v9 => f155_12 o c n k lp0 s0 s1 s2 s7 v9 h)
theorem f155_14_ok (lp0 : AVs (Heap → α) 4) : Q Pq o c (cO (cA (cB (cB (cB (cA (cA (cB (cA (cA (cB (cA (cB b155))))))))))))) (f155_13K o c n k w lp0) 13 = fun t _ h => f155_14 o c n k lp0 (t 0) (t 1) (t 2) (t 7) (t 8) (t 61) (t 67) h := (q_seg 13 15 (by kernel_rfl) (q_guard 15 21 (14, false) (by kernel_rfl) (by kernel_rfl) (by kernel_rfl) rfl)).tk
noncomputable def f155_11 (lp0 : AVs (Heap → α) 4) (s0 s1 s2 s7 s8 : AV) (h : Heap) : α :=
  faF o 5 s8 fun v10 => load1F o h v10 fun v11 => addF Pq o 3 s1 (.i .i64 1) fun v12 => c 155 [v11, v12, (.b false)] h fun v13 h => pk k v13 h <| notF o v13 fun v14 => bkF o false v14 (faF o 6 s8 fun v15 => load1F o h v15 fun v16 => addF Pq o 3 s1 (.i .i64 1) fun v17 => c 155 [v16, v17, (.b false)] h fun v18 h => pk k v18 h <| notF o v18 fun v19 => f155_14 o c n k lp0 s0 s1 s2 s7 s8 v14 v19 h) (f155_14 o c n k lp0 s0 s1 s2 s7 s8 v14 (.tup []) h)
theorem f155_11_ok (lp0 : AVs (Heap → α) 4) : R Pq o c n (cB (cB (cB (cA (cA (cB (cA (cA (cB (cA (cB b155))))))))))) (blockK (cI (cA (cB (cA (cA (cB (cA (cB b155)))))))) (f155_8K o c n k w lp0)) = fun t _ h => f155_11 o c n k lp0 (t 0) (t 1) (t 2) (t 7) (t 8) h := (kseq (f155_12_ok o c n k w lp0) (r_start 7 (by kernel_rfl) (q_guard 7 13 (6, false) (by kernel_rfl) (by kernel_rfl) (by kernel_rfl) (f155_14_ok o c n k w lp0)))).tk
noncomputable def f155_15K (lp0 : AVs (Heap → α) 4) : Ex → K α := (nxK (fun t _ h => f155_11 o c n k lp0 (t 0) (t 1) (t 2) (t 7) (t 8) h) (blockK (cI (cA (cB (cA (cA (cB (cA (cB b155)))))))) (f155_8K o c n k w lp0)))
noncomputable def f155_17 (lp0 : AVs (Heap → α) 4) (m : Nat) : AVs (Heap → α) 6 :=
  Nat.rec (motive := fun _ => AVs (Heap → α) 6) (fun _ _ _ _ _ _ _ => o) (fun _ lp1 s0 s1 s2 s7 s8 s9 h => faF o 4 s8 fun v20 => load1F o h v20 fun v21 => lenF o v21 fun v22 => lssF Pq o 3 s9 v22 fun v23 => ifF o v23 (faF o 4 s8 fun v24 => load1F o h v24 fun v25 => ixF o 8 v25 s9 fun v26 => loadNF o h 8 v26 fun v27 => c 92 [v27, s1] h fun v28 h => pk k v28 h <| notF o v28 fun v29 => ifF o v29 (k (.b false) h) (addF Pq o 3 s9 (.i .i64 1) fun v30 => lp1 s0 s1 s2 s7 s8 v30 h)) (f155_11 o c n k lp0 s0 s1 s2 s7 s8 h)) m
theorem f155_17_ok (lp0 : AVs (Heap → α) 4) : R Pq o c n (cA (cB (cA (cB (cB (cA (cA (cB (cA (cA (cB (cA (cB b155))))))))))))) (blockK (cI (cB (cA (cB (cB (cA (cA (cB (cA (cA (cB (cA (cB b155))))))))))))) (f155_15K o c n k w lp0)) = fun t _ h => f155_17 o c n k lp0 n (t 0) (t 1) (t 2) (t 7) (t 8) (t 9) h :=
  c_loop (F := fun m t _ h => f155_17 o c n k lp0 m (t 0) (t 1) (t 2) (t 7) (t 8) (t 9) h) (by kernel_rfl) (by kernel_rfl) fun m => by kernel_rfl
noncomputable def f155_16 (lp0 : AVs (Heap → α) 4) (s0 s1 s2 s7 s8 s9 : AV) (h : Heap) : α :=
  f155_17 o c n k lp0 n s0 s1 s2 s7 s8 s9 h
theorem f155_16_ok (lp0 : AVs (Heap → α) 4) : R Pq o c n (cB (cA (cB (cB (cA (cA (cB (cA (cA (cB (cA (cB b155)))))))))))) (f155_15K o c n k w lp0) = fun t _ h => f155_16 o c n k lp0 (t 0) (t 1) (t 2) (t 7) (t 8) (t 9) h := (kblk (f155_17_ok o c n k w lp0)).tk
noncomputable def f155_10 (lp0 : AVs (Heap → α) 4) (s0 s1 s2 s7 s8 : AV) (h : Heap) : α :=
  f155_16 o c n k lp0 s0 s1 s2 s7 s8 (.i .i64 0) h
theorem f155_10_ok (lp0 : AVs (Heap → α) 4) : R Pq o c n (cB (cB (cA (cA (cB (cA (cA (cB (cA (cB b155)))))))))) (blockK (cI (cA (cB (cA (cA (cB (cA (cB b155)))))))) (f155_8K o c n k w lp0)) = fun t _ h => f155_10 o c n k lp0 (t 0) (t 1) (t 2) (t 7) (t 8) h := (kseq (f155_11_ok o c n k w lp0) (kseq (f155_16_ok o c n k w lp0) rfl)).tk
noncomputable def f155_18K (lp0 : AVs (Heap → α) 4) : Ex → K α := (nxK (fun t _ h => f155_10 o c n k lp0 (t 0) (t 1) (t 2) (t 7) (t 8) h) (blockK (cI (cA (cB (cA (cA (cB (cA (cB b155)))))))) (f155_8K o c n k w lp0)))
noncomputable def f155_19 (lp0 : AVs (Heap → α) 4) (s0 s1 s2 s7 s8 s39 : AV) (h : Heap) : α :=
  ifF o s39 (k (.b false) h) (f155_10 o c n k lp0 s0 s1 s2 s7 s8 h)
theorem f155_19_ok (lp0 : AVs (Heap → α) 4) : R Pq o c n (cB (cA (cB (cA (cA (cB (cA (cA (cB (cA (cB b155))))))))))) (f155_18K o c n k w lp0) = fun t _ h => f155_19 o c n k lp0 (t 0) (t 1) (t 2) (t 7) (t 8) (t 39) h := by kernel_rfl
noncomputable def f155_20K (lp0 : AVs (Heap → α) 4) : Ex → K α := (nxK (fun t _ h => f155_19 o c n k lp0 (t 0) (t 1) (t 2) (t 7) (t 8) (t 39) h) (f155_18K o c n k w lp0))
noncomputable def f155_25 (lp0 : AVs (Heap → α) 4) (s0 s1 s2 s7 s8 s22 s33 : AV) (h : Heap) : α :=
  pickF o s22 (.b true) s33 fun v31 => bkF o false v31 (loadNF o h 9 s8 fun v32 => c 208 [v32] h fun v33 h => pk k v33 h <| notF o v33 fun v34 => pickF o v31 (.b true) v34 fun v35 => f155_19 o c n k lp0 s0 s1 s2 s7 s8 v35 h) (pickF o v31 (.b true) (.tup []) fun v36 => f155_19 o c n k lp0 s0 s1 s2 s7 s8 v36 h)
theorem f155_25_ok (lp0 : AVs (Heap → α) 4) : Q Pq o c (cO (cA (cA (cB (cA (cA (cB (cA (cA (cB (cA (cB b155)))))))))))) (f155_20K o c n k w lp0) 14 = fun t _ h => f155_25 o c n k lp0 (t 0) (t 1) (t 2) (t 7) (t 8) (t 22) (t 33) h := (q_seg 14 16 (by kernel_rfl) (q_guard 16 19 (15, false) (by kernel_rfl) (by kernel_rfl) (by kernel_rfl) rfl)).tk
noncomputable def f155_24 (lp0 : AVs (Heap → α) 4) (s0 s1 s2 s7 s8 s22 s26 s32 : AV) (h : Heap) : α :=
  bkF o false s22 (pickF o s26 s32 (.b false) fun v37 => f155_25 o c n k lp0 s0 s1 s2 s7 s8 s22 v37 h) (f155_25 o c n k lp0 s0 s1 s2 s7 s8 s22 (.tup []) h)
theorem f155_24_ok (lp0 : AVs (Heap → α) 4) : Q Pq o c (cO (cA (cA (cB (cA (cA (cB (cA (cA (cB (cA (cB b155)))))))))))) (f155_20K o c n k w lp0) 13 = fun t _ h => f155_24 o c n k lp0 (t 0) (t 1) (t 2) (t 7) (t 8) (t 22) (t 26) (t 32) h := (q_seg 13 13 (by kernel_rfl) (q_guard 13 14 (2, false) (by kernel_rfl) (by kernel_rfl) (by kernel_rfl) (f155_25_ok o c n k w lp0))).tk
noncomputable def f155_23 (lp0 : AVs (Heap → α) 4) (s0 s1 s2 s7 s8 s22 s26 s29 s31 : AV) (h : Heap) : α :=
  bkF o true s26 (pickF o s29 (.b true) s31 fun v38 => f155_24 o c n k lp0 s0 s1 s2 s7 s8 s22 s26 v38 h) (f155_24 o c n k lp0 s0 s1 s2 s7 s8 s22 s26 (.tup []) h)
theorem f155_23_ok (lp0 : AVs (Heap → α) 4) : Q Pq o c (cO (cA (cA (cB (cA (cA (cB (cA (cA (cB (cA (cB b155)))))))))))) (f155_20K o c n k w lp0) 12 = fun t _ h => f155_23 o c n k lp0 (t 0) (t 1) (t 2) (t 7) (t 8) (t 22) (t 26) (t 29) (t 31) h := (q_seg 12 12 (by kernel_rfl) (q_guard 12 13 (6, true) (by kernel_rfl) (by kernel_rfl) (by kernel_rfl) (f155_24_ok o c n k w lp0))).tk
noncomputable def f155_22 (lp0 : AVs (Heap → α) 4) (s0 s1 s2 s7 s8 s22 s26 s29 : AV) (h : Heap) : α :=
  bkF o false s29 (gtrF Pq o 3 s7 (.i .i64 0) fun v39 => f155_23 o c n k lp0 s0 s1 s2 s7 s8 s22 s26 s29 v39 h) (f155_23 o c n k lp0 s0 s1 s2 s7 s8 s22 s26 s29 (.tup []) h)
theorem f155_22_ok (lp0 : AVs (Heap → α) 4) : Q Pq o c (cO (cA (cA (cB (cA (cA (cB (cA (cA (cB (cA (cB b155)))))))))))) (f155_20K o c n k w lp0) 10 = fun t _ h => f155_22 o c n k lp0 (t 0) (t 1) (t 2) (t 7) (t 8) (t 22) (t 26) (t 29) h := (q_seg 10 10 (by kernel_rfl) (q_guard 10 12 (9, false) (by kernel_rfl) (by kernel_rfl) (by kernel_rfl) (f155_23_ok o c n k w lp0))).tk
noncomputable def f155_21 (lp0 : AVs (Heap → α) 4) (s0 s1 s2 s7 s8 s22 s26 : AV) (h : Heap) : α :=
  bkF o true s26 (notF o s2 fun v40 => f155_22 o c n k lp0 s0 s1 s2 s7 s8 s22 s26 v40 h) (f155_22 o c n k lp0 s0 s1 s2 s7 s8 s22 s26 (.tup []) h)
theorem f155_21_ok (lp0 : AVs (Heap → α) 4) : Q Pq o c (cO (cA (cA (cB (cA (cA (cB (cA (cA (cB (cA (cB b155)))))))))))) (f155_20K o c n k w lp0) 7 = fun t _ h => f155_21 o c n k lp0 (t 0) (t 1) (t 2) (t 7) (t 8) (t 22) (t 26) h := (q_seg 7 7 (by kernel_rfl) (q_guard 7 10 (6, true) (by kernel_rfl) (by kernel_rfl) (by kernel_rfl) (f155_22_ok o c n k w lp0))).tk
noncomputable def f155_9 (lp0 : AVs (Heap → α) 4) (s0 s1 s2 s7 s8 : AV) (h : Heap) : α :=
  gtrF Pq o 3 s1 (.i .i64 40) fun v41 => bkF o false v41 (faF o 0 s8 fun v42 => load1F o h v42 fun v43 => eqiF Pq o 3 v43 (.i .i64 11) fun v44 => f155_21 o c n k lp0 s0 s1 s2 s7 s8 v41 v44 h) (f155_21 o c n k lp0 s0 s1 s2 s7 s8 v41 (.tup []) h)
theorem f155_9_ok (lp0 : AVs (Heap → α) 4) : R Pq o c n (cB (cA (cA (cB (cA (cA (cB (cA (cB b155))))))))) (blockK (cI (cA (cB (cA (cA (cB (cA (cB b155)))))))) (f155_8K o c n k w lp0)) = fun t _ h => f155_9 o c n k lp0 (t 0) (t 1) (t 2) (t 7) (t 8) h := (kseq (f155_10_ok o c n k w lp0) (kseq (f155_19_ok o c n k w lp0) (r_start 3 (by kernel_rfl) (q_guard 3 7 (2, false) (by kernel_rfl) (by kernel_rfl) (by kernel_rfl) (f155_21_ok o c n k w lp0))))).tk
noncomputable def f155_6 (lp0 : AVs (Heap → α) 4) (s0 s1 s2 s7 : AV) (h : Heap) : α :=
  ixF o 9 s0 s7 fun v45 => loadNF o h 9 v45 fun v46 => newF h h.next 9 [(.i .i64 0), (.i .i32 0), (.s 0 0), (.s 0 0), .nsl, .nsl, .nsl, .nsl, (.i .i64 0)] fun v47 h => storeF o h 9 v47 v46 fun h => f155_9 o c n k lp0 s0 s1 s2 s7 v47 h
theorem f155_6_ok (lp0 : AVs (Heap → α) 4) : R Pq o c n (cB (cA (cA (cB (cA (cB b155)))))) (f155_5K o c n k w lp0) = fun t _ h => f155_6 o c n k lp0 (t 0) (t 1) (t 2) (t 7) h := (kseq (f155_7_ok o c n k w lp0) (kblk (kseq (f155_9_ok o c n k w lp0) rfl))).tk
noncomputable def f155_4 (m : Nat) : AVs (Heap → α) 4 :=
  Nat.rec (motive := fun _ => AVs (Heap → α) 4) (fun _ _ _ _ _ => o) (fun _ lp0 s0 s1 s2 s7 h => lenF o s0 fun v48 => lssF Pq o 3 s7 v48 fun v49 => ifF o v49 (f155_6 o c n k lp0 s0 s1 s2 s7 h) (k (.b true) h)) m
theorem f155_4_ok : R Pq o c n (cA (cB (cA (cB b155)))) (blockK (cI (cB (cA (cB b155)))) (f155_2K o c n k w)) = fun t _ h => f155_4 o c n k n (t 0) (t 1) (t 2) (t 7) h :=
  c_loop (F := fun m t _ h => f155_4 o c n k m (t 0) (t 1) (t 2) (t 7) h) (by kernel_rfl) (by kernel_rfl) fun m => (kseq (f155_6_ok o c n k w (f155_4 o c n k m)) rfl).tk
noncomputable def f155_3 (s0 s1 s2 s7 : AV) (h : Heap) : α :=
  f155_4 o c n k n s0 s1 s2 s7 h
theorem f155_3_ok : R Pq o c n (cB (cA (cB b155))) (f155_2K o c n k w) = fun t _ h => f155_3 o c n k (t 0) (t 1) (t 2) (t 7) h := (kblk (f155_4_ok o c n k w)).tk
noncomputable def f155_1 (s0 s1 s2 : AV) (h : Heap) : α :=
  f155_3 o c n k s0 s1 s2 (.i .i64 0) h
theorem f155_1_ok : R Pq o c n (cB b155) (kend Pq o c n w rs155 k) = fun t _ h => f155_1 o c n k (t 0) (t 1) (t 2) h := (kseq rfl (kseq (f155_3_ok o c n k w) rfl)).tk
noncomputable def f155 (a0 a1 a2 : AV) (h : Heap) : α :=
  f155_1 o c n k a0 a1 a2 h
theorem f155_ok : R Pq o c n b155 (kend Pq o c n w rs155 k) = fun t _ h => f155 o c n k (t 0) (t 1) (t 2) h := (kseq (f155_1_ok o c n k w) rfl).tk
theorem f155_good : Good Pq (cfg mm) 155 (entF Pq (cfg mm) 155 3 fun α => f155) := entG b155 rs155 77 fun _ => f155_ok
noncomputable def b158 := bdy Tryz.f158
noncomputable def rs158 := Tryz.f158.results.toList
noncomputable def f158_2K : Ex → K α := (nxK (R Pq o c n (cB (cB b158)) (kend Pq o c n w rs158 k)) (kend Pq o c n w rs158 k))
noncomputable def f158_4 {α : Type} (o : α) (c : Call' α) (n : Nat) (k : AV → Heap → α) (m : Nat) : AVs (Heap → α) 4 :=
  Nat.rec (motive := fun _ => AVs (Heap → α) 4) (fun _ _ _ _ _ => o) (fun _ lp0 s1 s9 s10 s11 h => lssF Pq o 3 s11 s10 fun v1 => ifF o v1 (ixF o 4 s9 s11 fun v2 => loadNF o h 4 v2 fun v3 => newF h h.next 4 [(.s 0 0), (.s 0 0), .nsl, .nsl] fun v4 h => storeF o h 4 v4 v3 fun h => loadNF o h 4 v4 fun v5 => cfF o s1 [s11, v5] c h fun v6 h => pk k v6 h <| neiF Pq o 3 v6 (.i .i64 0) fun v7 => ifF o v7 (layF o 0 v6 [(.i .i64 0), (.i .i64 0)] fun v8 => layF o 1 s11 v8 fun v9 => k (.ifc 187 (.agg v9)) h) (addF Pq o 3 s11 (.i .i64 1) fun v10 => lp0 s1 s9 s10 v10 h)) (k .nifc h)) m
theorem f158_4_ok : R Pq o c n (cA (cB (cA (cB b158)))) (blockK (cI (cB (cA (cB b158)))) (f158_2K o c n k w)) = fun t _ h => f158_4 o c n k n (t 1) (t 9) (t 10) (t 11) h :=
  c_loop (F := fun m t _ h => f158_4 o c n k m (t 1) (t 9) (t 10) (t 11) h) (by kernel_rfl) (by kernel_rfl) fun m => by kernel_rfl
noncomputable def f158_3 (s1 s9 s10 s11 : AV) (h : Heap) : α :=
  f158_4 o c n k n s1 s9 s10 s11 h
theorem f158_3_ok : R Pq o c n (cB (cA (cB b158))) (f158_2K o c n k w) = fun t _ h => f158_3 o c n k (t 1) (t 9) (t 10) (t 11) h := (kblk (f158_4_ok o c n k w)).tk
noncomputable def f158_1 (s1 s2 : AV) (h : Heap) : α :=
  faF o 0 s2 fun v11 => load1F o h v11 fun v12 => lenF o v12 fun v13 => f158_3 o c n k s1 v12 v13 (.i .i64 0) h
theorem f158_1_ok : R Pq o c n (cB b158) (kend Pq o c n w rs158 k) = fun t _ h => f158_1 o c n k (t 1) (t 2) h := (kseq rfl (kseq (f158_3_ok o c n k w) rfl)).tk
noncomputable def f158 (a0 a1 : AV) (h : Heap) : α :=
  boxF o a0 h h.next fun v14 h => f158_1 o c n k a1 v14 h
theorem f158_ok : R Pq o c n b158 (kend Pq o c n w rs158 k) = fun t _ h => f158 o c n k (t 0) (t 1) h := (kseq (f158_1_ok o c n k w) rfl).tk
theorem f158_good : Good Pq (cfg mm) 158 (entF Pq (cfg mm) 158 2 fun α => f158) := entG b158 rs158 27 fun _ => f158_ok
end Go.Zev.Pn
