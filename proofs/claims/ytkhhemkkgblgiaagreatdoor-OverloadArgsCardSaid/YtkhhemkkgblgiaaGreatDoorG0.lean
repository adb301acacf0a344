/-
  Printed by zgen.py: clean forms.
-/
import Derived.Test.YtkhhemkkgblgiaaGreatDoorZ3
import Derived.Test.YtkhhemkkgblgiaaGreatDoorProg
import Derived.KernelRfl
set_option linter.unusedVariables false
set_option maxRecDepth 20000
namespace Go.Zev.Po
open Go Go.Zev Go.Proofs
noncomputable abbrev Pq : Program := Tryz.prog
noncomputable def cfg (memo : FuncId → Option (List AV → Option AV)) : Cfg := ⟨fun f => Nat.beq f 50 || Nat.beq f 54 || Nat.beq f 65 || Nat.beq f 67 || Nat.beq f 103 || Nat.beq f 110 || Nat.beq f 173 || Nat.beq f 298, fun f => Bool.rec (motive := fun _ => Nat) 512 511 (Nat.beq f 43 || Nat.beq f 100 || Nat.beq f 101 || Nat.beq f 102), memo⟩
variable {mm : FuncId → Option (List AV → Option AV)}
noncomputable def b16 := bdy Tryz.f16
noncomputable def rs16 := Tryz.f16.results.toList
variable {α : Type} (o : α) (c : Call' α) (n : Nat) (k : AV → Heap → α) (w : FuncId → Nat)
noncomputable def f16 {α : Type} (o : α) (c : Call' α) (n : Nat) (k : AV → Heap → α) (a0 : AV) (h : Heap) : α :=
  boxF o a0 h h.next fun v1 h => loadNF o h 1 v1 fun v2 => c 43 [v2] h fun v3 h => pk k v3 h <| exF o v3 0 fun v4 => exF o v3 1 fun v5 => exF o v3 2 fun v6 => newF h h.next 1 [.nsl] fun v7 h => storeF o h 1 v7 v4 fun h => k (.tup [v5, v6]) h
theorem f16_ok : R Pq o c n b16 (kend Pq o c n w rs16 k) = fun t _ h => f16 o c n k (t 0) h := by kernel_rfl
theorem f16_good : Good Pq (cfg mm) 16 (entF Pq (cfg mm) 16 1 fun α => f16) := entG b16 rs16 15 fun _ => f16_ok
noncomputable def b17 := bdy Tryz.f17
noncomputable def rs17 := Tryz.f17.results.toList
noncomputable def f17 {α : Type} (o : α) (c : Call' α) (n : Nat) (k : AV → Heap → α) (a0 a1 : AV) (h : Heap) : α :=
  c 44 [a0, a1] h fun v1 h => pk k v1 h <| geqF Pq o 3 v1 (.i .i64 0) fun v2 => k v2 h
theorem f17_ok : R Pq o c n b17 (kend Pq o c n w rs17 k) = fun t _ h => f17 o c n k (t 0) (t 1) h := by kernel_rfl
theorem f17_good : Good Pq (cfg mm) 17 (entF Pq (cfg mm) 17 2 fun α => f17) := entG b17 rs17 9 fun _ => f17_ok
noncomputable def b25 := bdy Tryz.f25
noncomputable def rs25 := Tryz.f25.results.toList
noncomputable def f25 {α : Type} (o : α) (c : Call' α) (n : Nat) (k : AV → Heap → α) (a0 a1 a2 : AV) (h : Heap) : α :=
  lenF o a0 fun v1 => sliceA Pq o 55 (rho2 a1 a2 v1) a0 (some (.tmp 0)) (some (.tmp 1)) (some (.tmp 2)) fun v2 => eqiF Pq o 3 a1 a2 fun v3 => ifF o v3 (k a0 h) (lenF o a0 fun v4 => dreg o h 8 fun base h => slF Pq o 55 a0 none (some a1) fun v5 => slF Pq o 55 a0 (some a2) none fun v6 => lb [] fun ids => appD o ids (Nat.add base 6) <| appendY Pq o (hide ids (h.look 63)) (Nat.add base 6) 55 55 v5 v6 fun v7 g => hb (back h ids g) fun h => hb h.shut fun h => lenF o v7 fun v8 => slF Pq o 55 v7 (some v8) (some v4) fun v9 => clearN o h 8 [(.i .i64 0), (.i .i32 0), (.s 0 0), (.s 0 0), (.s 0 0), .nsl, (.s 0 0), (.i .i64 0)] v9 fun h => k v7 h)
theorem f25_ok : R Pq o c n b25 (kend Pq o c n w rs25 k) = fun t _ h => f25 o c n k (t 0) (t 1) (t 2) h := by kernel_rfl
theorem f25_good : Good Pq (cfg mm) 25 (entF Pq (cfg mm) 25 3 fun α => f25) := entG b25 rs25 33 fun _ => f25_ok
noncomputable def b36 := bdy Tryz.f36
noncomputable def rs36 := Tryz.f36.results.toList
noncomputable def f36_5K : Ex → K α := (nxK (R Pq o c n (cB (cB (cB (cB (cB b36))))) (kend Pq o c n w rs36 k)) (kend Pq o c n w rs36 k))
noncomputable def f36_8K (lp0 : AVs (Heap → α) 4) : Ex → K α := (nxK (fun t _ h => lp0 (t 0) (t 5) (t 6) (t 7) h) (blockK (cI (cB (cA (cB (cB (cB (cB b36))))))) (f36_5K o c n k w)))
noncomputable def f36_14 {α : Type} (o : α) (c : Call' α) (n : Nat) (k : AV → Heap → α) (lp0 : AVs (Heap → α) 4) (s0 s5 s6 s7 s9 : AV) (h : Heap) : α :=
  addF Pq o 3 s7 s9 fun v1 => lp0 s0 s5 s6 v1 h
theorem f36_14_ok (lp0 : AVs (Heap → α) 4) : R Pq o c n (cB (cB (cB (cB (cB (cA (cB (cA (cA (cB (cA (cB (cB (cB (cB b36))))))))))))))) (blockK (cI (cB (cA (cA (cB (cA (cB (cB (cB (cB b36)))))))))) (f36_8K o c n k w lp0)) = fun t _ h => f36_14 o c n k lp0 (t 0) (t 5) (t 6) (t 7) (t 9) h := by kernel_rfl
noncomputable def f36_13 (lp0 : AVs (Heap → α) 4) (s0 s5 s6 s7 s8 s9 : AV) (h : Heap) : α :=
  faF o 0 s8 fun v2 => load1F o h v2 fun v3 => gtrF Pq o 3 v3 (.i .i64 0) fun v4 => ifF o v4 (loadNF o h 3 s8 fun v5 => fil1 o 3 1 0 v5 [[(.i .i64 0), (.s 0 0), (.i .i64 0)]] fun v6 => newEF h h.next 3 1 v6 fun v7 h => appX Pq o h h.next 72 72 s6 v7 fun v8 h => f36_14 o c n k lp0 s0 s5 v8 s7 s9 h) (f36_14 o c n k lp0 s0 s5 s6 s7 s9 h)
theorem f36_13_ok (lp0 : AVs (Heap → α) 4) : R Pq o c n (cB (cB (cB (cB (cA (cB (cA (cA (cB (cA (cB (cB (cB (cB b36)))))))))))))) (blockK (cI (cB (cA (cA (cB (cA (cB (cB (cB (cB b36)))))))))) (f36_8K o c n k w lp0)) = fun t _ h => f36_13 o c n k lp0 (t 0) (t 5) (t 6) (t 7) (t 8) (t 9) h := (kseq (f36_14_ok o c n k w lp0) rfl).tk
noncomputable def f36_15K (lp0 : AVs (Heap → α) 4) : Ex → K α := (nxK (fun t _ h => f36_13 o c n k lp0 (t 0) (t 5) (t 6) (t 7) (t 8) (t 9) h) (blockK (cI (cB (cA (cA (cB (cA (cB (cB (cB (cB b36)))))))))) (f36_8K o c n k w lp0)))
noncomputable def f36_16 (lp0 : AVs (Heap → α) 4) (s0 s5 s6 s7 s8 s9 s40 : AV) (h : Heap) : α :=
  ifF o s40 (k (.tup [.nsl, (.i .i64 2), s5]) h) (f36_13 o c n k lp0 s0 s5 s6 s7 s8 s9 h)
theorem f36_16_ok (lp0 : AVs (Heap → α) 4) : R Pq o c n (cB (cA (cB (cB (cB (cA (cB (cA (cA (cB (cA (cB (cB (cB (cB b36))))))))))))))) (f36_15K o c n k w lp0) = fun t _ h => f36_16 o c n k lp0 (t 0) (t 5) (t 6) (t 7) (t 8) (t 9) (t 40) h := by kernel_rfl
noncomputable def f36_17K (lp0 : AVs (Heap → α) 4) : Ex → K α := (nxK (fun t _ h => f36_16 o c n k lp0 (t 0) (t 5) (t 6) (t 7) (t 8) (t 9) (t 40) h) (f36_15K o c n k w lp0))
noncomputable def f36_12 (lp0 : AVs (Heap → α) 4) (s0 s5 s6 s7 s8 s9 : AV) (h : Heap) : α :=
  geqF Pq o 3 s5 (.i .i64 0) fun v9 => bkF o true v9 (addF Pq o 3 s7 s9 fun v10 => gtrF Pq o 3 v10 s5 fun v11 => pickF o v9 v11 (.b false) fun v12 => f36_16 o c n k lp0 s0 s5 s6 s7 s8 s9 v12 h) (pickF o v9 (.tup []) (.b false) fun v13 => f36_16 o c n k lp0 s0 s5 s6 s7 s8 s9 v13 h)
theorem f36_12_ok (lp0 : AVs (Heap → α) 4) : R Pq o c n (cB (cB (cB (cA (cB (cA (cA (cB (cA (cB (cB (cB (cB b36))))))))))))) (blockK (cI (cB (cA (cA (cB (cA (cB (cB (cB (cB b36)))))))))) (f36_8K o c n k w lp0)) = fun t _ h => f36_12 o c n k lp0 (t 0) (t 5) (t 6) (t 7) (t 8) (t 9) h := (kseq (f36_13_ok o c n k w lp0) (kseq (f36_16_ok o c n k w lp0) (r_start 3 (by kernel_rfl) (q_guard 3 8 (2, true) (by kernel_rfl) (by kernel_rfl) (by kernel_rfl) rfl)))).tk
noncomputable def f36_11 (lp0 : AVs (Heap → α) 4) (s0 s5 s6 s7 s8 s9 : AV) (h : Heap) : α :=
  eqiF Pq o 3 s9 (.i .i64 0) fun v14 => ifF o v14 (k (.tup [.nsl, (.i .i64 2), s7]) h) (f36_12 o c n k lp0 s0 s5 s6 s7 s8 s9 h)
theorem f36_11_ok (lp0 : AVs (Heap → α) 4) : R Pq o c n (cB (cB (cA (cB (cA (cA (cB (cA (cB (cB (cB (cB b36)))))))))))) (blockK (cI (cB (cA (cA (cB (cA (cB (cB (cB (cB b36)))))))))) (f36_8K o c n k w lp0)) = fun t _ h => f36_11 o c n k lp0 (t 0) (t 5) (t 6) (t 7) (t 8) (t 9) h := (kseq (f36_12_ok o c n k w lp0) rfl).tk
noncomputable def f36_10 (lp0 : AVs (Heap → α) 4) (s0 s5 s6 s7 : AV) (h : Heap) : α :=
  c 77 [s0, s7] h fun v15 h => pk k v15 h <| exF o v15 0 fun v16 => exF o v15 1 fun v17 => newF h h.next 3 [(.i .i64 0), (.s 0 0), (.i .i64 0)] fun v18 h => storeF o h 3 v18 v16 fun h => f36_11 o c n k lp0 s0 s5 s6 s7 v18 v17 h
theorem f36_10_ok (lp0 : AVs (Heap → α) 4) : R Pq o c n (cB (cA (cB (cA (cA (cB (cA (cB (cB (cB (cB b36))))))))))) (blockK (cI (cB (cA (cA (cB (cA (cB (cB (cB (cB b36)))))))))) (f36_8K o c n k w lp0)) = fun t _ h => f36_10 o c n k lp0 (t 0) (t 5) (t 6) (t 7) h := (kseq (f36_11_ok o c n k w lp0) rfl).tk
noncomputable def f36_9 (lp0 : AVs (Heap → α) 4) (s0 s5 s6 s7 : AV) (h : Heap) : α :=
  eqiF Pq o 3 s7 s5 fun v19 => ifF o v19 (k (.tup [.nsl, (.i .i64 2), s5]) h) (f36_10 o c n k lp0 s0 s5 s6 s7 h)
theorem f36_9_ok (lp0 : AVs (Heap → α) 4) : R Pq o c n (cB (cA (cA (cB (cA (cB (cB (cB (cB b36))))))))) (f36_8K o c n k w lp0) = fun t _ h => f36_9 o c n k lp0 (t 0) (t 5) (t 6) (t 7) h := (kblk (kseq (f36_10_ok o c n k w lp0) rfl)).tk
noncomputable def f36_7 (m : Nat) : AVs (Heap → α) 4 :=
  Nat.rec (motive := fun _ => AVs (Heap → α) 4) (fun _ _ _ _ _ => o) (fun _ lp0 s0 s5 s6 s7 h => lensF o s0 fun v20 => lssF Pq o 3 s7 v20 fun v21 => ifF o v21 (f36_9 o c n k lp0 s0 s5 s6 s7 h) (k (.tup [s6, (.i .i64 0), (.i .i64 0)]) h)) m
theorem f36_7_ok : R Pq o c n (cA (cB (cA (cB (cB (cB (cB b36))))))) (blockK (cI (cB (cA (cB (cB (cB (cB b36))))))) (f36_5K o c n k w)) = fun t _ h => f36_7 o c n k n (t 0) (t 5) (t 6) (t 7) h :=
  c_loop (F := fun m t _ h => f36_7 o c n k m (t 0) (t 5) (t 6) (t 7) h) (by kernel_rfl) (by kernel_rfl) fun m => (kseq (f36_9_ok o c n k w (f36_7 o c n k m)) rfl).tk
noncomputable def f36_6 (s0 s5 s6 s7 : AV) (h : Heap) : α :=
  f36_7 o c n k n s0 s5 s6 s7 h
theorem f36_6_ok : R Pq o c n (cB (cA (cB (cB (cB (cB b36)))))) (f36_5K o c n k w) = fun t _ h => f36_6 o c n k (t 0) (t 5) (t 6) (t 7) h := (kblk (f36_7_ok o c n k w)).tk
noncomputable def f36_4 (s0 s5 s6 : AV) (h : Heap) : α :=
  f36_6 o c n k s0 s5 s6 (.i .i64 0) h
theorem f36_4_ok : R Pq o c n (cB (cB (cB (cB b36)))) (kend Pq o c n w rs36 k) = fun t _ h => f36_4 o c n k (t 0) (t 5) (t 6) h := (kseq rfl (kseq (f36_6_ok o c n k w) rfl)).tk
noncomputable def f36_3 (s0 s5 : AV) (h : Heap) : α :=
  f36_4 o c n k s0 s5 .nsl h
theorem f36_3_ok : R Pq o c n (cB (cB (cB b36))) (kend Pq o c n w rs36 k) = fun t _ h => f36_3 o c n k (t 0) (t 5) h := (kseq (f36_4_ok o c n k w) rfl).tk
noncomputable def f36_2 (s0 : AV) (h : Heap) : α :=
  c 76 [s0] h fun v22 h => pk k v22 h <| f36_3 o c n k s0 v22 h
theorem f36_2_ok : R Pq o c n (cB (cB b36)) (kend Pq o c n w rs36 k) = fun t _ h => f36_2 o c n k (t 0) h := (kseq (f36_3_ok o c n k w) rfl).tk
noncomputable def f36_1 (s0 : AV) (h : Heap) : α :=
  lensF o s0 fun v23 => gtrF Pq o 3 v23 (.i .i64 8000) fun v24 => ifF o v24 (k (.tup [.nsl, (.i .i64 5), (.i .i64 0)]) h) (f36_2 o c n k s0 h)
theorem f36_1_ok : R Pq o c n (cB b36) (kend Pq o c n w rs36 k) = fun t _ h => f36_1 o c n k (t 0) h := (kseq (f36_2_ok o c n k w) rfl).tk
noncomputable def f36 (a0 : AV) (h : Heap) : α :=
  f36_1 o c n k a0 h
theorem f36_ok : R Pq o c n b36 (kend Pq o c n w rs36 k) = fun t _ h => f36 o c n k (t 0) h := (kseq (f36_1_ok o c n k w) rfl).tk
theorem f36_good : Good Pq (cfg mm) 36 (entF Pq (cfg mm) 36 1 fun α => f36) := entG b36 rs36 53 fun _ => f36_ok
noncomputable def b37 := bdy Tryz.f37
noncomputable def rs37 := Tryz.f37.results.toList
noncomputable def f37 {α : Type} (o : α) (c : Call' α) (n : Nat) (k : AV → Heap → α) (a0 a1 : AV) (h : Heap) : α :=
  c 39 [a0, a1] h fun v1 h => pk k v1 h <| notF o v1 fun v2 => ifF o v2 (c 78 [a0, (.i .i64 3)] h fun v3 h => pk k v3 h <| k (.tup []) h) (k (.tup []) h)
theorem f37_ok : R Pq o c n b37 (kend Pq o c n w rs37 k) = fun t _ h => f37 o c n k (t 0) (t 1) h := by kernel_rfl
theorem f37_good : Good Pq (cfg mm) 37 (entF Pq (cfg mm) 37 2 fun α => f37) := entG b37 rs37 10 fun _ => f37_ok
noncomputable def b39 := bdy Tryz.f39
noncomputable def rs39 := Tryz.f39.results.toList
noncomputable def f39_2K : Ex → K α := (nxK (R Pq o c n (cB (cB b39)) (kend Pq o c n w rs39 k)) (kend Pq o c n w rs39 k))
noncomputable def f39_3 {α : Type} (o : α) (c : Call' α) (n : Nat) (k : AV → Heap → α) (s0 s12 : AV) (h : Heap) : α :=
  ifF o s12 (nilChk o s0 fun v1 => faF o 2 v1 fun v2 => load1F o h v2 fun v3 => addF Pq o 3 v3 (.i .i64 1) fun v4 => nilChk o s0 fun v5 => faF o 2 v5 fun v6 => storeF o h 1 v6 v4 fun h => k (.b true) h) (k (.b false) h)
theorem f39_3_ok : R Pq o c n (cB (cA (cB b39))) (f39_2K o c n k w) = fun t _ h => f39_3 o c n k (t 0) (t 12) h := by kernel_rfl
noncomputable def f39_4K : Ex → K α := (nxK (fun t _ h => f39_3 o c n k (t 0) (t 12) h) (f39_2K o c n k w))
noncomputable def f39_1 (s0 s1 : AV) (h : Heap) : α :=
  c 40 [s0, s1] h fun v7 h => pk k v7 h <| bkF o false v7 (c 81 [s0, s1] h fun v8 h => pk k v8 h <| pickF o v7 (.b true) v8 fun v9 => f39_3 o c n k s0 v9 h) (pickF o v7 (.b true) (.tup []) fun v10 => f39_3 o c n k s0 v10 h)
theorem f39_1_ok : R Pq o c n (cB b39) (kend Pq o c n w rs39 k) = fun t _ h => f39_1 o c n k (t 0) (t 1) h := (kseq rfl (kseq (f39_3_ok o c n k w) (r_start 4 (by kernel_rfl) (q_guard 4 7 (3, false) (by kernel_rfl) (by kernel_rfl) (by kernel_rfl) rfl)))).tk
noncomputable def f39 (a0 a1 : AV) (h : Heap) : α :=
  f39_1 o c n k a0 a1 h
theorem f39_ok : R Pq o c n b39 (kend Pq o c n w rs39 k) = fun t _ h => f39 o c n k (t 0) (t 1) h := (kseq (f39_1_ok o c n k w) rfl).tk
theorem f39_good : Good Pq (cfg mm) 39 (entF Pq (cfg mm) 39 2 fun α => f39) := entG b39 rs39 20 fun _ => f39_ok
noncomputable def b40 := bdy Tryz.f40
noncomputable def rs40 := Tryz.f40.results.toList
noncomputable def f40 {α : Type} (o : α) (c : Call' α) (n : Nat) (k : AV → Heap → α) (a0 a1 : AV) (h : Heap) : α :=
  c 82 [a0, (.i .i64 0), (.i .i64 4), a1] h fun v1 h => pk k v1 h <| k v1 h
theorem f40_ok : R Pq o c n b40 (kend Pq o c n w rs40 k) = fun t _ h => f40 o c n k (t 0) (t 1) h := by kernel_rfl
theorem f40_good : Good Pq (cfg mm) 40 (entF Pq (cfg mm) 40 2 fun α => f40) := entG b40 rs40 8 fun _ => f40_ok
noncomputable def b44 := bdy Tryz.f44
noncomputable def rs44 := Tryz.f44.results.toList
noncomputable def f44_2K : Ex → K α := (nxK (R Pq o c n (cB (cB b44)) (kend Pq o c n w rs44 k)) (kend Pq o c n w rs44 k))
noncomputable def f44_4 {α : Type} (o : α) (c : Call' α) (n : Nat) (k : AV → Heap → α) (m : Nat) : AVs (Heap → α) 4 :=
  Nat.rec (motive := fun _ => AVs (Heap → α) 4) (fun _ _ _ _ _ => o) (fun _ lp0 s0 s1 s7 s8 h => lssF Pq o 3 s8 s7 fun v1 => ifF o v1 (ixF o 1 s0 s8 fun v2 => load1F o h v2 fun v3 => eqsF Pq o 9 s1 v3 fun v4 => ifF o v4 (k s8 h) (addF Pq o 3 s8 (.i .i64 1) fun v5 => lp0 s0 s1 s7 v5 h)) (k (.i .i64 (-1)) h)) m
theorem f44_4_ok : R Pq o c n (cA (cB (cA (cB b44)))) (blockK (cI (cB (cA (cB b44)))) (f44_2K o c n k w)) = fun t _ h => f44_4 o c n k n (t 0) (t 1) (t 7) (t 8) h :=
  c_loop (F := fun m t _ h => f44_4 o c n k m (t 0) (t 1) (t 7) (t 8) h) (by kernel_rfl) (by kernel_rfl) fun m => by kernel_rfl
noncomputable def f44_3 (s0 s1 s7 s8 : AV) (h : Heap) : α :=
  f44_4 o c n k n s0 s1 s7 s8 h
theorem f44_3_ok : R Pq o c n (cB (cA (cB b44))) (f44_2K o c n k w) = fun t _ h => f44_3 o c n k (t 0) (t 1) (t 7) (t 8) h := (kblk (f44_4_ok o c n k w)).tk
noncomputable def f44_1 (s0 s1 : AV) (h : Heap) : α :=
  lenF o s0 fun v6 => f44_3 o c n k s0 s1 v6 (.i .i64 0) h
theorem f44_1_ok : R Pq o c n (cB b44) (kend Pq o c n w rs44 k) = fun t _ h => f44_1 o c n k (t 0) (t 1) h := (kseq rfl (kseq (f44_3_ok o c n k w) rfl)).tk
noncomputable def f44 (a0 a1 : AV) (h : Heap) : α :=
  f44_1 o c n k a0 a1 h
theorem f44_ok : R Pq o c n b44 (kend Pq o c n w rs44 k) = fun t _ h => f44 o c n k (t 0) (t 1) h := (kseq (f44_1_ok o c n k w) rfl).tk
theorem f44_good : Good Pq (cfg mm) 44 (entF Pq (cfg mm) 44 2 fun α => f44) := entG b44 rs44 19 fun _ => f44_ok
noncomputable def b46 := bdy Tryz.f46
noncomputable def rs46 := Tryz.f46.results.toList
noncomputable def f46 {α : Type} (o : α) (c : Call' α) (n : Nat) (k : AV → Heap → α) (a0 a1 : AV) (h : Heap) : α :=
  boxF o a1 h h.next fun v1 h => nilChk o a0 fun v2 => faF o 4 v2 fun v3 => load1F o h v3 fun v4 => addF Pq o 3 v4 (.i .i64 1) fun v5 => nilChk o a0 fun v6 => faF o 4 v6 fun v7 => storeF o h 1 v7 v5 fun h => dreg o h 32 fun base h => nilChk o a0 fun v8 => faF o 2 v8 fun v9 => rootF o v9 a0 <| load1F o (h.look 14) v9 fun v10 => nilChk o a0 fun v11 => faF o 1 v11 fun v12 => rootF o v12 a0 <| load1F o (h.look 224) v12 fun v13 => nilChk o a0 fun v14 => faF o 0 v14 fun v15 => faF o 0 v15 fun v16 => rootF o v16 a0 <| load1F o (h.look 7680) v16 fun v17 => nilChk o a0 fun v18 => faF o 3 v18 fun v19 => rootF o v19 a0 <| load1F o (h.look 114688) v19 fun v20 => ixF o 4 v17 v20 fun v21 => faF o 0 v21 fun v22 => load1F o (h.look 1048064) v22 fun v23 => nilChk o a0 fun v24 => faF o 4 v24 fun v25 => rootF o v25 a0 <| load1F o (h.look 14680064) v25 fun v26 => loadNF o (h.look 0) 1 v1 fun v27 => layF o 0 v13 [(.s 0 0), (.s 0 0), (.i .i64 0), .nsl] fun v28 => layF o 1 v23 v28 fun v29 => layF o 2 v26 v29 fun v30 => layF o 3 v27 v30 fun v31 => fil1 o 4 1 0 (.agg v31) [[(.s 0 0), (.s 0 0), (.i .i64 0), .nsl]] fun v32 => newEF (h.look 134217696) (Nat.add base 27) 4 1 v32 fun v33 h => lb [] fun ids => appD o ids (Nat.add base 28) <| appendY Pq o (hide ids (h.look 268435454)) (Nat.add base 28) 28 28 v10 v33 fun v34 g => hb (back h ids g) fun h => nilChk o a0 fun v35 => faF o 2 v35 fun v36 => rootF o v36 a0 <| storeF o (h.look 2147483647) 1 v36 v34 fun h => hb h.shut fun h => k (.tup []) h
theorem f46_ok : R Pq o c n b46 (kend Pq o c n w rs46 k) = fun t _ h => f46 o c n k (t 0) (t 1) h := by kernel_rfl
theorem f46_good : Good Pq (cfg mm) 46 (entF Pq (cfg mm) 46 2 fun α => f46) := entG b46 rs46 42 fun _ => f46_ok
noncomputable def b48 := bdy Tryz.f48
noncomputable def rs48 := Tryz.f48.results.toList
noncomputable def f48_3 {α : Type} (o : α) (c : Call' α) (n : Nat) (k : AV → Heap → α) (s3 s6 : AV) (h : Heap) : α :=
  loadNF o h 1 s3 fun v1 => storeF o h 1 s6 v1 fun h => on o (resV Pq h [(s6, some 26)]) fun v => k v h
theorem f48_3_ok : R Pq o c n (cB (cB (cB b48))) (kend Pq o c n w rs48 k) = fun t _ h => f48_3 o c n k (t 3) (t 6) h := by kernel_rfl
noncomputable def f48_4K : Ex → K α := (nxK (fun t _ h => f48_3 o c n k (t 3) (t 6) h) (kend Pq o c n w rs48 k))
noncomputable def f48_5 (s1 s2 s3 s6 s18 : AV) (h : Heap) : α :=
  ifF o s18 (layF o 3 s2 [(.s 0 0), (.s 0 0), .nsl, .nsl] fun v2 => fil1 o 4 1 0 (.agg v2) [[(.s 0 0), (.s 0 0), .nsl, .nsl]] fun v3 => newEF h h.next 4 1 v3 fun v4 h => layF o 0 v4 [.nsl] fun v5 => c 103 [(.agg v5)] h fun v6 h => pk k v6 h <| newF h h.next 1 [.nsl] fun v7 h => storeF o h 1 v7 v6 fun h => dreg o h 11 fun base h => faF o 0 s3 fun v8 => rootF o v8 s3 <| load1F o (h.look 1) v8 fun v9 => faF o 0 v7 fun v10 => rootF o v10 v7 <| load1F o (h.look 8) v10 fun v11 => ixF o 4 v11 (.i .i64 0) fun v12 => faF o 3 v12 fun v13 => load1F o (h.look 120) v13 fun v14 => ixF o 4 v9 s1 fun v15 => faF o 3 v15 fun v16 => storeF o (h.look 1023) 1 v16 v14 fun h => hb h.shut fun h => f48_3 o c n k s3 s6 h) (f48_3 o c n k s3 s6 h)
theorem f48_5_ok : R Pq o c n (cB (cA (cB (cB b48)))) (f48_4K o c n k w) = fun t _ h => f48_5 o c n k (t 1) (t 2) (t 3) (t 6) (t 18) h := by kernel_rfl
noncomputable def f48_6K : Ex → K α := (nxK (fun t _ h => f48_5 o c n k (t 1) (t 2) (t 3) (t 6) (t 18) h) (f48_4K o c n k w))
noncomputable def f48_2 (s1 s2 s3 s6 : AV) (h : Heap) : α :=
  geqF Pq o 3 s1 (.i .i64 0) fun v17 => bkF o true v17 (faF o 0 s3 fun v18 => load1F o h v18 fun v19 => lenF o v19 fun v20 => lssF Pq o 3 s1 v20 fun v21 => pickF o v17 v21 (.b false) fun v22 => f48_5 o c n k s1 s2 s3 s6 v22 h) (pickF o v17 (.tup []) (.b false) fun v23 => f48_5 o c n k s1 s2 s3 s6 v23 h)
theorem f48_2_ok : R Pq o c n (cB (cB b48)) (kend Pq o c n w rs48 k) = fun t _ h => f48_2 o c n k (t 1) (t 2) (t 3) (t 6) h := (kseq (f48_3_ok o c n k w) (kseq (f48_5_ok o c n k w) (r_start 3 (by kernel_rfl) (q_guard 3 8 (2, true) (by kernel_rfl) (by kernel_rfl) (by kernel_rfl) rfl)))).tk
noncomputable def f48_1 (s1 s2 s3 s6 : AV) (h : Heap) : α :=
  loadNF o h 1 s3 fun v24 => c 103 [v24] h fun v25 h => pk k v25 h <| storeF o h 1 s3 v25 fun h => f48_2 o c n k s1 s2 s3 s6 h
theorem f48_1_ok : R Pq o c n (cB b48) (kend Pq o c n w rs48 k) = fun t _ h => f48_1 o c n k (t 1) (t 2) (t 3) (t 6) h := (kseq (f48_2_ok o c n k w) rfl).tk
noncomputable def f48 (a0 a1 a2 : AV) (h : Heap) : α :=
  boxF o a0 h h.next fun v26 h => newF h h.next 1 [.nsl] fun v27 h => f48_1 o c n k a1 a2 v26 v27 h
theorem f48_ok : R Pq o c n b48 (kend Pq o c n w rs48 k) = fun t _ h => f48 o c n k (t 0) (t 1) (t 2) h := (kseq (f48_1_ok o c n k w) rfl).tk
theorem f48_good : Good Pq (cfg mm) 48 (entF Pq (cfg mm) 48 3 fun α => f48) := entG b48 rs48 35 fun _ => f48_ok
noncomputable def b50 := bdy Tryz.f50
noncomputable def rs50 := Tryz.f50.results.toList
noncomputable def f50 {α : Type} (o : α) (c : Call' α) (n : Nat) (k : AV → Heap → α) (a0 : AV) (h : Heap) : α :=
  eqiF Pq o 49 a0 .nsl fun v1 => ifF o v1 (k .nsl h) (newEF h h.next 6 0 [] fun v2 h => appX Pq o h h.next 49 49 v2 a0 fun v3 h => k v3 h)
theorem f50_ok : R Pq o c n b50 (kend Pq o c n w rs50 k) = fun t _ h => f50 o c n k (t 0) h := by kernel_rfl
theorem f50_good : Good Pq (cfg mm) 50 (entF Pq (cfg mm) 50 1 fun α => f50) := entG b50 rs50 8 fun _ => f50_ok
noncomputable def b52 := bdy Tryz.f52
noncomputable def rs52 := Tryz.f52.results.toList
noncomputable def f52_5 {α : Type} (o : α) (c : Call' α) (n : Nat) (k : AV → Heap → α) (m : Nat) : AVs (Heap → α) 6 :=
  Nat.rec (motive := fun _ => AVs (Heap → α) 6) (fun _ _ _ _ _ _ _ => o) (fun _ lp0 s1 s2 s3 s5 s22 s23 h => lssF Pq o 3 s23 s22 fun v1 => ifF o v1 (dreg o h 9 fun base h => load1F o (h.look 0) s2 fun v2 => faF o 5 s3 fun v3 => rootF o v3 s3 <| load1F o (h.look 2) v3 fun v4 => slF Pq o 55 v4 (some s5) none fun v5 => callD o c (hidD false [(.fn (.func 54) [] []), v5] [] (sBlk s2 [])) 54 [v5] (h.look 0) fun v6 h => pnF v6 (fun x => hb h.shut fun hd => k x.pn hd) <| cfF o v2 [v6, s23] (callD o c []) (h.look 0) fun v7 h => pnF v7 (fun x => hb h.shut fun hd => k x.pn hd) <| hb h.shut fun h => eqiF Pq o 55 v7 .nsl fun v8 => ifF o v8 (addF Pq o 3 s23 (.i .i64 1) fun v9 => lp0 s1 s2 s3 s5 s22 v9 h) (loadNF o h 8 s3 fun v10 => newF h h.next 8 [(.i .i64 0), (.i .i32 0), (.s 0 0), (.s 0 0), (.s 0 0), .nsl, (.s 0 0), (.i .i64 0)] fun v11 h => storeF o h 8 v11 v10 fun h => faF o 5 s3 fun v12 => load1F o h v12 fun v13 => slF Pq o 55 v13 none (some s5) fun v14 => fil1 o 1 2 0 v14 [[.nsl], [.nsl]] fun v15 => fil1 o 1 2 1 v7 v15 fun v16 => newEF h h.next 1 2 v16 fun v17 h => c 55 [v17] h fun v18 h => pk k v18 h <| faF o 5 v11 fun v19 => storeF o h 1 v19 v18 fun h => loadNF o h 8 v11 fun v20 => cfF o s1 [v20] c h fun v21 h => pk k v21 h <| addF Pq o 3 s23 (.i .i64 1) fun v22 => lp0 s1 s2 s3 s5 s22 v22 h)) (k (.tup []) h)) m
theorem f52_5_ok : R Pq o c n (cA (cB (cB (cB (cB b52))))) (blockK (cI (cB (cB (cB (cB b52))))) (kend Pq o c n w rs52 k)) = fun t _ h => f52_5 o c n k n (t 1) (t 2) (t 3) (t 5) (t 22) (t 23) h :=
  c_loop (F := fun m t _ h => f52_5 o c n k m (t 1) (t 2) (t 3) (t 5) (t 22) (t 23) h) (by kernel_rfl) (by kernel_rfl) fun m => by kernel_rfl
noncomputable def f52_4 (s1 s2 s3 s5 s22 s23 : AV) (h : Heap) : α :=
  f52_5 o c n k n s1 s2 s3 s5 s22 s23 h
theorem f52_4_ok : R Pq o c n (cB (cB (cB (cB b52)))) (kend Pq o c n w rs52 k) = fun t _ h => f52_4 o c n k (t 1) (t 2) (t 3) (t 5) (t 22) (t 23) h := (kblk (f52_5_ok o c n k w)).tk
noncomputable def f52_3 (s1 s2 s3 s5 : AV) (h : Heap) : α :=
  faF o 5 s3 fun v23 => load1F o h v23 fun v24 => slF Pq o 55 v24 (some s5) none fun v25 => lenF o v25 fun v26 => f52_4 o c n k s1 s2 s3 s5 v26 (.i .i64 0) h
theorem f52_3_ok : R Pq o c n (cB (cB (cB b52))) (kend Pq o c n w rs52 k) = fun t _ h => f52_3 o c n k (t 1) (t 2) (t 3) (t 5) h := (kseq (f52_4_ok o c n k w) rfl).tk
noncomputable def f52_2 (s1 s2 s3 s5 s6 : AV) (h : Heap) : α :=
  notF o s6 fun v27 => ifF o v27 (k (.tup []) h) (f52_3 o c n k s1 s2 s3 s5 h)
theorem f52_2_ok : R Pq o c n (cB (cB b52)) (kend Pq o c n w rs52 k) = fun t _ h => f52_2 o c n k (t 1) (t 2) (t 3) (t 5) (t 6) h := (kseq (f52_3_ok o c n k w) rfl).tk
noncomputable def f52_1 (s1 s2 s3 : AV) (h : Heap) : α :=
  loadNF o h 8 s3 fun v28 => c 53 [v28] h fun v29 h => pk k v29 h <| assertA Pq o v29 3 true fun v30 => exF o v30 0 fun v31 => exF o v30 1 fun v32 => f52_2 o c n k s1 s2 s3 v31 v32 h
theorem f52_1_ok : R Pq o c n (cB b52) (kend Pq o c n w rs52 k) = fun t _ h => f52_1 o c n k (t 1) (t 2) (t 3) h := (kseq (f52_2_ok o c n k w) rfl).tk
noncomputable def f52 (a0 a1 a2 : AV) (h : Heap) : α :=
  boxF o a0 h h.next fun v33 h => f52_1 o c n k a1 a2 v33 h
theorem f52_ok : R Pq o c n b52 (kend Pq o c n w rs52 k) = fun t _ h => f52 o c n k (t 0) (t 1) (t 2) h := (kseq (f52_1_ok o c n k w) rfl).tk
theorem f52_good : Good Pq (cfg mm) 52 (entF Pq (cfg mm) 52 3 fun α => f52) := entG b52 rs52 49 fun _ => f52_ok
noncomputable def b54 := bdy Tryz.f54
noncomputable def rs54 := Tryz.f54.results.toList
noncomputable def f54 {α : Type} (o : α) (c : Call' α) (n : Nat) (k : AV → Heap → α) (a0 : AV) (h : Heap) : α :=
  eqiF Pq o 55 a0 .nsl fun v1 => ifF o v1 (k .nsl h) (newEF h h.next 8 0 [] fun v2 h => appX Pq o h h.next 55 55 v2 a0 fun v3 h => k v3 h)
theorem f54_ok : R Pq o c n b54 (kend Pq o c n w rs54 k) = fun t _ h => f54 o c n k (t 0) h := by kernel_rfl
theorem f54_good : Good Pq (cfg mm) 54 (entF Pq (cfg mm) 54 1 fun α => f54) := entG b54 rs54 8 fun _ => f54_ok
noncomputable def b65 := bdy Tryz.f65
noncomputable def rs65 := Tryz.f65.results.toList
noncomputable def f65 {α : Type} (o : α) (c : Call' α) (n : Nat) (k : AV → Heap → α) (a0 : AV) (h : Heap) : α :=
  eqiF Pq o 48 a0 .nsl fun v1 => ifF o v1 (k .nsl h) (newEF h h.next 4 0 [] fun v2 h => appX Pq o h h.next 48 48 v2 a0 fun v3 h => k v3 h)
theorem f65_ok : R Pq o c n b65 (kend Pq o c n w rs65 k) = fun t _ h => f65 o c n k (t 0) h := by kernel_rfl
theorem f65_good : Good Pq (cfg mm) 65 (entF Pq (cfg mm) 65 1 fun α => f65) := entG b65 rs65 8 fun _ => f65_ok
noncomputable def b67 := bdy Tryz.f67
noncomputable def rs67 := Tryz.f67.results.toList
noncomputable def f67 {α : Type} (o : α) (c : Call' α) (n : Nat) (k : AV → Heap → α) (a0 : AV) (h : Heap) : α :=
  eqiF Pq o 60 a0 .nsl fun v1 => ifF o v1 (k .nsl h) (newEF h h.next 2 0 [] fun v2 h => appX Pq o h h.next 60 60 v2 a0 fun v3 h => k v3 h)
theorem f67_ok : R Pq o c n b67 (kend Pq o c n w rs67 k) = fun t _ h => f67 o c n k (t 0) h := by kernel_rfl
theorem f67_good : Good Pq (cfg mm) 67 (entF Pq (cfg mm) 67 1 fun α => f67) := entG b67 rs67 8 fun _ => f67_ok
noncomputable def b69 := bdy Tryz.f69
noncomputable def rs69 := Tryz.f69.results.toList
noncomputable def f69_2K : Ex → K α := (nxK (R Pq o c n (cB (cB b69)) (kend Pq o c n w rs69 k)) (kend Pq o c n w rs69 k))
noncomputable def f69_1 {α : Type} (o : α) (c : Call' α) (n : Nat) (k : AV → Heap → α) (s1 s2 : AV) (h : Heap) : α :=
  c 117 [s1] h fun v1 h => pk k v1 h <| bkF o false v1 (loadNF o h 1 s2 fun v2 => c 118 [v2, s1] h fun v3 h => pk k v3 h <| geqF Pq o 3 v3 (.i .i64 0) fun v4 => pickF o v1 (.b true) v4 fun v5 => k v5 h) (pickF o v1 (.b true) (.tup []) fun v6 => k v6 h)
theorem f69_1_ok : R Pq o c n (cB b69) (kend Pq o c n w rs69 k) = fun t _ h => f69_1 o c n k (t 1) (t 2) h := (kseq rfl (r_start 3 (by kernel_rfl) (q_guard 3 7 (2, false) (by kernel_rfl) (by kernel_rfl) (by kernel_rfl) rfl))).tk
noncomputable def f69 (a0 a1 : AV) (h : Heap) : α :=
  boxF o a0 h h.next fun v7 h => f69_1 o c n k a1 v7 h
theorem f69_ok : R Pq o c n b69 (kend Pq o c n w rs69 k) = fun t _ h => f69 o c n k (t 0) (t 1) h := (kseq (f69_1_ok o c n k w) rfl).tk
theorem f69_good : Good Pq (cfg mm) 69 (entF Pq (cfg mm) 69 2 fun α => f69) := entG b69 rs69 13 fun _ => f69_ok
noncomputable def b76 := bdy Tryz.f76
noncomputable def rs76 := Tryz.f76.results.toList
noncomputable def f76_2K : Ex → K α := (nxK (R Pq o c n (cB (cB b76)) (kend Pq o c n w rs76 k)) (kend Pq o c n w rs76 k))
noncomputable def f76_4 {α : Type} (o : α) (c : Call' α) (n : Nat) (k : AV → Heap → α) (m : Nat) : AVs (Heap → α) 2 :=
  Nat.rec (motive := fun _ => AVs (Heap → α) 2) (fun _ _ _ => o) (fun _ lp0 s0 s3 h => lensF o s0 fun v1 => lssF Pq o 3 s3 v1 fun v2 => ifF o v2 (c 132 [s0, s3] h fun v3 h => pk k v3 h <| newF h h.next 3 [(.i .i32 0), (.i .i64 0), (.b false)] fun v4 h => storeF o h 3 v4 v3 fun h => faF o 2 v4 fun v5 => load1F o h v5 fun v6 => ifF o v6 (k s3 h) (faF o 1 v4 fun v7 => load1F o h v7 fun v8 => addF Pq o 3 s3 v8 fun v9 => lp0 s0 v9 h)) (k (.i .i64 (-1)) h)) m
theorem f76_4_ok : R Pq o c n (cA (cB (cA (cB b76)))) (blockK (cI (cB (cA (cB b76)))) (f76_2K o c n k w)) = fun t _ h => f76_4 o c n k n (t 0) (t 3) h :=
  c_loop (F := fun m t _ h => f76_4 o c n k m (t 0) (t 3) h) (by kernel_rfl) (by kernel_rfl) fun m => by kernel_rfl
noncomputable def f76_3 (s0 s3 : AV) (h : Heap) : α :=
  f76_4 o c n k n s0 s3 h
theorem f76_3_ok : R Pq o c n (cB (cA (cB b76))) (f76_2K o c n k w) = fun t _ h => f76_3 o c n k (t 0) (t 3) h := (kblk (f76_4_ok o c n k w)).tk
noncomputable def f76_1 (s0 : AV) (h : Heap) : α :=
  f76_3 o c n k s0 (.i .i64 0) h
theorem f76_1_ok : R Pq o c n (cB b76) (kend Pq o c n w rs76 k) = fun t _ h => f76_1 o c n k (t 0) h := (kseq rfl (kseq (f76_3_ok o c n k w) rfl)).tk
noncomputable def f76 (a0 : AV) (h : Heap) : α :=
  f76_1 o c n k a0 h
theorem f76_ok : R Pq o c n b76 (kend Pq o c n w rs76 k) = fun t _ h => f76 o c n k (t 0) h := (kseq (f76_1_ok o c n k w) rfl).tk
theorem f76_good : Good Pq (cfg mm) 76 (entF Pq (cfg mm) 76 1 fun α => f76) := entG b76 rs76 19 fun _ => f76_ok
noncomputable def b77 := bdy Tryz.f77
noncomputable def rs77 := Tryz.f77.results.toList
noncomputable def f77_5 {α : Type} (o : α) (c : Call' α) (n : Nat) (k : AV → Heap → α) (s0 s1 s4 : AV) (h : Heap) : α :=
  fil1 o 1 17 0 (.s 1 123) (lrep [(.s 0 0)] 17) fun v1 => fil1 o 1 17 1 (.s 1 125) v1 fun v2 => fil1 o 1 17 2 (.s 1 40) v2 fun v3 => fil1 o 1 17 3 (.s 1 41) v3 fun v4 => fil1 o 1 17 4 (.s 1 59) v4 fun v5 => fil1 o 1 17 5 (.s 1 44) v5 fun v6 => fil1 o 1 17 6 (.s 1 46) v6 fun v7 => fil1 o 1 17 7 (.s 1 61) v7 fun v8 => fil1 o 1 17 8 (.s 1 60) v8 fun v9 => fil1 o 1 17 9 (.s 1 43) v9 fun v10 => fil1 o 1 17 10 (.s 1 45) v10 fun v11 => fil1 o 1 17 11 (.s 1 42) v11 fun v12 => fil1 o 1 17 12 (.s 1 47) v12 fun v13 => fil1 o 1 17 13 (.s 1 37) v13 fun v14 => fil1 o 1 17 14 (.s 1 33) v14 fun v15 => fil1 o 1 17 15 (.s 1 35) v15 fun v16 => fil1 o 1 17 16 (.s 1 64) v16 fun v17 => newEF h h.next 1 17 v17 fun v18 h => addF Pq o 3 s1 (.i .i64 1) fun v19 => ssF Pq o 9 s0 (some s1) (some v19) fun v20 => c 137 [v18, v20] h fun v21 h => pk k v21 h <| ifF o v21 (addF Pq o 3 s1 (.i .i64 1) fun v22 => ssF Pq o 9 s0 (some s1) (some v22) fun v23 => layF o 0 (.i .i64 4) [(.i .i64 0), (.s 0 0), (.i .i64 0)] fun v24 => layF o 1 v23 v24 fun v25 => layF o 2 s1 v25 fun v26 => storeF o h 3 s4 (.agg v26) fun h => on o (resV Pq h [(s4, some 126), ((.i .i64 1), none)]) fun v => k v h) (storeF o h 3 s4 (.agg [(.i .i64 0), (.s 0 0), (.i .i64 0)]) fun h => on o (resV Pq h [(s4, some 126), ((.i .i64 0), none)]) fun v => k v h)
theorem f77_5_ok : R Pq o c n (cB (cB (cB (cB (cB b77))))) (kend Pq o c n w rs77 k) = fun t _ h => f77_5 o c n k (t 0) (t 1) (t 4) h := by kernel_rfl
noncomputable def f77_6K : Ex → K α := (nxK (fun t _ h => f77_5 o c n k (t 0) (t 1) (t 4) h) (kend Pq o c n w rs77 k))
noncomputable def f77_7 (s0 s1 s4 s160 : AV) (h : Heap) : α :=
  ifF o s160 (addF Pq o 3 s1 (.i .i64 2) fun v27 => ssF Pq o 9 s0 (some s1) (some v27) fun v28 => layF o 0 (.i .i64 4) [(.i .i64 0), (.s 0 0), (.i .i64 0)] fun v29 => layF o 1 v28 v29 fun v30 => layF o 2 s1 v30 fun v31 => storeF o h 3 s4 (.agg v31) fun h => on o (resV Pq h [(s4, some 126), ((.i .i64 2), none)]) fun v => k v h) (f77_5 o c n k s0 s1 s4 h)
theorem f77_7_ok : R Pq o c n (cB (cA (cB (cB (cB (cB b77)))))) (f77_6K o c n k w) = fun t _ h => f77_7 o c n k (t 0) (t 1) (t 4) (t 160) h := by kernel_rfl
noncomputable def f77_8K : Ex → K α := (nxK (fun t _ h => f77_7 o c n k (t 0) (t 1) (t 4) (t 160) h) (f77_6K o c n k w))
noncomputable def f77_4 (s0 s1 s4 : AV) (h : Heap) : α :=
  addF Pq o 3 s1 (.i .i64 2) fun v32 => lensF o s0 fun v33 => leqF Pq o 3 v32 v33 fun v34 => bkF o true v34 (fil1 o 1 6 0 (.s 2 14906) (lrep [(.s 0 0)] 6) fun v35 => fil1 o 1 6 1 (.s 2 15676) v35 fun v36 => fil1 o 1 6 2 (.s 2 15677) v36 fun v37 => fil1 o 1 6 3 (.s 2 15649) v37 fun v38 => fil1 o 1 6 4 (.s 2 9766) v38 fun v39 => fil1 o 1 6 5 (.s 2 31868) v39 fun v40 => newEF h h.next 1 6 v40 fun v41 h => addF Pq o 3 s1 (.i .i64 2) fun v42 => ssF Pq o 9 s0 (some s1) (some v42) fun v43 => c 137 [v41, v43] h fun v44 h => pk k v44 h <| pickF o v34 v44 (.b false) fun v45 => f77_7 o c n k s0 s1 s4 v45 h) (pickF o v34 (.tup []) (.b false) fun v46 => f77_7 o c n k s0 s1 s4 v46 h)
theorem f77_4_ok : R Pq o c n (cB (cB (cB (cB b77)))) (kend Pq o c n w rs77 k) = fun t _ h => f77_4 o c n k (t 0) (t 1) (t 4) h := (kseq (f77_5_ok o c n k w) (kseq (f77_7_ok o c n k w) (r_start 6 (by kernel_rfl) (q_guard 6 13 (5, true) (by kernel_rfl) (by kernel_rfl) (by kernel_rfl) rfl)))).tk
noncomputable def f77_9K : Ex → K α := (nxK (fun t _ h => f77_4 o c n k (t 0) (t 1) (t 4) h) (kend Pq o c n w rs77 k))
noncomputable def f77_12K : Ex → K α := (nxK (R Pq o c n (cB (cA (cB (cB (cB (cA (cA (cB (cB (cB b77)))))))))) (blockK (cI (cA (cB (cB (cB b77))))) (f77_9K o c n k w))) (blockK (cI (cA (cB (cB (cB b77))))) (f77_9K o c n k w)))
noncomputable def f77_14K (lp0 : AVs (Heap → α) 4) : Ex → K α := (nxK (fun t _ h => lp0 (t 0) (t 1) (t 4) (t 7) h) (blockK (cI (cA (cA (cB (cB (cB (cA (cA (cB (cB (cB b77))))))))))) (f77_12K o c n k w)))
noncomputable def f77_15 {α : Type} (o : α) (c : Call' α) (n : Nat) (k : AV → Heap → α) (lp0 : AVs (Heap → α) 4) (s0 s1 s4 s7 : AV) (h : Heap) : α :=
  addF Pq o 3 s7 (.i .i64 1) fun v47 => lp0 s0 s1 s4 v47 h
theorem f77_15_ok (lp0 : AVs (Heap → α) 4) : R Pq o c n (cB (cA (cA (cA (cA (cB (cB (cB (cA (cA (cB (cB (cB b77))))))))))))) (f77_14K o c n k w lp0) = fun t _ h => f77_15 o c n k lp0 (t 0) (t 1) (t 4) (t 7) h := by kernel_rfl
noncomputable def f77_16K (lp0 : AVs (Heap → α) 4) : Ex → K α := (nxK (fun t _ h => f77_15 o c n k lp0 (t 0) (t 1) (t 4) (t 7) h) (f77_14K o c n k w lp0))
noncomputable def f77_17K (lp0 : AVs (Heap → α) 4) : Ex → K α := (nxK (R Pq o c n (cB (cA (cA (cA (cA (cA (cB (cB (cB (cA (cA (cB (cB (cB b77)))))))))))))) (f77_16K o c n k w lp0)) (f77_16K o c n k w lp0))
noncomputable def f77_13 (m : Nat) : AVs (Heap → α) 4 :=
  Nat.rec (motive := fun _ => AVs (Heap → α) 4) (fun _ _ _ _ _ => o) (fun _ lp0 s0 s1 s4 s7 h => addF Pq o 3 s1 s7 fun v48 => lensF o s0 fun v49 => lssF Pq o 3 v48 v49 fun v50 => bkF o true v50 (addF Pq o 3 s1 s7 fun v51 => sxF o s0 v51 fun v52 => neiF Pq o 5 v52 (.i .u8 10) fun v53 => pickF o v50 v53 (.b false) fun v54 => ifF o v54 (f77_15 o c n k lp0 s0 s1 s4 s7 h) (storeF o h 3 s4 (.agg [(.i .i64 0), (.s 0 0), (.i .i64 0)]) fun h => on o (resV Pq h [(s4, some 126), (s7, none)]) fun v => k v h)) (pickF o v50 (.tup []) (.b false) fun v55 => ifF o v55 (f77_15 o c n k lp0 s0 s1 s4 s7 h) (storeF o h 3 s4 (.agg [(.i .i64 0), (.s 0 0), (.i .i64 0)]) fun h => on o (resV Pq h [(s4, some 126), (s7, none)]) fun v => k v h))) m
theorem f77_13_ok : R Pq o c n (cA (cA (cA (cB (cB (cB (cA (cA (cB (cB (cB b77))))))))))) (blockK (cI (cA (cA (cB (cB (cB (cA (cA (cB (cB (cB b77))))))))))) (f77_12K o c n k w)) = fun t _ h => f77_13 o c n k n (t 0) (t 1) (t 4) (t 7) h :=
  c_loop (F := fun m t _ h => f77_13 o c n k m (t 0) (t 1) (t 4) (t 7) h) (by kernel_rfl) (by kernel_rfl) fun m => (kseq (f77_15_ok o c n k w (f77_13 o c n k m)) (kseq rfl (r_start 7 (by kernel_rfl) (q_guard 7 13 (6, true) (by kernel_rfl) (by kernel_rfl) (by kernel_rfl) rfl)))).tk
noncomputable def f77_19K : Ex → K α := (nxK (R Pq o c n (cB (cA (cB (cB (cB (cB (cB (cA (cA (cB (cB (cB b77)))))))))))) (blockK (cI (cA (cB (cB (cB b77))))) (f77_9K o c n k w))) (blockK (cI (cA (cB (cB (cB b77))))) (f77_9K o c n k w)))
noncomputable def f77_21K (lp0 : AVs (Heap → α) 4) : Ex → K α := (nxK (fun t _ h => lp0 (t 0) (t 1) (t 4) (t 7) h) (blockK (cI (cA (cA (cB (cB (cB (cB (cB (cA (cA (cB (cB (cB b77))))))))))))) (f77_19K o c n k w)))
noncomputable def f77_22 {α : Type} (o : α) (c : Call' α) (n : Nat) (k : AV → Heap → α) (lp0 : AVs (Heap → α) 4) (s0 s1 s4 s7 : AV) (h : Heap) : α :=
  addF Pq o 3 s7 (.i .i64 1) fun v56 => lp0 s0 s1 s4 v56 h
theorem f77_22_ok (lp0 : AVs (Heap → α) 4) : R Pq o c n (cB (cA (cA (cA (cA (cB (cB (cB (cB (cB (cA (cA (cB (cB (cB b77))))))))))))))) (f77_21K o c n k w lp0) = fun t _ h => f77_22 o c n k lp0 (t 0) (t 1) (t 4) (t 7) h := by kernel_rfl
noncomputable def f77_23K (lp0 : AVs (Heap → α) 4) : Ex → K α := (nxK (fun t _ h => f77_22 o c n k lp0 (t 0) (t 1) (t 4) (t 7) h) (f77_21K o c n k w lp0))
noncomputable def f77_24K (lp0 : AVs (Heap → α) 4) : Ex → K α := (nxK (R Pq o c n (cB (cA (cA (cA (cA (cA (cB (cB (cB (cB (cB (cA (cA (cB (cB (cB b77)))))))))))))))) (f77_23K o c n k w lp0)) (f77_23K o c n k w lp0))
noncomputable def f77_20 (m : Nat) : AVs (Heap → α) 4 :=
  Nat.rec (motive := fun _ => AVs (Heap → α) 4) (fun _ _ _ _ _ => o) (fun _ lp0 s0 s1 s4 s7 h => addF Pq o 3 s1 s7 fun v57 => lensF o s0 fun v58 => lssF Pq o 3 v57 v58 fun v59 => bkF o true v59 (addF Pq o 3 s1 s7 fun v60 => sxF o s0 v60 fun v61 => convA Pq o 5 21 v61 fun v62 => c 133 [v62] h fun v63 h => pk k v63 h <| pickF o v59 v63 (.b false) fun v64 => ifF o v64 (f77_22 o c n k lp0 s0 s1 s4 s7 h) (addF Pq o 3 s1 s7 fun v65 => ssF Pq o 9 s0 (some s1) (some v65) fun v66 => layF o 0 (.i .i64 2) [(.i .i64 0), (.s 0 0), (.i .i64 0)] fun v67 => layF o 1 v66 v67 fun v68 => layF o 2 s1 v68 fun v69 => storeF o h 3 s4 (.agg v69) fun h => on o (resV Pq h [(s4, some 126), (s7, none)]) fun v => k v h)) (pickF o v59 (.tup []) (.b false) fun v70 => ifF o v70 (f77_22 o c n k lp0 s0 s1 s4 s7 h) (addF Pq o 3 s1 s7 fun v71 => ssF Pq o 9 s0 (some s1) (some v71) fun v72 => layF o 0 (.i .i64 2) [(.i .i64 0), (.s 0 0), (.i .i64 0)] fun v73 => layF o 1 v72 v73 fun v74 => layF o 2 s1 v74 fun v75 => storeF o h 3 s4 (.agg v75) fun h => on o (resV Pq h [(s4, some 126), (s7, none)]) fun v => k v h))) m
theorem f77_20_ok : R Pq o c n (cA (cA (cA (cB (cB (cB (cB (cB (cA (cA (cB (cB (cB b77))))))))))))) (blockK (cI (cA (cA (cB (cB (cB (cB (cB (cA (cA (cB (cB (cB b77))))))))))))) (f77_19K o c n k w)) = fun t _ h => f77_20 o c n k n (t 0) (t 1) (t 4) (t 7) h :=
  c_loop (F := fun m t _ h => f77_20 o c n k m (t 0) (t 1) (t 4) (t 7) h) (by kernel_rfl) (by kernel_rfl) fun m => (kseq (f77_22_ok o c n k w (f77_20 o c n k m)) (kseq rfl (r_start 7 (by kernel_rfl) (q_guard 7 14 (6, true) (by kernel_rfl) (by kernel_rfl) (by kernel_rfl) rfl)))).tk
noncomputable def f77_26K : Ex → K α := (nxK (R Pq o c n (cB (cA (cB (cB (cB (cB (cB (cB (cB (cA (cA (cB (cB (cB b77)))))))))))))) (blockK (cI (cA (cB (cB (cB b77))))) (f77_9K o c n k w))) (blockK (cI (cA (cB (cB (cB b77))))) (f77_9K o c n k w)))
noncomputable def f77_28K (lp0 : AVs (Heap → α) 4) : Ex → K α := (nxK (fun t _ h => lp0 (t 0) (t 1) (t 4) (t 7) h) (blockK (cI (cA (cA (cB (cB (cB (cB (cB (cB (cB (cA (cA (cB (cB (cB b77))))))))))))))) (f77_26K o c n k w)))
noncomputable def f77_29 {α : Type} (o : α) (c : Call' α) (n : Nat) (k : AV → Heap → α) (lp0 : AVs (Heap → α) 4) (s0 s1 s4 s7 : AV) (h : Heap) : α :=
  addF Pq o 3 s7 (.i .i64 1) fun v76 => lp0 s0 s1 s4 v76 h
theorem f77_29_ok (lp0 : AVs (Heap → α) 4) : R Pq o c n (cB (cA (cA (cA (cA (cB (cB (cB (cB (cB (cB (cB (cA (cA (cB (cB (cB b77))))))))))))))))) (f77_28K o c n k w lp0) = fun t _ h => f77_29 o c n k lp0 (t 0) (t 1) (t 4) (t 7) h := by kernel_rfl
noncomputable def f77_30K (lp0 : AVs (Heap → α) 4) : Ex → K α := (nxK (fun t _ h => f77_29 o c n k lp0 (t 0) (t 1) (t 4) (t 7) h) (f77_28K o c n k w lp0))
noncomputable def f77_31K (lp0 : AVs (Heap → α) 4) : Ex → K α := (nxK (R Pq o c n (cB (cA (cA (cA (cA (cA (cB (cB (cB (cB (cB (cB (cB (cA (cA (cB (cB (cB b77)))))))))))))))))) (f77_30K o c n k w lp0)) (f77_30K o c n k w lp0))
noncomputable def f77_27 (m : Nat) : AVs (Heap → α) 4 :=
  Nat.rec (motive := fun _ => AVs (Heap → α) 4) (fun _ _ _ _ _ => o) (fun _ lp0 s0 s1 s4 s7 h => addF Pq o 3 s1 s7 fun v77 => lensF o s0 fun v78 => lssF Pq o 3 v77 v78 fun v79 => bkF o true v79 (addF Pq o 3 s1 s7 fun v80 => sxF o s0 v80 fun v81 => c 134 [v81] h fun v82 h => pk k v82 h <| pickF o v79 v82 (.b false) fun v83 => ifF o v83 (f77_29 o c n k lp0 s0 s1 s4 s7 h) (addF Pq o 3 s1 s7 fun v84 => ssF Pq o 9 s0 (some s1) (some v84) fun v85 => layF o 0 (.i .i64 1) [(.i .i64 0), (.s 0 0), (.i .i64 0)] fun v86 => layF o 1 v85 v86 fun v87 => layF o 2 s1 v87 fun v88 => storeF o h 3 s4 (.agg v88) fun h => on o (resV Pq h [(s4, some 126), (s7, none)]) fun v => k v h)) (pickF o v79 (.tup []) (.b false) fun v89 => ifF o v89 (f77_29 o c n k lp0 s0 s1 s4 s7 h) (addF Pq o 3 s1 s7 fun v90 => ssF Pq o 9 s0 (some s1) (some v90) fun v91 => layF o 0 (.i .i64 1) [(.i .i64 0), (.s 0 0), (.i .i64 0)] fun v92 => layF o 1 v91 v92 fun v93 => layF o 2 s1 v93 fun v94 => storeF o h 3 s4 (.agg v94) fun h => on o (resV Pq h [(s4, some 126), (s7, none)]) fun v => k v h))) m
theorem f77_27_ok : R Pq o c n (cA (cA (cA (cB (cB (cB (cB (cB (cB (cB (cA (cA (cB (cB (cB b77))))))))))))))) (blockK (cI (cA (cA (cB (cB (cB (cB (cB (cB (cB (cA (cA (cB (cB (cB b77))))))))))))))) (f77_26K o c n k w)) = fun t _ h => f77_27 o c n k n (t 0) (t 1) (t 4) (t 7) h :=
  c_loop (F := fun m t _ h => f77_27 o c n k m (t 0) (t 1) (t 4) (t 7) h) (by kernel_rfl) (by kernel_rfl) fun m => (kseq (f77_29_ok o c n k w (f77_27 o c n k m)) (kseq rfl (r_start 7 (by kernel_rfl) (q_guard 7 13 (6, true) (by kernel_rfl) (by kernel_rfl) (by kernel_rfl) rfl)))).tk
noncomputable def f77_25 (s0 s1 s4 s6 s7 s94 : AV) (h : Heap) : α :=
  ifF o s94 (f77_27 o c n k n s0 s1 s4 s7 h) (eqiF Pq o 5 s6 (.i .u8 34) fun v95 => ifF o v95 (c 135 [s0, s1] h fun v96 h => pk k v96 h <| eqiF Pq o 3 v96 (.i .i64 0) fun v97 => ifF o v97 (storeF o h 3 s4 (.agg [(.i .i64 0), (.s 0 0), (.i .i64 0)]) fun h => on o (resV Pq h [(s4, some 126), ((.i .i64 0), none)]) fun v => k v h) (addF Pq o 3 s1 (.i .i64 1) fun v98 => addF Pq o 3 s1 v96 fun v99 => binA Pq o .sub 3 v99 (.i .i64 1) fun v100 => ssF Pq o 9 s0 (some v98) (some v100) fun v101 => c 136 [v101] h fun v102 h => pk k v102 h <| exF o v102 0 fun v103 => exF o v102 1 fun v104 => layF o 0 (.i .i64 3) [(.i .i64 0), (.s 0 0), (.i .i64 0)] fun v105 => layF o 1 v103 v105 fun v106 => layF o 2 s1 v106 fun v107 => storeF o h 3 s4 (.agg v107) fun h => on o (resV Pq h [(s4, some 126), (v96, none)]) fun v => k v h)) (f77_4 o c n k s0 s1 s4 h))
theorem f77_25_ok : R Pq o c n (cB (cB (cB (cB (cB (cB (cB (cA (cA (cB (cB (cB b77)))))))))))) (blockK (cI (cA (cB (cB (cB b77))))) (f77_9K o c n k w)) = fun t _ h => f77_25 o c n k (t 0) (t 1) (t 4) (t 6) (t 7) (t 94) h := (c_cond (by kernel_rfl) (kseq rfl (kblk (f77_27_ok o c n k w))) rfl).tk
noncomputable def f77_18 (s0 s1 s4 s6 s7 s64 : AV) (h : Heap) : α :=
  ifF o s64 (f77_20 o c n k n s0 s1 s4 s7 h) (c 134 [s6] h fun v108 h => pk k v108 h <| f77_25 o c n k s0 s1 s4 s6 s7 v108 h)
theorem f77_18_ok : R Pq o c n (cB (cB (cB (cB (cB (cA (cA (cB (cB (cB b77)))))))))) (blockK (cI (cA (cB (cB (cB b77))))) (f77_9K o c n k w)) = fun t _ h => f77_18 o c n k (t 0) (t 1) (t 4) (t 6) (t 7) (t 64) h := (c_cond (by kernel_rfl) (kseq rfl (kblk (f77_20_ok o c n k w))) (kseq (f77_25_ok o c n k w) rfl)).tk
noncomputable def f77_11 (s0 s1 s4 s6 s7 s29 : AV) (h : Heap) : α :=
  ifF o s29 (f77_13 o c n k n s0 s1 s4 s7 h) (convA Pq o 5 21 s6 fun v109 => c 133 [v109] h fun v110 h => pk k v110 h <| f77_18 o c n k s0 s1 s4 s6 s7 v110 h)
theorem f77_11_ok : R Pq o c n (cB (cB (cB (cA (cA (cB (cB (cB b77)))))))) (blockK (cI (cA (cB (cB (cB b77))))) (f77_9K o c n k w)) = fun t _ h => f77_11 o c n k (t 0) (t 1) (t 4) (t 6) (t 7) (t 29) h := (c_cond (by kernel_rfl) (kseq rfl (kblk (f77_13_ok o c n k w))) (kseq (f77_18_ok o c n k w) rfl)).tk
noncomputable def f77_32K : Ex → K α := (nxK (fun t _ h => f77_11 o c n k (t 0) (t 1) (t 4) (t 6) (t 7) (t 29) h) (blockK (cI (cA (cB (cB (cB b77))))) (f77_9K o c n k w)))
noncomputable def f77_33 (s0 s1 s4 s6 s7 s32 s37 : AV) (h : Heap) : α :=
  pickF o s32 s37 (.b false) fun v111 => bkF o true v111 (addF Pq o 3 s1 (.i .i64 1) fun v112 => sxF o s0 v112 fun v113 => eqiF Pq o 5 v113 (.i .u8 47) fun v114 => pickF o v111 v114 (.b false) fun v115 => f77_11 o c n k s0 s1 s4 s6 s7 v115 h) (pickF o v111 (.tup []) (.b false) fun v116 => f77_11 o c n k s0 s1 s4 s6 s7 v116 h)
theorem f77_33_ok : Q Pq o c (cO (cA (cB (cB (cA (cA (cB (cB (cB b77))))))))) (f77_32K o c n k w) 8 = fun t _ h => f77_33 o c n k (t 0) (t 1) (t 4) (t 6) (t 7) (t 32) (t 37) h := (q_seg 8 10 (by kernel_rfl) (q_guard 10 15 (9, true) (by kernel_rfl) (by kernel_rfl) (by kernel_rfl) rfl)).tk
noncomputable def f77_10 (s0 s1 s4 s6 s7 s13 : AV) (h : Heap) : α :=
  ifF o s13 (storeF o h 3 s4 (.agg [(.i .i64 0), (.s 0 0), (.i .i64 0)]) fun h => on o (resV Pq h [(s4, some 126), ((.i .i64 1), none)]) fun v => k v h) (eqiF Pq o 5 s6 (.i .u8 47) fun v117 => bkF o true v117 (addF Pq o 3 s1 (.i .i64 1) fun v118 => lensF o s0 fun v119 => lssF Pq o 3 v118 v119 fun v120 => f77_33 o c n k s0 s1 s4 s6 s7 v117 v120 h) (f77_33 o c n k s0 s1 s4 s6 s7 v117 (.tup []) h))
theorem f77_10_ok : R Pq o c n (cB (cA (cA (cB (cB (cB b77)))))) (blockK (cI (cA (cB (cB (cB b77))))) (f77_9K o c n k w)) = fun t _ h => f77_10 o c n k (t 0) (t 1) (t 4) (t 6) (t 7) (t 13) h := (c_cond (by kernel_rfl) rfl (kseq (f77_11_ok o c n k w) (r_start 3 (by kernel_rfl) (q_guard 3 8 (2, true) (by kernel_rfl) (by kernel_rfl) (by kernel_rfl) (f77_33_ok o c n k w))))).tk
noncomputable def f77_34K : Ex → K α := (nxK (fun t _ h => f77_10 o c n k (t 0) (t 1) (t 4) (t 6) (t 7) (t 13) h) (blockK (cI (cA (cB (cB (cB b77))))) (f77_9K o c n k w)))
noncomputable def f77_36 (s0 s1 s4 s6 s7 s20 s22 : AV) (h : Heap) : α :=
  pickF o s20 (.b true) s22 fun v121 => bkF o false v121 (eqiF Pq o 5 s6 (.i .u8 13) fun v122 => pickF o v121 (.b true) v122 fun v123 => f77_10 o c n k s0 s1 s4 s6 s7 v123 h) (pickF o v121 (.b true) (.tup []) fun v124 => f77_10 o c n k s0 s1 s4 s6 s7 v124 h)
theorem f77_36_ok : Q Pq o c (cO (cA (cA (cA (cB (cB (cB b77))))))) (f77_34K o c n k w) 9 = fun t _ h => f77_36 o c n k (t 0) (t 1) (t 4) (t 6) (t 7) (t 20) (t 22) h := (q_seg 9 11 (by kernel_rfl) (q_guard 11 13 (10, false) (by kernel_rfl) (by kernel_rfl) (by kernel_rfl) rfl)).tk
noncomputable def f77_35 (s0 s1 s4 s6 s7 s16 s18 : AV) (h : Heap) : α :=
  pickF o s16 (.b true) s18 fun v125 => bkF o false v125 (eqiF Pq o 5 s6 (.i .u8 10) fun v126 => f77_36 o c n k s0 s1 s4 s6 s7 v125 v126 h) (f77_36 o c n k s0 s1 s4 s6 s7 v125 (.tup []) h)
theorem f77_35_ok : Q Pq o c (cO (cA (cA (cA (cB (cB (cB b77))))))) (f77_34K o c n k w) 5 = fun t _ h => f77_35 o c n k (t 0) (t 1) (t 4) (t 6) (t 7) (t 16) (t 18) h := (q_seg 5 7 (by kernel_rfl) (q_guard 7 9 (6, false) (by kernel_rfl) (by kernel_rfl) (by kernel_rfl) (f77_36_ok o c n k w))).tk
noncomputable def f77_3 (s0 s1 s4 s6 s7 : AV) (h : Heap) : α :=
  eqiF Pq o 5 s6 (.i .u8 32) fun v127 => bkF o false v127 (eqiF Pq o 5 s6 (.i .u8 9) fun v128 => f77_35 o c n k s0 s1 s4 s6 s7 v127 v128 h) (f77_35 o c n k s0 s1 s4 s6 s7 v127 (.tup []) h)
theorem f77_3_ok : R Pq o c n (cB (cB (cB b77))) (kend Pq o c n w rs77 k) = fun t _ h => f77_3 o c n k (t 0) (t 1) (t 4) (t 6) (t 7) h := (kseq (f77_4_ok o c n k w) (kblk (kseq (f77_10_ok o c n k w) (r_start 3 (by kernel_rfl) (q_guard 3 5 (2, false) (by kernel_rfl) (by kernel_rfl) (by kernel_rfl) (f77_35_ok o c n k w)))))).tk
noncomputable def f77_2 (s0 s1 s4 s6 : AV) (h : Heap) : α :=
  f77_3 o c n k s0 s1 s4 s6 (.i .i64 1) h
theorem f77_2_ok : R Pq o c n (cB (cB b77)) (kend Pq o c n w rs77 k) = fun t _ h => f77_2 o c n k (t 0) (t 1) (t 4) (t 6) h := (kseq (f77_3_ok o c n k w) rfl).tk
noncomputable def f77_1 (s0 s1 s4 : AV) (h : Heap) : α :=
  sxF o s0 s1 fun v129 => f77_2 o c n k s0 s1 s4 v129 h
theorem f77_1_ok : R Pq o c n (cB b77) (kend Pq o c n w rs77 k) = fun t _ h => f77_1 o c n k (t 0) (t 1) (t 4) h := (kseq (f77_2_ok o c n k w) rfl).tk
noncomputable def f77 (a0 a1 : AV) (h : Heap) : α :=
  newF h h.next 3 [(.i .i64 0), (.s 0 0), (.i .i64 0)] fun v130 h => f77_1 o c n k a0 a1 v130 h
theorem f77_ok : R Pq o c n b77 (kend Pq o c n w rs77 k) = fun t _ h => f77 o c n k (t 0) (t 1) h := (kseq (f77_1_ok o c n k w) rfl).tk
theorem f77_good : Good Pq (cfg mm) 77 (entF Pq (cfg mm) 77 2 fun α => f77) := entG b77 rs77 183 fun _ => f77_ok
noncomputable def b80 := bdy Tryz.f80
noncomputable def rs80 := Tryz.f80.results.toList
noncomputable def f80 {α : Type} (o : α) (c : Call' α) (n : Nat) (k : AV → Heap → α) (a0 : AV) (h : Heap) : α :=
  dreg o h 12 fun base h => nilChk o a0 fun v1 => faF o 0 v1 fun v2 => rootF o v2 a0 <| load1F o (h.look 7) v2 fun v3 => nilChk o a0 fun v4 => faF o 2 v4 fun v5 => rootF o v5 a0 <| load1F o (h.look 112) v5 fun v6 => ixF o 3 v3 v6 fun v7 => faF o 1 v7 fun v8 => load1F o (h.look 1023) v8 fun v9 => hb h.shut fun h => lensF o v9 fun v10 => gtrF Pq o 3 v10 (.i .i64 20) fun v11 => ifF o v11 (c 78 [a0, (.i .i64 5)] h fun v12 h => pk k v12 h <| k (.s 0 0) h) (nilChk o a0 fun v13 => faF o 2 v13 fun v14 => load1F o h v14 fun v15 => addF Pq o 3 v15 (.i .i64 1) fun v16 => nilChk o a0 fun v17 => faF o 2 v17 fun v18 => storeF o h 1 v18 v16 fun h => k v9 h)
theorem f80_ok : R Pq o c n b80 (kend Pq o c n w rs80 k) = fun t _ h => f80 o c n k (t 0) h := by kernel_rfl
theorem f80_good : Good Pq (cfg mm) 80 (entF Pq (cfg mm) 80 1 fun α => f80) := entG b80 rs80 28 fun _ => f80_ok
noncomputable def b81 := bdy Tryz.f81
noncomputable def rs81 := Tryz.f81.results.toList
noncomputable def f81 {α : Type} (o : α) (c : Call' α) (n : Nat) (k : AV → Heap → α) (a0 a1 : AV) (h : Heap) : α :=
  c 82 [a0, (.i .i64 0), (.i .i64 1), a1] h fun v1 h => pk k v1 h <| k v1 h
theorem f81_ok : R Pq o c n b81 (kend Pq o c n w rs81 k) = fun t _ h => f81 o c n k (t 0) (t 1) h := by kernel_rfl
theorem f81_good : Good Pq (cfg mm) 81 (entF Pq (cfg mm) 81 2 fun α => f81) := entG b81 rs81 8 fun _ => f81_ok
noncomputable def b82 := bdy Tryz.f82
noncomputable def rs82 := Tryz.f82.results.toList
noncomputable def f82_3K : Ex → K α := (nxK (R Pq o c n (cB (cB (cB b82))) (kend Pq o c n w rs82 k)) (kend Pq o c n w rs82 k))
noncomputable def f82_7 {α : Type} (o : α) (c : Call' α) (n : Nat) (k : AV → Heap → α) (s42 s45 s55 : AV) (h : Heap) : α :=
  bkF o true s42 (pickF o s45 (.b true) s55 fun v1 => pickF o s42 v1 (.b false) fun v2 => k v2 h) (pickF o s42 (.tup []) (.b false) fun v3 => k v3 h)
theorem f82_7_ok : Q Pq o c (cO (cA (cB (cB b82)))) (f82_3K o c n k w) 40 = fun t _ h => f82_7 o c n k (t 42) (t 45) (t 55) h := (q_seg 40 40 (by kernel_rfl) (q_guard 40 41 (26, true) (by kernel_rfl) (by kernel_rfl) (by kernel_rfl) rfl)).tk
noncomputable def f82_6 (s0 s3 s9 s42 s45 : AV) (h : Heap) : α :=
  bkF o false s45 (nilChk o s0 fun v4 => faF o 0 v4 fun v5 => load1F o h v5 fun v6 => ixF o 3 v6 s9 fun v7 => faF o 1 v7 fun v8 => load1F o h v8 fun v9 => eqsF Pq o 9 v9 s3 fun v10 => f82_7 o c n k s42 s45 v10 h) (f82_7 o c n k s42 s45 (.tup []) h)
theorem f82_6_ok : Q Pq o c (cO (cA (cB (cB b82)))) (f82_3K o c n k w) 30 = fun t _ h => f82_6 o c n k (t 0) (t 3) (t 9) (t 42) (t 45) h := (q_seg 30 30 (by kernel_rfl) (q_guard 30 40 (29, false) (by kernel_rfl) (by kernel_rfl) (by kernel_rfl) (f82_7_ok o c n k w))).tk
noncomputable def f82_5 (s0 s3 s9 s30 s40 : AV) (h : Heap) : α :=
  pickF o s30 s40 (.b false) fun v11 => bkF o true v11 (eqsF Pq o 9 s3 (.s 0 0) fun v12 => f82_6 o c n k s0 s3 s9 v11 v12 h) (f82_6 o c n k s0 s3 s9 v11 (.tup []) h)
theorem f82_5_ok : Q Pq o c (cO (cA (cB (cB b82)))) (f82_3K o c n k w) 25 = fun t _ h => f82_5 o c n k (t 0) (t 3) (t 9) (t 30) (t 40) h := (q_seg 25 27 (by kernel_rfl) (q_guard 27 30 (26, true) (by kernel_rfl) (by kernel_rfl) (by kernel_rfl) (f82_6_ok o c n k w))).tk
noncomputable def f82_4 (s0 s2 s3 s9 s21 s28 : AV) (h : Heap) : α :=
  pickF o s21 s28 (.b false) fun v13 => bkF o true v13 (nilChk o s0 fun v14 => faF o 0 v14 fun v15 => load1F o h v15 fun v16 => ixF o 3 v16 s9 fun v17 => faF o 0 v17 fun v18 => load1F o h v18 fun v19 => eqiF Pq o 3 v19 s2 fun v20 => f82_5 o c n k s0 s3 s9 v13 v20 h) (f82_5 o c n k s0 s3 s9 v13 (.tup []) h)
theorem f82_4_ok : Q Pq o c (cO (cA (cB (cB b82)))) (f82_3K o c n k w) 13 = fun t _ h => f82_4 o c n k (t 0) (t 2) (t 3) (t 9) (t 21) (t 28) h := (q_seg 13 15 (by kernel_rfl) (q_guard 15 25 (14, true) (by kernel_rfl) (by kernel_rfl) (by kernel_rfl) (f82_5_ok o c n k w))).tk
noncomputable def f82_2 (s0 s2 s3 s9 : AV) (h : Heap) : α :=
  nilChk o s0 fun v21 => faF o 3 v21 fun v22 => load1F o h v22 fun v23 => eqiF Pq o 3 v23 (.i .i64 0) fun v24 => bkF o true v24 (nilChk o s0 fun v25 => faF o 0 v25 fun v26 => load1F o h v26 fun v27 => lenF o v27 fun v28 => lssF Pq o 3 s9 v28 fun v29 => f82_4 o c n k s0 s2 s3 s9 v24 v29 h) (f82_4 o c n k s0 s2 s3 s9 v24 (.tup []) h)
theorem f82_2_ok : R Pq o c n (cB (cB b82)) (kend Pq o c n w rs82 k) = fun t _ h => f82_2 o c n k (t 0) (t 2) (t 3) (t 9) h := (kseq rfl (r_start 6 (by kernel_rfl) (q_guard 6 13 (5, true) (by kernel_rfl) (by kernel_rfl) (by kernel_rfl) (f82_4_ok o c n k w)))).tk
noncomputable def f82_1 (s0 s1 s2 s3 : AV) (h : Heap) : α :=
  nilChk o s0 fun v30 => faF o 2 v30 fun v31 => load1F o h v31 fun v32 => addF Pq o 3 v32 s1 fun v33 => f82_2 o c n k s0 s2 s3 v33 h
theorem f82_1_ok : R Pq o c n (cB b82) (kend Pq o c n w rs82 k) = fun t _ h => f82_1 o c n k (t 0) (t 1) (t 2) (t 3) h := (kseq (f82_2_ok o c n k w) rfl).tk
noncomputable def f82 (a0 a1 a2 a3 : AV) (h : Heap) : α :=
  f82_1 o c n k a0 a1 a2 a3 h
theorem f82_ok : R Pq o c n b82 (kend Pq o c n w rs82 k) = fun t _ h => f82 o c n k (t 0) (t 1) (t 2) (t 3) h := (kseq (f82_1_ok o c n k w) rfl).tk
theorem f82_good : Good Pq (cfg mm) 82 (entF Pq (cfg mm) 82 4 fun α => f82) := entG b82 rs82 58 fun _ => f82_ok
noncomputable def b83 := bdy Tryz.f83
noncomputable def rs83 := Tryz.f83.results.toList
noncomputable def f83_4 {α : Type} (o : α) (c : Call' α) (n : Nat) (k : AV → Heap → α) (s0 s3 : AV) (h : Heap) : α :=
  c 37 [s0, (.s 1 41)] h fun v1 h => pk k v1 h <| k s3 h
theorem f83_4_ok : R Pq o c n (cB (cB (cB (cB b83)))) (kend Pq o c n w rs83 k) = fun t _ h => f83_4 o c n k (t 0) (t 3) h := by kernel_rfl
noncomputable def f83_5K : Ex → K α := (nxK (fun t _ h => f83_4 o c n k (t 0) (t 3) h) (kend Pq o c n w rs83 k))
noncomputable def f83_7K (lp0 : AVs (Heap → α) 2) : Ex → K α := (nxK (fun t _ h => lp0 (t 0) (t 3) h) (blockK (cI (cA (cB (cB (cB b83))))) (f83_5K o c n k w)))
noncomputable def f83_8 (lp0 : AVs (Heap → α) 2) (s0 s3 : AV) (h : Heap) : α :=
  c 86 [s0] h fun v2 h => pk k v2 h <| c 85 [s0] h fun v3 h => pk k v3 h <| layF o 0 v2 [(.s 0 0), (.s 0 0)] fun v4 => layF o 1 v3 v4 fun v5 => fil1 o 2 1 0 (.agg v5) [[(.s 0 0), (.s 0 0)]] fun v6 => newEF h h.next 2 1 v6 fun v7 h => appX Pq o h h.next 60 60 s3 v7 fun v8 h => c 39 [s0, (.s 1 44)] h fun v9 h => pk k v9 h <| notF o v9 fun v10 => ifF o v10 (f83_4 o c n k s0 v8 h) (lp0 s0 v8 h)
theorem f83_8_ok (lp0 : AVs (Heap → α) 2) : R Pq o c n (cB (cA (cA (cA (cB (cB (cB b83))))))) (f83_7K o c n k w lp0) = fun t _ h => f83_8 o c n k lp0 (t 0) (t 3) h := by kernel_rfl
noncomputable def f83_9K (lp0 : AVs (Heap → α) 2) : Ex → K α := (nxK (fun t _ h => f83_8 o c n k lp0 (t 0) (t 3) h) (f83_7K o c n k w lp0))
noncomputable def f83_10K (lp0 : AVs (Heap → α) 2) : Ex → K α := (nxK (R Pq o c n (cB (cA (cA (cA (cA (cB (cB (cB b83)))))))) (f83_9K o c n k w lp0)) (f83_9K o c n k w lp0))
noncomputable def f83_12 (lp0 : AVs (Heap → α) 2) (s0 s3 s12 s16 s19 : AV) (h : Heap) : α :=
  bkF o true s12 (pickF o s16 (.b true) s19 fun v11 => pickF o s12 v11 (.b false) fun v12 => ifF o v12 (f83_8 o c n k lp0 s0 s3 h) (f83_4 o c n k s0 s3 h)) (pickF o s12 (.tup []) (.b false) fun v13 => ifF o v13 (f83_8 o c n k lp0 s0 s3 h) (f83_4 o c n k s0 s3 h))
theorem f83_12_ok (lp0 : AVs (Heap → α) 2) : Q Pq o c (cO (cA (cA (cA (cA (cA (cB (cB (cB b83))))))))) (f83_10K o c n k w lp0) 13 = fun t _ h => f83_12 o c n k lp0 (t 0) (t 3) (t 12) (t 16) (t 19) h := (q_seg 13 13 (by kernel_rfl) (q_guard 13 14 (5, true) (by kernel_rfl) (by kernel_rfl) (by kernel_rfl) rfl)).tk
noncomputable def f83_11 (lp0 : AVs (Heap → α) 2) (s0 s3 s12 s16 : AV) (h : Heap) : α :=
  bkF o false s16 (c 40 [s0, (.s 1 41)] h fun v14 h => pk k v14 h <| notF o v14 fun v15 => f83_12 o c n k lp0 s0 s3 s12 s16 v15 h) (f83_12 o c n k lp0 s0 s3 s12 s16 (.tup []) h)
theorem f83_11_ok (lp0 : AVs (Heap → α) 2) : Q Pq o c (cO (cA (cA (cA (cA (cA (cB (cB (cB b83))))))))) (f83_10K o c n k w lp0) 10 = fun t _ h => f83_11 o c n k lp0 (t 0) (t 3) (t 12) (t 16) h := (q_seg 10 10 (by kernel_rfl) (q_guard 10 13 (9, false) (by kernel_rfl) (by kernel_rfl) (by kernel_rfl) (f83_12_ok o c n k w lp0))).tk
noncomputable def f83_6 (m : Nat) : AVs (Heap → α) 2 :=
  Nat.rec (motive := fun _ => AVs (Heap → α) 2) (fun _ _ _ => o) (fun _ lp0 s0 s3 h => nilChk o s0 fun v16 => faF o 3 v16 fun v17 => load1F o h v17 fun v18 => eqiF Pq o 3 v18 (.i .i64 0) fun v19 => bkF o true v19 (lenF o s3 fun v20 => gtrF Pq o 3 v20 (.i .i64 0) fun v21 => f83_11 o c n k lp0 s0 s3 v19 v21 h) (f83_11 o c n k lp0 s0 s3 v19 (.tup []) h)) m
theorem f83_6_ok : R Pq o c n (cA (cA (cB (cB (cB b83))))) (blockK (cI (cA (cB (cB (cB b83))))) (f83_5K o c n k w)) = fun t _ h => f83_6 o c n k n (t 0) (t 3) h :=
  c_loop (F := fun m t _ h => f83_6 o c n k m (t 0) (t 3) h) (by kernel_rfl) (by kernel_rfl) fun m => (kseq (f83_8_ok o c n k w (f83_6 o c n k m)) (kseq rfl (r_start 6 (by kernel_rfl) (q_guard 6 10 (5, true) (by kernel_rfl) (by kernel_rfl) (by kernel_rfl) (f83_11_ok o c n k w (f83_6 o c n k m)))))).tk
noncomputable def f83_3 (s0 s3 : AV) (h : Heap) : α :=
  f83_6 o c n k n s0 s3 h
theorem f83_3_ok : R Pq o c n (cB (cB (cB b83))) (kend Pq o c n w rs83 k) = fun t _ h => f83_3 o c n k (t 0) (t 3) h := (kseq (f83_4_ok o c n k w) (kblk (f83_6_ok o c n k w))).tk
noncomputable def f83_2 (s0 : AV) (h : Heap) : α :=
  f83_3 o c n k s0 .nsl h
theorem f83_2_ok : R Pq o c n (cB (cB b83)) (kend Pq o c n w rs83 k) = fun t _ h => f83_2 o c n k (t 0) h := (kseq (f83_3_ok o c n k w) rfl).tk
noncomputable def f83_1 (s0 : AV) (h : Heap) : α :=
  c 37 [s0, (.s 1 40)] h fun v22 h => pk k v22 h <| f83_2 o c n k s0 h
theorem f83_1_ok : R Pq o c n (cB b83) (kend Pq o c n w rs83 k) = fun t _ h => f83_1 o c n k (t 0) h := (kseq (f83_2_ok o c n k w) rfl).tk
noncomputable def f83 (a0 : AV) (h : Heap) : α :=
  f83_1 o c n k a0 h
theorem f83_ok : R Pq o c n b83 (kend Pq o c n w rs83 k) = fun t _ h => f83 o c n k (t 0) h := (kseq (f83_1_ok o c n k w) rfl).tk
theorem f83_good : Good Pq (cfg mm) 83 (entF Pq (cfg mm) 83 1 fun α => f83) := entG b83 rs83 37 fun _ => f83_ok
noncomputable def b84 := bdy Tryz.f84
noncomputable def rs84 := Tryz.f84.results.toList
noncomputable def f84_6K : Ex → K α := (nxK (R Pq o c n (cB (cB (cB (cB (cB (cB b84)))))) (kend Pq o c n w rs84 k)) (kend Pq o c n w rs84 k))
noncomputable def f84_8K (lp0 : AVs (Heap → α) 3) : Ex → K α := (nxK (fun t _ h => lp0 (t 0) (t 1) (t 5) h) (blockK (cI (cA (cB (cB (cB (cB (cB b84))))))) (f84_6K o c n k w)))
noncomputable def f84_10 {α : Type} (o : α) (c : Call' α) (n : Nat) (k : AV → Heap → α) (lp0 : AVs (Heap → α) 3) (s0 s1 s31 s32 s34 s37 : AV) (h : Heap) : α :=
  pickF o s34 s37 (.b false) fun v1 => c 141 [s32, v1] h fun v2 h => pk k v2 h <| fil1 o 9 1 0 v2 [[(.i .i64 0), (.i .i32 0), (.s 0 0), (.s 0 0), .nsl, .nsl, .nsl, .nsl, (.i .i64 0)]] fun v3 => newEF h h.next 9 1 v3 fun v4 h => appX Pq o h h.next 61 61 s31 v4 fun v5 h => lp0 s0 s1 v5 h
theorem f84_10_ok (lp0 : AVs (Heap → α) 3) : Q Pq o c (cO (cA (cB (cA (cA (cA (cB (cB (cB (cB (cB b84))))))))))) (blockK (cI (cB (cA (cA (cA (cB (cB (cB (cB (cB b84)))))))))) (f84_8K o c n k w lp0)) 7 = fun t _ h => f84_10 o c n k lp0 (t 0) (t 1) (t 31) (t 32) (t 34) (t 37) h := by kernel_rfl
noncomputable def f84_9 (lp0 : AVs (Heap → α) 3) (s0 s1 s5 : AV) (h : Heap) : α :=
  bkF o true s1 (lenF o s5 fun v6 => eqiF Pq o 3 v6 (.i .i64 0) fun v7 => f84_10 o c n k lp0 s0 s1 s5 s0 s1 v7 h) (f84_10 o c n k lp0 s0 s1 s5 s0 s1 (.tup []) h)
theorem f84_9_ok (lp0 : AVs (Heap → α) 3) : R Pq o c n (cB (cA (cA (cA (cB (cB (cB (cB (cB b84))))))))) (f84_8K o c n k w lp0) = fun t _ h => f84_9 o c n k lp0 (t 0) (t 1) (t 5) h := (kblk (r_start 4 (by kernel_rfl) (q_guard 4 7 (3, true) (by kernel_rfl) (by kernel_rfl) (by kernel_rfl) (f84_10_ok o c n k w lp0)))).tk
noncomputable def f84_11K (lp0 : AVs (Heap → α) 3) : Ex → K α := (nxK (fun t _ h => f84_9 o c n k lp0 (t 0) (t 1) (t 5) h) (f84_8K o c n k w lp0))
noncomputable def f84_12K (lp0 : AVs (Heap → α) 3) : Ex → K α := (nxK (R Pq o c n (cB (cA (cA (cA (cA (cB (cB (cB (cB (cB b84)))))))))) (f84_11K o c n k w lp0)) (f84_11K o c n k w lp0))
noncomputable def f84_7 (m : Nat) : AVs (Heap → α) 3 :=
  Nat.rec (motive := fun _ => AVs (Heap → α) 3) (fun _ _ _ _ => o) (fun _ lp0 s0 s1 s5 h => nilChk o s0 fun v8 => faF o 3 v8 fun v9 => load1F o h v9 fun v10 => eqiF Pq o 3 v10 (.i .i64 0) fun v11 => bkF o true v11 (c 40 [s0, (.s 1 125)] h fun v12 h => pk k v12 h <| notF o v12 fun v13 => pickF o v11 v13 (.b false) fun v14 => ifF o v14 (f84_9 o c n k lp0 s0 s1 s5 h) (c 37 [s0, (.s 1 125)] h fun v15 h => pk k v15 h <| nilChk o s0 fun v16 => faF o 5 v16 fun v17 => load1F o h v17 fun v18 => binA Pq o .sub 3 v18 (.i .i64 1) fun v19 => nilChk o s0 fun v20 => faF o 5 v20 fun v21 => storeF o h 1 v21 v19 fun h => k s5 h)) (pickF o v11 (.tup []) (.b false) fun v22 => ifF o v22 (f84_9 o c n k lp0 s0 s1 s5 h) (c 37 [s0, (.s 1 125)] h fun v23 h => pk k v23 h <| nilChk o s0 fun v24 => faF o 5 v24 fun v25 => load1F o h v25 fun v26 => binA Pq o .sub 3 v26 (.i .i64 1) fun v27 => nilChk o s0 fun v28 => faF o 5 v28 fun v29 => storeF o h 1 v29 v27 fun h => k s5 h))) m
theorem f84_7_ok : R Pq o c n (cA (cA (cB (cB (cB (cB (cB b84))))))) (blockK (cI (cA (cB (cB (cB (cB (cB b84))))))) (f84_6K o c n k w)) = fun t _ h => f84_7 o c n k n (t 0) (t 1) (t 5) h :=
  c_loop (F := fun m t _ h => f84_7 o c n k m (t 0) (t 1) (t 5) h) (by kernel_rfl) (by kernel_rfl) fun m => (kseq (f84_9_ok o c n k w (f84_7 o c n k m)) (kseq rfl (r_start 6 (by kernel_rfl) (q_guard 6 9 (5, true) (by kernel_rfl) (by kernel_rfl) (by kernel_rfl) rfl)))).tk
noncomputable def f84_5 (s0 s1 s5 : AV) (h : Heap) : α :=
  f84_7 o c n k n s0 s1 s5 h
theorem f84_5_ok : R Pq o c n (cB (cB (cB (cB (cB b84))))) (kend Pq o c n w rs84 k) = fun t _ h => f84_5 o c n k (t 0) (t 1) (t 5) h := (kseq rfl (kblk (f84_7_ok o c n k w))).tk
noncomputable def f84_4 (s0 s1 : AV) (h : Heap) : α :=
  f84_5 o c n k s0 s1 .nsl h
theorem f84_4_ok : R Pq o c n (cB (cB (cB (cB b84)))) (kend Pq o c n w rs84 k) = fun t _ h => f84_4 o c n k (t 0) (t 1) h := (kseq (f84_5_ok o c n k w) rfl).tk
noncomputable def f84_3 (s0 s1 : AV) (h : Heap) : α :=
  nilChk o s0 fun v30 => faF o 2 v30 fun v31 => load1F o h v31 fun v32 => addF Pq o 3 v32 (.i .i64 1) fun v33 => nilChk o s0 fun v34 => faF o 2 v34 fun v35 => storeF o h 1 v35 v33 fun h => f84_4 o c n k s0 s1 h
theorem f84_3_ok : R Pq o c n (cB (cB (cB b84))) (kend Pq o c n w rs84 k) = fun t _ h => f84_3 o c n k (t 0) (t 1) h := (kseq (f84_4_ok o c n k w) rfl).tk
noncomputable def f84_2 (s0 s1 : AV) (h : Heap) : α :=
  c 140 [s0] h fun v36 h => pk k v36 h <| notF o v36 fun v37 => ifF o v37 (k .nsl h) (f84_3 o c n k s0 s1 h)
theorem f84_2_ok : R Pq o c n (cB (cB b84)) (kend Pq o c n w rs84 k) = fun t _ h => f84_2 o c n k (t 0) (t 1) h := (kseq (f84_3_ok o c n k w) rfl).tk
noncomputable def f84_1 (s0 s1 : AV) (h : Heap) : α :=
  c 40 [s0, (.s 1 123)] h fun v38 h => pk k v38 h <| notF o v38 fun v39 => ifF o v39 (c 78 [s0, (.i .i64 3)] h fun v40 h => pk k v40 h <| k .nsl h) (f84_2 o c n k s0 s1 h)
theorem f84_1_ok : R Pq o c n (cB b84) (kend Pq o c n w rs84 k) = fun t _ h => f84_1 o c n k (t 0) (t 1) h := (kseq (f84_2_ok o c n k w) rfl).tk
noncomputable def f84 (a0 a1 : AV) (h : Heap) : α :=
  f84_1 o c n k a0 a1 h
theorem f84_ok : R Pq o c n b84 (kend Pq o c n w rs84 k) = fun t _ h => f84 o c n k (t 0) (t 1) h := (kseq (f84_1_ok o c n k w) rfl).tk
theorem f84_good : Good Pq (cfg mm) 84 (entF Pq (cfg mm) 84 2 fun α => f84) := entG b84 rs84 52 fun _ => f84_ok
noncomputable def b85 := bdy Tryz.f85
noncomputable def rs85 := Tryz.f85.results.toList
noncomputable def f85 {α : Type} (o : α) (c : Call' α) (n : Nat) (k : AV → Heap → α) (a0 : AV) (h : Heap) : α :=
  c 142 [a0, (.i .i64 0)] h fun v1 h => pk k v1 h <| notF o v1 fun v2 => ifF o v2 (c 78 [a0, (.i .i64 3)] h fun v3 h => pk k v3 h <| k (.s 0 0) h) (c 80 [a0] h fun v4 h => pk k v4 h <| k v4 h)
theorem f85_ok : R Pq o c n b85 (kend Pq o c n w rs85 k) = fun t _ h => f85 o c n k (t 0) h := by kernel_rfl
theorem f85_good : Good Pq (cfg mm) 85 (entF Pq (cfg mm) 85 1 fun α => f85) := entG b85 rs85 10 fun _ => f85_ok
noncomputable def b86 := bdy Tryz.f86
noncomputable def rs86 := Tryz.f86.results.toList
noncomputable def f86 {α : Type} (o : α) (c : Call' α) (n : Nat) (k : AV → Heap → α) (a0 : AV) (h : Heap) : α :=
  c 143 [a0, (.i .i64 0)] h fun v1 h => pk k v1 h <| notF o v1 fun v2 => ifF o v2 (c 78 [a0, (.i .i64 3)] h fun v3 h => pk k v3 h <| k (.s 0 0) h) (c 80 [a0] h fun v4 h => pk k v4 h <| k v4 h)
theorem f86_ok : R Pq o c n b86 (kend Pq o c n w rs86 k) = fun t _ h => f86 o c n k (t 0) h := by kernel_rfl
theorem f86_good : Good Pq (cfg mm) 86 (entF Pq (cfg mm) 86 1 fun α => f86) := entG b86 rs86 10 fun _ => f86_ok
noncomputable def b87 := bdy Tryz.f87
noncomputable def rs87 := Tryz.f87.results.toList
noncomputable def f87 {α : Type} (o : α) (c : Call' α) (n : Nat) (k : AV → Heap → α) (a0 : AV) (h : Heap) : α :=
  newF h h.next 8 [(.i .i64 0), (.i .i32 0), (.s 0 0), (.s 0 0), (.s 0 0), .nsl, (.s 0 0), (.i .i64 0)] fun v1 h => c 144 [a0, (.i .i64 1)] h fun v2 h => pk k v2 h <| storeF o h 8 v1 v2 fun h => on o (resV Pq h [(v1, some 57)]) fun v => k v h
theorem f87_ok : R Pq o c n b87 (kend Pq o c n w rs87 k) = fun t _ h => f87 o c n k (t 0) h := by kernel_rfl
theorem f87_good : Good Pq (cfg mm) 87 (entF Pq (cfg mm) 87 1 fun α => f87) := entG b87 rs87 5 fun _ => f87_ok
noncomputable def b90 := bdy Tryz.f90
noncomputable def rs90 := Tryz.f90.results.toList
noncomputable def f90_2K : Ex → K α := (nxK (R Pq o c n (cB (cB b90)) (kend Pq o c n w rs90 k)) (kend Pq o c n w rs90 k))
noncomputable def f90_4 {α : Type} (o : α) (c : Call' α) (n : Nat) (k : AV → Heap → α) (s0 s9 s11 : AV) (h : Heap) : α :=
  pickF o s9 (.b true) s11 fun v1 => bkF o false v1 (c 89 [s0] h fun v2 h => pk k v2 h <| pickF o v1 (.b true) v2 fun v3 => k v3 h) (pickF o v1 (.b true) (.tup []) fun v4 => k v4 h)
theorem f90_4_ok : Q Pq o c (cO (cA (cB b90))) (f90_2K o c n k w) 9 = fun t _ h => f90_4 o c n k (t 0) (t 9) (t 11) h := (q_seg 9 11 (by kernel_rfl) (q_guard 11 13 (10, false) (by kernel_rfl) (by kernel_rfl) (by kernel_rfl) rfl)).tk
noncomputable def f90_3 (s0 s5 s7 : AV) (h : Heap) : α :=
  pickF o s5 (.b true) s7 fun v5 => bkF o false v5 (eqsF Pq o 9 s0 (.s 6 113723913172051) fun v6 => f90_4 o c n k s0 v5 v6 h) (f90_4 o c n k s0 v5 (.tup []) h)
theorem f90_3_ok : Q Pq o c (cO (cA (cB b90))) (f90_2K o c n k w) 5 = fun t _ h => f90_3 o c n k (t 0) (t 5) (t 7) h := (q_seg 5 7 (by kernel_rfl) (q_guard 7 9 (6, false) (by kernel_rfl) (by kernel_rfl) (by kernel_rfl) (f90_4_ok o c n k w))).tk
noncomputable def f90_1 (s0 : AV) (h : Heap) : α :=
  eqsF Pq o 9 s0 (.s 3 7630441) fun v7 => bkF o false v7 (eqsF Pq o 9 s0 (.s 7 31069335677005666) fun v8 => f90_3 o c n k s0 v7 v8 h) (f90_3 o c n k s0 v7 (.tup []) h)
theorem f90_1_ok : R Pq o c n (cB b90) (kend Pq o c n w rs90 k) = fun t _ h => f90_1 o c n k (t 0) h := (kseq rfl (r_start 3 (by kernel_rfl) (q_guard 3 5 (2, false) (by kernel_rfl) (by kernel_rfl) (by kernel_rfl) (f90_3_ok o c n k w)))).tk
noncomputable def f90 (a0 : AV) (h : Heap) : α :=
  f90_1 o c n k a0 h
theorem f90_ok : R Pq o c n b90 (kend Pq o c n w rs90 k) = fun t _ h => f90 o c n k (t 0) h := (kseq (f90_1_ok o c n k w) rfl).tk
theorem f90_good : Good Pq (cfg mm) 90 (entF Pq (cfg mm) 90 1 fun α => f90) := entG b90 rs90 17 fun _ => f90_ok
noncomputable def b91 := bdy Tryz.f91
noncomputable def rs91 := Tryz.f91.results.toList
noncomputable def f91_2K : Ex → K α := (nxK (R Pq o c n (cB (cB b91)) (kend Pq o c n w rs91 k)) (kend Pq o c n w rs91 k))
noncomputable def f91_3 {α : Type} (o : α) (c : Call' α) (n : Nat) (k : AV → Heap → α) (s0 s5 s9 : AV) (h : Heap) : α :=
  pickF o s5 s9 (.b false) fun v1 => bkF o true v1 (c 150 [s0] h fun v2 h => pk k v2 h <| notF o v2 fun v3 => pickF o v1 v3 (.b false) fun v4 => k v4 h) (pickF o v1 (.tup []) (.b false) fun v5 => k v5 h)
theorem f91_3_ok : Q Pq o c (cO (cA (cB b91))) (f91_2K o c n k w) 7 = fun t _ h => f91_3 o c n k (t 0) (t 5) (t 9) h := (q_seg 7 9 (by kernel_rfl) (q_guard 9 12 (8, true) (by kernel_rfl) (by kernel_rfl) (by kernel_rfl) rfl)).tk
noncomputable def f91_1 (s0 : AV) (h : Heap) : α :=
  c 147 [s0, (.i .i64 20)] h fun v6 h => pk k v6 h <| bkF o true v6 (sxF o s0 (.i .i64 0) fun v7 => convA Pq o 5 21 v7 fun v8 => c 149 [v8] h fun v9 h => pk k v9 h <| f91_3 o c n k s0 v6 v9 h) (f91_3 o c n k s0 v6 (.tup []) h)
theorem f91_1_ok : R Pq o c n (cB b91) (kend Pq o c n w rs91 k) = fun t _ h => f91_1 o c n k (t 0) h := (kseq rfl (r_start 3 (by kernel_rfl) (q_guard 3 7 (2, true) (by kernel_rfl) (by kernel_rfl) (by kernel_rfl) (f91_3_ok o c n k w)))).tk
noncomputable def f91 (a0 : AV) (h : Heap) : α :=
  f91_1 o c n k a0 h
theorem f91_ok : R Pq o c n b91 (kend Pq o c n w rs91 k) = fun t _ h => f91 o c n k (t 0) h := (kseq (f91_1_ok o c n k w) rfl).tk
theorem f91_good : Good Pq (cfg mm) 91 (entF Pq (cfg mm) 91 1 fun α => f91) := entG b91 rs91 16 fun _ => f91_ok
noncomputable def b92 := bdy Tryz.f92
noncomputable def rs92 := Tryz.f92.results.toList
noncomputable def f92_6K : Ex → K α := (nxK (R Pq o c n (cB (cB (cB (cB (cB (cB b92)))))) (kend Pq o c n w rs92 k)) (kend Pq o c n w rs92 k))
noncomputable def f92_8 {α : Type} (o : α) (c : Call' α) (n : Nat) (k : AV → Heap → α) (m : Nat) : AVs (Heap → α) 3 :=
  Nat.rec (motive := fun _ => AVs (Heap → α) 3) (fun _ _ _ _ => o) (fun _ lp0 s1 s2 s10 h => faF o 5 s2 fun v1 => load1F o h v1 fun v2 => lenF o v2 fun v3 => lssF Pq o 3 s10 v3 fun v4 => ifF o v4 (faF o 5 s2 fun v5 => load1F o h v5 fun v6 => ixF o 8 v6 s10 fun v7 => loadNF o h 8 v7 fun v8 => addF Pq o 3 s1 (.i .i64 1) fun v9 => c 92 [v8, v9] h fun v10 h => pk k v10 h <| notF o v10 fun v11 => ifF o v11 (k (.b false) h) (addF Pq o 3 s10 (.i .i64 1) fun v12 => lp0 s1 s2 v12 h)) (k (.b true) h)) m
theorem f92_8_ok : R Pq o c n (cA (cB (cA (cB (cB (cB (cB (cB b92)))))))) (blockK (cI (cB (cA (cB (cB (cB (cB (cB b92)))))))) (f92_6K o c n k w)) = fun t _ h => f92_8 o c n k n (t 1) (t 2) (t 10) h :=
  c_loop (F := fun m t _ h => f92_8 o c n k m (t 1) (t 2) (t 10) h) (by kernel_rfl) (by kernel_rfl) fun m => by kernel_rfl
noncomputable def f92_7 (s1 s2 s10 : AV) (h : Heap) : α :=
  f92_8 o c n k n s1 s2 s10 h
theorem f92_7_ok : R Pq o c n (cB (cA (cB (cB (cB (cB (cB b92))))))) (f92_6K o c n k w) = fun t _ h => f92_7 o c n k (t 1) (t 2) (t 10) h := (kblk (f92_8_ok o c n k w)).tk
noncomputable def f92_5 (s1 s2 : AV) (h : Heap) : α :=
  f92_7 o c n k s1 s2 (.i .i64 0) h
theorem f92_5_ok : R Pq o c n (cB (cB (cB (cB (cB b92))))) (kend Pq o c n w rs92 k) = fun t _ h => f92_5 o c n k (t 1) (t 2) h := (kseq rfl (kseq (f92_7_ok o c n k w) rfl)).tk
noncomputable def f92_9K : Ex → K α := (nxK (fun t _ h => f92_5 o c n k (t 1) (t 2) h) (kend Pq o c n w rs92 k))
noncomputable def f92_10 (s1 s2 s179 : AV) (h : Heap) : α :=
  ifF o s179 (k (.b false) h) (f92_5 o c n k s1 s2 h)
theorem f92_10_ok : R Pq o c n (cB (cA (cB (cB (cB (cB b92)))))) (f92_9K o c n k w) = fun t _ h => f92_10 o c n k (t 1) (t 2) (t 179) h := by kernel_rfl
noncomputable def f92_11K : Ex → K α := (nxK (fun t _ h => f92_10 o c n k (t 1) (t 2) (t 179) h) (f92_9K o c n k w))
noncomputable def f92_18 (s1 s2 s166 s169 s177 : AV) (h : Heap) : α :=
  bkF o false s166 (pickF o s169 s177 (.b false) fun v13 => pickF o s166 (.b true) v13 fun v14 => f92_10 o c n k s1 s2 v14 h) (pickF o s166 (.b true) (.tup []) fun v15 => f92_10 o c n k s1 s2 v15 h)
theorem f92_18_ok : Q Pq o c (cO (cA (cA (cB (cB (cB (cB b92))))))) (f92_11K o c n k w) 24 = fun t _ h => f92_18 o c n k (t 1) (t 2) (t 166) (t 169) (t 177) h := (q_seg 24 24 (by kernel_rfl) (q_guard 24 25 (12, false) (by kernel_rfl) (by kernel_rfl) (by kernel_rfl) rfl)).tk
noncomputable def f92_17 (s1 s2 s166 s169 s173 s176 : AV) (h : Heap) : α :=
  bkF o true s169 (pickF o s173 (.b true) s176 fun v16 => f92_18 o c n k s1 s2 s166 s169 v16 h) (f92_18 o c n k s1 s2 s166 s169 (.tup []) h)
theorem f92_17_ok : Q Pq o c (cO (cA (cA (cB (cB (cB (cB b92))))))) (f92_11K o c n k w) 23 = fun t _ h => f92_17 o c n k (t 1) (t 2) (t 166) (t 169) (t 173) (t 176) h := (q_seg 23 23 (by kernel_rfl) (q_guard 23 24 (15, true) (by kernel_rfl) (by kernel_rfl) (by kernel_rfl) (f92_18_ok o c n k w))).tk
noncomputable def f92_16 (s1 s2 s166 s169 s173 : AV) (h : Heap) : α :=
  bkF o false s173 (faF o 0 s2 fun v17 => load1F o h v17 fun v18 => c 154 [v18] h fun v19 h => pk k v19 h <| f92_17 o c n k s1 s2 s166 s169 s173 v19 h) (f92_17 o c n k s1 s2 s166 s169 s173 (.tup []) h)
theorem f92_16_ok : Q Pq o c (cO (cA (cA (cB (cB (cB (cB b92))))))) (f92_11K o c n k w) 20 = fun t _ h => f92_16 o c n k (t 1) (t 2) (t 166) (t 169) (t 173) h := (q_seg 20 20 (by kernel_rfl) (q_guard 20 23 (19, false) (by kernel_rfl) (by kernel_rfl) (by kernel_rfl) (f92_17_ok o c n k w))).tk
noncomputable def f92_15 (s1 s2 s166 s169 : AV) (h : Heap) : α :=
  bkF o true s169 (faF o 4 s2 fun v20 => load1F o h v20 fun v21 => nesF Pq o 9 v21 (.s 0 0) fun v22 => f92_16 o c n k s1 s2 s166 s169 v22 h) (f92_16 o c n k s1 s2 s166 s169 (.tup []) h)
theorem f92_15_ok : Q Pq o c (cO (cA (cA (cB (cB (cB (cB b92))))))) (f92_11K o c n k w) 16 = fun t _ h => f92_15 o c n k (t 1) (t 2) (t 166) (t 169) h := (q_seg 16 16 (by kernel_rfl) (q_guard 16 20 (15, true) (by kernel_rfl) (by kernel_rfl) (by kernel_rfl) (f92_16_ok o c n k w))).tk
noncomputable def f92_14 (s1 s2 s8 s156 s164 : AV) (h : Heap) : α :=
  pickF o s156 s164 (.b false) fun v23 => bkF o false v23 (notF o s8 fun v24 => f92_15 o c n k s1 s2 v23 v24 h) (f92_15 o c n k s1 s2 v23 (.tup []) h)
theorem f92_14_ok : Q Pq o c (cO (cA (cA (cB (cB (cB (cB b92))))))) (f92_11K o c n k w) 11 = fun t _ h => f92_14 o c n k (t 1) (t 2) (t 8) (t 156) (t 164) h := (q_seg 11 13 (by kernel_rfl) (q_guard 13 16 (12, false) (by kernel_rfl) (by kernel_rfl) (by kernel_rfl) (f92_15_ok o c n k w))).tk
noncomputable def f92_13 (s1 s2 s8 s156 s160 s163 : AV) (h : Heap) : α :=
  bkF o true s156 (pickF o s160 (.b true) s163 fun v25 => f92_14 o c n k s1 s2 s8 s156 v25 h) (f92_14 o c n k s1 s2 s8 s156 (.tup []) h)
theorem f92_13_ok : Q Pq o c (cO (cA (cA (cB (cB (cB (cB b92))))))) (f92_11K o c n k w) 10 = fun t _ h => f92_13 o c n k (t 1) (t 2) (t 8) (t 156) (t 160) (t 163) h := (q_seg 10 10 (by kernel_rfl) (q_guard 10 11 (2, true) (by kernel_rfl) (by kernel_rfl) (by kernel_rfl) (f92_14_ok o c n k w))).tk
noncomputable def f92_12 (s1 s2 s8 s156 s160 : AV) (h : Heap) : α :=
  bkF o false s160 (faF o 0 s2 fun v26 => load1F o h v26 fun v27 => c 153 [v27] h fun v28 h => pk k v28 h <| f92_13 o c n k s1 s2 s8 s156 s160 v28 h) (f92_13 o c n k s1 s2 s8 s156 s160 (.tup []) h)
theorem f92_12_ok : Q Pq o c (cO (cA (cA (cB (cB (cB (cB b92))))))) (f92_11K o c n k w) 7 = fun t _ h => f92_12 o c n k (t 1) (t 2) (t 8) (t 156) (t 160) h := (q_seg 7 7 (by kernel_rfl) (q_guard 7 10 (6, false) (by kernel_rfl) (by kernel_rfl) (by kernel_rfl) (f92_13_ok o c n k w))).tk
noncomputable def f92_4 (s1 s2 s7 s8 : AV) (h : Heap) : α :=
  notF o s7 fun v29 => bkF o true v29 (faF o 3 s2 fun v30 => load1F o h v30 fun v31 => nesF Pq o 9 v31 (.s 0 0) fun v32 => f92_12 o c n k s1 s2 s8 v29 v32 h) (f92_12 o c n k s1 s2 s8 v29 (.tup []) h)
theorem f92_4_ok : R Pq o c n (cB (cB (cB (cB b92)))) (kend Pq o c n w rs92 k) = fun t _ h => f92_4 o c n k (t 1) (t 2) (t 7) (t 8) h := (kseq (f92_5_ok o c n k w) (kseq (f92_10_ok o c n k w) (r_start 3 (by kernel_rfl) (q_guard 3 7 (2, true) (by kernel_rfl) (by kernel_rfl) (by kernel_rfl) (f92_12_ok o c n k w))))).tk
noncomputable def f92_19K : Ex → K α := (nxK (fun t _ h => f92_4 o c n k (t 1) (t 2) (t 7) (t 8) h) (kend Pq o c n w rs92 k))
noncomputable def f92_20 (s1 s2 s7 s8 s153 : AV) (h : Heap) : α :=
  ifF o s153 (k (.b false) h) (f92_4 o c n k s1 s2 s7 s8 h)
theorem f92_20_ok : R Pq o c n (cB (cA (cB (cB (cB b92))))) (f92_19K o c n k w) = fun t _ h => f92_20 o c n k (t 1) (t 2) (t 7) (t 8) (t 153) h := by kernel_rfl
noncomputable def f92_21K : Ex → K α := (nxK (fun t _ h => f92_20 o c n k (t 1) (t 2) (t 7) (t 8) (t 153) h) (f92_19K o c n k w))
noncomputable def f92_31 (s1 s2 s7 s8 s145 s148 s151 : AV) (h : Heap) : α :=
  bkF o false s145 (pickF o s148 s151 (.b false) fun v33 => pickF o s145 (.b true) v33 fun v34 => f92_20 o c n k s1 s2 s7 s8 v34 h) (pickF o s145 (.b true) (.tup []) fun v35 => f92_20 o c n k s1 s2 s7 s8 v35 h)
theorem f92_31_ok : Q Pq o c (cO (cA (cA (cB (cB (cB b92)))))) (f92_21K o c n k w) 35 = fun t _ h => f92_31 o c n k (t 1) (t 2) (t 7) (t 8) (t 145) (t 148) (t 151) h := (q_seg 35 35 (by kernel_rfl) (q_guard 35 36 (28, false) (by kernel_rfl) (by kernel_rfl) (by kernel_rfl) rfl)).tk
noncomputable def f92_30 (s1 s2 s7 s8 s145 s148 : AV) (h : Heap) : α :=
  bkF o true s148 (faF o 2 s2 fun v36 => load1F o h v36 fun v37 => nesF Pq o 9 v37 (.s 0 0) fun v38 => f92_31 o c n k s1 s2 s7 s8 s145 s148 v38 h) (f92_31 o c n k s1 s2 s7 s8 s145 s148 (.tup []) h)
theorem f92_30_ok : Q Pq o c (cO (cA (cA (cB (cB (cB b92)))))) (f92_21K o c n k w) 32 = fun t _ h => f92_30 o c n k (t 1) (t 2) (t 7) (t 8) (t 145) (t 148) h := (q_seg 32 32 (by kernel_rfl) (q_guard 32 35 (31, true) (by kernel_rfl) (by kernel_rfl) (by kernel_rfl) (f92_31_ok o c n k w))).tk
noncomputable def f92_29 (s1 s2 s6 s7 s8 s126 s143 : AV) (h : Heap) : α :=
  pickF o s126 (.b true) s143 fun v39 => bkF o false v39 (notF o s6 fun v40 => f92_30 o c n k s1 s2 s7 s8 v39 v40 h) (f92_30 o c n k s1 s2 s7 s8 v39 (.tup []) h)
theorem f92_29_ok : Q Pq o c (cO (cA (cA (cB (cB (cB b92)))))) (f92_21K o c n k w) 27 = fun t _ h => f92_29 o c n k (t 1) (t 2) (t 6) (t 7) (t 8) (t 126) (t 143) h := (q_seg 27 29 (by kernel_rfl) (q_guard 29 32 (28, false) (by kernel_rfl) (by kernel_rfl) (by kernel_rfl) (f92_30_ok o c n k w))).tk
noncomputable def f92_28 (s1 s2 s6 s7 s8 s126 s129 s142 : AV) (h : Heap) : α :=
  bkF o false s126 (pickF o s129 s142 (.b false) fun v41 => f92_29 o c n k s1 s2 s6 s7 s8 s126 v41 h) (f92_29 o c n k s1 s2 s6 s7 s8 s126 (.tup []) h)
theorem f92_28_ok : Q Pq o c (cO (cA (cA (cB (cB (cB b92)))))) (f92_21K o c n k w) 26 = fun t _ h => f92_28 o c n k (t 1) (t 2) (t 6) (t 7) (t 8) (t 126) (t 129) (t 142) h := (q_seg 26 26 (by kernel_rfl) (q_guard 26 27 (9, false) (by kernel_rfl) (by kernel_rfl) (by kernel_rfl) (f92_29_ok o c n k w))).tk
noncomputable def f92_27 (s1 s2 s6 s7 s8 s126 s129 s138 s141 : AV) (h : Heap) : α :=
  bkF o true s129 (pickF o s138 (.b true) s141 fun v42 => f92_28 o c n k s1 s2 s6 s7 s8 s126 s129 v42 h) (f92_28 o c n k s1 s2 s6 s7 s8 s126 s129 (.tup []) h)
theorem f92_27_ok : Q Pq o c (cO (cA (cA (cB (cB (cB b92)))))) (f92_21K o c n k w) 25 = fun t _ h => f92_27 o c n k (t 1) (t 2) (t 6) (t 7) (t 8) (t 126) (t 129) (t 138) (t 141) h := (q_seg 25 25 (by kernel_rfl) (q_guard 25 26 (12, true) (by kernel_rfl) (by kernel_rfl) (by kernel_rfl) (f92_28_ok o c n k w))).tk
noncomputable def f92_26 (s1 s2 s6 s7 s8 s126 s129 s138 : AV) (h : Heap) : α :=
  bkF o false s138 (faF o 0 s2 fun v43 => load1F o h v43 fun v44 => eqiF Pq o 3 v44 (.i .i64 2) fun v45 => f92_27 o c n k s1 s2 s6 s7 s8 s126 s129 s138 v45 h) (f92_27 o c n k s1 s2 s6 s7 s8 s126 s129 s138 (.tup []) h)
theorem f92_26_ok : Q Pq o c (cO (cA (cA (cB (cB (cB b92)))))) (f92_21K o c n k w) 22 = fun t _ h => f92_26 o c n k (t 1) (t 2) (t 6) (t 7) (t 8) (t 126) (t 129) (t 138) h := (q_seg 22 22 (by kernel_rfl) (q_guard 22 25 (21, false) (by kernel_rfl) (by kernel_rfl) (by kernel_rfl) (f92_27_ok o c n k w))).tk
noncomputable def f92_25 (s1 s2 s6 s7 s8 s126 s129 s133 s136 : AV) (h : Heap) : α :=
  bkF o true s129 (pickF o s133 (.b true) s136 fun v46 => f92_26 o c n k s1 s2 s6 s7 s8 s126 s129 v46 h) (f92_26 o c n k s1 s2 s6 s7 s8 s126 s129 (.tup []) h)
theorem f92_25_ok : Q Pq o c (cO (cA (cA (cB (cB (cB b92)))))) (f92_21K o c n k w) 20 = fun t _ h => f92_25 o c n k (t 1) (t 2) (t 6) (t 7) (t 8) (t 126) (t 129) (t 133) (t 136) h := (q_seg 20 20 (by kernel_rfl) (q_guard 20 22 (12, true) (by kernel_rfl) (by kernel_rfl) (by kernel_rfl) (f92_26_ok o c n k w))).tk
noncomputable def f92_24 (s1 s2 s6 s7 s8 s126 s129 s133 : AV) (h : Heap) : α :=
  bkF o false s133 (faF o 0 s2 fun v47 => load1F o h v47 fun v48 => eqiF Pq o 3 v48 (.i .i64 1) fun v49 => f92_25 o c n k s1 s2 s6 s7 s8 s126 s129 s133 v49 h) (f92_25 o c n k s1 s2 s6 s7 s8 s126 s129 s133 (.tup []) h)
theorem f92_24_ok : Q Pq o c (cO (cA (cA (cB (cB (cB b92)))))) (f92_21K o c n k w) 17 = fun t _ h => f92_24 o c n k (t 1) (t 2) (t 6) (t 7) (t 8) (t 126) (t 129) (t 133) h := (q_seg 17 17 (by kernel_rfl) (q_guard 17 20 (16, false) (by kernel_rfl) (by kernel_rfl) (by kernel_rfl) (f92_25_ok o c n k w))).tk
noncomputable def f92_23 (s1 s2 s6 s7 s8 s126 s129 : AV) (h : Heap) : α :=
  bkF o true s129 (faF o 1 s2 fun v50 => load1F o h v50 fun v51 => neiF Pq o 21 v51 (.i .i32 0) fun v52 => f92_24 o c n k s1 s2 s6 s7 s8 s126 s129 v52 h) (f92_24 o c n k s1 s2 s6 s7 s8 s126 s129 (.tup []) h)
theorem f92_23_ok : Q Pq o c (cO (cA (cA (cB (cB (cB b92)))))) (f92_21K o c n k w) 13 = fun t _ h => f92_23 o c n k (t 1) (t 2) (t 6) (t 7) (t 8) (t 126) (t 129) h := (q_seg 13 13 (by kernel_rfl) (q_guard 13 17 (12, true) (by kernel_rfl) (by kernel_rfl) (by kernel_rfl) (f92_24_ok o c n k w))).tk
noncomputable def f92_22 (s1 s2 s5 s6 s7 s8 s119 s124 : AV) (h : Heap) : α :=
  pickF o s119 (.b true) s124 fun v53 => bkF o false v53 (notF o s5 fun v54 => f92_23 o c n k s1 s2 s6 s7 s8 v53 v54 h) (f92_23 o c n k s1 s2 s6 s7 s8 v53 (.tup []) h)
theorem f92_22_ok : Q Pq o c (cO (cA (cA (cB (cB (cB b92)))))) (f92_21K o c n k w) 8 = fun t _ h => f92_22 o c n k (t 1) (t 2) (t 5) (t 6) (t 7) (t 8) (t 119) (t 124) h := (q_seg 8 10 (by kernel_rfl) (q_guard 10 13 (9, false) (by kernel_rfl) (by kernel_rfl) (by kernel_rfl) (f92_23_ok o c n k w))).tk
noncomputable def f92_3 (s1 s2 s5 s6 s7 s8 s9 : AV) (h : Heap) : α :=
  gtrF Pq o 3 s1 (.i .i64 40) fun v55 => bkF o false v55 (faF o 5 s2 fun v56 => load1F o h v56 fun v57 => lenF o v57 fun v58 => neiF Pq o 3 v58 s9 fun v59 => f92_22 o c n k s1 s2 s5 s6 s7 s8 v55 v59 h) (f92_22 o c n k s1 s2 s5 s6 s7 s8 v55 (.tup []) h)
theorem f92_3_ok : R Pq o c n (cB (cB (cB b92))) (kend Pq o c n w rs92 k) = fun t _ h => f92_3 o c n k (t 1) (t 2) (t 5) (t 6) (t 7) (t 8) (t 9) h := (kseq (f92_4_ok o c n k w) (kseq (f92_20_ok o c n k w) (r_start 3 (by kernel_rfl) (q_guard 3 8 (2, false) (by kernel_rfl) (by kernel_rfl) (by kernel_rfl) (f92_22_ok o c n k w))))).tk
noncomputable def f92_32K : Ex → K α := (nxK (fun t _ h => f92_3 o c n k (t 1) (t 2) (t 5) (t 6) (t 7) (t 8) (t 9) h) (kend Pq o c n w rs92 k))
noncomputable def f92_37 (s1 s2 s5 s6 s7 s8 s9 : AV) (h : Heap) : α :=
  notF o s6 fun v60 => ifF o v60 (k (.b false) h) (f92_3 o c n k s1 s2 s5 s6 s7 s8 s9 h)
theorem f92_37_ok : R Pq o c n (cB (cA (cB (cB (cB (cB (cB (cA (cB (cA (cB (cB b92)))))))))))) (blockK (cI (cB (cA (cB (cB b92))))) (f92_32K o c n k w)) = fun t _ h => f92_37 o c n k (t 1) (t 2) (t 5) (t 6) (t 7) (t 8) (t 9) h := by kernel_rfl
noncomputable def f92_38K : Ex → K α := (nxK (fun t _ h => f92_37 o c n k (t 1) (t 2) (t 5) (t 6) (t 7) (t 8) (t 9) h) (blockK (cI (cB (cA (cB (cB b92))))) (f92_32K o c n k w)))
noncomputable def f92_47 (s1 s2 s5 s6 s7 s8 s12 s101 : AV) (h : Heap) : α :=
  ifF o s101 (faF o 4 s2 fun v61 => load1F o h v61 fun v62 => c 89 [v62] h fun v63 h => pk k v63 h <| f92_3 o c n k s1 s2 s5 s6 s7 v63 (.i .i64 1) h) (eqiF Pq o 3 s12 (.i .i64 17) fun v64 => ifF o v64 (faF o 3 s2 fun v65 => load1F o h v65 fun v66 => c 151 [v66] h fun v67 h => pk k v67 h <| f92_3 o c n k s1 s2 s5 s6 v67 s8 (.i .i64 2) h) (eqiF Pq o 3 s12 (.i .i64 18) fun v68 => ifF o v68 (faF o 3 s2 fun v69 => load1F o h v69 fun v70 => c 152 [v70] h fun v71 h => pk k v71 h <| f92_3 o c n k s1 s2 s5 s6 v71 s8 (.i .i64 1) h) (k (.b false) h)))
theorem f92_47_ok : R Pq o c n (cB (cB (cB (cB (cB (cB (cB (cB (cB (cB (cB (cB (cB (cB (cB (cB (cB (cB (cB (cB (cB (cB (cB (cA (cB (cA (cB (cB b92)))))))))))))))))))))))))))) (blockK (cI (cB (cA (cB (cB b92))))) (f92_32K o c n k w)) = fun t _ h => f92_47 o c n k (t 1) (t 2) (t 5) (t 6) (t 7) (t 8) (t 12) (t 101) h := by kernel_rfl
noncomputable def f92_46 (s1 s2 s5 s6 s7 s8 s12 s93 : AV) (h : Heap) : α :=
  ifF o s93 (dreg o h 8 fun base h => faF o 4 s2 fun v72 => rootF o v72 s2 <| load1F o (h.look 1) v72 fun v73 => callD o c (hidD false [(.fn (.func 89) [] []), v73] [] (sBlk s2 [])) 89 [v73] (h.look 0) fun v74 h => pnF v74 (fun x => hb h.shut fun hd => faF o 5 s2 fun v75 => rootF o v75 s2 <| load1F o (h.look 8) v75 fun v76 => lenF o v76 fun v77 => k x.pn hd) <| faF o 5 s2 fun v78 => rootF o v78 s2 <| load1F o (h.look 8) v78 fun v79 => lenF o v79 fun v80 => hb h.shut fun h => f92_3 o c n k s1 s2 s5 s6 s7 v74 v80 h) (eqiF Pq o 3 s12 (.i .i64 15) fun v81 => ifF o v81 (f92_47 o c n k s1 s2 s5 s6 s7 s8 s12 v81 h) (eqiF Pq o 3 s12 (.i .i64 16) fun v82 => f92_47 o c n k s1 s2 s5 s6 s7 s8 s12 v82 h))
theorem f92_46_ok : R Pq o c n (cB (cB (cB (cB (cB (cB (cB (cB (cB (cB (cB (cB (cB (cB (cB (cB (cB (cB (cB (cB (cB (cA (cB (cA (cB (cB b92)))))))))))))))))))))))))) (blockK (cI (cB (cA (cB (cB b92))))) (f92_32K o c n k w)) = fun t _ h => f92_46 o c n k (t 1) (t 2) (t 5) (t 6) (t 7) (t 8) (t 12) (t 93) h := (c_cond (by kernel_rfl) rfl (kseq (f92_47_ok o c n k w) rfl)).tk
noncomputable def f92_45 (s1 s2 s5 s6 s7 s8 s12 s82 : AV) (h : Heap) : α :=
  ifF o s82 (dreg o h 12 fun base h => faF o 3 s2 fun v83 => rootF o v83 s2 <| load1F o (h.look 1) v83 fun v84 => callD o c (hidD false [(.fn (.func 91) [] []), v84] [] (sBlk s2 (sBlk s2 []))) 91 [v84] (h.look 0) fun v85 h => pnF v85 (fun x => hb h.shut fun hd => faF o 4 s2 fun v86 => rootF o v86 s2 <| load1F o (h.look 8) v86 fun v87 => faF o 5 s2 fun v88 => rootF o v88 s2 <| load1F o (h.look 64) v88 fun v89 => lenF o v89 fun v90 => k x.pn hd) <| faF o 4 s2 fun v91 => rootF o v91 s2 <| load1F o (h.look 8) v91 fun v92 => callD o c (hidD false [(.fn (.func 89) [] []), v92] [] (sBlk s2 [])) 89 [v92] (h.look 0) fun v93 h => pnF v93 (fun x => hb h.shut fun hd => faF o 5 s2 fun v94 => rootF o v94 s2 <| load1F o (h.look 64) v94 fun v95 => lenF o v95 fun v96 => k x.pn hd) <| faF o 5 s2 fun v97 => rootF o v97 s2 <| load1F o (h.look 64) v97 fun v98 => lenF o v98 fun v99 => hb h.shut fun h => f92_3 o c n k s1 s2 s5 s6 v85 v93 v99 h) (eqiF Pq o 3 s12 (.i .i64 14) fun v100 => f92_46 o c n k s1 s2 s5 s6 s7 s8 s12 v100 h)
theorem f92_45_ok : R Pq o c n (cB (cB (cB (cB (cB (cB (cB (cB (cB (cB (cB (cB (cB (cB (cB (cB (cB (cB (cB (cA (cB (cA (cB (cB b92)))))))))))))))))))))))) (blockK (cI (cB (cA (cB (cB b92))))) (f92_32K o c n k w)) = fun t _ h => f92_45 o c n k (t 1) (t 2) (t 5) (t 6) (t 7) (t 8) (t 12) (t 82) h := (c_cond (by kernel_rfl) rfl (kseq (f92_46_ok o c n k w) rfl)).tk
noncomputable def f92_44 (s1 s2 s5 s6 s7 s8 s12 s73 : AV) (h : Heap) : α :=
  ifF o s73 (dreg o h 8 fun base h => faF o 3 s2 fun v101 => rootF o v101 s2 <| load1F o (h.look 1) v101 fun v102 => callD o c (hidD false [(.fn (.func 91) [] []), v102] [] (sBlk s2 [])) 91 [v102] (h.look 0) fun v103 h => pnF v103 (fun x => hb h.shut fun hd => faF o 5 s2 fun v104 => rootF o v104 s2 <| load1F o (h.look 8) v104 fun v105 => lenF o v105 fun v106 => k x.pn hd) <| faF o 5 s2 fun v107 => rootF o v107 s2 <| load1F o (h.look 8) v107 fun v108 => lenF o v108 fun v109 => hb h.shut fun h => f92_3 o c n k s1 s2 s5 s6 v103 s8 v109 h) (eqiF Pq o 3 s12 (.i .i64 13) fun v110 => f92_45 o c n k s1 s2 s5 s6 s7 s8 s12 v110 h)
theorem f92_44_ok : R Pq o c n (cB (cB (cB (cB (cB (cB (cB (cB (cB (cB (cB (cB (cB (cB (cB (cB (cB (cA (cB (cA (cB (cB b92)))))))))))))))))))))) (blockK (cI (cB (cA (cB (cB b92))))) (f92_32K o c n k w)) = fun t _ h => f92_44 o c n k (t 1) (t 2) (t 5) (t 6) (t 7) (t 8) (t 12) (t 73) h := (c_cond (by kernel_rfl) rfl (kseq (f92_45_ok o c n k w) rfl)).tk
noncomputable def f92_43 (s1 s2 s5 s6 s7 s8 s12 s64 : AV) (h : Heap) : α :=
  ifF o s64 (dreg o h 9 fun base h => faF o 3 s2 fun v111 => rootF o v111 s2 <| load1F o (h.look 1) v111 fun v112 => callD o c (hidD false [(.fn (.func 91) [] []), v112] [] (sBlk s2 [])) 91 [v112] (h.look 0) fun v113 h => pnF v113 (fun x => hb h.shut fun hd => faF o 5 s2 fun v114 => rootF o v114 s2 <| load1F o (h.look 8) v114 fun v115 => lenF o v115 fun v116 => minmax o true (.i .i64 1) v116 fun v117 => k x.pn hd) <| faF o 5 s2 fun v118 => rootF o v118 s2 <| load1F o (h.look 8) v118 fun v119 => lenF o v119 fun v120 => minmax o true (.i .i64 1) v120 fun v121 => hb h.shut fun h => f92_3 o c n k s1 s2 s5 s6 v113 s8 v121 h) (eqiF Pq o 3 s12 (.i .i64 11) fun v122 => ifF o v122 (f92_44 o c n k s1 s2 s5 s6 s7 s8 s12 v122 h) (eqiF Pq o 3 s12 (.i .i64 12) fun v123 => f92_44 o c n k s1 s2 s5 s6 s7 s8 s12 v123 h))
theorem f92_43_ok : R Pq o c n (cB (cB (cB (cB (cB (cB (cB (cB (cB (cB (cB (cB (cB (cB (cB (cA (cB (cA (cB (cB b92)))))))))))))))))))) (blockK (cI (cB (cA (cB (cB b92))))) (f92_32K o c n k w)) = fun t _ h => f92_43 o c n k (t 1) (t 2) (t 5) (t 6) (t 7) (t 8) (t 12) (t 64) h := (c_cond (by kernel_rfl) rfl (kseq (f92_44_ok o c n k w) rfl)).tk
noncomputable def f92_42 (s1 s2 s5 s6 s7 s8 s9 s12 s56 : AV) (h : Heap) : α :=
  ifF o s56 (dreg o h 8 fun base h => faF o 3 s2 fun v124 => rootF o v124 s2 <| load1F o (h.look 1) v124 fun v125 => callD o c (hidD false [(.fn (.func 91) [] []), v125] [] (sBlk s2 [])) 91 [v125] (h.look 0) fun v126 h => pnF v126 (fun x => hb h.shut fun hd => faF o 4 s2 fun v127 => rootF o v127 s2 <| load1F o (h.look 8) v127 fun v128 => k x.pn hd) <| faF o 4 s2 fun v129 => rootF o v129 s2 <| load1F o (h.look 8) v129 fun v130 => callD o c [] 89 [v130] (h.look 0) fun v131 h => pnF v131 (fun x => hb h.shut fun hd => k x.pn hd) <| hb h.shut fun h => f92_3 o c n k s1 s2 s5 s6 v126 v131 s9 h) (eqiF Pq o 3 s12 (.i .i64 10) fun v132 => f92_43 o c n k s1 s2 s5 s6 s7 s8 s12 v132 h)
theorem f92_42_ok : R Pq o c n (cB (cB (cB (cB (cB (cB (cB (cB (cB (cB (cB (cB (cB (cA (cB (cA (cB (cB b92)))))))))))))))))) (blockK (cI (cB (cA (cB (cB b92))))) (f92_32K o c n k w)) = fun t _ h => f92_42 o c n k (t 1) (t 2) (t 5) (t 6) (t 7) (t 8) (t 9) (t 12) (t 56) h := (c_cond (by kernel_rfl) rfl (kseq (f92_43_ok o c n k w) rfl)).tk
noncomputable def f92_41 (s1 s2 s5 s6 s7 s8 s9 s12 s51 : AV) (h : Heap) : α :=
  ifF o s51 (faF o 3 s2 fun v133 => load1F o h v133 fun v134 => c 91 [v134] h fun v135 h => pk k v135 h <| f92_3 o c n k s1 s2 s5 s6 v135 s8 (.i .i64 1) h) (eqiF Pq o 3 s12 (.i .i64 9) fun v136 => f92_42 o c n k s1 s2 s5 s6 s7 s8 s9 s12 v136 h)
theorem f92_41_ok : R Pq o c n (cB (cB (cB (cB (cB (cB (cB (cB (cB (cB (cB (cA (cB (cA (cB (cB b92)))))))))))))))) (blockK (cI (cB (cA (cB (cB b92))))) (f92_32K o c n k w)) = fun t _ h => f92_41 o c n k (t 1) (t 2) (t 5) (t 6) (t 7) (t 8) (t 9) (t 12) (t 51) h := (c_cond (by kernel_rfl) rfl (kseq (f92_42_ok o c n k w) rfl)).tk
noncomputable def f92_40 (s1 s2 s5 s6 s7 s8 s9 s12 s45 : AV) (h : Heap) : α :=
  ifF o s45 (faF o 3 s2 fun v137 => load1F o h v137 fun v138 => c 91 [v138] h fun v139 h => pk k v139 h <| f92_3 o c n k s1 s2 s5 s6 v139 s8 s9 h) (eqiF Pq o 3 s12 (.i .i64 7) fun v140 => f92_41 o c n k s1 s2 s5 s6 s7 s8 s9 s12 v140 h)
theorem f92_40_ok : R Pq o c n (cB (cB (cB (cB (cB (cB (cB (cB (cB (cA (cB (cA (cB (cB b92)))))))))))))) (blockK (cI (cB (cA (cB (cB b92))))) (f92_32K o c n k w)) = fun t _ h => f92_40 o c n k (t 1) (t 2) (t 5) (t 6) (t 7) (t 8) (t 9) (t 12) (t 45) h := (c_cond (by kernel_rfl) rfl (kseq (f92_41_ok o c n k w) rfl)).tk
noncomputable def f92_39 (s1 s2 s5 s6 s7 s8 s9 s12 s42 : AV) (h : Heap) : α :=
  ifF o s42 (f92_3 o c n k s1 s2 s5 s6 s7 s8 s9 h) (eqiF Pq o 3 s12 (.i .i64 6) fun v141 => ifF o v141 (f92_40 o c n k s1 s2 s5 s6 s7 s8 s9 s12 v141 h) (eqiF Pq o 3 s12 (.i .i64 8) fun v142 => f92_40 o c n k s1 s2 s5 s6 s7 s8 s9 s12 v142 h))
theorem f92_39_ok : R Pq o c n (cB (cB (cB (cB (cB (cB (cB (cA (cB (cA (cB (cB b92)))))))))))) (blockK (cI (cB (cA (cB (cB b92))))) (f92_32K o c n k w)) = fun t _ h => f92_39 o c n k (t 1) (t 2) (t 5) (t 6) (t 7) (t 8) (t 9) (t 12) (t 42) h := (c_cond (by kernel_rfl) rfl (kseq (f92_40_ok o c n k w) rfl)).tk
noncomputable def f92_36 (s1 s2 s5 s6 s7 s8 s9 s12 s28 : AV) (h : Heap) : α :=
  ifF o s28 (faF o 2 s2 fun v143 => load1F o h v143 fun v144 => lensF o v144 fun v145 => leqF Pq o 3 v145 (.i .i64 1000) fun v146 => bkF o true v146 (faF o 2 s2 fun v147 => load1F o h v147 fun v148 => c 76 [v148] h fun v149 h => pk k v149 h <| lssF Pq o 3 v149 (.i .i64 0) fun v150 => pickF o v146 v150 (.b false) fun v151 => f92_37 o c n k s1 s2 s5 v151 s7 s8 s9 h) (pickF o v146 (.tup []) (.b false) fun v152 => f92_37 o c n k s1 s2 s5 v152 s7 s8 s9 h)) (eqiF Pq o 3 s12 (.i .i64 4) fun v153 => ifF o v153 (f92_39 o c n k s1 s2 s5 s6 s7 s8 s9 s12 v153 h) (eqiF Pq o 3 s12 (.i .i64 5) fun v154 => f92_39 o c n k s1 s2 s5 s6 s7 s8 s9 s12 v154 h))
theorem f92_36_ok : R Pq o c n (cB (cB (cB (cB (cB (cA (cB (cA (cB (cB b92)))))))))) (blockK (cI (cB (cA (cB (cB b92))))) (f92_32K o c n k w)) = fun t _ h => f92_36 o c n k (t 1) (t 2) (t 5) (t 6) (t 7) (t 8) (t 9) (t 12) (t 28) h := (c_cond (by kernel_rfl) (kseq (f92_37_ok o c n k w) (r_start 5 (by kernel_rfl) (q_guard 5 9 (4, true) (by kernel_rfl) (by kernel_rfl) (by kernel_rfl) rfl))) (kseq (f92_39_ok o c n k w) rfl)).tk
noncomputable def f92_35 (s1 s2 s5 s6 s7 s8 s9 s12 s18 : AV) (h : Heap) : α :=
  ifF o s18 (faF o 1 s2 fun v155 => load1F o h v155 fun v156 => eqiF Pq o 21 v156 (.i .i32 0) fun v157 => bkF o false v157 (faF o 1 s2 fun v158 => load1F o h v158 fun v159 => eqiF Pq o 21 v159 (.i .i32 1) fun v160 => pickF o v157 (.b true) v160 fun v161 => f92_3 o c n k s1 s2 v161 s6 s7 s8 s9 h) (pickF o v157 (.b true) (.tup []) fun v162 => f92_3 o c n k s1 s2 v162 s6 s7 s8 s9 h)) (eqiF Pq o 3 s12 (.i .i64 3) fun v163 => f92_36 o c n k s1 s2 s5 s6 s7 s8 s9 s12 v163 h)
theorem f92_35_ok : R Pq o c n (cB (cB (cB (cA (cB (cA (cB (cB b92)))))))) (blockK (cI (cB (cA (cB (cB b92))))) (f92_32K o c n k w)) = fun t _ h => f92_35 o c n k (t 1) (t 2) (t 5) (t 6) (t 7) (t 8) (t 9) (t 12) (t 18) h := (c_cond (by kernel_rfl) (r_start 4 (by kernel_rfl) (q_guard 4 7 (3, false) (by kernel_rfl) (by kernel_rfl) (by kernel_rfl) rfl)) (kseq (f92_36_ok o c n k w) rfl)).tk
noncomputable def f92_34 (s1 s2 s5 s6 s7 s8 s9 s12 s13 : AV) (h : Heap) : α :=
  ifF o s13 (faF o 1 s2 fun v164 => load1F o h v164 fun v165 => geqF Pq o 21 v165 (.i .i32 0) fun v166 => f92_3 o c n k s1 s2 v166 s6 s7 s8 s9 h) (eqiF Pq o 3 s12 (.i .i64 2) fun v167 => f92_35 o c n k s1 s2 s5 s6 s7 s8 s9 s12 v167 h)
theorem f92_34_ok : R Pq o c n (cB (cA (cB (cA (cB (cB b92)))))) (blockK (cI (cB (cA (cB (cB b92))))) (f92_32K o c n k w)) = fun t _ h => f92_34 o c n k (t 1) (t 2) (t 5) (t 6) (t 7) (t 8) (t 9) (t 12) (t 13) h := (c_cond (by kernel_rfl) rfl (kseq (f92_35_ok o c n k w) rfl)).tk
noncomputable def f92_33 (s1 s2 s5 s6 s7 s8 s9 s12 : AV) (h : Heap) : α :=
  eqiF Pq o 3 s12 (.i .i64 1) fun v168 => f92_34 o c n k s1 s2 s5 s6 s7 s8 s9 s12 v168 h
theorem f92_33_ok : R Pq o c n (cB (cA (cB (cB b92)))) (f92_32K o c n k w) = fun t _ h => f92_33 o c n k (t 1) (t 2) (t 5) (t 6) (t 7) (t 8) (t 9) (t 12) h := (kblk (kseq (f92_34_ok o c n k w) rfl)).tk
noncomputable def f92_2 (s1 s2 s5 s6 s7 s8 s9 : AV) (h : Heap) : α :=
  faF o 0 s2 fun v169 => load1F o h v169 fun v170 => f92_33 o c n k s1 s2 s5 s6 s7 s8 s9 v170 h
theorem f92_2_ok : R Pq o c n (cB (cB b92)) (kend Pq o c n w rs92 k) = fun t _ h => f92_2 o c n k (t 1) (t 2) (t 5) (t 6) (t 7) (t 8) (t 9) h := (kseq (f92_3_ok o c n k w) (kseq (f92_33_ok o c n k w) rfl)).tk
noncomputable def f92_1 (s1 s2 : AV) (h : Heap) : α :=
  f92_2 o c n k s1 s2 (.b false) (.b false) (.b false) (.b false) (.i .i64 0) h
theorem f92_1_ok : R Pq o c n (cB b92) (kend Pq o c n w rs92 k) = fun t _ h => f92_1 o c n k (t 1) (t 2) h := (kseq (f92_2_ok o c n k w) rfl).tk
noncomputable def f92 (a0 a1 : AV) (h : Heap) : α :=
  boxF o a0 h h.next fun v171 h => f92_1 o c n k a1 v171 h
theorem f92_ok : R Pq o c n b92 (kend Pq o c n w rs92 k) = fun t _ h => f92 o c n k (t 0) (t 1) h := (kseq (f92_1_ok o c n k w) rfl).tk
theorem f92_good : Good Pq (cfg mm) 92 (entF Pq (cfg mm) 92 2 fun α => f92) := entG b92 rs92 196 fun _ => f92_ok
noncomputable def b97 := bdy Tryz.f97
noncomputable def rs97 := Tryz.f97.results.toList
noncomputable def f97 {α : Type} (o : α) (c : Call' α) (n : Nat) (k : AV → Heap → α) (a0 : AV) (h : Heap) : α :=
  boxF o a0 h h.next fun v1 h => loadNF o h 1 v1 fun v2 => c 158 [v2, (.fn (.func 159) [] [v1])] h fun v3 h => pk k v3 h <| assertA Pq o v3 187 true fun v4 => exF o v4 0 fun v5 => exF o v4 1 fun v6 => newF h h.next 2 [(.i .i64 0), (.i .i64 0)] fun v7 h => storeF o h 2 v7 v5 fun h => ifF o v6 (dreg o h 6 fun base h => faF o 0 v7 fun v8 => rootF o v8 v7 <| load1F o (h.look 1) v8 fun v9 => faF o 1 v7 fun v10 => rootF o v10 v7 <| load1F o (h.look 4) v10 fun v11 => hb h.shut fun h => k (.tup [v9, v11]) h) (loadNF o h 1 v1 fun v12 => c 158 [v12, (.fn (.func 160) [] [v1])] h fun v13 h => pk k v13 h <| assertA Pq o v13 187 true fun v14 => exF o v14 0 fun v15 => exF o v14 1 fun v16 => newF h h.next 2 [(.i .i64 0), (.i .i64 0)] fun v17 h => storeF o h 2 v17 v15 fun h => ifF o v16 (dreg o h 6 fun base h => faF o 0 v17 fun v18 => rootF o v18 v17 <| load1F o (h.look 1) v18 fun v19 => faF o 1 v17 fun v20 => rootF o v20 v17 <| load1F o (h.look 4) v20 fun v21 => hb h.shut fun h => k (.tup [v19, v21]) h) (k (.tup [(.i .i64 0), (.i .i64 0)]) h))
theorem f97_ok : R Pq o c n b97 (kend Pq o c n w rs97 k) = fun t _ h => f97 o c n k (t 0) h := by kernel_rfl
theorem f97_good : Good Pq (cfg mm) 97 (entF Pq (cfg mm) 97 1 fun α => f97) := entG b97 rs97 32 fun _ => f97_ok
noncomputable def b103 := bdy Tryz.f103
noncomputable def rs103 := Tryz.f103.results.toList
noncomputable def f103 {α : Type} (o : α) (c : Call' α) (n : Nat) (k : AV → Heap → α) (a0 : AV) (h : Heap) : α :=
  boxF o a0 h h.next fun v1 h => newF h h.next 1 [.nsl] fun v2 h => loadNF o h 1 v1 fun v3 => c 173 [v3, .nfn, .nfn] h fun v4 h => pk k v4 h <| storeF o h 1 v2 v4 fun h => on o (resV Pq h [(v2, some 26)]) fun v => k v h
theorem f103_ok : R Pq o c n b103 (kend Pq o c n w rs103 k) = fun t _ h => f103 o c n k (t 0) h := by kernel_rfl
theorem f103_good : Good Pq (cfg mm) 103 (entF Pq (cfg mm) 103 1 fun α => f103) := entG b103 rs103 5 fun _ => f103_ok
noncomputable def b108 := bdy Tryz.f108
noncomputable def rs108 := Tryz.f108.results.toList
noncomputable def f108 {α : Type} (o : α) (c : Call' α) (n : Nat) (k : AV → Heap → α) (a0 a1 a2 a3 a4 : AV) (h : Heap) : α :=
  boxF o a0 h h.next fun v1 h => faF o 5 a1 fun v2 => load1F o h v2 fun v3 => load1F o h a2 fun v4 => loadNF o h 8 v1 fun v5 => c 109 [v3, v4, v5] h fun v6 h => pk k v6 h <| exF o v6 0 fun v7 => exF o v6 1 fun v8 => dreg o h 13 fun base h => load1F o (h.look 0) a3 fun v9 => load1F o (h.look 0) a3 fun v10 => nilChk o v10 fun v11 => faF o 0 v11 fun v12 => loadNF o (h.look 14) 1 v12 fun v13 => load1F o (h.look 0) a3 fun v14 => nilChk o v14 fun v15 => faF o 3 v15 fun v16 => load1F o (h.look 224) v16 fun v17 => load1F o (h.look 0) a4 fun v18 => callD o c (hidD false [(.fn (.func 47) [] []), v13, v17, v18, v7] [] (sBlk a3 [])) 47 [v13, v17, v18, v7] (h.look 0) fun v19 h => pnF v19 (fun x => hb h.shut fun hd => k x.pn hd) <| callD o c [] 46 [v9, v19] h fun v20 h => pnF v20 (fun x => hb h.shut fun hd => k x.pn hd) <| hb h.shut fun h => k (.tup []) h
theorem f108_ok : R Pq o c n b108 (kend Pq o c n w rs108 k) = fun t _ h => f108 o c n k (t 0) (t 1) (t 2) (t 3) (t 4) h := by kernel_rfl
theorem f108_good : Good Pq (cfg mm) 108 (entF Pq (cfg mm) 108 5 fun α => f108) := entG b108 rs108 29 fun _ => f108_ok
noncomputable def b109 := bdy Tryz.f109
noncomputable def rs109 := Tryz.f109.results.toList
noncomputable def f109 {α : Type} (o : α) (c : Call' α) (n : Nat) (k : AV → Heap → α) (a0 a1 a2 : AV) (h : Heap) : α :=
  boxF o a2 h h.next fun v1 h => loadNF o h 8 v1 fun v2 => layF o 0 (.ifc 3 a1) [.nifc, (.i .i64 0), (.i .i32 0), (.s 0 0), (.s 0 0), (.s 0 0), .nsl, (.s 0 0), (.i .i64 0)] fun v3 => lay1 o 1 8 v2 v3 fun v4 => boxF o (.agg v4) h h.next fun v5 h => lssF Pq o 3 a1 (.i .i64 0) fun v6 => ifF o v6 (nilChk o v5 fun v7 => faF o 0 v7 fun v8 => storeF o h 1 v8 .nifc fun h => c 180 [v5, a0] h fun v9 h => pk k v9 h <| k (.tup [v9, (.b false)]) h) (c 180 [v5, a0] h fun v10 h => pk k v10 h <| dreg o h 8 fun base h => nilChk o v5 fun v11 => faF o 0 v11 fun v12 => rootF o v12 v5 <| load1F o (h.look 14) v12 fun v13 => eqiF Pq o 20 v13 .nifc fun v14 => hb h.shut fun h => k (.tup [v10, v14]) h)
theorem f109_ok : R Pq o c n b109 (kend Pq o c n w rs109 k) = fun t _ h => f109 o c n k (t 0) (t 1) (t 2) h := by kernel_rfl
theorem f109_good : Good Pq (cfg mm) 109 (entF Pq (cfg mm) 109 3 fun α => f109) := entG b109 rs109 32 fun _ => f109_ok
noncomputable def b115 := bdy Tryz.f115
noncomputable def rs115 := Tryz.f115.results.toList
noncomputable def f115_3K : Ex → K α := (nxK (R Pq o c n (cB (cB (cB b115))) (kend Pq o c n w rs115 k)) (kend Pq o c n w rs115 k))
noncomputable def f115_5K (lp0 : AVs (Heap → α) 3) : Ex → K α := (nxK (fun t _ h => lp0 (t 1) (t 2) (t 5) h) (blockK (cI (cA (cB (cB b115)))) (f115_3K o c n k w)))
noncomputable def f115_6 {α : Type} (o : α) (c : Call' α) (n : Nat) (k : AV → Heap → α) (lp0 : AVs (Heap → α) 3) (s1 s2 s5 : AV) (h : Heap) : α :=
  fil1 o 1 1 0 s1 [[(.s 0 0)]] fun v1 => newEF h h.next 1 1 v1 fun v2 h => appX Pq o h h.next 37 37 s5 v2 fun v3 h => loadNF o h 1 s2 fun v4 => c 116 [v4, s1] h fun v5 h => pk k v5 h <| lp0 v5 s2 v3 h
theorem f115_6_ok (lp0 : AVs (Heap → α) 3) : R Pq o c n (cB (cA (cA (cA (cB (cB b115)))))) (f115_5K o c n k w lp0) = fun t _ h => f115_6 o c n k lp0 (t 1) (t 2) (t 5) h := by kernel_rfl
noncomputable def f115_7K (lp0 : AVs (Heap → α) 3) : Ex → K α := (nxK (fun t _ h => f115_6 o c n k lp0 (t 1) (t 2) (t 5) h) (f115_5K o c n k w lp0))
noncomputable def f115_8K (lp0 : AVs (Heap → α) 3) : Ex → K α := (nxK (R Pq o c n (cB (cA (cA (cA (cA (cB (cB b115))))))) (f115_7K o c n k w lp0)) (f115_7K o c n k w lp0))
noncomputable def f115_4 (m : Nat) : AVs (Heap → α) 3 :=
  Nat.rec (motive := fun _ => AVs (Heap → α) 3) (fun _ _ _ _ => o) (fun _ lp0 s1 s2 s5 h => loadNF o h 1 s2 fun v6 => c 69 [v6, s1] h fun v7 h => pk k v7 h <| bkF o true v7 (c 17 [s5, s1] h fun v8 h => pk k v8 h <| notF o v8 fun v9 => pickF o v7 v9 (.b false) fun v10 => ifF o v10 (f115_6 o c n k lp0 s1 s2 s5 h) (k s5 h)) (pickF o v7 (.tup []) (.b false) fun v11 => ifF o v11 (f115_6 o c n k lp0 s1 s2 s5 h) (k s5 h))) m
theorem f115_4_ok : R Pq o c n (cA (cA (cB (cB b115)))) (blockK (cI (cA (cB (cB b115)))) (f115_3K o c n k w)) = fun t _ h => f115_4 o c n k n (t 1) (t 2) (t 5) h :=
  c_loop (F := fun m t _ h => f115_4 o c n k m (t 1) (t 2) (t 5) h) (by kernel_rfl) (by kernel_rfl) fun m => (kseq (f115_6_ok o c n k w (f115_4 o c n k m)) (kseq rfl (r_start 4 (by kernel_rfl) (q_guard 4 8 (3, true) (by kernel_rfl) (by kernel_rfl) (by kernel_rfl) rfl)))).tk
noncomputable def f115_2 (s1 s2 s5 : AV) (h : Heap) : α :=
  f115_4 o c n k n s1 s2 s5 h
theorem f115_2_ok : R Pq o c n (cB (cB b115)) (kend Pq o c n w rs115 k) = fun t _ h => f115_2 o c n k (t 1) (t 2) (t 5) h := (kseq rfl (kblk (f115_4_ok o c n k w))).tk
noncomputable def f115_1 (s1 s2 : AV) (h : Heap) : α :=
  f115_2 o c n k s1 s2 .nsl h
theorem f115_1_ok : R Pq o c n (cB b115) (kend Pq o c n w rs115 k) = fun t _ h => f115_1 o c n k (t 1) (t 2) h := (kseq (f115_2_ok o c n k w) rfl).tk
noncomputable def f115 (a0 a1 : AV) (h : Heap) : α :=
  boxF o a0 h h.next fun v12 h => f115_1 o c n k a1 v12 h
theorem f115_ok : R Pq o c n b115 (kend Pq o c n w rs115 k) = fun t _ h => f115 o c n k (t 0) (t 1) h := (kseq (f115_1_ok o c n k w) rfl).tk
theorem f115_good : Good Pq (cfg mm) 115 (entF Pq (cfg mm) 115 2 fun α => f115) := entG b115 rs115 23 fun _ => f115_ok
noncomputable def b116 := bdy Tryz.f116
noncomputable def rs116 := Tryz.f116.results.toList
noncomputable def f116 {α : Type} (o : α) (c : Call' α) (n : Nat) (k : AV → Heap → α) (a0 a1 : AV) (h : Heap) : α :=
  boxF o a0 h h.next fun v1 h => c 117 [a1] h fun v2 h => pk k v2 h <| ifF o v2 (eqsF Pq o 9 a1 (.s 9 2037169923944901474373) fun v3 => ifF o v3 (k (.s 0 0) h) (k (.s 9 2037169923944901474373) h)) (loadNF o h 1 v1 fun v4 => c 118 [v4, a1] h fun v5 h => pk k v5 h <| lssF Pq o 3 v5 (.i .i64 0) fun v6 => ifF o v6 (k (.s 0 0) h) (faF o 0 v1 fun v7 => load1F o h v7 fun v8 => ixF o 4 v8 v5 fun v9 => faF o 1 v9 fun v10 => load1F o h v10 fun v11 => k v11 h))
theorem f116_ok : R Pq o c n b116 (kend Pq o c n w rs116 k) = fun t _ h => f116 o c n k (t 0) (t 1) h := by kernel_rfl
theorem f116_good : Good Pq (cfg mm) 116 (entF Pq (cfg mm) 116 2 fun α => f116) := entG b116 rs116 21 fun _ => f116_ok
noncomputable def b117 := bdy Tryz.f117
noncomputable def rs117 := Tryz.f117.results.toList
noncomputable def f117 {α : Type} (o : α) (c : Call' α) (n : Nat) (k : AV → Heap → α) (a0 : AV) (h : Heap) : α :=
  fil1 o 1 5 0 (.s 9 2037169923944901474373) (lrep [(.s 0 0)] 5) fun v1 => fil1 o 1 5 1 (.s 9 2147637572233774003534) v1 fun v2 => fil1 o 1 5 2 (.s 9 2147637572233908674883) v2 fun v3 => fil1 o 1 5 3 (.s 9 2147637572233824724314) v3 fun v4 => fil1 o 1 5 4 (.s 10 549795218491815995793746) v4 fun v5 => newEF h h.next 1 5 v5 fun v6 h => c 17 [v6, a0] h fun v7 h => pk k v7 h <| k v7 h
theorem f117_ok : R Pq o c n b117 (kend Pq o c n w rs117 k) = fun t _ h => f117 o c n k (t 0) h := by kernel_rfl
theorem f117_good : Good Pq (cfg mm) 117 (entF Pq (cfg mm) 117 1 fun α => f117) := entG b117 rs117 6 fun _ => f117_ok
noncomputable def b118 := bdy Tryz.f118
noncomputable def rs118 := Tryz.f118.results.toList
noncomputable def f118 {α : Type} (o : α) (c : Call' α) (n : Nat) (k : AV → Heap → α) (a0 a1 : AV) (h : Heap) : α :=
  boxF o a0 h h.next fun v1 h => boxF o a1 h h.next fun v2 h => faF o 0 v1 fun v3 => load1F o h v3 fun v4 => c 183 [v4, (.fn (.func 184) [] [v2])] h fun v5 h => pk k v5 h <| k v5 h
theorem f118_ok : R Pq o c n b118 (kend Pq o c n w rs118 k) = fun t _ h => f118 o c n k (t 0) (t 1) h := by kernel_rfl
theorem f118_good : Good Pq (cfg mm) 118 (entF Pq (cfg mm) 118 2 fun α => f118) := entG b118 rs118 9 fun _ => f118_ok
noncomputable def b132 := bdy Tryz.f132
noncomputable def rs132 := Tryz.f132.results.toList
noncomputable def f132_7K : Ex → K α := (nxK (R Pq o c n (cB (cB (cB (cB (cB (cB (cB b132))))))) (kend Pq o c n w rs132 k)) (kend Pq o c n w rs132 k))
noncomputable def f132_10K (lp0 : AVs (Heap → α) 8) : Ex → K α := (nxK (fun t _ h => lp0 (t 0) (t 1) (t 4) (t 6) (t 7) (t 8) (t 9) (t 10) h) (blockK (cI (cB (cA (cB (cB (cB (cB (cB (cB b132))))))))) (f132_7K o c n k w)))
noncomputable def f132_12 {α : Type} (o : α) (c : Call' α) (n : Nat) (k : AV → Heap → α) (lp0 : AVs (Heap → α) 8) (s0 s1 s4 s6 s7 s8 s9 s10 : AV) (h : Heap) : α :=
  addF Pq o 3 s10 (.i .i64 1) fun v1 => lp0 s0 s1 s4 s6 s7 s8 s9 v1 h
theorem f132_12_ok (lp0 : AVs (Heap → α) 8) : R Pq o c n (cB (cB (cA (cA (cB (cA (cB (cB (cB (cB (cB (cB b132)))))))))))) (f132_10K o c n k w lp0) = fun t _ h => f132_12 o c n k lp0 (t 0) (t 1) (t 4) (t 6) (t 7) (t 8) (t 9) (t 10) h := by kernel_rfl
noncomputable def f132_13K (lp0 : AVs (Heap → α) 8) : Ex → K α := (nxK (fun t _ h => f132_12 o c n k lp0 (t 0) (t 1) (t 4) (t 6) (t 7) (t 8) (t 9) (t 10) h) (f132_10K o c n k w lp0))
noncomputable def f132_15 (lp0 : AVs (Heap → α) 8) (s0 s1 s4 s6 s7 s8 s9 s10 s11 : AV) (h : Heap) : α :=
  binA Pq o .shl 21 s9 (.i .u64 6) fun v2 => binA Pq o .and 3 s11 (.i .i64 63) fun v3 => convA Pq o 3 21 v3 fun v4 => binA Pq o .or 21 v2 v4 fun v5 => f132_12 o c n k lp0 s0 s1 s4 s6 s7 s8 v5 s10 h
theorem f132_15_ok (lp0 : AVs (Heap → α) 8) : R Pq o c n (cB (cB (cA (cA (cB (cA (cA (cB (cA (cB (cB (cB (cB (cB (cB b132))))))))))))))) (blockK (cI (cA (cB (cA (cA (cB (cA (cB (cB (cB (cB (cB (cB b132))))))))))))) (f132_13K o c n k w lp0)) = fun t _ h => f132_15 o c n k lp0 (t 0) (t 1) (t 4) (t 6) (t 7) (t 8) (t 9) (t 10) (t 11) h := by kernel_rfl
noncomputable def f132_16K (lp0 : AVs (Heap → α) 8) : Ex → K α := (nxK (fun t _ h => f132_15 o c n k lp0 (t 0) (t 1) (t 4) (t 6) (t 7) (t 8) (t 9) (t 10) (t 11) h) (blockK (cI (cA (cB (cA (cA (cB (cA (cB (cB (cB (cB (cB (cB b132))))))))))))) (f132_13K o c n k w lp0)))
noncomputable def f132_17 (lp0 : AVs (Heap → α) 8) (s0 s1 s4 s6 s7 s8 s9 s10 s11 s99 : AV) (h : Heap) : α :=
  ifF o s99 (layF o 0 (.i .i32 65533) [(.i .i32 0), (.i .i64 0), (.b false)] fun v6 => layF o 1 (.i .i64 1) v6 fun v7 => layF o 2 (.b true) v7 fun v8 => storeF o h 3 s4 (.agg v8) fun h => on o (resV Pq h [(s4, some 172)]) fun v => k v h) (f132_15 o c n k lp0 s0 s1 s4 s6 s7 s8 s9 s10 s11 h)
theorem f132_17_ok (lp0 : AVs (Heap → α) 8) : R Pq o c n (cB (cA (cB (cA (cA (cB (cA (cA (cB (cA (cB (cB (cB (cB (cB (cB b132)))))))))))))))) (f132_16K o c n k w lp0) = fun t _ h => f132_17 o c n k lp0 (t 0) (t 1) (t 4) (t 6) (t 7) (t 8) (t 9) (t 10) (t 11) (t 99) h := by kernel_rfl
noncomputable def f132_18K (lp0 : AVs (Heap → α) 8) : Ex → K α := (nxK (fun t _ h => f132_17 o c n k lp0 (t 0) (t 1) (t 4) (t 6) (t 7) (t 8) (t 9) (t 10) (t 11) (t 99) h) (f132_16K o c n k w lp0))
noncomputable def f132_22 (lp0 : AVs (Heap → α) 8) (s0 s1 s4 s6 s7 s8 s9 s10 s11 s92 s94 : AV) (h : Heap) : α :=
  pickF o s92 (.b true) s94 fun v9 => bkF o false v9 (gtrF Pq o 3 s11 (.i .i64 191) fun v10 => pickF o v9 (.b true) v10 fun v11 => f132_17 o c n k lp0 s0 s1 s4 s6 s7 s8 s9 s10 s11 v11 h) (pickF o v9 (.b true) (.tup []) fun v12 => f132_17 o c n k lp0 s0 s1 s4 s6 s7 s8 s9 s10 s11 v12 h)
theorem f132_22_ok (lp0 : AVs (Heap → α) 8) : Q Pq o c (cO (cA (cA (cB (cA (cA (cB (cA (cA (cB (cA (cB (cB (cB (cB (cB (cB b132))))))))))))))))) (f132_18K o c n k w lp0) 15 = fun t _ h => f132_22 o c n k lp0 (t 0) (t 1) (t 4) (t 6) (t 7) (t 8) (t 9) (t 10) (t 11) (t 92) (t 94) h := (q_seg 15 17 (by kernel_rfl) (q_guard 17 19 (16, false) (by kernel_rfl) (by kernel_rfl) (by kernel_rfl) rfl)).tk
noncomputable def f132_21 (lp0 : AVs (Heap → α) 8) (s0 s1 s4 s6 s7 s8 s9 s10 s11 s82 s90 : AV) (h : Heap) : α :=
  pickF o s82 s90 (.b false) fun v13 => bkF o false v13 (lssF Pq o 3 s11 (.i .i64 128) fun v14 => f132_22 o c n k lp0 s0 s1 s4 s6 s7 s8 s9 s10 s11 v13 v14 h) (f132_22 o c n k lp0 s0 s1 s4 s6 s7 s8 s9 s10 s11 v13 (.tup []) h)
theorem f132_21_ok (lp0 : AVs (Heap → α) 8) : Q Pq o c (cO (cA (cA (cB (cA (cA (cB (cA (cA (cB (cA (cB (cB (cB (cB (cB (cB b132))))))))))))))))) (f132_18K o c n k w lp0) 11 = fun t _ h => f132_21 o c n k lp0 (t 0) (t 1) (t 4) (t 6) (t 7) (t 8) (t 9) (t 10) (t 11) (t 82) (t 90) h := (q_seg 11 13 (by kernel_rfl) (q_guard 13 15 (12, false) (by kernel_rfl) (by kernel_rfl) (by kernel_rfl) (f132_22_ok o c n k w lp0))).tk
noncomputable def f132_20 (lp0 : AVs (Heap → α) 8) (s0 s1 s4 s6 s7 s8 s9 s10 s11 s82 s86 s89 : AV) (h : Heap) : α :=
  bkF o true s82 (pickF o s86 (.b true) s89 fun v15 => f132_21 o c n k lp0 s0 s1 s4 s6 s7 s8 s9 s10 s11 s82 v15 h) (f132_21 o c n k lp0 s0 s1 s4 s6 s7 s8 s9 s10 s11 s82 (.tup []) h)
theorem f132_20_ok (lp0 : AVs (Heap → α) 8) : Q Pq o c (cO (cA (cA (cB (cA (cA (cB (cA (cA (cB (cA (cB (cB (cB (cB (cB (cB b132))))))))))))))))) (f132_18K o c n k w lp0) 10 = fun t _ h => f132_20 o c n k lp0 (t 0) (t 1) (t 4) (t 6) (t 7) (t 8) (t 9) (t 10) (t 11) (t 82) (t 86) (t 89) h := (q_seg 10 10 (by kernel_rfl) (q_guard 10 11 (2, true) (by kernel_rfl) (by kernel_rfl) (by kernel_rfl) (f132_21_ok o c n k w lp0))).tk
noncomputable def f132_19 (lp0 : AVs (Heap → α) 8) (s0 s1 s4 s6 s7 s8 s9 s10 s11 s82 s86 : AV) (h : Heap) : α :=
  bkF o false s86 (gtrF Pq o 3 s11 s8 fun v16 => f132_20 o c n k lp0 s0 s1 s4 s6 s7 s8 s9 s10 s11 s82 s86 v16 h) (f132_20 o c n k lp0 s0 s1 s4 s6 s7 s8 s9 s10 s11 s82 s86 (.tup []) h)
theorem f132_19_ok (lp0 : AVs (Heap → α) 8) : Q Pq o c (cO (cA (cA (cB (cA (cA (cB (cA (cA (cB (cA (cB (cB (cB (cB (cB (cB b132))))))))))))))))) (f132_18K o c n k w lp0) 7 = fun t _ h => f132_19 o c n k lp0 (t 0) (t 1) (t 4) (t 6) (t 7) (t 8) (t 9) (t 10) (t 11) (t 82) (t 86) h := (q_seg 7 7 (by kernel_rfl) (q_guard 7 10 (6, false) (by kernel_rfl) (by kernel_rfl) (by kernel_rfl) (f132_20_ok o c n k w lp0))).tk
noncomputable def f132_14 (lp0 : AVs (Heap → α) 8) (s0 s1 s4 s6 s7 s8 s9 s10 s11 : AV) (h : Heap) : α :=
  eqiF Pq o 3 s10 (.i .i64 1) fun v17 => bkF o true v17 (lssF Pq o 3 s11 s7 fun v18 => f132_19 o c n k lp0 s0 s1 s4 s6 s7 s8 s9 s10 s11 v17 v18 h) (f132_19 o c n k lp0 s0 s1 s4 s6 s7 s8 s9 s10 s11 v17 (.tup []) h)
theorem f132_14_ok (lp0 : AVs (Heap → α) 8) : R Pq o c n (cB (cA (cA (cB (cA (cA (cB (cA (cB (cB (cB (cB (cB (cB b132)))))))))))))) (blockK (cI (cA (cB (cA (cA (cB (cA (cB (cB (cB (cB (cB (cB b132))))))))))))) (f132_13K o c n k w lp0)) = fun t _ h => f132_14 o c n k lp0 (t 0) (t 1) (t 4) (t 6) (t 7) (t 8) (t 9) (t 10) (t 11) h := (kseq (f132_15_ok o c n k w lp0) (kseq (f132_17_ok o c n k w lp0) (r_start 3 (by kernel_rfl) (q_guard 3 7 (2, true) (by kernel_rfl) (by kernel_rfl) (by kernel_rfl) (f132_19_ok o c n k w lp0))))).tk
noncomputable def f132_11 (lp0 : AVs (Heap → α) 8) (s0 s1 s4 s6 s7 s8 s9 s10 : AV) (h : Heap) : α :=
  addF Pq o 3 s1 s10 fun v19 => sxF o s0 v19 fun v20 => convA Pq o 5 3 v20 fun v21 => f132_14 o c n k lp0 s0 s1 s4 s6 s7 s8 s9 s10 v21 h
theorem f132_11_ok (lp0 : AVs (Heap → α) 8) : R Pq o c n (cB (cA (cA (cB (cA (cB (cB (cB (cB (cB (cB b132))))))))))) (f132_10K o c n k w lp0) = fun t _ h => f132_11 o c n k lp0 (t 0) (t 1) (t 4) (t 6) (t 7) (t 8) (t 9) (t 10) h := (kseq (f132_12_ok o c n k w lp0) (kblk (kseq (f132_14_ok o c n k w lp0) rfl))).tk
noncomputable def f132_9 (m : Nat) : AVs (Heap → α) 8 :=
  Nat.rec (motive := fun _ => AVs (Heap → α) 8) (fun _ _ _ _ _ _ _ _ _ => o) (fun _ lp0 s0 s1 s4 s6 s7 s8 s9 s10 h => lssF Pq o 3 s10 s6 fun v22 => ifF o v22 (f132_11 o c n k lp0 s0 s1 s4 s6 s7 s8 s9 s10 h) (layF o 0 s9 [(.i .i32 0), (.i .i64 0), (.b false)] fun v23 => layF o 1 s6 v23 fun v24 => storeF o h 3 s4 (.agg v24) fun h => on o (resV Pq h [(s4, some 172)]) fun v => k v h)) m
theorem f132_9_ok : R Pq o c n (cA (cB (cA (cB (cB (cB (cB (cB (cB b132))))))))) (blockK (cI (cB (cA (cB (cB (cB (cB (cB (cB b132))))))))) (f132_7K o c n k w)) = fun t _ h => f132_9 o c n k n (t 0) (t 1) (t 4) (t 6) (t 7) (t 8) (t 9) (t 10) h :=
  c_loop (F := fun m t _ h => f132_9 o c n k m (t 0) (t 1) (t 4) (t 6) (t 7) (t 8) (t 9) (t 10) h) (by kernel_rfl) (by kernel_rfl) fun m => (kseq (f132_11_ok o c n k w (f132_9 o c n k m)) rfl).tk
noncomputable def f132_8 (s0 s1 s4 s6 s7 s8 s9 s10 : AV) (h : Heap) : α :=
  f132_9 o c n k n s0 s1 s4 s6 s7 s8 s9 s10 h
theorem f132_8_ok : R Pq o c n (cB (cA (cB (cB (cB (cB (cB (cB b132)))))))) (f132_7K o c n k w) = fun t _ h => f132_8 o c n k (t 0) (t 1) (t 4) (t 6) (t 7) (t 8) (t 9) (t 10) h := (kblk (f132_9_ok o c n k w)).tk
noncomputable def f132_6 (s0 s1 s4 s6 s7 s8 s9 : AV) (h : Heap) : α :=
  f132_8 o c n k s0 s1 s4 s6 s7 s8 s9 (.i .i64 1) h
theorem f132_6_ok : R Pq o c n (cB (cB (cB (cB (cB (cB b132)))))) (kend Pq o c n w rs132 k) = fun t _ h => f132_6 o c n k (t 0) (t 1) (t 4) (t 6) (t 7) (t 8) (t 9) h := (kseq rfl (kseq (f132_8_ok o c n k w) rfl)).tk
noncomputable def f132_5 (s0 s1 s4 s5 s6 s7 s8 : AV) (h : Heap) : α :=
  convA Pq o 5 21 s5 fun v25 => binA Pq o .sub 3 (.i .i64 7) s6 fun v26 => convA Pq o 3 22 v26 fun v27 => binA Pq o .shl 21 (.i .i32 1) v27 fun v28 => binA Pq o .sub 21 v28 (.i .i32 1) fun v29 => binA Pq o .and 21 v25 v29 fun v30 => f132_6 o c n k s0 s1 s4 s6 s7 s8 v30 h
theorem f132_5_ok : R Pq o c n (cB (cB (cB (cB (cB b132))))) (kend Pq o c n w rs132 k) = fun t _ h => f132_5 o c n k (t 0) (t 1) (t 4) (t 5) (t 6) (t 7) (t 8) h := (kseq (f132_6_ok o c n k w) rfl).tk
noncomputable def f132_23K : Ex → K α := (nxK (fun t _ h => f132_5 o c n k (t 0) (t 1) (t 4) (t 5) (t 6) (t 7) (t 8) h) (kend Pq o c n w rs132 k))
noncomputable def f132_24 (s0 s1 s4 s5 s6 s7 s8 s59 : AV) (h : Heap) : α :=
  ifF o s59 (layF o 0 (.i .i32 65533) [(.i .i32 0), (.i .i64 0), (.b false)] fun v31 => layF o 1 (.i .i64 1) v31 fun v32 => layF o 2 (.b true) v32 fun v33 => storeF o h 3 s4 (.agg v33) fun h => on o (resV Pq h [(s4, some 172)]) fun v => k v h) (f132_5 o c n k s0 s1 s4 s5 s6 s7 s8 h)
theorem f132_24_ok : R Pq o c n (cB (cA (cB (cB (cB (cB b132)))))) (f132_23K o c n k w) = fun t _ h => f132_24 o c n k (t 0) (t 1) (t 4) (t 5) (t 6) (t 7) (t 8) (t 59) h := by kernel_rfl
noncomputable def f132_25K : Ex → K α := (nxK (fun t _ h => f132_24 o c n k (t 0) (t 1) (t 4) (t 5) (t 6) (t 7) (t 8) (t 59) h) (f132_23K o c n k w))
noncomputable def f132_4 (s0 s1 s4 s5 s6 s7 s8 : AV) (h : Heap) : α :=
  eqiF Pq o 3 s6 (.i .i64 0) fun v34 => bkF o false v34 (addF Pq o 3 s1 s6 fun v35 => lensF o s0 fun v36 => gtrF Pq o 3 v35 v36 fun v37 => pickF o v34 (.b true) v37 fun v38 => f132_24 o c n k s0 s1 s4 s5 s6 s7 s8 v38 h) (pickF o v34 (.b true) (.tup []) fun v39 => f132_24 o c n k s0 s1 s4 s5 s6 s7 s8 v39 h)
theorem f132_4_ok : R Pq o c n (cB (cB (cB (cB b132)))) (kend Pq o c n w rs132 k) = fun t _ h => f132_4 o c n k (t 0) (t 1) (t 4) (t 5) (t 6) (t 7) (t 8) h := (kseq (f132_5_ok o c n k w) (kseq (f132_24_ok o c n k w) (r_start 3 (by kernel_rfl) (q_guard 3 9 (2, false) (by kernel_rfl) (by kernel_rfl) (by kernel_rfl) rfl)))).tk
noncomputable def f132_26K : Ex → K α := (nxK (fun t _ h => f132_4 o c n k (t 0) (t 1) (t 4) (t 5) (t 6) (t 7) (t 8) h) (kend Pq o c n w rs132 k))
noncomputable def f132_31 (s0 s1 s4 s5 s6 s7 s8 : AV) (h : Heap) : α :=
  eqiF Pq o 5 s5 (.i .u8 237) fun v40 => ifF o v40 (f132_4 o c n k s0 s1 s4 s5 s6 s7 (.i .i64 159) h) (f132_4 o c n k s0 s1 s4 s5 s6 s7 s8 h)
theorem f132_31_ok : R Pq o c n (cB (cB (cA (cB (cB (cB (cB (cB (cA (cA (cB (cB (cB b132))))))))))))) (blockK (cI (cA (cB (cB (cB b132))))) (f132_26K o c n k w)) = fun t _ h => f132_31 o c n k (t 0) (t 1) (t 4) (t 5) (t 6) (t 7) (t 8) h := by kernel_rfl
noncomputable def f132_30 (s0 s1 s4 s5 s6 s7 s8 : AV) (h : Heap) : α :=
  eqiF Pq o 5 s5 (.i .u8 224) fun v41 => ifF o v41 (f132_31 o c n k s0 s1 s4 s5 s6 (.i .i64 160) s8 h) (f132_31 o c n k s0 s1 s4 s5 s6 s7 s8 h)
theorem f132_30_ok : R Pq o c n (cB (cA (cB (cB (cB (cB (cB (cA (cA (cB (cB (cB b132)))))))))))) (blockK (cI (cA (cB (cB (cB b132))))) (f132_26K o c n k w)) = fun t _ h => f132_30 o c n k (t 0) (t 1) (t 4) (t 5) (t 6) (t 7) (t 8) h := (kseq (f132_31_ok o c n k w) rfl).tk
noncomputable def f132_34 (s0 s1 s4 s5 s6 s7 s8 : AV) (h : Heap) : α :=
  eqiF Pq o 5 s5 (.i .u8 244) fun v42 => ifF o v42 (f132_4 o c n k s0 s1 s4 s5 s6 s7 (.i .i64 143) h) (f132_4 o c n k s0 s1 s4 s5 s6 s7 s8 h)
theorem f132_34_ok : R Pq o c n (cB (cB (cA (cB (cB (cB (cB (cB (cB (cB (cA (cA (cB (cB (cB b132))))))))))))))) (blockK (cI (cA (cB (cB (cB b132))))) (f132_26K o c n k w)) = fun t _ h => f132_34 o c n k (t 0) (t 1) (t 4) (t 5) (t 6) (t 7) (t 8) h := by kernel_rfl
noncomputable def f132_33 (s0 s1 s4 s5 s6 s7 s8 : AV) (h : Heap) : α :=
  eqiF Pq o 5 s5 (.i .u8 240) fun v43 => ifF o v43 (f132_34 o c n k s0 s1 s4 s5 s6 (.i .i64 144) s8 h) (f132_34 o c n k s0 s1 s4 s5 s6 s7 s8 h)
theorem f132_33_ok : R Pq o c n (cB (cA (cB (cB (cB (cB (cB (cB (cB (cA (cA (cB (cB (cB b132)))))))))))))) (blockK (cI (cA (cB (cB (cB b132))))) (f132_26K o c n k w)) = fun t _ h => f132_33 o c n k (t 0) (t 1) (t 4) (t 5) (t 6) (t 7) (t 8) h := (kseq (f132_34_ok o c n k w) rfl).tk
noncomputable def f132_32 (s0 s1 s4 s5 s6 s7 s8 s39 : AV) (h : Heap) : α :=
  ifF o s39 (f132_33 o c n k s0 s1 s4 s5 (.i .i64 4) s7 s8 h) (f132_4 o c n k s0 s1 s4 s5 s6 s7 s8 h)
theorem f132_32_ok : R Pq o c n (cB (cB (cB (cB (cB (cB (cB (cA (cA (cB (cB (cB b132)))))))))))) (blockK (cI (cA (cB (cB (cB b132))))) (f132_26K o c n k w)) = fun t _ h => f132_32 o c n k (t 0) (t 1) (t 4) (t 5) (t 6) (t 7) (t 8) (t 39) h := (c_cond (by kernel_rfl) (kseq (f132_33_ok o c n k w) rfl) rfl).tk
noncomputable def f132_35K : Ex → K α := (nxK (fun t _ h => f132_32 o c n k (t 0) (t 1) (t 4) (t 5) (t 6) (t 7) (t 8) (t 39) h) (blockK (cI (cA (cB (cB (cB b132))))) (f132_26K o c n k w)))
noncomputable def f132_29 (s0 s1 s4 s5 s6 s7 s8 s28 : AV) (h : Heap) : α :=
  ifF o s28 (f132_30 o c n k s0 s1 s4 s5 (.i .i64 3) s7 s8 h) (geqF Pq o 5 s5 (.i .u8 240) fun v44 => bkF o true v44 (leqF Pq o 5 s5 (.i .u8 244) fun v45 => pickF o v44 v45 (.b false) fun v46 => f132_32 o c n k s0 s1 s4 s5 s6 s7 s8 v46 h) (pickF o v44 (.tup []) (.b false) fun v47 => f132_32 o c n k s0 s1 s4 s5 s6 s7 s8 v47 h))
theorem f132_29_ok : R Pq o c n (cB (cB (cB (cB (cB (cA (cA (cB (cB (cB b132)))))))))) (blockK (cI (cA (cB (cB (cB b132))))) (f132_26K o c n k w)) = fun t _ h => f132_29 o c n k (t 0) (t 1) (t 4) (t 5) (t 6) (t 7) (t 8) (t 28) h := (c_cond (by kernel_rfl) (kseq (f132_30_ok o c n k w) rfl) (kseq (f132_32_ok o c n k w) (r_start 3 (by kernel_rfl) (q_guard 3 5 (2, true) (by kernel_rfl) (by kernel_rfl) (by kernel_rfl) rfl)))).tk
noncomputable def f132_36K : Ex → K α := (nxK (fun t _ h => f132_29 o c n k (t 0) (t 1) (t 4) (t 5) (t 6) (t 7) (t 8) (t 28) h) (blockK (cI (cA (cB (cB (cB b132))))) (f132_26K o c n k w)))
noncomputable def f132_28 (s0 s1 s4 s5 s6 s7 s8 s21 : AV) (h : Heap) : α :=
  ifF o s21 (f132_4 o c n k s0 s1 s4 s5 (.i .i64 2) s7 s8 h) (geqF Pq o 5 s5 (.i .u8 224) fun v48 => bkF o true v48 (leqF Pq o 5 s5 (.i .u8 239) fun v49 => pickF o v48 v49 (.b false) fun v50 => f132_29 o c n k s0 s1 s4 s5 s6 s7 s8 v50 h) (pickF o v48 (.tup []) (.b false) fun v51 => f132_29 o c n k s0 s1 s4 s5 s6 s7 s8 v51 h))
theorem f132_28_ok : R Pq o c n (cB (cB (cB (cA (cA (cB (cB (cB b132)))))))) (blockK (cI (cA (cB (cB (cB b132))))) (f132_26K o c n k w)) = fun t _ h => f132_28 o c n k (t 0) (t 1) (t 4) (t 5) (t 6) (t 7) (t 8) (t 21) h := (c_cond (by kernel_rfl) rfl (kseq (f132_29_ok o c n k w) (r_start 3 (by kernel_rfl) (q_guard 3 5 (2, true) (by kernel_rfl) (by kernel_rfl) (by kernel_rfl) rfl)))).tk
noncomputable def f132_37K : Ex → K α := (nxK (fun t _ h => f132_28 o c n k (t 0) (t 1) (t 4) (t 5) (t 6) (t 7) (t 8) (t 21) h) (blockK (cI (cA (cB (cB (cB b132))))) (f132_26K o c n k w)))
noncomputable def f132_27 (s0 s1 s4 s5 s6 s7 s8 s15 : AV) (h : Heap) : α :=
  ifF o s15 (convA Pq o 5 21 s5 fun v52 => layF o 0 v52 [(.i .i32 0), (.i .i64 0), (.b false)] fun v53 => layF o 1 (.i .i64 1) v53 fun v54 => storeF o h 3 s4 (.agg v54) fun h => on o (resV Pq h [(s4, some 172)]) fun v => k v h) (geqF Pq o 5 s5 (.i .u8 194) fun v55 => bkF o true v55 (leqF Pq o 5 s5 (.i .u8 223) fun v56 => pickF o v55 v56 (.b false) fun v57 => f132_28 o c n k s0 s1 s4 s5 s6 s7 s8 v57 h) (pickF o v55 (.tup []) (.b false) fun v58 => f132_28 o c n k s0 s1 s4 s5 s6 s7 s8 v58 h))
theorem f132_27_ok : R Pq o c n (cB (cA (cA (cB (cB (cB b132)))))) (blockK (cI (cA (cB (cB (cB b132))))) (f132_26K o c n k w)) = fun t _ h => f132_27 o c n k (t 0) (t 1) (t 4) (t 5) (t 6) (t 7) (t 8) (t 15) h := (c_cond (by kernel_rfl) rfl (kseq (f132_28_ok o c n k w) (r_start 3 (by kernel_rfl) (q_guard 3 5 (2, true) (by kernel_rfl) (by kernel_rfl) (by kernel_rfl) rfl)))).tk
noncomputable def f132_3 (s0 s1 s4 s5 s6 s7 s8 : AV) (h : Heap) : α :=
  lssF Pq o 5 s5 (.i .u8 128) fun v59 => f132_27 o c n k s0 s1 s4 s5 s6 s7 s8 v59 h
theorem f132_3_ok : R Pq o c n (cB (cB (cB b132))) (kend Pq o c n w rs132 k) = fun t _ h => f132_3 o c n k (t 0) (t 1) (t 4) (t 5) (t 6) (t 7) (t 8) h := (kseq (f132_4_ok o c n k w) (kblk (kseq (f132_27_ok o c n k w) rfl))).tk
noncomputable def f132_2 (s0 s1 s4 s5 : AV) (h : Heap) : α :=
  f132_3 o c n k s0 s1 s4 s5 (.i .i64 0) (.i .i64 128) (.i .i64 191) h
theorem f132_2_ok : R Pq o c n (cB (cB b132)) (kend Pq o c n w rs132 k) = fun t _ h => f132_2 o c n k (t 0) (t 1) (t 4) (t 5) h := (kseq (f132_3_ok o c n k w) rfl).tk
noncomputable def f132_1 (s0 s1 s4 : AV) (h : Heap) : α :=
  sxF o s0 s1 fun v60 => f132_2 o c n k s0 s1 s4 v60 h
theorem f132_1_ok : R Pq o c n (cB b132) (kend Pq o c n w rs132 k) = fun t _ h => f132_1 o c n k (t 0) (t 1) (t 4) h := (kseq (f132_2_ok o c n k w) rfl).tk
noncomputable def f132 (a0 a1 : AV) (h : Heap) : α :=
  newF h h.next 3 [(.i .i32 0), (.i .i64 0), (.b false)] fun v61 h => f132_1 o c n k a0 a1 v61 h
theorem f132_ok : R Pq o c n b132 (kend Pq o c n w rs132 k) = fun t _ h => f132 o c n k (t 0) (t 1) h := (kseq (f132_1_ok o c n k w) rfl).tk
theorem f132_good : Good Pq (cfg mm) 132 (entF Pq (cfg mm) 132 2 fun α => f132) := entG b132 rs132 110 fun _ => f132_ok
noncomputable def b133 := bdy Tryz.f133
noncomputable def rs133 := Tryz.f133.results.toList
noncomputable def f133_2K : Ex → K α := (nxK (R Pq o c n (cB (cB b133)) (kend Pq o c n w rs133 k)) (kend Pq o c n w rs133 k))
noncomputable def f133_1 {α : Type} (o : α) (c : Call' α) (n : Nat) (k : AV → Heap → α) (s0 : AV) (h : Heap) : α :=
  geqF Pq o 21 s0 (.i .i32 48) fun v1 => bkF o true v1 (leqF Pq o 21 s0 (.i .i32 57) fun v2 => pickF o v1 v2 (.b false) fun v3 => k v3 h) (pickF o v1 (.tup []) (.b false) fun v4 => k v4 h)
theorem f133_1_ok : R Pq o c n (cB b133) (kend Pq o c n w rs133 k) = fun t _ h => f133_1 o c n k (t 0) h := (kseq rfl (r_start 3 (by kernel_rfl) (q_guard 3 5 (2, true) (by kernel_rfl) (by kernel_rfl) (by kernel_rfl) rfl))).tk
noncomputable def f133 (a0 : AV) (h : Heap) : α :=
  f133_1 o c n k a0 h
theorem f133_ok : R Pq o c n b133 (kend Pq o c n w rs133 k) = fun t _ h => f133 o c n k (t 0) h := (kseq (f133_1_ok o c n k w) rfl).tk
theorem f133_good : Good Pq (cfg mm) 133 (entF Pq (cfg mm) 133 1 fun α => f133) := entG b133 rs133 9 fun _ => f133_ok
noncomputable def b134 := bdy Tryz.f134
noncomputable def rs134 := Tryz.f134.results.toList
noncomputable def f134_2K : Ex → K α := (nxK (R Pq o c n (cB (cB b134)) (kend Pq o c n w rs134 k)) (kend Pq o c n w rs134 k))
noncomputable def f134_3 {α : Type} (o : α) (c : Call' α) (n : Nat) (k : AV → Heap → α) (s0 s6 s9 : AV) (h : Heap) : α :=
  pickF o s6 (.b true) s9 fun v1 => bkF o false v1 (convA Pq o 5 21 s0 fun v2 => c 133 [v2] h fun v3 h => pk k v3 h <| pickF o v1 (.b true) v3 fun v4 => k v4 h) (pickF o v1 (.b true) (.tup []) fun v5 => k v5 h)
theorem f134_3_ok : Q Pq o c (cO (cA (cB b134))) (f134_2K o c n k w) 7 = fun t _ h => f134_3 o c n k (t 0) (t 6) (t 9) h := (q_seg 7 9 (by kernel_rfl) (q_guard 9 12 (8, false) (by kernel_rfl) (by kernel_rfl) (by kernel_rfl) rfl)).tk
noncomputable def f134_1 (s0 : AV) (h : Heap) : α :=
  convA Pq o 5 21 s0 fun v6 => c 149 [v6] h fun v7 h => pk k v7 h <| bkF o false v7 (convA Pq o 5 21 s0 fun v8 => c 148 [v8] h fun v9 h => pk k v9 h <| f134_3 o c n k s0 v7 v9 h) (f134_3 o c n k s0 v7 (.tup []) h)
theorem f134_1_ok : R Pq o c n (cB b134) (kend Pq o c n w rs134 k) = fun t _ h => f134_1 o c n k (t 0) h := (kseq rfl (r_start 4 (by kernel_rfl) (q_guard 4 7 (3, false) (by kernel_rfl) (by kernel_rfl) (by kernel_rfl) (f134_3_ok o c n k w)))).tk
noncomputable def f134 (a0 : AV) (h : Heap) : α :=
  f134_1 o c n k a0 h
theorem f134_ok : R Pq o c n b134 (kend Pq o c n w rs134 k) = fun t _ h => f134 o c n k (t 0) h := (kseq (f134_1_ok o c n k w) rfl).tk
theorem f134_good : Good Pq (cfg mm) 134 (entF Pq (cfg mm) 134 1 fun α => f134) := entG b134 rs134 16 fun _ => f134_ok
noncomputable def b137 := bdy Tryz.f137
noncomputable def rs137 := Tryz.f137.results.toList
noncomputable def f137_2K : Ex → K α := (nxK (R Pq o c n (cB (cB b137)) (kend Pq o c n w rs137 k)) (kend Pq o c n w rs137 k))
noncomputable def f137_4 {α : Type} (o : α) (c : Call' α) (n : Nat) (k : AV → Heap → α) (m : Nat) : AVs (Heap → α) 3 :=
  Nat.rec (motive := fun _ => AVs (Heap → α) 3) (fun _ _ _ _ => o) (fun _ lp0 s0 s1 s5 h => lenF o s0 fun v1 => lssF Pq o 3 s5 v1 fun v2 => ifF o v2 (ixF o 1 s0 s5 fun v3 => load1F o h v3 fun v4 => eqsF Pq o 9 v4 s1 fun v5 => ifF o v5 (k (.b true) h) (addF Pq o 3 s5 (.i .i64 1) fun v6 => lp0 s0 s1 v6 h)) (k (.b false) h)) m
theorem f137_4_ok : R Pq o c n (cA (cB (cA (cB b137)))) (blockK (cI (cB (cA (cB b137)))) (f137_2K o c n k w)) = fun t _ h => f137_4 o c n k n (t 0) (t 1) (t 5) h :=
  c_loop (F := fun m t _ h => f137_4 o c n k m (t 0) (t 1) (t 5) h) (by kernel_rfl) (by kernel_rfl) fun m => by kernel_rfl
noncomputable def f137_3 (s0 s1 s5 : AV) (h : Heap) : α :=
  f137_4 o c n k n s0 s1 s5 h
theorem f137_3_ok : R Pq o c n (cB (cA (cB b137))) (f137_2K o c n k w) = fun t _ h => f137_3 o c n k (t 0) (t 1) (t 5) h := (kblk (f137_4_ok o c n k w)).tk
noncomputable def f137_1 (s0 s1 : AV) (h : Heap) : α :=
  f137_3 o c n k s0 s1 (.i .i64 0) h
theorem f137_1_ok : R Pq o c n (cB b137) (kend Pq o c n w rs137 k) = fun t _ h => f137_1 o c n k (t 0) (t 1) h := (kseq rfl (kseq (f137_3_ok o c n k w) rfl)).tk
noncomputable def f137 (a0 a1 : AV) (h : Heap) : α :=
  f137_1 o c n k a0 a1 h
theorem f137_ok : R Pq o c n b137 (kend Pq o c n w rs137 k) = fun t _ h => f137 o c n k (t 0) (t 1) h := (kseq (f137_1_ok o c n k w) rfl).tk
theorem f137_good : Good Pq (cfg mm) 137 (entF Pq (cfg mm) 137 2 fun α => f137) := entG b137 rs137 18 fun _ => f137_ok
noncomputable def b138 := bdy Tryz.f138
noncomputable def rs138 := Tryz.f138.results.toList
noncomputable def f138 {α : Type} (o : α) (c : Call' α) (n : Nat) (k : AV → Heap → α) (a0 : AV) (h : Heap) : α :=
  dreg o h 10 fun base h => nilChk o a0 fun v1 => faF o 2 v1 fun v2 => rootF o v2 a0 <| load1F o (h.look 7) v2 fun v3 => nilChk o a0 fun v4 => faF o 0 v4 fun v5 => rootF o v5 a0 <| load1F o (h.look 112) v5 fun v6 => lenF o v6 fun v7 => lssF Pq o 3 v3 v7 fun v8 => hb h.shut fun h => ifF o v8 (dreg o h 12 fun base h => nilChk o a0 fun v9 => faF o 0 v9 fun v10 => rootF o v10 a0 <| load1F o (h.look 7) v10 fun v11 => nilChk o a0 fun v12 => faF o 2 v12 fun v13 => rootF o v13 a0 <| load1F o (h.look 112) v13 fun v14 => ixF o 3 v11 v14 fun v15 => faF o 2 v15 fun v16 => load1F o (h.look 1023) v16 fun v17 => hb h.shut fun h => k v17 h) (nilChk o a0 fun v18 => faF o 1 v18 fun v19 => load1F o h v19 fun v20 => k v20 h)
theorem f138_ok : R Pq o c n b138 (kend Pq o c n w rs138 k) = fun t _ h => f138 o c n k (t 0) h := by kernel_rfl
theorem f138_good : Good Pq (cfg mm) 138 (entF Pq (cfg mm) 138 1 fun α => f138) := entG b138 rs138 28 fun _ => f138_ok
noncomputable def b139 := bdy Tryz.f139
noncomputable def rs139 := Tryz.f139.results.toList
noncomputable def f139_2K : Ex → K α := (nxK (R Pq o c n (cB (cB b139)) (kend Pq o c n w rs139 k)) (kend Pq o c n w rs139 k))
noncomputable def f139_3 {α : Type} (o : α) (c : Call' α) (n : Nat) (k : AV → Heap → α) (s0 s5 s9 : AV) (h : Heap) : α :=
  pickF o s5 s9 (.b false) fun v1 => bkF o true v1 (nesF Pq o 9 s0 (.s 6 113723913172051) fun v2 => pickF o v1 v2 (.b false) fun v3 => k v3 h) (pickF o v1 (.tup []) (.b false) fun v4 => k v4 h)
theorem f139_3_ok : Q Pq o c (cO (cA (cB b139))) (f139_2K o c n k w) 7 = fun t _ h => f139_3 o c n k (t 0) (t 5) (t 9) h := (q_seg 7 9 (by kernel_rfl) (q_guard 9 11 (8, true) (by kernel_rfl) (by kernel_rfl) (by kernel_rfl) rfl)).tk
noncomputable def f139_1 (s0 : AV) (h : Heap) : α :=
  nesF Pq o 9 s0 (.s 0 0) fun v5 => bkF o true v5 (sxF o s0 (.i .i64 0) fun v6 => convA Pq o 5 21 v6 fun v7 => c 148 [v7] h fun v8 h => pk k v8 h <| f139_3 o c n k s0 v5 v8 h) (f139_3 o c n k s0 v5 (.tup []) h)
theorem f139_1_ok : R Pq o c n (cB b139) (kend Pq o c n w rs139 k) = fun t _ h => f139_1 o c n k (t 0) h := (kseq rfl (r_start 3 (by kernel_rfl) (q_guard 3 7 (2, true) (by kernel_rfl) (by kernel_rfl) (by kernel_rfl) (f139_3_ok o c n k w)))).tk
noncomputable def f139 (a0 : AV) (h : Heap) : α :=
  f139_1 o c n k a0 h
theorem f139_ok : R Pq o c n b139 (kend Pq o c n w rs139 k) = fun t _ h => f139 o c n k (t 0) h := (kseq (f139_1_ok o c n k w) rfl).tk
theorem f139_good : Good Pq (cfg mm) 139 (entF Pq (cfg mm) 139 1 fun α => f139) := entG b139 rs139 15 fun _ => f139_ok
noncomputable def b140 := bdy Tryz.f140
noncomputable def rs140 := Tryz.f140.results.toList
noncomputable def f140 {α : Type} (o : α) (c : Call' α) (n : Nat) (k : AV → Heap → α) (a0 : AV) (h : Heap) : α :=
  nilChk o a0 fun v1 => faF o 5 v1 fun v2 => load1F o h v2 fun v3 => gtrF Pq o 3 v3 (.i .i64 40) fun v4 => ifF o v4 (c 78 [a0, (.i .i64 4)] h fun v5 h => pk k v5 h <| k (.b false) h) (nilChk o a0 fun v6 => faF o 5 v6 fun v7 => load1F o h v7 fun v8 => addF Pq o 3 v8 (.i .i64 1) fun v9 => nilChk o a0 fun v10 => faF o 5 v10 fun v11 => storeF o h 1 v11 v9 fun h => k (.b true) h)
theorem f140_ok : R Pq o c n b140 (kend Pq o c n w rs140 k) = fun t _ h => f140 o c n k (t 0) h := by kernel_rfl
theorem f140_good : Good Pq (cfg mm) 140 (entF Pq (cfg mm) 140 1 fun α => f140) := entG b140 rs140 17 fun _ => f140_ok
noncomputable def b142 := bdy Tryz.f142
noncomputable def rs142 := Tryz.f142.results.toList
noncomputable def f142_2K : Ex → K α := (nxK (R Pq o c n (cB (cB b142)) (kend Pq o c n w rs142 k)) (kend Pq o c n w rs142 k))
noncomputable def f142_17 {α : Type} (o : α) (c : Call' α) (n : Nat) (k : AV → Heap → α) (base : Nat) (s8 s22 : AV) (h : Heap) : α :=
  pickF o s8 s22 (.b false) fun v1 => hb h.shut fun h => k v1 h
theorem f142_17_ok (base : Nat) : QD Pq o c (cO (cA (cB b142))) base ((f142_2K o c n k w)) 18 = fun t _ h => f142_17 o c n k base (t 8) (t 22) h := by kernel_rfl
noncomputable def f142_16 (base : Nat) (s8 s21 : AV) (h : Heap) : α :=
  bkF o true s8 (callD o c [] 204 [s21] h fun v2 h => pnF v2 (fun x => hb h.shut fun hd => k x.pn hd) <| f142_17 o c n k base s8 v2 h) (f142_17 o c n k base s8 (.tup []) h)
theorem f142_16_ok (base : Nat) : QD Pq o c (cO (cA (cB b142))) base ((f142_2K o c n k w)) 17 = fun t _ h => f142_16 o c n k base (t 8) (t 21) h := (qd_seg 17 18 (by kernel_rfl) (f142_17_ok o c n k w base)).tk
noncomputable def f142_15 (base : Nat) (s8 s20 : AV) (h : Heap) : α :=
  bkF o true s8 (load1F o (h.look 65535) s20 fun v3 => f142_16 o c n k base s8 v3 (h.look 0)) (f142_16 o c n k base s8 (.tup []) (h.look 0))
theorem f142_15_ok (base : Nat) : QD Pq o c (cO (cA (cB b142))) base ((f142_2K o c n k w)) 16 = fun t _ h => f142_15 o c n k base (t 8) (t 20) h := (qd_seg 16 17 (by kernel_rfl) (f142_16_ok o c n k w base)).tk
noncomputable def f142_14 (base : Nat) (s8 s19 : AV) (h : Heap) : α :=
  bkF o true s8 (faF o 1 s19 fun v4 => f142_15 o c n k base s8 v4 (h.look 0)) (f142_15 o c n k base s8 (.tup []) (h.look 0))
theorem f142_14_ok (base : Nat) : QD Pq o c (cO (cA (cB b142))) base ((f142_2K o c n k w)) 15 = fun t _ h => f142_14 o c n k base (t 8) (t 19) h := (qd_seg 15 16 (by kernel_rfl) (f142_15_ok o c n k w base)).tk
noncomputable def f142_13 (base : Nat) (s8 s12 s18 : AV) (h : Heap) : α :=
  bkF o true s8 (ixF o 3 s12 s18 fun v5 => f142_14 o c n k base s8 v5 (h.look 0)) (f142_14 o c n k base s8 (.tup []) (h.look 0))
theorem f142_13_ok (base : Nat) : QD Pq o c (cO (cA (cB b142))) base ((f142_2K o c n k w)) 14 = fun t _ h => f142_13 o c n k base (t 8) (t 12) (t 18) h := (qd_seg 14 15 (by kernel_rfl) (f142_14_ok o c n k w base)).tk
noncomputable def f142_12 (base : Nat) (s8 s12 s16 s17 : AV) (h : Heap) : α :=
  bkF o true s8 (addF Pq o 3 s16 s17 fun v6 => f142_13 o c n k base s8 s12 v6 (h.look 0)) (f142_13 o c n k base s8 s12 (.tup []) (h.look 0))
theorem f142_12_ok (base : Nat) : QD Pq o c (cO (cA (cB b142))) base ((f142_2K o c n k w)) 13 = fun t _ h => f142_12 o c n k base (t 8) (t 12) (t 16) (t 17) h := (qd_seg 13 14 (by kernel_rfl) (f142_13_ok o c n k w base)).tk
noncomputable def f142_11 (base : Nat) (s1 s8 s12 s16 : AV) (h : Heap) : α :=
  bkF o true s8 (f142_12 o c n k base s8 s12 s16 s1 (h.look 0)) (f142_12 o c n k base s8 s12 s16 (.tup []) (h.look 0))
theorem f142_11_ok (base : Nat) : QD Pq o c (cO (cA (cB b142))) base ((f142_2K o c n k w)) 12 = fun t _ h => f142_11 o c n k base (t 1) (t 8) (t 12) (t 16) h := (qd_seg 12 13 (by kernel_rfl) (f142_12_ok o c n k w base)).tk
noncomputable def f142_10 (base : Nat) (s0 s1 s8 s12 s15 : AV) (h : Heap) : α :=
  rootF o s15 s0 <| bkF o true s8 (load1F o (h.look 1807) s15 fun v7 => f142_11 o c n k base s1 s8 s12 v7 (h.look 0)) (f142_11 o c n k base s1 s8 s12 (.tup []) (h.look 0))
theorem f142_10_ok (base : Nat) : QD Pq o c (cO (cA (cB b142))) base ((f142_2K o c n k w)) 11 = fun t _ h => f142_10 o c n k base (t 0) (t 1) (t 8) (t 12) (t 15) h := (qd_seg 11 12 (by kernel_rfl) (f142_11_ok o c n k w base)).tk
noncomputable def f142_9 (base : Nat) (s0 s1 s8 s12 s14 : AV) (h : Heap) : α :=
  bkF o true s8 (faF o 2 s14 fun v8 => f142_10 o c n k base s0 s1 s8 s12 v8 (h.look 0)) (f142_10 o c n k base s0 s1 s8 s12 (.tup []) (h.look 0))
theorem f142_9_ok (base : Nat) : QD Pq o c (cO (cA (cB b142))) base ((f142_2K o c n k w)) 10 = fun t _ h => f142_9 o c n k base (t 0) (t 1) (t 8) (t 12) (t 14) h := (qd_seg 10 11 (by kernel_rfl) (f142_10_ok o c n k w base)).tk
noncomputable def f142_8 (base : Nat) (s0 s1 s8 s12 s13 : AV) (h : Heap) : α :=
  bkF o true s8 (nilChk o s13 fun v9 => f142_9 o c n k base s0 s1 s8 s12 v9 (h.look 0)) (f142_9 o c n k base s0 s1 s8 s12 (.tup []) (h.look 0))
theorem f142_8_ok (base : Nat) : QD Pq o c (cO (cA (cB b142))) base ((f142_2K o c n k w)) 9 = fun t _ h => f142_8 o c n k base (t 0) (t 1) (t 8) (t 12) (t 13) h := (qd_seg 9 10 (by kernel_rfl) (f142_9_ok o c n k w base)).tk
noncomputable def f142_7 (base : Nat) (s0 s1 s8 s12 : AV) (h : Heap) : α :=
  bkF o true s8 (f142_8 o c n k base s0 s1 s8 s12 s0 (h.look 0)) (f142_8 o c n k base s0 s1 s8 s12 (.tup []) (h.look 0))
theorem f142_7_ok (base : Nat) : QD Pq o c (cO (cA (cB b142))) base ((f142_2K o c n k w)) 8 = fun t _ h => f142_7 o c n k base (t 0) (t 1) (t 8) (t 12) h := (qd_seg 8 9 (by kernel_rfl) (f142_8_ok o c n k w base)).tk
noncomputable def f142_6 (base : Nat) (s0 s1 s8 s11 : AV) (h : Heap) : α :=
  rootF o s11 s0 <| bkF o true s8 (load1F o (h.look 127) s11 fun v10 => f142_7 o c n k base s0 s1 s8 v10 (h.look 0)) (f142_7 o c n k base s0 s1 s8 (.tup []) (h.look 0))
theorem f142_6_ok (base : Nat) : QD Pq o c (cO (cA (cB b142))) base ((f142_2K o c n k w)) 7 = fun t _ h => f142_6 o c n k base (t 0) (t 1) (t 8) (t 11) h := (qd_seg 7 8 (by kernel_rfl) (f142_7_ok o c n k w base)).tk
noncomputable def f142_5 (base : Nat) (s0 s1 s8 s10 : AV) (h : Heap) : α :=
  bkF o true s8 (faF o 0 s10 fun v11 => f142_6 o c n k base s0 s1 s8 v11 (h.look 0)) (f142_6 o c n k base s0 s1 s8 (.tup []) (h.look 0))
theorem f142_5_ok (base : Nat) : QD Pq o c (cO (cA (cB b142))) base ((f142_2K o c n k w)) 6 = fun t _ h => f142_5 o c n k base (t 0) (t 1) (t 8) (t 10) h := (qd_seg 6 7 (by kernel_rfl) (f142_6_ok o c n k w base)).tk
noncomputable def f142_4 (base : Nat) (s0 s1 s8 s9 : AV) (h : Heap) : α :=
  bkF o true s8 (nilChk o s9 fun v12 => f142_5 o c n k base s0 s1 s8 v12 (h.look 0)) (f142_5 o c n k base s0 s1 s8 (.tup []) (h.look 0))
theorem f142_4_ok (base : Nat) : QD Pq o c (cO (cA (cB b142))) base ((f142_2K o c n k w)) 5 = fun t _ h => f142_4 o c n k base (t 0) (t 1) (t 8) (t 9) h := (qd_seg 5 6 (by kernel_rfl) (f142_5_ok o c n k w base)).tk
noncomputable def f142_3 (base : Nat) (s0 s1 s7 : AV) (h : Heap) : α :=
  bkF o true s7 (f142_4 o c n k base s0 s1 s7 s0 (h.look 0)) (f142_4 o c n k base s0 s1 s7 (.tup []) (h.look 0))
theorem f142_3_ok (base : Nat) : QD Pq o c (cO (cA (cB b142))) base ((f142_2K o c n k w)) 3 = fun t _ h => f142_3 o c n k base (t 0) (t 1) (t 7) h := (qd_seg 3 5 (by kernel_rfl) (f142_4_ok o c n k w base)).tk
noncomputable def f142_1 (s0 s1 : AV) (h : Heap) : α :=
  dreg o h 20 fun base h => callD o c [] 82 [s0, s1, (.i .i64 1), (.s 0 0)] (h.look 0) fun v13 h => pnF v13 (fun x => hb h.shut fun hd => k x.pn hd) <| f142_3 o c n k base s0 s1 v13 h
theorem f142_1_ok : R Pq o c n (cB b142) (kend Pq o c n w rs142 k) = fun t _ h => f142_1 o c n k (t 0) (t 1) h := (kseq rfl (r_startD 3 (by kernel_rfl) (by kernel_rfl) (X := fun base => fun t _ h => f142_3 o c n k base (t 0) (t 1) (t 7) h) (fun base => f142_3_ok o c n k w base))).tk
noncomputable def f142 (a0 a1 : AV) (h : Heap) : α :=
  f142_1 o c n k a0 a1 h
theorem f142_ok : R Pq o c n b142 (kend Pq o c n w rs142 k) = fun t _ h => f142 o c n k (t 0) (t 1) h := (kseq (f142_1_ok o c n k w) rfl).tk
theorem f142_good : Good Pq (cfg mm) 142 (entF Pq (cfg mm) 142 2 fun α => f142) := entG b142 rs142 24 fun _ => f142_ok
noncomputable def b143 := bdy Tryz.f143
noncomputable def rs143 := Tryz.f143.results.toList
noncomputable def f143_2K : Ex → K α := (nxK (R Pq o c n (cB (cB b143)) (kend Pq o c n w rs143 k)) (kend Pq o c n w rs143 k))
noncomputable def f143_4 {α : Type} (o : α) (c : Call' α) (n : Nat) (k : AV → Heap → α) (s0 s1 s13 s16 : AV) (h : Heap) : α :=
  pickF o s13 (.b true) s16 fun v1 => bkF o false v1 (c 79 [s0, s1] h fun v2 h => pk k v2 h <| pickF o v1 (.b true) v2 fun v3 => k v3 h) (pickF o v1 (.b true) (.tup []) fun v4 => k v4 h)
theorem f143_4_ok : Q Pq o c (cO (cA (cB b143))) (f143_2K o c n k w) 12 = fun t _ h => f143_4 o c n k (t 0) (t 1) (t 13) (t 16) h := (q_seg 12 14 (by kernel_rfl) (q_guard 14 17 (13, false) (by kernel_rfl) (by kernel_rfl) (by kernel_rfl) rfl)).tk
noncomputable def f143_3 (s0 s1 s8 s11 : AV) (h : Heap) : α :=
  pickF o s8 (.b true) s11 fun v5 => bkF o false v5 (c 82 [s0, s1, (.i .i64 1), (.s 6 113723913172051)] h fun v6 h => pk k v6 h <| f143_4 o c n k s0 s1 v5 v6 h) (f143_4 o c n k s0 s1 v5 (.tup []) h)
theorem f143_3_ok : Q Pq o c (cO (cA (cB b143))) (f143_2K o c n k w) 7 = fun t _ h => f143_3 o c n k (t 0) (t 1) (t 8) (t 11) h := (q_seg 7 9 (by kernel_rfl) (q_guard 9 12 (8, false) (by kernel_rfl) (by kernel_rfl) (by kernel_rfl) (f143_4_ok o c n k w))).tk
noncomputable def f143_1 (s0 s1 : AV) (h : Heap) : α :=
  c 82 [s0, s1, (.i .i64 1), (.s 3 7630441)] h fun v7 h => pk k v7 h <| bkF o false v7 (c 82 [s0, s1, (.i .i64 1), (.s 7 31069335677005666)] h fun v8 h => pk k v8 h <| f143_3 o c n k s0 s1 v7 v8 h) (f143_3 o c n k s0 s1 v7 (.tup []) h)
theorem f143_1_ok : R Pq o c n (cB b143) (kend Pq o c n w rs143 k) = fun t _ h => f143_1 o c n k (t 0) (t 1) h := (kseq rfl (r_start 4 (by kernel_rfl) (q_guard 4 7 (3, false) (by kernel_rfl) (by kernel_rfl) (by kernel_rfl) (f143_3_ok o c n k w)))).tk
noncomputable def f143 (a0 a1 : AV) (h : Heap) : α :=
  f143_1 o c n k a0 a1 h
theorem f143_ok : R Pq o c n b143 (kend Pq o c n w rs143 k) = fun t _ h => f143 o c n k (t 0) (t 1) h := (kseq (f143_1_ok o c n k w) rfl).tk
theorem f143_good : Good Pq (cfg mm) 143 (entF Pq (cfg mm) 143 2 fun α => f143) := entG b143 rs143 23 fun _ => f143_ok
end Go.Zev.Po
