/-
  Printed by zgen.py: clean forms.
-/
import Derived.Test.YtaidendlmkpajaaGreatDoorZ3
import Derived.Test.YtaidendlmkpajaaGreatDoorProg
import Derived.KernelRfl
set_option linter.unusedVariables false
set_option maxRecDepth 20000
namespace Go.Zev.Su
open Go Go.Zev Go.Proofs
noncomputable abbrev Pq : Program := Tryz.prog
noncomputable def cfg (memo : FuncId → Option (List AV → Option AV)) : Cfg := ⟨fun f => Nat.beq f 107 || Nat.beq f 108 || Nat.beq f 167 || Nat.beq f 218 || Nat.beq f 280, fun f => Bool.rec (motive := fun _ => Nat) 512 511 (Nat.beq f 71 || Nat.beq f 109 || Nat.beq f 110 || Nat.beq f 111), memo, fun f => false⟩
variable {mm : FuncId → Option (List AV → Option AV)}
noncomputable def b4 := bdy Tryz.f4
noncomputable def rs4 := Tryz.f4.results.toList
variable {α : Type} (o : α) (c : Call' α) (n : Nat) (k : AV → Heap → α) (w : FuncId → Nat)
noncomputable def f4_7K : Ex → K α := (nxK (R Pq o c n (cB (cB (cB (cB (cB (cB (cB b4))))))) (kend Pq o c n w rs4 k)) (kend Pq o c n w rs4 k))
noncomputable def f4_8 {α : Type} (o : α) (c : Call' α) (n : Nat) (k : AV → Heap → α) (s3 s6 s50 s52 : AV) (h : Heap) : α :=
  pickF o s50 s52 (.b false) fun v1 => bkF o true v1 (lenF o s6 fun v2 => eqiF Pq o 3 v2 s3 fun v3 => pickF o v1 v3 (.b false) fun v4 => k v4 h) (pickF o v1 (.tup []) (.b false) fun v5 => k v5 h)
theorem f4_8_ok : Q Pq o c (cO (cA (cB (cB (cB (cB (cB (cB b4)))))))) (f4_7K o c n k w) 4 = fun t _ h => f4_8 o c n k (t 3) (t 6) (t 50) (t 52) h := (q_seg 4 6 (by kernel_rfl) (q_guard 6 10 (5, true) (by kernel_rfl) (by kernel_rfl) (by kernel_rfl) rfl)).tk
noncomputable def f4_6 (s3 s6 s7 : AV) (h : Heap) : α :=
  c 8 [] h fun v6 h => pk k v6 h <| bkF o true v6 (eqiF Pq o 3 s7 (.i .i64 0) fun v7 => f4_8 o c n k s3 s6 v6 v7 h) (f4_8 o c n k s3 s6 v6 (.tup []) h)
theorem f4_6_ok : R Pq o c n (cB (cB (cB (cB (cB (cB b4)))))) (kend Pq o c n w rs4 k) = fun t _ h => f4_6 o c n k (t 3) (t 6) (t 7) h := (kseq rfl (r_start 2 (by kernel_rfl) (q_guard 2 4 (1, true) (by kernel_rfl) (by kernel_rfl) (by kernel_rfl) (f4_8_ok o c n k w)))).tk
noncomputable def f4_9K : Ex → K α := (nxK (fun t _ h => f4_6 o c n k (t 3) (t 6) (t 7) h) (kend Pq o c n w rs4 k))
noncomputable def f4_11K : Ex → K α := (nxK (R Pq o c n (cB (cA (cB (cA (cB (cB (cB (cB (cB b4))))))))) (f4_9K o c n k w)) (f4_9K o c n k w))
noncomputable def f4_13 {α : Type} (o : α) (c : Call' α) (n : Nat) (k : AV → Heap → α) (s6 s40 s42 : AV) (h : Heap) : α :=
  pickF o s40 s42 (.b false) fun v8 => bkF o true v8 (lenF o s6 fun v9 => eqiF Pq o 3 v9 (.i .i64 0) fun v10 => pickF o v8 v10 (.b false) fun v11 => k v11 h) (pickF o v8 (.tup []) (.b false) fun v12 => k v12 h)
theorem f4_13_ok : Q Pq o c (cO (cA (cA (cB (cA (cB (cB (cB (cB (cB b4)))))))))) (f4_11K o c n k w) 8 = fun t _ h => f4_13 o c n k (t 6) (t 40) (t 42) h := (q_seg 8 10 (by kernel_rfl) (q_guard 10 13 (9, true) (by kernel_rfl) (by kernel_rfl) (by kernel_rfl) rfl)).tk
noncomputable def f4_12 (s6 s8 s36 s38 : AV) (h : Heap) : α :=
  pickF o s36 s38 (.b false) fun v13 => bkF o true v13 (eqiF Pq o 3 s8 (.i .i64 0) fun v14 => f4_13 o c n k s6 v13 v14 h) (f4_13 o c n k s6 v13 (.tup []) h)
theorem f4_12_ok : Q Pq o c (cO (cA (cA (cB (cA (cB (cB (cB (cB (cB b4)))))))))) (f4_11K o c n k w) 4 = fun t _ h => f4_12 o c n k (t 6) (t 8) (t 36) (t 38) h := (q_seg 4 6 (by kernel_rfl) (q_guard 6 8 (5, true) (by kernel_rfl) (by kernel_rfl) (by kernel_rfl) (f4_13_ok o c n k w))).tk
noncomputable def f4_10 (s3 s6 s7 s8 s34 : AV) (h : Heap) : α :=
  ifF o s34 (c 8 [] h fun v15 h => pk k v15 h <| bkF o true v15 (eqiF Pq o 3 s7 (.i .i64 5) fun v16 => f4_12 o c n k s6 s8 v15 v16 h) (f4_12 o c n k s6 s8 v15 (.tup []) h)) (f4_6 o c n k s3 s6 s7 h)
theorem f4_10_ok : R Pq o c n (cB (cA (cB (cB (cB (cB (cB b4))))))) (f4_9K o c n k w) = fun t _ h => f4_10 o c n k (t 3) (t 6) (t 7) (t 8) (t 34) h := (c_cond (by kernel_rfl) (kseq rfl (r_start 2 (by kernel_rfl) (q_guard 2 4 (1, true) (by kernel_rfl) (by kernel_rfl) (by kernel_rfl) (f4_12_ok o c n k w)))) rfl).tk
noncomputable def f4_5 (s3 s6 s7 s8 : AV) (h : Heap) : α :=
  gtrF Pq o 3 s3 (.i .i64 20) fun v17 => f4_10 o c n k s3 s6 s7 s8 v17 h
theorem f4_5_ok : R Pq o c n (cB (cB (cB (cB (cB b4))))) (kend Pq o c n w rs4 k) = fun t _ h => f4_5 o c n k (t 3) (t 6) (t 7) (t 8) h := (kseq (f4_6_ok o c n k w) (kseq (f4_10_ok o c n k w) rfl)).tk
noncomputable def f4_4 (s3 s4 : AV) (h : Heap) : α :=
  c 6 [s4] h fun v18 h => pk k v18 h <| exF o v18 0 fun v19 => exF o v18 1 fun v20 => exF o v18 2 fun v21 => f4_5 o c n k s3 v19 v20 v21 h
theorem f4_4_ok : R Pq o c n (cB (cB (cB (cB b4)))) (kend Pq o c n w rs4 k) = fun t _ h => f4_4 o c n k (t 3) (t 4) h := (kseq (f4_5_ok o c n k w) rfl).tk
noncomputable def f4_14K : Ex → K α := (nxK (fun t _ h => f4_4 o c n k (t 3) (t 4) h) (kend Pq o c n w rs4 k))
noncomputable def f4_16 (m : Nat) : AVs (Heap → α) 3 :=
  Nat.rec (motive := fun _ => AVs (Heap → α) 3) (fun _ _ _ _ => o) (fun _ lp0 s3 s4 s5 h => lssF Pq o 3 s5 s3 fun v22 => ifF o v22 (addF Pq o 9 s4 (.s 4 1949973076) fun v23 => addF Pq o 3 s5 (.i .i64 1) fun v24 => ssF Pq o 9 (.s 26 196808924543273351654744084199064270893917454994213902225728097) (some s5) (some v24) fun v25 => addF Pq o 9 v23 v25 fun v26 => addF Pq o 9 v26 (.s 1 10) fun v27 => addF Pq o 3 s5 (.i .i64 1) fun v28 => lp0 s3 v27 v28 h) (f4_4 o c n k s3 s4 h)) m
theorem f4_16_ok : R Pq o c n (cA (cB (cA (cB (cB (cB b4)))))) (blockK (cI (cB (cA (cB (cB (cB b4)))))) (f4_14K o c n k w)) = fun t _ h => f4_16 o c n k n (t 3) (t 4) (t 5) h :=
  c_loop (F := fun m t _ h => f4_16 o c n k m (t 3) (t 4) (t 5) h) (by kernel_rfl) (by kernel_rfl) fun m => by kernel_rfl
noncomputable def f4_15 (s3 s4 s5 : AV) (h : Heap) : α :=
  f4_16 o c n k n s3 s4 s5 h
theorem f4_15_ok : R Pq o c n (cB (cA (cB (cB (cB b4))))) (f4_14K o c n k w) = fun t _ h => f4_15 o c n k (t 3) (t 4) (t 5) h := (kblk (f4_16_ok o c n k w)).tk
noncomputable def f4_3 (s3 s4 : AV) (h : Heap) : α :=
  f4_15 o c n k s3 s4 (.i .i64 0) h
theorem f4_3_ok : R Pq o c n (cB (cB (cB b4))) (kend Pq o c n w rs4 k) = fun t _ h => f4_3 o c n k (t 3) (t 4) h := (kseq (f4_4_ok o c n k w) (kseq (f4_15_ok o c n k w) rfl)).tk
noncomputable def f4_2 (s3 : AV) (h : Heap) : α :=
  f4_3 o c n k s3 (.s 0 0) h
theorem f4_2_ok : R Pq o c n (cB (cB b4)) (kend Pq o c n w rs4 k) = fun t _ h => f4_2 o c n k (t 3) h := (kseq (f4_3_ok o c n k w) rfl).tk
noncomputable def f4_1 (s0 : AV) (h : Heap) : α :=
  convA Pq o 3 24 s0 fun v29 => binA Pq o .rem 24 v29 (.i .u64 8) fun v30 => convA Pq o 24 3 v30 fun v31 => addF Pq o 3 (.i .i64 17) v31 fun v32 => f4_2 o c n k v32 h
theorem f4_1_ok : R Pq o c n (cB b4) (kend Pq o c n w rs4 k) = fun t _ h => f4_1 o c n k (t 0) h := (kseq (f4_2_ok o c n k w) rfl).tk
noncomputable def f4 (a0 : AV) (h : Heap) : α :=
  f4_1 o c n k a0 h
theorem f4_ok : R Pq o c n b4 (kend Pq o c n w rs4 k) = fun t _ h => f4 o c n k (t 0) h := (kseq (f4_1_ok o c n k w) rfl).tk
theorem f4_good : Good Pq (cfg mm) 4 (entF Pq (cfg mm) 4 1 fun α => f4) := entG b4 rs4 60 fun _ => f4_ok
noncomputable def b6 := bdy Tryz.f6
noncomputable def rs6 := Tryz.f6.results.toList
noncomputable def f6_5K : Ex → K α := (nxK (R Pq o c n (cB (cB (cB (cB (cB b6))))) (kend Pq o c n w rs6 k)) (kend Pq o c n w rs6 k))
noncomputable def f6_7 {α : Type} (o : α) (c : Call' α) (n : Nat) (k : AV → Heap → α) (m : Nat) : AVs (Heap → α) 5 :=
  Nat.rec (motive := fun _ => AVs (Heap → α) 5) (fun _ _ _ _ _ _ => o) (fun _ lp0 s5 s6 s16 s17 s18 h => lssF Pq o 3 s18 s17 fun v1 => ifF o v1 (ixF o 1 s16 s18 fun v2 => load1F o h v2 fun v3 => lensF o v3 fun v4 => addF Pq o 3 s6 v4 fun v5 => addF Pq o 3 v5 (.i .i64 1) fun v6 => c 11 [v3, (.s 1 32)] h fun v7 h => pk k v7 h <| eqsF Pq o 9 v7 (.s 0 0) fun v8 => ifF o v8 (addF Pq o 3 s18 (.i .i64 1) fun v9 => lp0 s5 v6 s16 s17 v9 h) (c 12 [v3] h fun v10 h => pk k v10 h <| assertA Pq o v10 27 true fun v11 => exF o v11 0 fun v12 => exF o v11 1 fun v13 => newF h h.next 2 [(.s 0 0), (.s 0 0)] fun v14 h => storeF o h 2 v14 v12 fun h => notF o v13 fun v15 => ifF o v15 (k (.tup [.nsl, (.i .i64 3), s6]) h) (loadNF o h 2 v14 fun v16 => c 13 [s5, v16] h fun v17 h => pk k v17 h <| ifF o v17 (k (.tup [.nsl, (.i .i64 6), s6]) h) (loadNF o h 2 v14 fun v18 => fil1 o 2 1 0 v18 [[(.s 0 0), (.s 0 0)]] fun v19 => newEF h h.next 2 1 v19 fun v20 h => appX Pq o h h.next 23 23 s5 v20 fun v21 h => addF Pq o 3 s18 (.i .i64 1) fun v22 => lp0 v21 v6 s16 s17 v22 h)))) (lenF o s5 fun v23 => gtrF Pq o 3 v23 (.i .i64 20) fun v24 => ifF o v24 (k (.tup [.nsl, (.i .i64 5), (.i .i64 0)]) h) (k (.tup [s5, (.i .i64 0), (.i .i64 0)]) h))) m
theorem f6_7_ok : R Pq o c n (cA (cB (cA (cB (cB (cB (cB b6))))))) (blockK (cI (cB (cA (cB (cB (cB (cB b6))))))) (f6_5K o c n k w)) = fun t _ h => f6_7 o c n k n (t 5) (t 6) (t 16) (t 17) (t 18) h :=
  c_loop (F := fun m t _ h => f6_7 o c n k m (t 5) (t 6) (t 16) (t 17) (t 18) h) (by kernel_rfl) (by kernel_rfl) fun m => by kernel_rfl
noncomputable def f6_6 (s5 s6 s16 s17 s18 : AV) (h : Heap) : α :=
  f6_7 o c n k n s5 s6 s16 s17 s18 h
theorem f6_6_ok : R Pq o c n (cB (cA (cB (cB (cB (cB b6)))))) (f6_5K o c n k w) = fun t _ h => f6_6 o c n k (t 5) (t 6) (t 16) (t 17) (t 18) h := (kblk (f6_7_ok o c n k w)).tk
noncomputable def f6_4 (s0 s5 s6 : AV) (h : Heap) : α :=
  c 10 [s0, (.s 1 10)] h fun v25 h => pk k v25 h <| lenF o v25 fun v26 => f6_6 o c n k s5 s6 v25 v26 (.i .i64 0) h
theorem f6_4_ok : R Pq o c n (cB (cB (cB (cB b6)))) (kend Pq o c n w rs6 k) = fun t _ h => f6_4 o c n k (t 0) (t 5) (t 6) h := (kseq rfl (kseq (f6_6_ok o c n k w) rfl)).tk
noncomputable def f6_3 (s0 s5 : AV) (h : Heap) : α :=
  f6_4 o c n k s0 s5 (.i .i64 0) h
theorem f6_3_ok : R Pq o c n (cB (cB (cB b6))) (kend Pq o c n w rs6 k) = fun t _ h => f6_3 o c n k (t 0) (t 5) h := (kseq (f6_4_ok o c n k w) rfl).tk
noncomputable def f6_2 (s0 : AV) (h : Heap) : α :=
  f6_3 o c n k s0 .nsl h
theorem f6_2_ok : R Pq o c n (cB (cB b6)) (kend Pq o c n w rs6 k) = fun t _ h => f6_2 o c n k (t 0) h := (kseq (f6_3_ok o c n k w) rfl).tk
noncomputable def f6_1 (s0 : AV) (h : Heap) : α :=
  lensF o s0 fun v27 => gtrF Pq o 3 v27 (.i .i64 8000) fun v28 => ifF o v28 (k (.tup [.nsl, (.i .i64 5), (.i .i64 0)]) h) (f6_2 o c n k s0 h)
theorem f6_1_ok : R Pq o c n (cB b6) (kend Pq o c n w rs6 k) = fun t _ h => f6_1 o c n k (t 0) h := (kseq (f6_2_ok o c n k w) rfl).tk
noncomputable def f6 (a0 : AV) (h : Heap) : α :=
  f6_1 o c n k a0 h
theorem f6_ok : R Pq o c n b6 (kend Pq o c n w rs6 k) = fun t _ h => f6 o c n k (t 0) h := (kseq (f6_1_ok o c n k w) rfl).tk
theorem f6_good : Good Pq (cfg mm) 6 (entF Pq (cfg mm) 6 1 fun α => f6) := entG b6 rs6 55 fun _ => f6_ok
noncomputable def b11 := bdy Tryz.f11
noncomputable def rs11 := Tryz.f11.results.toList
noncomputable def f11_3 {α : Type} (o : α) (c : Call' α) (n : Nat) (k : AV → Heap → α) (s0 s1 : AV) (h : Heap) : α :=
  c 21 [s1] h fun v1 h => pk k v1 h <| exF o v1 0 fun v2 => exF o v1 1 fun v3 => newF h h.next 256 [(.b false), (.b false), (.b false), (.b false), (.b false), (.b false), (.b false), (.b false), (.b false), (.b false), (.b false), (.b false), (.b false), (.b false), (.b false), (.b false), (.b false), (.b false), (.b false), (.b false), (.b false), (.b false), (.b false), (.b false), (.b false), (.b false), (.b false), (.b false), (.b false), (.b false), (.b false), (.b false), (.b false), (.b false), (.b false), (.b false), (.b false), (.b false), (.b false), (.b false), (.b false), (.b false), (.b false), (.b false), (.b false), (.b false), (.b false), (.b false), (.b false), (.b false), (.b false), (.b false), (.b false), (.b false), (.b false), (.b false), (.b false), (.b false), (.b false), (.b false), (.b false), (.b false), (.b false), (.b false), (.b false), (.b false), (.b false), (.b false), (.b false), (.b false), (.b false), (.b false), (.b false), (.b false), (.b false), (.b false), (.b false), (.b false), (.b false), (.b false), (.b false), (.b false), (.b false), (.b false), (.b false), (.b false), (.b false), (.b false), (.b false), (.b false), (.b false), (.b false), (.b false), (.b false), (.b false), (.b false), (.b false), (.b false), (.b false), (.b false), (.b false), (.b false), (.b false), (.b false), (.b false), (.b false), (.b false), (.b false), (.b false), (.b false), (.b false), (.b false), (.b false), (.b false), (.b false), (.b false), (.b false), (.b false), (.b false), (.b false), (.b false), (.b false), (.b false), (.b false), (.b false), (.b false), (.b false), (.b false), (.b false), (.b false), (.b false), (.b false), (.b false), (.b false), (.b false), (.b false), (.b false), (.b false), (.b false), (.b false), (.b false), (.b false), (.b false), (.b false), (.b false), (.b false), (.b false), (.b false), (.b false), (.b false), (.b false), (.b false), (.b false), (.b false), (.b false), (.b false), (.b false), (.b false), (.b false), (.b false), (.b false), (.b false), (.b false), (.b false), (.b false), (.b false), (.b false), (.b false), (.b false), (.b false), (.b false), (.b false), (.b false), (.b false), (.b false), (.b false), (.b false), (.b false), (.b false), (.b false), (.b false), (.b false), (.b false), (.b false), (.b false), (.b false), (.b false), (.b false), (.b false), (.b false), (.b false), (.b false), (.b false), (.b false), (.b false), (.b false), (.b false), (.b false), (.b false), (.b false), (.b false), (.b false), (.b false), (.b false), (.b false), (.b false), (.b false), (.b false), (.b false), (.b false), (.b false), (.b false), (.b false), (.b false), (.b false), (.b false), (.b false), (.b false), (.b false), (.b false), (.b false), (.b false), (.b false), (.b false), (.b false), (.b false), (.b false), (.b false), (.b false), (.b false), (.b false), (.b false), (.b false), (.b false), (.b false), (.b false), (.b false), (.b false), (.b false), (.b false), (.b false), (.b false), (.b false), (.b false), (.b false), (.b false), (.b false), (.b false), (.b false), (.b false), (.b false), (.b false), (.b false), (.b false), (.b false), (.b false)] fun v4 h => storeF o h 256 v4 v2 fun h => ifF o v3 (c 23 [s0, v4] h fun v5 h => pk k v5 h <| c 22 [v5, v4] h fun v6 h => pk k v6 h <| k v6 h) (c 25 [s0, s1] h fun v7 h => pk k v7 h <| c 24 [v7, s1] h fun v8 h => pk k v8 h <| k v8 h)
theorem f11_3_ok : R Pq o c n (cB (cB (cB b11))) (kend Pq o c n w rs11 k) = fun t _ h => f11_3 o c n k (t 0) (t 1) h := by kernel_rfl
noncomputable def f11_4K : Ex → K α := (nxK (fun t _ h => f11_3 o c n k (t 0) (t 1) h) (kend Pq o c n w rs11 k))
noncomputable def f11_5 (s0 s1 s21 : AV) (h : Heap) : α :=
  ifF o s21 (dreg o h 8 fun base h => sxF o s1 (.i .i64 0) fun v9 => callD o c [] 20 [s0, v9] (h.look 0) fun v10 h => pnF v10 (fun x => hb h.shut fun hd => sxF o s1 (.i .i64 0) fun v11 => k x.pn hd) <| sxF o s1 (.i .i64 0) fun v12 => callD o c [] 19 [v10, v12] (h.look 0) fun v13 h => pnF v13 (fun x => hb h.shut fun hd => k x.pn hd) <| hb h.shut fun h => k v13 h) (f11_3 o c n k s0 s1 h)
theorem f11_5_ok : R Pq o c n (cB (cA (cB (cB b11)))) (f11_4K o c n k w) = fun t _ h => f11_5 o c n k (t 0) (t 1) (t 21) h := by kernel_rfl
noncomputable def f11_6K : Ex → K α := (nxK (fun t _ h => f11_5 o c n k (t 0) (t 1) (t 21) h) (f11_4K o c n k w))
noncomputable def f11_2 (s0 s1 : AV) (h : Heap) : α :=
  lensF o s1 fun v14 => eqiF Pq o 3 v14 (.i .i64 1) fun v15 => bkF o true v15 (sxF o s1 (.i .i64 0) fun v16 => lssF Pq o 5 v16 (.i .u8 128) fun v17 => pickF o v15 v17 (.b false) fun v18 => f11_5 o c n k s0 s1 v18 h) (pickF o v15 (.tup []) (.b false) fun v19 => f11_5 o c n k s0 s1 v19 h)
theorem f11_2_ok : R Pq o c n (cB (cB b11)) (kend Pq o c n w rs11 k) = fun t _ h => f11_2 o c n k (t 0) (t 1) h := (kseq (f11_3_ok o c n k w) (kseq (f11_5_ok o c n k w) (r_start 4 (by kernel_rfl) (q_guard 4 7 (3, true) (by kernel_rfl) (by kernel_rfl) (by kernel_rfl) rfl)))).tk
noncomputable def f11_7K : Ex → K α := (nxK (fun t _ h => f11_2 o c n k (t 0) (t 1) h) (kend Pq o c n w rs11 k))
noncomputable def f11_8 (s0 s1 s12 : AV) (h : Heap) : α :=
  ifF o s12 (k s0 h) (f11_2 o c n k s0 s1 h)
theorem f11_8_ok : R Pq o c n (cB (cA (cB b11))) (f11_7K o c n k w) = fun t _ h => f11_8 o c n k (t 0) (t 1) (t 12) h := by kernel_rfl
noncomputable def f11_9K : Ex → K α := (nxK (fun t _ h => f11_8 o c n k (t 0) (t 1) (t 12) h) (f11_7K o c n k w))
noncomputable def f11_1 (s0 s1 : AV) (h : Heap) : α :=
  eqsF Pq o 9 s0 (.s 0 0) fun v20 => bkF o false v20 (eqsF Pq o 9 s1 (.s 0 0) fun v21 => pickF o v20 (.b true) v21 fun v22 => f11_8 o c n k s0 s1 v22 h) (pickF o v20 (.b true) (.tup []) fun v23 => f11_8 o c n k s0 s1 v23 h)
theorem f11_1_ok : R Pq o c n (cB b11) (kend Pq o c n w rs11 k) = fun t _ h => f11_1 o c n k (t 0) (t 1) h := (kseq (f11_2_ok o c n k w) (kseq (f11_8_ok o c n k w) (r_start 3 (by kernel_rfl) (q_guard 3 5 (2, false) (by kernel_rfl) (by kernel_rfl) (by kernel_rfl) rfl)))).tk
noncomputable def f11 (a0 a1 : AV) (h : Heap) : α :=
  f11_1 o c n k a0 a1 h
theorem f11_ok : R Pq o c n b11 (kend Pq o c n w rs11 k) = fun t _ h => f11 o c n k (t 0) (t 1) h := (kseq (f11_1_ok o c n k w) rfl).tk
theorem f11_good : Good Pq (cfg mm) 11 (entF Pq (cfg mm) 11 2 fun α => f11) := entG b11 rs11 43 fun _ => f11_ok
noncomputable def b12 := bdy Tryz.f12
noncomputable def rs12 := Tryz.f12.results.toList
noncomputable def f12_3 {α : Type} (o : α) (c : Call' α) (n : Nat) (k : AV → Heap → α) (s3 s4 : AV) (h : Heap) : α :=
  layF o 0 s3 [(.s 0 0), (.s 0 0)] fun v1 => layF o 1 s4 v1 fun v2 => k (.ifc 27 (.agg v2)) h
theorem f12_3_ok : R Pq o c n (cB (cB (cB b12))) (kend Pq o c n w rs12 k) = fun t _ h => f12_3 o c n k (t 3) (t 4) h := by kernel_rfl
noncomputable def f12_4K : Ex → K α := (nxK (fun t _ h => f12_3 o c n k (t 3) (t 4) h) (kend Pq o c n w rs12 k))
noncomputable def f12_5 (s3 s4 s24 : AV) (h : Heap) : α :=
  ifF o s24 (k .nifc h) (f12_3 o c n k s3 s4 h)
theorem f12_5_ok : R Pq o c n (cB (cA (cB (cB b12)))) (f12_4K o c n k w) = fun t _ h => f12_5 o c n k (t 3) (t 4) (t 24) h := by kernel_rfl
noncomputable def f12_6K : Ex → K α := (nxK (fun t _ h => f12_5 o c n k (t 3) (t 4) (t 24) h) (f12_4K o c n k w))
noncomputable def f12_7 (s3 s4 s15 s18 : AV) (h : Heap) : α :=
  pickF o s15 (.b true) s18 fun v3 => bkF o false v3 (c 28 [s4] h fun v4 h => pk k v4 h <| notF o v4 fun v5 => pickF o v3 (.b true) v5 fun v6 => f12_5 o c n k s3 s4 v6 h) (pickF o v3 (.b true) (.tup []) fun v7 => f12_5 o c n k s3 s4 v7 h)
theorem f12_7_ok : Q Pq o c (cO (cA (cA (cB (cB b12))))) (f12_6K o c n k w) 6 = fun t _ h => f12_7 o c n k (t 3) (t 4) (t 15) (t 18) h := (q_seg 6 8 (by kernel_rfl) (q_guard 8 11 (7, false) (by kernel_rfl) (by kernel_rfl) (by kernel_rfl) rfl)).tk
noncomputable def f12_2 (s3 s4 s5 : AV) (h : Heap) : α :=
  notF o s5 fun v8 => bkF o false v8 (c 27 [s3] h fun v9 h => pk k v9 h <| notF o v9 fun v10 => f12_7 o c n k s3 s4 v8 v10 h) (f12_7 o c n k s3 s4 v8 (.tup []) h)
theorem f12_2_ok : R Pq o c n (cB (cB b12)) (kend Pq o c n w rs12 k) = fun t _ h => f12_2 o c n k (t 3) (t 4) (t 5) h := (kseq (f12_3_ok o c n k w) (kseq (f12_5_ok o c n k w) (r_start 3 (by kernel_rfl) (q_guard 3 6 (2, false) (by kernel_rfl) (by kernel_rfl) (by kernel_rfl) (f12_7_ok o c n k w))))).tk
noncomputable def f12_1 (s0 : AV) (h : Heap) : α :=
  c 11 [s0, (.s 1 32)] h fun v11 h => pk k v11 h <| c 26 [v11, (.s 2 14906)] h fun v12 h => pk k v12 h <| exF o v12 0 fun v13 => exF o v12 1 fun v14 => exF o v12 2 fun v15 => f12_2 o c n k v13 v14 v15 h
theorem f12_1_ok : R Pq o c n (cB b12) (kend Pq o c n w rs12 k) = fun t _ h => f12_1 o c n k (t 0) h := (kseq (f12_2_ok o c n k w) rfl).tk
noncomputable def f12 (a0 : AV) (h : Heap) : α :=
  f12_1 o c n k a0 h
theorem f12_ok : R Pq o c n b12 (kend Pq o c n w rs12 k) = fun t _ h => f12 o c n k (t 0) h := (kseq (f12_1_ok o c n k w) rfl).tk
theorem f12_good : Good Pq (cfg mm) 12 (entF Pq (cfg mm) 12 1 fun α => f12) := entG b12 rs12 29 fun _ => f12_ok
noncomputable def b13 := bdy Tryz.f13
noncomputable def rs13 := Tryz.f13.results.toList
noncomputable def f13 {α : Type} (o : α) (c : Call' α) (n : Nat) (k : AV → Heap → α) (a0 a1 : AV) (h : Heap) : α :=
  boxF o a1 h h.next fun v1 h => loadNF o h 2 v1 fun v2 => c 29 [a0, v2] h fun v3 h => pk k v3 h <| geqF Pq o 3 v3 (.i .i64 0) fun v4 => k v4 h
theorem f13_ok : R Pq o c n b13 (kend Pq o c n w rs13 k) = fun t _ h => f13 o c n k (t 0) (t 1) h := by kernel_rfl
theorem f13_good : Good Pq (cfg mm) 13 (entF Pq (cfg mm) 13 2 fun α => f13) := entG b13 rs13 9 fun _ => f13_ok
noncomputable def b19 := bdy Tryz.f19
noncomputable def rs19 := Tryz.f19.results.toList
noncomputable def f19_2K : Ex → K α := (nxK (R Pq o c n (cB (cB b19)) (kend Pq o c n w rs19 k)) (kend Pq o c n w rs19 k))
noncomputable def f19_4K (lp0 : AVs (Heap → α) 2) : Ex → K α := (nxK (fun t _ h => lp0 (t 0) (t 1) h) (blockK (cI (cA (cB b19))) (f19_2K o c n k w)))
noncomputable def f19_5 {α : Type} (o : α) (c : Call' α) (n : Nat) (k : AV → Heap → α) (lp0 : AVs (Heap → α) 2) (s0 s1 : AV) (h : Heap) : α :=
  ssF Pq o 9 s0 (some (.i .i64 1)) none fun v1 => lp0 v1 s1 h
theorem f19_5_ok (lp0 : AVs (Heap → α) 2) : R Pq o c n (cB (cA (cA (cA (cB b19))))) (f19_4K o c n k w lp0) = fun t _ h => f19_5 o c n k lp0 (t 0) (t 1) h := by kernel_rfl
noncomputable def f19_6K (lp0 : AVs (Heap → α) 2) : Ex → K α := (nxK (fun t _ h => f19_5 o c n k lp0 (t 0) (t 1) h) (f19_4K o c n k w lp0))
noncomputable def f19_7K (lp0 : AVs (Heap → α) 2) : Ex → K α := (nxK (R Pq o c n (cB (cA (cA (cA (cA (cB b19)))))) (f19_6K o c n k w lp0)) (f19_6K o c n k w lp0))
noncomputable def f19_3 (m : Nat) : AVs (Heap → α) 2 :=
  Nat.rec (motive := fun _ => AVs (Heap → α) 2) (fun _ _ _ => o) (fun _ lp0 s0 s1 h => lensF o s0 fun v2 => gtrF Pq o 3 v2 (.i .i64 0) fun v3 => bkF o true v3 (sxF o s0 (.i .i64 0) fun v4 => eqiF Pq o 5 v4 s1 fun v5 => pickF o v3 v5 (.b false) fun v6 => ifF o v6 (f19_5 o c n k lp0 s0 s1 h) (k s0 h)) (pickF o v3 (.tup []) (.b false) fun v7 => ifF o v7 (f19_5 o c n k lp0 s0 s1 h) (k s0 h))) m
theorem f19_3_ok : R Pq o c n (cA (cA (cB b19))) (blockK (cI (cA (cB b19))) (f19_2K o c n k w)) = fun t _ h => f19_3 o c n k n (t 0) (t 1) h :=
  c_loop (F := fun m t _ h => f19_3 o c n k m (t 0) (t 1) h) (by kernel_rfl) (by kernel_rfl) fun m => (kseq (f19_5_ok o c n k w (f19_3 o c n k m)) (kseq rfl (r_start 4 (by kernel_rfl) (q_guard 4 8 (3, true) (by kernel_rfl) (by kernel_rfl) (by kernel_rfl) rfl)))).tk
noncomputable def f19_1 (s0 s1 : AV) (h : Heap) : α :=
  f19_3 o c n k n s0 s1 h
theorem f19_1_ok : R Pq o c n (cB b19) (kend Pq o c n w rs19 k) = fun t _ h => f19_1 o c n k (t 0) (t 1) h := (kseq rfl (kblk (f19_3_ok o c n k w))).tk
noncomputable def f19 (a0 a1 : AV) (h : Heap) : α :=
  f19_1 o c n k a0 a1 h
theorem f19_ok : R Pq o c n b19 (kend Pq o c n w rs19 k) = fun t _ h => f19 o c n k (t 0) (t 1) h := (kseq (f19_1_ok o c n k w) rfl).tk
theorem f19_good : Good Pq (cfg mm) 19 (entF Pq (cfg mm) 19 2 fun α => f19) := entG b19 rs19 17 fun _ => f19_ok
noncomputable def b20 := bdy Tryz.f20
noncomputable def rs20 := Tryz.f20.results.toList
noncomputable def f20_2K : Ex → K α := (nxK (R Pq o c n (cB (cB b20)) (kend Pq o c n w rs20 k)) (kend Pq o c n w rs20 k))
noncomputable def f20_4K (lp0 : AVs (Heap → α) 2) : Ex → K α := (nxK (fun t _ h => lp0 (t 0) (t 1) h) (blockK (cI (cA (cB b20))) (f20_2K o c n k w)))
noncomputable def f20_5 {α : Type} (o : α) (c : Call' α) (n : Nat) (k : AV → Heap → α) (lp0 : AVs (Heap → α) 2) (s0 s1 : AV) (h : Heap) : α :=
  lensF o s0 fun v1 => binA Pq o .sub 3 v1 (.i .i64 1) fun v2 => ssF Pq o 9 s0 none (some v2) fun v3 => lp0 v3 s1 h
theorem f20_5_ok (lp0 : AVs (Heap → α) 2) : R Pq o c n (cB (cA (cA (cA (cB b20))))) (f20_4K o c n k w lp0) = fun t _ h => f20_5 o c n k lp0 (t 0) (t 1) h := by kernel_rfl
noncomputable def f20_6K (lp0 : AVs (Heap → α) 2) : Ex → K α := (nxK (fun t _ h => f20_5 o c n k lp0 (t 0) (t 1) h) (f20_4K o c n k w lp0))
noncomputable def f20_7K (lp0 : AVs (Heap → α) 2) : Ex → K α := (nxK (R Pq o c n (cB (cA (cA (cA (cA (cB b20)))))) (f20_6K o c n k w lp0)) (f20_6K o c n k w lp0))
noncomputable def f20_3 (m : Nat) : AVs (Heap → α) 2 :=
  Nat.rec (motive := fun _ => AVs (Heap → α) 2) (fun _ _ _ => o) (fun _ lp0 s0 s1 h => lensF o s0 fun v4 => gtrF Pq o 3 v4 (.i .i64 0) fun v5 => bkF o true v5 (lensF o s0 fun v6 => binA Pq o .sub 3 v6 (.i .i64 1) fun v7 => sxF o s0 v7 fun v8 => eqiF Pq o 5 v8 s1 fun v9 => pickF o v5 v9 (.b false) fun v10 => ifF o v10 (f20_5 o c n k lp0 s0 s1 h) (k s0 h)) (pickF o v5 (.tup []) (.b false) fun v11 => ifF o v11 (f20_5 o c n k lp0 s0 s1 h) (k s0 h))) m
theorem f20_3_ok : R Pq o c n (cA (cA (cB b20))) (blockK (cI (cA (cB b20))) (f20_2K o c n k w)) = fun t _ h => f20_3 o c n k n (t 0) (t 1) h :=
  c_loop (F := fun m t _ h => f20_3 o c n k m (t 0) (t 1) h) (by kernel_rfl) (by kernel_rfl) fun m => (kseq (f20_5_ok o c n k w (f20_3 o c n k m)) (kseq rfl (r_start 4 (by kernel_rfl) (q_guard 4 11 (3, true) (by kernel_rfl) (by kernel_rfl) (by kernel_rfl) rfl)))).tk
noncomputable def f20_1 (s0 s1 : AV) (h : Heap) : α :=
  f20_3 o c n k n s0 s1 h
theorem f20_1_ok : R Pq o c n (cB b20) (kend Pq o c n w rs20 k) = fun t _ h => f20_1 o c n k (t 0) (t 1) h := (kseq rfl (kblk (f20_3_ok o c n k w))).tk
noncomputable def f20 (a0 a1 : AV) (h : Heap) : α :=
  f20_1 o c n k a0 a1 h
theorem f20_ok : R Pq o c n b20 (kend Pq o c n w rs20 k) = fun t _ h => f20 o c n k (t 0) (t 1) h := (kseq (f20_1_ok o c n k w) rfl).tk
theorem f20_good : Good Pq (cfg mm) 20 (entF Pq (cfg mm) 20 2 fun α => f20) := entG b20 rs20 23 fun _ => f20_ok
noncomputable def b27 := bdy Tryz.f27
noncomputable def rs27 := Tryz.f27.results.toList
noncomputable def f27_2K : Ex → K α := (nxK (R Pq o c n (cB (cB b27)) (kend Pq o c n w rs27 k)) (kend Pq o c n w rs27 k))
noncomputable def f27_1 {α : Type} (o : α) (c : Call' α) (n : Nat) (k : AV → Heap → α) (s0 : AV) (h : Heap) : α :=
  c 43 [s0, (.fn (.func 44) [] [])] h fun v1 h => pk k v1 h <| bkF o true v1 (nesF Pq o 9 s0 (.s 6 113723913172051) fun v2 => pickF o v1 v2 (.b false) fun v3 => k v3 h) (pickF o v1 (.tup []) (.b false) fun v4 => k v4 h)
theorem f27_1_ok : R Pq o c n (cB b27) (kend Pq o c n w rs27 k) = fun t _ h => f27_1 o c n k (t 0) h := (kseq rfl (r_start 3 (by kernel_rfl) (q_guard 3 5 (2, true) (by kernel_rfl) (by kernel_rfl) (by kernel_rfl) rfl))).tk
noncomputable def f27 (a0 : AV) (h : Heap) : α :=
  f27_1 o c n k a0 h
theorem f27_ok : R Pq o c n b27 (kend Pq o c n w rs27 k) = fun t _ h => f27 o c n k (t 0) h := (kseq (f27_1_ok o c n k w) rfl).tk
theorem f27_good : Good Pq (cfg mm) 27 (entF Pq (cfg mm) 27 1 fun α => f27) := entG b27 rs27 9 fun _ => f27_ok
noncomputable def b28 := bdy Tryz.f28
noncomputable def rs28 := Tryz.f28.results.toList
noncomputable def f28_2K : Ex → K α := (nxK (R Pq o c n (cB (cB b28)) (kend Pq o c n w rs28 k)) (kend Pq o c n w rs28 k))
noncomputable def f28_1 {α : Type} (o : α) (c : Call' α) (n : Nat) (k : AV → Heap → α) (s0 : AV) (h : Heap) : α :=
  c 43 [s0, (.fn (.func 45) [] [])] h fun v1 h => pk k v1 h <| bkF o true v1 (c 46 [s0] h fun v2 h => pk k v2 h <| notF o v2 fun v3 => pickF o v1 v3 (.b false) fun v4 => k v4 h) (pickF o v1 (.tup []) (.b false) fun v5 => k v5 h)
theorem f28_1_ok : R Pq o c n (cB b28) (kend Pq o c n w rs28 k) = fun t _ h => f28_1 o c n k (t 0) h := (kseq rfl (r_start 3 (by kernel_rfl) (q_guard 3 6 (2, true) (by kernel_rfl) (by kernel_rfl) (by kernel_rfl) rfl))).tk
noncomputable def f28 (a0 : AV) (h : Heap) : α :=
  f28_1 o c n k a0 h
theorem f28_ok : R Pq o c n b28 (kend Pq o c n w rs28 k) = fun t _ h => f28 o c n k (t 0) h := (kseq (f28_1_ok o c n k w) rfl).tk
theorem f28_good : Good Pq (cfg mm) 28 (entF Pq (cfg mm) 28 1 fun α => f28) := entG b28 rs28 10 fun _ => f28_ok
noncomputable def b29 := bdy Tryz.f29
noncomputable def rs29 := Tryz.f29.results.toList
noncomputable def f29_2K : Ex → K α := (nxK (R Pq o c n (cB (cB b29)) (kend Pq o c n w rs29 k)) (kend Pq o c n w rs29 k))
noncomputable def f29_4 {α : Type} (o : α) (c : Call' α) (n : Nat) (k : AV → Heap → α) (m : Nat) : AVs (Heap → α) 4 :=
  Nat.rec (motive := fun _ => AVs (Heap → α) 4) (fun _ _ _ _ _ => o) (fun _ lp0 s0 s3 s7 s8 h => lssF Pq o 3 s8 s7 fun v1 => ifF o v1 (dreg o h 6 fun base h => loadNF o (h.look 0) 2 s3 fun v2 => ixF o 2 s0 s8 fun v3 => rootF o v3 s0 <| loadNF o (h.look 14) 2 v3 fun v4 => eqiF Pq o 27 v2 v4 fun v5 => hb h.shut fun h => ifF o v5 (k s8 h) (addF Pq o 3 s8 (.i .i64 1) fun v6 => lp0 s0 s3 s7 v6 h)) (k (.i .i64 (-1)) h)) m
theorem f29_4_ok : R Pq o c n (cA (cB (cA (cB b29)))) (blockK (cI (cB (cA (cB b29)))) (f29_2K o c n k w)) = fun t _ h => f29_4 o c n k n (t 0) (t 3) (t 7) (t 8) h :=
  c_loop (F := fun m t _ h => f29_4 o c n k m (t 0) (t 3) (t 7) (t 8) h) (by kernel_rfl) (by kernel_rfl) fun m => by kernel_rfl
noncomputable def f29_3 (s0 s3 s7 s8 : AV) (h : Heap) : α :=
  f29_4 o c n k n s0 s3 s7 s8 h
theorem f29_3_ok : R Pq o c n (cB (cA (cB b29))) (f29_2K o c n k w) = fun t _ h => f29_3 o c n k (t 0) (t 3) (t 7) (t 8) h := (kblk (f29_4_ok o c n k w)).tk
noncomputable def f29_1 (s0 s3 : AV) (h : Heap) : α :=
  lenF o s0 fun v7 => f29_3 o c n k s0 s3 v7 (.i .i64 0) h
theorem f29_1_ok : R Pq o c n (cB b29) (kend Pq o c n w rs29 k) = fun t _ h => f29_1 o c n k (t 0) (t 3) h := (kseq rfl (kseq (f29_3_ok o c n k w) rfl)).tk
noncomputable def f29 (a0 a1 : AV) (h : Heap) : α :=
  boxF o a1 h h.next fun v8 h => f29_1 o c n k a0 v8 h
theorem f29_ok : R Pq o c n b29 (kend Pq o c n w rs29 k) = fun t _ h => f29 o c n k (t 0) (t 1) h := (kseq (f29_1_ok o c n k w) rfl).tk
theorem f29_good : Good Pq (cfg mm) 29 (entF Pq (cfg mm) 29 2 fun α => f29) := entG b29 rs29 19 fun _ => f29_ok
noncomputable def b43 := bdy Tryz.f43
noncomputable def rs43 := Tryz.f43.results.toList
noncomputable def f43_3K : Ex → K α := (nxK (R Pq o c n (cB (cB (cB b43))) (kend Pq o c n w rs43 k)) (kend Pq o c n w rs43 k))
noncomputable def f43_2 {α : Type} (o : α) (c : Call' α) (n : Nat) (k : AV → Heap → α) (s0 : AV) (h : Heap) : α :=
  nesF Pq o 9 s0 (.s 0 0) fun v1 => bkF o true v1 (lensF o s0 fun v2 => leqF Pq o 3 v2 (.i .i64 20) fun v3 => pickF o v1 v3 (.b false) fun v4 => k v4 h) (pickF o v1 (.tup []) (.b false) fun v5 => k v5 h)
theorem f43_2_ok : R Pq o c n (cB (cB b43)) (kend Pq o c n w rs43 k) = fun t _ h => f43_2 o c n k (t 0) h := (kseq rfl (r_start 3 (by kernel_rfl) (q_guard 3 6 (2, true) (by kernel_rfl) (by kernel_rfl) (by kernel_rfl) rfl))).tk
noncomputable def f43_4K : Ex → K α := (nxK (fun t _ h => f43_2 o c n k (t 0) h) (kend Pq o c n w rs43 k))
noncomputable def f43_7K (lp0 : AVs (Heap → α) 3) : Ex → K α := (nxK (fun t _ h => lp0 (t 0) (t 1) (t 8) h) (blockK (cI (cB (cA (cB b43)))) (f43_4K o c n k w)))
noncomputable def f43_11 {α : Type} (o : α) (c : Call' α) (n : Nat) (k : AV → Heap → α) (lp0 : AVs (Heap → α) 3) (s0 s1 s8 s35 : AV) (h : Heap) : α :=
  ifF o s35 (k (.b false) h) (lp0 s0 s1 s8 h)
theorem f43_11_ok (lp0 : AVs (Heap → α) 3) : R Pq o c n (cB (cB (cA (cB (cB (cA (cA (cB (cA (cB b43)))))))))) (blockK (cI (cB (cB (cA (cA (cB (cA (cB b43)))))))) (f43_7K o c n k w lp0)) = fun t _ h => f43_11 o c n k lp0 (t 0) (t 1) (t 8) (t 35) h := by kernel_rfl
noncomputable def f43_12K (lp0 : AVs (Heap → α) 3) : Ex → K α := (nxK (fun t _ h => f43_11 o c n k lp0 (t 0) (t 1) (t 8) (t 35) h) (blockK (cI (cB (cB (cA (cA (cB (cA (cB b43)))))))) (f43_7K o c n k w lp0)))
noncomputable def f43_17 (lp0 : AVs (Heap → α) 3) (s0 s1 s8 s21 s30 s33 : AV) (h : Heap) : α :=
  bkF o false s21 (pickF o s30 s33 (.b false) fun v6 => pickF o s21 (.b true) v6 fun v7 => f43_11 o c n k lp0 s0 s1 s8 v7 h) (pickF o s21 (.b true) (.tup []) fun v8 => f43_11 o c n k lp0 s0 s1 s8 v8 h)
theorem f43_17_ok (lp0 : AVs (Heap → α) 3) : Q Pq o c (cO (cA (cB (cA (cB (cB (cA (cA (cB (cA (cB b43))))))))))) (f43_12K o c n k w lp0) 21 = fun t _ h => f43_17 o c n k lp0 (t 0) (t 1) (t 8) (t 21) (t 30) (t 33) h := (q_seg 21 21 (by kernel_rfl) (q_guard 21 22 (8, false) (by kernel_rfl) (by kernel_rfl) (by kernel_rfl) rfl)).tk
noncomputable def f43_16 (lp0 : AVs (Heap → α) 3) (s0 s1 s6 s8 s21 s30 : AV) (h : Heap) : α :=
  bkF o true s30 (c 69 [s6] h fun v9 h => pk k v9 h <| notF o v9 fun v10 => f43_17 o c n k lp0 s0 s1 s8 s21 s30 v10 h) (f43_17 o c n k lp0 s0 s1 s8 s21 s30 (.tup []) h)
theorem f43_16_ok (lp0 : AVs (Heap → α) 3) : Q Pq o c (cO (cA (cB (cA (cB (cB (cA (cA (cB (cA (cB b43))))))))))) (f43_12K o c n k w lp0) 18 = fun t _ h => f43_16 o c n k lp0 (t 0) (t 1) (t 6) (t 8) (t 21) (t 30) h := (q_seg 18 18 (by kernel_rfl) (q_guard 18 21 (17, true) (by kernel_rfl) (by kernel_rfl) (by kernel_rfl) (f43_17_ok o c n k w lp0))).tk
noncomputable def f43_15 (lp0 : AVs (Heap → α) 3) (s0 s1 s6 s8 s21 s25 s28 : AV) (h : Heap) : α :=
  bkF o false s21 (pickF o s25 s28 (.b false) fun v11 => f43_16 o c n k lp0 s0 s1 s6 s8 s21 v11 h) (f43_16 o c n k lp0 s0 s1 s6 s8 s21 (.tup []) h)
theorem f43_15_ok (lp0 : AVs (Heap → α) 3) : Q Pq o c (cO (cA (cB (cA (cB (cB (cA (cA (cB (cA (cB b43))))))))))) (f43_12K o c n k w lp0) 16 = fun t _ h => f43_15 o c n k lp0 (t 0) (t 1) (t 6) (t 8) (t 21) (t 25) (t 28) h := (q_seg 16 16 (by kernel_rfl) (q_guard 16 18 (8, false) (by kernel_rfl) (by kernel_rfl) (by kernel_rfl) (f43_16_ok o c n k w lp0))).tk
noncomputable def f43_14 (lp0 : AVs (Heap → α) 3) (s0 s1 s6 s8 s21 s25 : AV) (h : Heap) : α :=
  bkF o true s25 (c 44 [s6] h fun v12 h => pk k v12 h <| notF o v12 fun v13 => f43_15 o c n k lp0 s0 s1 s6 s8 s21 s25 v13 h) (f43_15 o c n k lp0 s0 s1 s6 s8 s21 s25 (.tup []) h)
theorem f43_14_ok (lp0 : AVs (Heap → α) 3) : Q Pq o c (cO (cA (cB (cA (cB (cB (cA (cA (cB (cA (cB b43))))))))))) (f43_12K o c n k w lp0) 13 = fun t _ h => f43_14 o c n k lp0 (t 0) (t 1) (t 6) (t 8) (t 21) (t 25) h := (q_seg 13 13 (by kernel_rfl) (q_guard 13 16 (12, true) (by kernel_rfl) (by kernel_rfl) (by kernel_rfl) (f43_15_ok o c n k w lp0))).tk
noncomputable def f43_13 (lp0 : AVs (Heap → α) 3) (s0 s1 s6 s8 s15 s19 : AV) (h : Heap) : α :=
  pickF o s15 s19 (.b false) fun v14 => bkF o false v14 (c 45 [s6] h fun v15 h => pk k v15 h <| notF o v15 fun v16 => f43_14 o c n k lp0 s0 s1 s6 s8 v14 v16 h) (f43_14 o c n k lp0 s0 s1 s6 s8 v14 (.tup []) h)
theorem f43_13_ok (lp0 : AVs (Heap → α) 3) : Q Pq o c (cO (cA (cB (cA (cB (cB (cA (cA (cB (cA (cB b43))))))))))) (f43_12K o c n k w lp0) 7 = fun t _ h => f43_13 o c n k lp0 (t 0) (t 1) (t 6) (t 8) (t 15) (t 19) h := (q_seg 7 9 (by kernel_rfl) (q_guard 9 13 (8, false) (by kernel_rfl) (by kernel_rfl) (by kernel_rfl) (f43_14_ok o c n k w lp0))).tk
noncomputable def f43_10 (lp0 : AVs (Heap → α) 3) (s0 s1 s5 s6 s8 : AV) (h : Heap) : α :=
  eqiF Pq o 3 s5 (.i .i64 0) fun v17 => bkF o true v17 (cfF o s1 [s6] c h fun v18 h => pk k v18 h <| notF o v18 fun v19 => f43_13 o c n k lp0 s0 s1 s6 s8 v17 v19 h) (f43_13 o c n k lp0 s0 s1 s6 s8 v17 (.tup []) h)
theorem f43_10_ok (lp0 : AVs (Heap → α) 3) : R Pq o c n (cB (cA (cB (cB (cA (cA (cB (cA (cB b43))))))))) (blockK (cI (cB (cB (cA (cA (cB (cA (cB b43)))))))) (f43_7K o c n k w lp0)) = fun t _ h => f43_10 o c n k lp0 (t 0) (t 1) (t 5) (t 6) (t 8) h := (kseq (f43_11_ok o c n k w lp0) (r_start 3 (by kernel_rfl) (q_guard 3 7 (2, true) (by kernel_rfl) (by kernel_rfl) (by kernel_rfl) (f43_13_ok o c n k w lp0)))).tk
noncomputable def f43_9 (lp0 : AVs (Heap → α) 3) (s0 s1 s8 s9 : AV) (h : Heap) : α :=
  exF o s9 1 fun v20 => exF o s9 2 fun v21 => f43_10 o c n k lp0 s0 s1 v20 v21 s8 h
theorem f43_9_ok (lp0 : AVs (Heap → α) 3) : R Pq o c n (cB (cB (cA (cA (cB (cA (cB b43))))))) (f43_7K o c n k w lp0) = fun t _ h => f43_9 o c n k lp0 (t 0) (t 1) (t 8) (t 9) h := (kblk (kseq (f43_10_ok o c n k w lp0) rfl)).tk
noncomputable def f43_8 (lp0 : AVs (Heap → α) 3) (s0 s1 s8 s9 s10 : AV) (h : Heap) : α :=
  ifF o s10 (f43_9 o c n k lp0 s0 s1 s8 s9 h) (f43_2 o c n k s0 h)
theorem f43_8_ok (lp0 : AVs (Heap → α) 3) : R Pq o c n (cB (cA (cA (cB (cA (cB b43)))))) (f43_7K o c n k w lp0) = fun t _ h => f43_8 o c n k lp0 (t 0) (t 1) (t 8) (t 9) (t 10) h := (kseq (f43_9_ok o c n k w lp0) rfl).tk
noncomputable def f43_6 (m : Nat) : AVs (Heap → α) 3 :=
  Nat.rec (motive := fun _ => AVs (Heap → α) 3) (fun _ _ _ _ => o) (fun _ lp0 s0 s1 s8 h => nextN o h s8 fun v22 h => exF o v22 0 fun v23 => f43_8 o c n k lp0 s0 s1 s8 v22 v23 h) m
theorem f43_6_ok : R Pq o c n (cA (cB (cA (cB b43)))) (blockK (cI (cB (cA (cB b43)))) (f43_4K o c n k w)) = fun t _ h => f43_6 o c n k n (t 0) (t 1) (t 8) h :=
  c_loop (F := fun m t _ h => f43_6 o c n k m (t 0) (t 1) (t 8) h) (by kernel_rfl) (by kernel_rfl) fun m => (kseq (f43_8_ok o c n k w (f43_6 o c n k m)) rfl).tk
noncomputable def f43_5 (s0 s1 s8 : AV) (h : Heap) : α :=
  f43_6 o c n k n s0 s1 s8 h
theorem f43_5_ok : R Pq o c n (cB (cA (cB b43))) (f43_4K o c n k w) = fun t _ h => f43_5 o c n k (t 0) (t 1) (t 8) h := (kblk (f43_6_ok o c n k w)).tk
noncomputable def f43_1 (s0 s1 : AV) (h : Heap) : α :=
  iterA o h h.next s0 fun v24 h => f43_5 o c n k s0 s1 v24 h
theorem f43_1_ok : R Pq o c n (cB b43) (kend Pq o c n w rs43 k) = fun t _ h => f43_1 o c n k (t 0) (t 1) h := (kseq (f43_2_ok o c n k w) (kseq (f43_5_ok o c n k w) rfl)).tk
noncomputable def f43 (a0 a1 : AV) (h : Heap) : α :=
  f43_1 o c n k a0 a1 h
theorem f43_ok : R Pq o c n b43 (kend Pq o c n w rs43 k) = fun t _ h => f43 o c n k (t 0) (t 1) h := (kseq (f43_1_ok o c n k w) rfl).tk
theorem f43_good : Good Pq (cfg mm) 43 (entF Pq (cfg mm) 43 2 fun α => f43) := entG b43 rs43 43 fun _ => f43_ok
noncomputable def b44 := bdy Tryz.f44
noncomputable def rs44 := Tryz.f44.results.toList
noncomputable def f44_2K : Ex → K α := (nxK (R Pq o c n (cB (cB b44)) (kend Pq o c n w rs44 k)) (kend Pq o c n w rs44 k))
noncomputable def f44_1 {α : Type} (o : α) (c : Call' α) (n : Nat) (k : AV → Heap → α) (s0 : AV) (h : Heap) : α :=
  geqF Pq o 21 s0 (.i .i32 65) fun v1 => bkF o true v1 (leqF Pq o 21 s0 (.i .i32 90) fun v2 => pickF o v1 v2 (.b false) fun v3 => k v3 h) (pickF o v1 (.tup []) (.b false) fun v4 => k v4 h)
theorem f44_1_ok : R Pq o c n (cB b44) (kend Pq o c n w rs44 k) = fun t _ h => f44_1 o c n k (t 0) h := (kseq rfl (r_start 3 (by kernel_rfl) (q_guard 3 5 (2, true) (by kernel_rfl) (by kernel_rfl) (by kernel_rfl) rfl))).tk
noncomputable def f44 (a0 : AV) (h : Heap) : α :=
  f44_1 o c n k a0 h
theorem f44_ok : R Pq o c n b44 (kend Pq o c n w rs44 k) = fun t _ h => f44 o c n k (t 0) h := (kseq (f44_1_ok o c n k w) rfl).tk
theorem f44_good : Good Pq (cfg mm) 44 (entF Pq (cfg mm) 44 1 fun α => f44) := entG b44 rs44 9 fun _ => f44_ok
noncomputable def b45 := bdy Tryz.f45
noncomputable def rs45 := Tryz.f45.results.toList
noncomputable def f45_2K : Ex → K α := (nxK (R Pq o c n (cB (cB b45)) (kend Pq o c n w rs45 k)) (kend Pq o c n w rs45 k))
noncomputable def f45_1 {α : Type} (o : α) (c : Call' α) (n : Nat) (k : AV → Heap → α) (s0 : AV) (h : Heap) : α :=
  geqF Pq o 21 s0 (.i .i32 97) fun v1 => bkF o true v1 (leqF Pq o 21 s0 (.i .i32 122) fun v2 => pickF o v1 v2 (.b false) fun v3 => k v3 h) (pickF o v1 (.tup []) (.b false) fun v4 => k v4 h)
theorem f45_1_ok : R Pq o c n (cB b45) (kend Pq o c n w rs45 k) = fun t _ h => f45_1 o c n k (t 0) h := (kseq rfl (r_start 3 (by kernel_rfl) (q_guard 3 5 (2, true) (by kernel_rfl) (by kernel_rfl) (by kernel_rfl) rfl))).tk
noncomputable def f45 (a0 : AV) (h : Heap) : α :=
  f45_1 o c n k a0 h
theorem f45_ok : R Pq o c n b45 (kend Pq o c n w rs45 k) = fun t _ h => f45 o c n k (t 0) h := (kseq (f45_1_ok o c n k w) rfl).tk
theorem f45_good : Good Pq (cfg mm) 45 (entF Pq (cfg mm) 45 1 fun α => f45) := entG b45 rs45 9 fun _ => f45_ok
noncomputable def b46 := bdy Tryz.f46
noncomputable def rs46 := Tryz.f46.results.toList
noncomputable def f46 {α : Type} (o : α) (c : Call' α) (n : Nat) (k : AV → Heap → α) (a0 : AV) (h : Heap) : α :=
  fil1 o 1 24 0 (.s 7 31069335677005666) (lrep [(.s 0 0)] 24) fun v1 => fil1 o 1 24 1 (.s 3 7630441) v1 fun v2 => fil1 o 1 24 2 (.s 4 1684631414) v2 fun v3 => fil1 o 1 24 3 (.s 5 495857003619) v3 fun v4 => fil1 o 1 24 4 (.s 7 32480047633037413) v4 fun v5 => fil1 o 1 24 5 (.s 6 109304575259763) v5 fun v6 => fil1 o 1 24 6 (.s 3 7824750) v6 fun v7 => fil1 o 1 24 7 (.s 4 1936287860) v7 fun v8 => fil1 o 1 24 8 (.s 5 491328140659) v8 fun v9 => fil1 o 1 24 9 (.s 4 1819047278) v9 fun v10 => fil1 o 1 24 10 (.s 4 1702195828) v10 fun v11 => fil1 o 1 24 11 (.s 5 435728179558) v11 fun v12 => fil1 o 1 24 12 (.s 2 26217) v12 fun v13 => fil1 o 1 24 13 (.s 4 1702063205) v13 fun v14 => fil1 o 1 24 14 (.s 5 435610544247) v14 fun v15 => fil1 o 1 24 15 (.s 6 121437875889522) v15 fun v16 => fil1 o 1 24 16 (.s 5 500068610672) v16 fun v17 => fil1 o 1 24 17 (.s 6 128034677158753) v17 fun v18 => fil1 o 1 24 18 (.s 5 512970877044) v18 fun v19 => fil1 o 1 24 19 (.s 3 7959156) v19 fun v20 => fil1 o 1 24 20 (.s 5 448345170275) v20 fun v21 => fil1 o 1 24 21 (.s 7 34177684928883046) v21 fun v22 => fil1 o 1 24 22 (.s 2 29537) v22 fun v23 => fil1 o 1 24 23 (.s 2 29545) v23 fun v24 => newEF h h.next 1 24 v24 fun v25 h => c 70 [v25, a0] h fun v26 h => pk k v26 h <| k v26 h
theorem f46_ok : R Pq o c n b46 (kend Pq o c n w rs46 k) = fun t _ h => f46 o c n k (t 0) h := by kernel_rfl
theorem f46_good : Good Pq (cfg mm) 46 (entF Pq (cfg mm) 46 1 fun α => f46) := entG b46 rs46 6 fun _ => f46_ok
noncomputable def b50 := bdy Tryz.f50
noncomputable def rs50 := Tryz.f50.results.toList
noncomputable def f50_5K : Ex → K α := (nxK (R Pq o c n (cB (cB (cB (cB (cB b50))))) (kend Pq o c n w rs50 k)) (kend Pq o c n w rs50 k))
noncomputable def f50_8K (lp0 : AVs (Heap → α) 4) : Ex → K α := (nxK (fun t _ h => lp0 (t 0) (t 5) (t 6) (t 7) h) (blockK (cI (cB (cA (cB (cB (cB (cB b50))))))) (f50_5K o c n k w)))
noncomputable def f50_14 {α : Type} (o : α) (c : Call' α) (n : Nat) (k : AV → Heap → α) (lp0 : AVs (Heap → α) 4) (s0 s5 s6 s7 s9 : AV) (h : Heap) : α :=
  addF Pq o 3 s7 s9 fun v1 => lp0 s0 s5 s6 v1 h
theorem f50_14_ok (lp0 : AVs (Heap → α) 4) : R Pq o c n (cB (cB (cB (cB (cB (cA (cB (cA (cA (cB (cA (cB (cB (cB (cB b50))))))))))))))) (blockK (cI (cB (cA (cA (cB (cA (cB (cB (cB (cB b50)))))))))) (f50_8K o c n k w lp0)) = fun t _ h => f50_14 o c n k lp0 (t 0) (t 5) (t 6) (t 7) (t 9) h := by kernel_rfl
noncomputable def f50_13 (lp0 : AVs (Heap → α) 4) (s0 s5 s6 s7 s8 s9 : AV) (h : Heap) : α :=
  faF o 0 s8 fun v2 => load1F o h v2 fun v3 => gtrF Pq o 3 v3 (.i .i64 0) fun v4 => ifF o v4 (loadNF o h 3 s8 fun v5 => fil1 o 3 1 0 v5 [[(.i .i64 0), (.s 0 0), (.i .i64 0)]] fun v6 => newEF h h.next 3 1 v6 fun v7 h => appX Pq o h h.next 86 86 s6 v7 fun v8 h => f50_14 o c n k lp0 s0 s5 v8 s7 s9 h) (f50_14 o c n k lp0 s0 s5 s6 s7 s9 h)
theorem f50_13_ok (lp0 : AVs (Heap → α) 4) : R Pq o c n (cB (cB (cB (cB (cA (cB (cA (cA (cB (cA (cB (cB (cB (cB b50)))))))))))))) (blockK (cI (cB (cA (cA (cB (cA (cB (cB (cB (cB b50)))))))))) (f50_8K o c n k w lp0)) = fun t _ h => f50_13 o c n k lp0 (t 0) (t 5) (t 6) (t 7) (t 8) (t 9) h := (kseq (f50_14_ok o c n k w lp0) rfl).tk
noncomputable def f50_15K (lp0 : AVs (Heap → α) 4) : Ex → K α := (nxK (fun t _ h => f50_13 o c n k lp0 (t 0) (t 5) (t 6) (t 7) (t 8) (t 9) h) (blockK (cI (cB (cA (cA (cB (cA (cB (cB (cB (cB b50)))))))))) (f50_8K o c n k w lp0)))
noncomputable def f50_16 (lp0 : AVs (Heap → α) 4) (s0 s5 s6 s7 s8 s9 s40 : AV) (h : Heap) : α :=
  ifF o s40 (k (.tup [.nsl, (.i .i64 2), s5]) h) (f50_13 o c n k lp0 s0 s5 s6 s7 s8 s9 h)
theorem f50_16_ok (lp0 : AVs (Heap → α) 4) : R Pq o c n (cB (cA (cB (cB (cB (cA (cB (cA (cA (cB (cA (cB (cB (cB (cB b50))))))))))))))) (f50_15K o c n k w lp0) = fun t _ h => f50_16 o c n k lp0 (t 0) (t 5) (t 6) (t 7) (t 8) (t 9) (t 40) h := by kernel_rfl
noncomputable def f50_17K (lp0 : AVs (Heap → α) 4) : Ex → K α := (nxK (fun t _ h => f50_16 o c n k lp0 (t 0) (t 5) (t 6) (t 7) (t 8) (t 9) (t 40) h) (f50_15K o c n k w lp0))
noncomputable def f50_12 (lp0 : AVs (Heap → α) 4) (s0 s5 s6 s7 s8 s9 : AV) (h : Heap) : α :=
  geqF Pq o 3 s5 (.i .i64 0) fun v9 => bkF o true v9 (addF Pq o 3 s7 s9 fun v10 => gtrF Pq o 3 v10 s5 fun v11 => pickF o v9 v11 (.b false) fun v12 => f50_16 o c n k lp0 s0 s5 s6 s7 s8 s9 v12 h) (pickF o v9 (.tup []) (.b false) fun v13 => f50_16 o c n k lp0 s0 s5 s6 s7 s8 s9 v13 h)
theorem f50_12_ok (lp0 : AVs (Heap → α) 4) : R Pq o c n (cB (cB (cB (cA (cB (cA (cA (cB (cA (cB (cB (cB (cB b50))))))))))))) (blockK (cI (cB (cA (cA (cB (cA (cB (cB (cB (cB b50)))))))))) (f50_8K o c n k w lp0)) = fun t _ h => f50_12 o c n k lp0 (t 0) (t 5) (t 6) (t 7) (t 8) (t 9) h := (kseq (f50_13_ok o c n k w lp0) (kseq (f50_16_ok o c n k w lp0) (r_start 3 (by kernel_rfl) (q_guard 3 8 (2, true) (by kernel_rfl) (by kernel_rfl) (by kernel_rfl) rfl)))).tk
noncomputable def f50_11 (lp0 : AVs (Heap → α) 4) (s0 s5 s6 s7 s8 s9 : AV) (h : Heap) : α :=
  eqiF Pq o 3 s9 (.i .i64 0) fun v14 => ifF o v14 (k (.tup [.nsl, (.i .i64 2), s7]) h) (f50_12 o c n k lp0 s0 s5 s6 s7 s8 s9 h)
theorem f50_11_ok (lp0 : AVs (Heap → α) 4) : R Pq o c n (cB (cB (cA (cB (cA (cA (cB (cA (cB (cB (cB (cB b50)))))))))))) (blockK (cI (cB (cA (cA (cB (cA (cB (cB (cB (cB b50)))))))))) (f50_8K o c n k w lp0)) = fun t _ h => f50_11 o c n k lp0 (t 0) (t 5) (t 6) (t 7) (t 8) (t 9) h := (kseq (f50_12_ok o c n k w lp0) rfl).tk
noncomputable def f50_10 (lp0 : AVs (Heap → α) 4) (s0 s5 s6 s7 : AV) (h : Heap) : α :=
  c 73 [s0, s7] h fun v15 h => pk k v15 h <| exF o v15 0 fun v16 => exF o v15 1 fun v17 => newF h h.next 3 [(.i .i64 0), (.s 0 0), (.i .i64 0)] fun v18 h => storeF o h 3 v18 v16 fun h => f50_11 o c n k lp0 s0 s5 s6 s7 v18 v17 h
theorem f50_10_ok (lp0 : AVs (Heap → α) 4) : R Pq o c n (cB (cA (cB (cA (cA (cB (cA (cB (cB (cB (cB b50))))))))))) (blockK (cI (cB (cA (cA (cB (cA (cB (cB (cB (cB b50)))))))))) (f50_8K o c n k w lp0)) = fun t _ h => f50_10 o c n k lp0 (t 0) (t 5) (t 6) (t 7) h := (kseq (f50_11_ok o c n k w lp0) rfl).tk
noncomputable def f50_9 (lp0 : AVs (Heap → α) 4) (s0 s5 s6 s7 : AV) (h : Heap) : α :=
  eqiF Pq o 3 s7 s5 fun v19 => ifF o v19 (k (.tup [.nsl, (.i .i64 2), s5]) h) (f50_10 o c n k lp0 s0 s5 s6 s7 h)
theorem f50_9_ok (lp0 : AVs (Heap → α) 4) : R Pq o c n (cB (cA (cA (cB (cA (cB (cB (cB (cB b50))))))))) (f50_8K o c n k w lp0) = fun t _ h => f50_9 o c n k lp0 (t 0) (t 5) (t 6) (t 7) h := (kblk (kseq (f50_10_ok o c n k w lp0) rfl)).tk
noncomputable def f50_7 (m : Nat) : AVs (Heap → α) 4 :=
  Nat.rec (motive := fun _ => AVs (Heap → α) 4) (fun _ _ _ _ _ => o) (fun _ lp0 s0 s5 s6 s7 h => lensF o s0 fun v20 => lssF Pq o 3 s7 v20 fun v21 => ifF o v21 (f50_9 o c n k lp0 s0 s5 s6 s7 h) (k (.tup [s6, (.i .i64 0), (.i .i64 0)]) h)) m
theorem f50_7_ok : R Pq o c n (cA (cB (cA (cB (cB (cB (cB b50))))))) (blockK (cI (cB (cA (cB (cB (cB (cB b50))))))) (f50_5K o c n k w)) = fun t _ h => f50_7 o c n k n (t 0) (t 5) (t 6) (t 7) h :=
  c_loop (F := fun m t _ h => f50_7 o c n k m (t 0) (t 5) (t 6) (t 7) h) (by kernel_rfl) (by kernel_rfl) fun m => (kseq (f50_9_ok o c n k w (f50_7 o c n k m)) rfl).tk
noncomputable def f50_6 (s0 s5 s6 s7 : AV) (h : Heap) : α :=
  f50_7 o c n k n s0 s5 s6 s7 h
theorem f50_6_ok : R Pq o c n (cB (cA (cB (cB (cB (cB b50)))))) (f50_5K o c n k w) = fun t _ h => f50_6 o c n k (t 0) (t 5) (t 6) (t 7) h := (kblk (f50_7_ok o c n k w)).tk
noncomputable def f50_4 (s0 s5 s6 : AV) (h : Heap) : α :=
  f50_6 o c n k s0 s5 s6 (.i .i64 0) h
theorem f50_4_ok : R Pq o c n (cB (cB (cB (cB b50)))) (kend Pq o c n w rs50 k) = fun t _ h => f50_4 o c n k (t 0) (t 5) (t 6) h := (kseq rfl (kseq (f50_6_ok o c n k w) rfl)).tk
noncomputable def f50_3 (s0 s5 : AV) (h : Heap) : α :=
  f50_4 o c n k s0 s5 .nsl h
theorem f50_3_ok : R Pq o c n (cB (cB (cB b50))) (kend Pq o c n w rs50 k) = fun t _ h => f50_3 o c n k (t 0) (t 5) h := (kseq (f50_4_ok o c n k w) rfl).tk
noncomputable def f50_2 (s0 : AV) (h : Heap) : α :=
  c 72 [s0] h fun v22 h => pk k v22 h <| f50_3 o c n k s0 v22 h
theorem f50_2_ok : R Pq o c n (cB (cB b50)) (kend Pq o c n w rs50 k) = fun t _ h => f50_2 o c n k (t 0) h := (kseq (f50_3_ok o c n k w) rfl).tk
noncomputable def f50_1 (s0 : AV) (h : Heap) : α :=
  lensF o s0 fun v23 => gtrF Pq o 3 v23 (.i .i64 8000) fun v24 => ifF o v24 (k (.tup [.nsl, (.i .i64 5), (.i .i64 0)]) h) (f50_2 o c n k s0 h)
theorem f50_1_ok : R Pq o c n (cB b50) (kend Pq o c n w rs50 k) = fun t _ h => f50_1 o c n k (t 0) h := (kseq (f50_2_ok o c n k w) rfl).tk
noncomputable def f50 (a0 : AV) (h : Heap) : α :=
  f50_1 o c n k a0 h
theorem f50_ok : R Pq o c n b50 (kend Pq o c n w rs50 k) = fun t _ h => f50 o c n k (t 0) h := (kseq (f50_1_ok o c n k w) rfl).tk
theorem f50_good : Good Pq (cfg mm) 50 (entF Pq (cfg mm) 50 1 fun α => f50) := entG b50 rs50 53 fun _ => f50_ok
noncomputable def b51 := bdy Tryz.f51
noncomputable def rs51 := Tryz.f51.results.toList
noncomputable def f51 {α : Type} (o : α) (c : Call' α) (n : Nat) (k : AV → Heap → α) (a0 a1 : AV) (h : Heap) : α :=
  c 53 [a0, a1] h fun v1 h => pk k v1 h <| notF o v1 fun v2 => ifF o v2 (c 74 [a0, (.i .i64 3)] h fun v3 h => pk k v3 h <| k (.tup []) h) (k (.tup []) h)
theorem f51_ok : R Pq o c n b51 (kend Pq o c n w rs51 k) = fun t _ h => f51 o c n k (t 0) (t 1) h := by kernel_rfl
theorem f51_good : Good Pq (cfg mm) 51 (entF Pq (cfg mm) 51 2 fun α => f51) := entG b51 rs51 10 fun _ => f51_ok
noncomputable def b53 := bdy Tryz.f53
noncomputable def rs53 := Tryz.f53.results.toList
noncomputable def f53_2K : Ex → K α := (nxK (R Pq o c n (cB (cB b53)) (kend Pq o c n w rs53 k)) (kend Pq o c n w rs53 k))
noncomputable def f53_3 {α : Type} (o : α) (c : Call' α) (n : Nat) (k : AV → Heap → α) (s0 s12 : AV) (h : Heap) : α :=
  ifF o s12 (nilChk o s0 fun v1 => faF o 2 v1 fun v2 => load1F o h v2 fun v3 => addF Pq o 3 v3 (.i .i64 1) fun v4 => nilChk o s0 fun v5 => faF o 2 v5 fun v6 => storeF o h 1 v6 v4 fun h => k (.b true) h) (k (.b false) h)
theorem f53_3_ok : R Pq o c n (cB (cA (cB b53))) (f53_2K o c n k w) = fun t _ h => f53_3 o c n k (t 0) (t 12) h := by kernel_rfl
noncomputable def f53_4K : Ex → K α := (nxK (fun t _ h => f53_3 o c n k (t 0) (t 12) h) (f53_2K o c n k w))
noncomputable def f53_1 (s0 s1 : AV) (h : Heap) : α :=
  c 54 [s0, s1] h fun v7 h => pk k v7 h <| bkF o false v7 (c 77 [s0, s1] h fun v8 h => pk k v8 h <| pickF o v7 (.b true) v8 fun v9 => f53_3 o c n k s0 v9 h) (pickF o v7 (.b true) (.tup []) fun v10 => f53_3 o c n k s0 v10 h)
theorem f53_1_ok : R Pq o c n (cB b53) (kend Pq o c n w rs53 k) = fun t _ h => f53_1 o c n k (t 0) (t 1) h := (kseq rfl (kseq (f53_3_ok o c n k w) (r_start 4 (by kernel_rfl) (q_guard 4 7 (3, false) (by kernel_rfl) (by kernel_rfl) (by kernel_rfl) rfl)))).tk
noncomputable def f53 (a0 a1 : AV) (h : Heap) : α :=
  f53_1 o c n k a0 a1 h
theorem f53_ok : R Pq o c n b53 (kend Pq o c n w rs53 k) = fun t _ h => f53 o c n k (t 0) (t 1) h := (kseq (f53_1_ok o c n k w) rfl).tk
theorem f53_good : Good Pq (cfg mm) 53 (entF Pq (cfg mm) 53 2 fun α => f53) := entG b53 rs53 20 fun _ => f53_ok
noncomputable def b54 := bdy Tryz.f54
noncomputable def rs54 := Tryz.f54.results.toList
noncomputable def f54 {α : Type} (o : α) (c : Call' α) (n : Nat) (k : AV → Heap → α) (a0 a1 : AV) (h : Heap) : α :=
  c 78 [a0, (.i .i64 0), (.i .i64 4), a1] h fun v1 h => pk k v1 h <| k v1 h
theorem f54_ok : R Pq o c n b54 (kend Pq o c n w rs54 k) = fun t _ h => f54 o c n k (t 0) (t 1) h := by kernel_rfl
theorem f54_good : Good Pq (cfg mm) 54 (entF Pq (cfg mm) 54 2 fun α => f54) := entG b54 rs54 8 fun _ => f54_ok
noncomputable def b70 := bdy Tryz.f70
noncomputable def rs70 := Tryz.f70.results.toList
noncomputable def f70 {α : Type} (o : α) (c : Call' α) (n : Nat) (k : AV → Heap → α) (a0 a1 : AV) (h : Heap) : α :=
  c 100 [a0, a1] h fun v1 h => pk k v1 h <| geqF Pq o 3 v1 (.i .i64 0) fun v2 => k v2 h
theorem f70_ok : R Pq o c n b70 (kend Pq o c n w rs70 k) = fun t _ h => f70 o c n k (t 0) (t 1) h := by kernel_rfl
theorem f70_good : Good Pq (cfg mm) 70 (entF Pq (cfg mm) 70 2 fun α => f70) := entG b70 rs70 9 fun _ => f70_ok
noncomputable def b72 := bdy Tryz.f72
noncomputable def rs72 := Tryz.f72.results.toList
noncomputable def f72_2K : Ex → K α := (nxK (R Pq o c n (cB (cB b72)) (kend Pq o c n w rs72 k)) (kend Pq o c n w rs72 k))
noncomputable def f72_4 {α : Type} (o : α) (c : Call' α) (n : Nat) (k : AV → Heap → α) (m : Nat) : AVs (Heap → α) 2 :=
  Nat.rec (motive := fun _ => AVs (Heap → α) 2) (fun _ _ _ => o) (fun _ lp0 s0 s3 h => lensF o s0 fun v1 => lssF Pq o 3 s3 v1 fun v2 => ifF o v2 (c 112 [s0, s3] h fun v3 h => pk k v3 h <| newF h h.next 3 [(.i .i32 0), (.i .i64 0), (.b false)] fun v4 h => storeF o h 3 v4 v3 fun h => faF o 2 v4 fun v5 => load1F o h v5 fun v6 => ifF o v6 (k s3 h) (faF o 1 v4 fun v7 => load1F o h v7 fun v8 => addF Pq o 3 s3 v8 fun v9 => lp0 s0 v9 h)) (k (.i .i64 (-1)) h)) m
theorem f72_4_ok : R Pq o c n (cA (cB (cA (cB b72)))) (blockK (cI (cB (cA (cB b72)))) (f72_2K o c n k w)) = fun t _ h => f72_4 o c n k n (t 0) (t 3) h :=
  c_loop (F := fun m t _ h => f72_4 o c n k m (t 0) (t 3) h) (by kernel_rfl) (by kernel_rfl) fun m => by kernel_rfl
noncomputable def f72_3 (s0 s3 : AV) (h : Heap) : α :=
  f72_4 o c n k n s0 s3 h
theorem f72_3_ok : R Pq o c n (cB (cA (cB b72))) (f72_2K o c n k w) = fun t _ h => f72_3 o c n k (t 0) (t 3) h := (kblk (f72_4_ok o c n k w)).tk
noncomputable def f72_1 (s0 : AV) (h : Heap) : α :=
  f72_3 o c n k s0 (.i .i64 0) h
theorem f72_1_ok : R Pq o c n (cB b72) (kend Pq o c n w rs72 k) = fun t _ h => f72_1 o c n k (t 0) h := (kseq rfl (kseq (f72_3_ok o c n k w) rfl)).tk
noncomputable def f72 (a0 : AV) (h : Heap) : α :=
  f72_1 o c n k a0 h
theorem f72_ok : R Pq o c n b72 (kend Pq o c n w rs72 k) = fun t _ h => f72 o c n k (t 0) h := (kseq (f72_1_ok o c n k w) rfl).tk
theorem f72_good : Good Pq (cfg mm) 72 (entF Pq (cfg mm) 72 1 fun α => f72) := entG b72 rs72 19 fun _ => f72_ok
noncomputable def b73 := bdy Tryz.f73
noncomputable def rs73 := Tryz.f73.results.toList
noncomputable def f73_5 {α : Type} (o : α) (c : Call' α) (n : Nat) (k : AV → Heap → α) (s0 s1 s4 : AV) (h : Heap) : α :=
  fil1 o 1 17 0 (.s 1 123) (lrep [(.s 0 0)] 17) fun v1 => fil1 o 1 17 1 (.s 1 125) v1 fun v2 => fil1 o 1 17 2 (.s 1 40) v2 fun v3 => fil1 o 1 17 3 (.s 1 41) v3 fun v4 => fil1 o 1 17 4 (.s 1 59) v4 fun v5 => fil1 o 1 17 5 (.s 1 44) v5 fun v6 => fil1 o 1 17 6 (.s 1 46) v6 fun v7 => fil1 o 1 17 7 (.s 1 61) v7 fun v8 => fil1 o 1 17 8 (.s 1 60) v8 fun v9 => fil1 o 1 17 9 (.s 1 43) v9 fun v10 => fil1 o 1 17 10 (.s 1 45) v10 fun v11 => fil1 o 1 17 11 (.s 1 42) v11 fun v12 => fil1 o 1 17 12 (.s 1 47) v12 fun v13 => fil1 o 1 17 13 (.s 1 37) v13 fun v14 => fil1 o 1 17 14 (.s 1 33) v14 fun v15 => fil1 o 1 17 15 (.s 1 35) v15 fun v16 => fil1 o 1 17 16 (.s 1 64) v16 fun v17 => newEF h h.next 1 17 v17 fun v18 h => addF Pq o 3 s1 (.i .i64 1) fun v19 => ssF Pq o 9 s0 (some s1) (some v19) fun v20 => c 117 [v18, v20] h fun v21 h => pk k v21 h <| ifF o v21 (addF Pq o 3 s1 (.i .i64 1) fun v22 => ssF Pq o 9 s0 (some s1) (some v22) fun v23 => layF o 0 (.i .i64 4) [(.i .i64 0), (.s 0 0), (.i .i64 0)] fun v24 => layF o 1 v23 v24 fun v25 => layF o 2 s1 v25 fun v26 => storeF o h 3 s4 (.agg v26) fun h => on o (resV Pq h [(s4, some 116), ((.i .i64 1), none)]) fun v => k v h) (storeF o h 3 s4 (.agg [(.i .i64 0), (.s 0 0), (.i .i64 0)]) fun h => on o (resV Pq h [(s4, some 116), ((.i .i64 0), none)]) fun v => k v h)
theorem f73_5_ok : R Pq o c n (cB (cB (cB (cB (cB b73))))) (kend Pq o c n w rs73 k) = fun t _ h => f73_5 o c n k (t 0) (t 1) (t 4) h := by kernel_rfl
noncomputable def f73_6K : Ex → K α := (nxK (fun t _ h => f73_5 o c n k (t 0) (t 1) (t 4) h) (kend Pq o c n w rs73 k))
noncomputable def f73_7 (s0 s1 s4 s160 : AV) (h : Heap) : α :=
  ifF o s160 (addF Pq o 3 s1 (.i .i64 2) fun v27 => ssF Pq o 9 s0 (some s1) (some v27) fun v28 => layF o 0 (.i .i64 4) [(.i .i64 0), (.s 0 0), (.i .i64 0)] fun v29 => layF o 1 v28 v29 fun v30 => layF o 2 s1 v30 fun v31 => storeF o h 3 s4 (.agg v31) fun h => on o (resV Pq h [(s4, some 116), ((.i .i64 2), none)]) fun v => k v h) (f73_5 o c n k s0 s1 s4 h)
theorem f73_7_ok : R Pq o c n (cB (cA (cB (cB (cB (cB b73)))))) (f73_6K o c n k w) = fun t _ h => f73_7 o c n k (t 0) (t 1) (t 4) (t 160) h := by kernel_rfl
noncomputable def f73_8K : Ex → K α := (nxK (fun t _ h => f73_7 o c n k (t 0) (t 1) (t 4) (t 160) h) (f73_6K o c n k w))
noncomputable def f73_4 (s0 s1 s4 : AV) (h : Heap) : α :=
  addF Pq o 3 s1 (.i .i64 2) fun v32 => lensF o s0 fun v33 => leqF Pq o 3 v32 v33 fun v34 => bkF o true v34 (fil1 o 1 6 0 (.s 2 14906) (lrep [(.s 0 0)] 6) fun v35 => fil1 o 1 6 1 (.s 2 15676) v35 fun v36 => fil1 o 1 6 2 (.s 2 15677) v36 fun v37 => fil1 o 1 6 3 (.s 2 15649) v37 fun v38 => fil1 o 1 6 4 (.s 2 9766) v38 fun v39 => fil1 o 1 6 5 (.s 2 31868) v39 fun v40 => newEF h h.next 1 6 v40 fun v41 h => addF Pq o 3 s1 (.i .i64 2) fun v42 => ssF Pq o 9 s0 (some s1) (some v42) fun v43 => c 117 [v41, v43] h fun v44 h => pk k v44 h <| pickF o v34 v44 (.b false) fun v45 => f73_7 o c n k s0 s1 s4 v45 h) (pickF o v34 (.tup []) (.b false) fun v46 => f73_7 o c n k s0 s1 s4 v46 h)
theorem f73_4_ok : R Pq o c n (cB (cB (cB (cB b73)))) (kend Pq o c n w rs73 k) = fun t _ h => f73_4 o c n k (t 0) (t 1) (t 4) h := (kseq (f73_5_ok o c n k w) (kseq (f73_7_ok o c n k w) (r_start 6 (by kernel_rfl) (q_guard 6 13 (5, true) (by kernel_rfl) (by kernel_rfl) (by kernel_rfl) rfl)))).tk
noncomputable def f73_9K : Ex → K α := (nxK (fun t _ h => f73_4 o c n k (t 0) (t 1) (t 4) h) (kend Pq o c n w rs73 k))
noncomputable def f73_12K : Ex → K α := (nxK (R Pq o c n (cB (cA (cB (cB (cB (cA (cA (cB (cB (cB b73)))))))))) (blockK (cI (cA (cB (cB (cB b73))))) (f73_9K o c n k w))) (blockK (cI (cA (cB (cB (cB b73))))) (f73_9K o c n k w)))
noncomputable def f73_14K (lp0 : AVs (Heap → α) 4) : Ex → K α := (nxK (fun t _ h => lp0 (t 0) (t 1) (t 4) (t 7) h) (blockK (cI (cA (cA (cB (cB (cB (cA (cA (cB (cB (cB b73))))))))))) (f73_12K o c n k w)))
noncomputable def f73_15 {α : Type} (o : α) (c : Call' α) (n : Nat) (k : AV → Heap → α) (lp0 : AVs (Heap → α) 4) (s0 s1 s4 s7 : AV) (h : Heap) : α :=
  addF Pq o 3 s7 (.i .i64 1) fun v47 => lp0 s0 s1 s4 v47 h
theorem f73_15_ok (lp0 : AVs (Heap → α) 4) : R Pq o c n (cB (cA (cA (cA (cA (cB (cB (cB (cA (cA (cB (cB (cB b73))))))))))))) (f73_14K o c n k w lp0) = fun t _ h => f73_15 o c n k lp0 (t 0) (t 1) (t 4) (t 7) h := by kernel_rfl
noncomputable def f73_16K (lp0 : AVs (Heap → α) 4) : Ex → K α := (nxK (fun t _ h => f73_15 o c n k lp0 (t 0) (t 1) (t 4) (t 7) h) (f73_14K o c n k w lp0))
noncomputable def f73_17K (lp0 : AVs (Heap → α) 4) : Ex → K α := (nxK (R Pq o c n (cB (cA (cA (cA (cA (cA (cB (cB (cB (cA (cA (cB (cB (cB b73)))))))))))))) (f73_16K o c n k w lp0)) (f73_16K o c n k w lp0))
noncomputable def f73_13 (m : Nat) : AVs (Heap → α) 4 :=
  Nat.rec (motive := fun _ => AVs (Heap → α) 4) (fun _ _ _ _ _ => o) (fun _ lp0 s0 s1 s4 s7 h => addF Pq o 3 s1 s7 fun v48 => lensF o s0 fun v49 => lssF Pq o 3 v48 v49 fun v50 => bkF o true v50 (addF Pq o 3 s1 s7 fun v51 => sxF o s0 v51 fun v52 => neiF Pq o 5 v52 (.i .u8 10) fun v53 => pickF o v50 v53 (.b false) fun v54 => ifF o v54 (f73_15 o c n k lp0 s0 s1 s4 s7 h) (storeF o h 3 s4 (.agg [(.i .i64 0), (.s 0 0), (.i .i64 0)]) fun h => on o (resV Pq h [(s4, some 116), (s7, none)]) fun v => k v h)) (pickF o v50 (.tup []) (.b false) fun v55 => ifF o v55 (f73_15 o c n k lp0 s0 s1 s4 s7 h) (storeF o h 3 s4 (.agg [(.i .i64 0), (.s 0 0), (.i .i64 0)]) fun h => on o (resV Pq h [(s4, some 116), (s7, none)]) fun v => k v h))) m
theorem f73_13_ok : R Pq o c n (cA (cA (cA (cB (cB (cB (cA (cA (cB (cB (cB b73))))))))))) (blockK (cI (cA (cA (cB (cB (cB (cA (cA (cB (cB (cB b73))))))))))) (f73_12K o c n k w)) = fun t _ h => f73_13 o c n k n (t 0) (t 1) (t 4) (t 7) h :=
  c_loop (F := fun m t _ h => f73_13 o c n k m (t 0) (t 1) (t 4) (t 7) h) (by kernel_rfl) (by kernel_rfl) fun m => (kseq (f73_15_ok o c n k w (f73_13 o c n k m)) (kseq rfl (r_start 7 (by kernel_rfl) (q_guard 7 13 (6, true) (by kernel_rfl) (by kernel_rfl) (by kernel_rfl) rfl)))).tk
noncomputable def f73_19K : Ex → K α := (nxK (R Pq o c n (cB (cA (cB (cB (cB (cB (cB (cA (cA (cB (cB (cB b73)))))))))))) (blockK (cI (cA (cB (cB (cB b73))))) (f73_9K o c n k w))) (blockK (cI (cA (cB (cB (cB b73))))) (f73_9K o c n k w)))
noncomputable def f73_21K (lp0 : AVs (Heap → α) 4) : Ex → K α := (nxK (fun t _ h => lp0 (t 0) (t 1) (t 4) (t 7) h) (blockK (cI (cA (cA (cB (cB (cB (cB (cB (cA (cA (cB (cB (cB b73))))))))))))) (f73_19K o c n k w)))
noncomputable def f73_22 {α : Type} (o : α) (c : Call' α) (n : Nat) (k : AV → Heap → α) (lp0 : AVs (Heap → α) 4) (s0 s1 s4 s7 : AV) (h : Heap) : α :=
  addF Pq o 3 s7 (.i .i64 1) fun v56 => lp0 s0 s1 s4 v56 h
theorem f73_22_ok (lp0 : AVs (Heap → α) 4) : R Pq o c n (cB (cA (cA (cA (cA (cB (cB (cB (cB (cB (cA (cA (cB (cB (cB b73))))))))))))))) (f73_21K o c n k w lp0) = fun t _ h => f73_22 o c n k lp0 (t 0) (t 1) (t 4) (t 7) h := by kernel_rfl
noncomputable def f73_23K (lp0 : AVs (Heap → α) 4) : Ex → K α := (nxK (fun t _ h => f73_22 o c n k lp0 (t 0) (t 1) (t 4) (t 7) h) (f73_21K o c n k w lp0))
noncomputable def f73_24K (lp0 : AVs (Heap → α) 4) : Ex → K α := (nxK (R Pq o c n (cB (cA (cA (cA (cA (cA (cB (cB (cB (cB (cB (cA (cA (cB (cB (cB b73)))))))))))))))) (f73_23K o c n k w lp0)) (f73_23K o c n k w lp0))
noncomputable def f73_20 (m : Nat) : AVs (Heap → α) 4 :=
  Nat.rec (motive := fun _ => AVs (Heap → α) 4) (fun _ _ _ _ _ => o) (fun _ lp0 s0 s1 s4 s7 h => addF Pq o 3 s1 s7 fun v57 => lensF o s0 fun v58 => lssF Pq o 3 v57 v58 fun v59 => bkF o true v59 (addF Pq o 3 s1 s7 fun v60 => sxF o s0 v60 fun v61 => convA Pq o 5 21 v61 fun v62 => c 113 [v62] h fun v63 h => pk k v63 h <| pickF o v59 v63 (.b false) fun v64 => ifF o v64 (f73_22 o c n k lp0 s0 s1 s4 s7 h) (addF Pq o 3 s1 s7 fun v65 => ssF Pq o 9 s0 (some s1) (some v65) fun v66 => layF o 0 (.i .i64 2) [(.i .i64 0), (.s 0 0), (.i .i64 0)] fun v67 => layF o 1 v66 v67 fun v68 => layF o 2 s1 v68 fun v69 => storeF o h 3 s4 (.agg v69) fun h => on o (resV Pq h [(s4, some 116), (s7, none)]) fun v => k v h)) (pickF o v59 (.tup []) (.b false) fun v70 => ifF o v70 (f73_22 o c n k lp0 s0 s1 s4 s7 h) (addF Pq o 3 s1 s7 fun v71 => ssF Pq o 9 s0 (some s1) (some v71) fun v72 => layF o 0 (.i .i64 2) [(.i .i64 0), (.s 0 0), (.i .i64 0)] fun v73 => layF o 1 v72 v73 fun v74 => layF o 2 s1 v74 fun v75 => storeF o h 3 s4 (.agg v75) fun h => on o (resV Pq h [(s4, some 116), (s7, none)]) fun v => k v h))) m
theorem f73_20_ok : R Pq o c n (cA (cA (cA (cB (cB (cB (cB (cB (cA (cA (cB (cB (cB b73))))))))))))) (blockK (cI (cA (cA (cB (cB (cB (cB (cB (cA (cA (cB (cB (cB b73))))))))))))) (f73_19K o c n k w)) = fun t _ h => f73_20 o c n k n (t 0) (t 1) (t 4) (t 7) h :=
  c_loop (F := fun m t _ h => f73_20 o c n k m (t 0) (t 1) (t 4) (t 7) h) (by kernel_rfl) (by kernel_rfl) fun m => (kseq (f73_22_ok o c n k w (f73_20 o c n k m)) (kseq rfl (r_start 7 (by kernel_rfl) (q_guard 7 14 (6, true) (by kernel_rfl) (by kernel_rfl) (by kernel_rfl) rfl)))).tk
noncomputable def f73_26K : Ex → K α := (nxK (R Pq o c n (cB (cA (cB (cB (cB (cB (cB (cB (cB (cA (cA (cB (cB (cB b73)))))))))))))) (blockK (cI (cA (cB (cB (cB b73))))) (f73_9K o c n k w))) (blockK (cI (cA (cB (cB (cB b73))))) (f73_9K o c n k w)))
noncomputable def f73_28K (lp0 : AVs (Heap → α) 4) : Ex → K α := (nxK (fun t _ h => lp0 (t 0) (t 1) (t 4) (t 7) h) (blockK (cI (cA (cA (cB (cB (cB (cB (cB (cB (cB (cA (cA (cB (cB (cB b73))))))))))))))) (f73_26K o c n k w)))
noncomputable def f73_29 {α : Type} (o : α) (c : Call' α) (n : Nat) (k : AV → Heap → α) (lp0 : AVs (Heap → α) 4) (s0 s1 s4 s7 : AV) (h : Heap) : α :=
  addF Pq o 3 s7 (.i .i64 1) fun v76 => lp0 s0 s1 s4 v76 h
theorem f73_29_ok (lp0 : AVs (Heap → α) 4) : R Pq o c n (cB (cA (cA (cA (cA (cB (cB (cB (cB (cB (cB (cB (cA (cA (cB (cB (cB b73))))))))))))))))) (f73_28K o c n k w lp0) = fun t _ h => f73_29 o c n k lp0 (t 0) (t 1) (t 4) (t 7) h := by kernel_rfl
noncomputable def f73_30K (lp0 : AVs (Heap → α) 4) : Ex → K α := (nxK (fun t _ h => f73_29 o c n k lp0 (t 0) (t 1) (t 4) (t 7) h) (f73_28K o c n k w lp0))
noncomputable def f73_31K (lp0 : AVs (Heap → α) 4) : Ex → K α := (nxK (R Pq o c n (cB (cA (cA (cA (cA (cA (cB (cB (cB (cB (cB (cB (cB (cA (cA (cB (cB (cB b73)))))))))))))))))) (f73_30K o c n k w lp0)) (f73_30K o c n k w lp0))
noncomputable def f73_27 (m : Nat) : AVs (Heap → α) 4 :=
  Nat.rec (motive := fun _ => AVs (Heap → α) 4) (fun _ _ _ _ _ => o) (fun _ lp0 s0 s1 s4 s7 h => addF Pq o 3 s1 s7 fun v77 => lensF o s0 fun v78 => lssF Pq o 3 v77 v78 fun v79 => bkF o true v79 (addF Pq o 3 s1 s7 fun v80 => sxF o s0 v80 fun v81 => c 114 [v81] h fun v82 h => pk k v82 h <| pickF o v79 v82 (.b false) fun v83 => ifF o v83 (f73_29 o c n k lp0 s0 s1 s4 s7 h) (addF Pq o 3 s1 s7 fun v84 => ssF Pq o 9 s0 (some s1) (some v84) fun v85 => layF o 0 (.i .i64 1) [(.i .i64 0), (.s 0 0), (.i .i64 0)] fun v86 => layF o 1 v85 v86 fun v87 => layF o 2 s1 v87 fun v88 => storeF o h 3 s4 (.agg v88) fun h => on o (resV Pq h [(s4, some 116), (s7, none)]) fun v => k v h)) (pickF o v79 (.tup []) (.b false) fun v89 => ifF o v89 (f73_29 o c n k lp0 s0 s1 s4 s7 h) (addF Pq o 3 s1 s7 fun v90 => ssF Pq o 9 s0 (some s1) (some v90) fun v91 => layF o 0 (.i .i64 1) [(.i .i64 0), (.s 0 0), (.i .i64 0)] fun v92 => layF o 1 v91 v92 fun v93 => layF o 2 s1 v93 fun v94 => storeF o h 3 s4 (.agg v94) fun h => on o (resV Pq h [(s4, some 116), (s7, none)]) fun v => k v h))) m
theorem f73_27_ok : R Pq o c n (cA (cA (cA (cB (cB (cB (cB (cB (cB (cB (cA (cA (cB (cB (cB b73))))))))))))))) (blockK (cI (cA (cA (cB (cB (cB (cB (cB (cB (cB (cA (cA (cB (cB (cB b73))))))))))))))) (f73_26K o c n k w)) = fun t _ h => f73_27 o c n k n (t 0) (t 1) (t 4) (t 7) h :=
  c_loop (F := fun m t _ h => f73_27 o c n k m (t 0) (t 1) (t 4) (t 7) h) (by kernel_rfl) (by kernel_rfl) fun m => (kseq (f73_29_ok o c n k w (f73_27 o c n k m)) (kseq rfl (r_start 7 (by kernel_rfl) (q_guard 7 13 (6, true) (by kernel_rfl) (by kernel_rfl) (by kernel_rfl) rfl)))).tk
noncomputable def f73_25 (s0 s1 s4 s6 s7 s94 : AV) (h : Heap) : α :=
  ifF o s94 (f73_27 o c n k n s0 s1 s4 s7 h) (eqiF Pq o 5 s6 (.i .u8 34) fun v95 => ifF o v95 (c 115 [s0, s1] h fun v96 h => pk k v96 h <| eqiF Pq o 3 v96 (.i .i64 0) fun v97 => ifF o v97 (storeF o h 3 s4 (.agg [(.i .i64 0), (.s 0 0), (.i .i64 0)]) fun h => on o (resV Pq h [(s4, some 116), ((.i .i64 0), none)]) fun v => k v h) (addF Pq o 3 s1 (.i .i64 1) fun v98 => addF Pq o 3 s1 v96 fun v99 => binA Pq o .sub 3 v99 (.i .i64 1) fun v100 => ssF Pq o 9 s0 (some v98) (some v100) fun v101 => c 116 [v101] h fun v102 h => pk k v102 h <| exF o v102 0 fun v103 => exF o v102 1 fun v104 => layF o 0 (.i .i64 3) [(.i .i64 0), (.s 0 0), (.i .i64 0)] fun v105 => layF o 1 v103 v105 fun v106 => layF o 2 s1 v106 fun v107 => storeF o h 3 s4 (.agg v107) fun h => on o (resV Pq h [(s4, some 116), (v96, none)]) fun v => k v h)) (f73_4 o c n k s0 s1 s4 h))
theorem f73_25_ok : R Pq o c n (cB (cB (cB (cB (cB (cB (cB (cA (cA (cB (cB (cB b73)))))))))))) (blockK (cI (cA (cB (cB (cB b73))))) (f73_9K o c n k w)) = fun t _ h => f73_25 o c n k (t 0) (t 1) (t 4) (t 6) (t 7) (t 94) h := (c_cond (by kernel_rfl) (kseq rfl (kblk (f73_27_ok o c n k w))) rfl).tk
noncomputable def f73_18 (s0 s1 s4 s6 s7 s64 : AV) (h : Heap) : α :=
  ifF o s64 (f73_20 o c n k n s0 s1 s4 s7 h) (c 114 [s6] h fun v108 h => pk k v108 h <| f73_25 o c n k s0 s1 s4 s6 s7 v108 h)
theorem f73_18_ok : R Pq o c n (cB (cB (cB (cB (cB (cA (cA (cB (cB (cB b73)))))))))) (blockK (cI (cA (cB (cB (cB b73))))) (f73_9K o c n k w)) = fun t _ h => f73_18 o c n k (t 0) (t 1) (t 4) (t 6) (t 7) (t 64) h := (c_cond (by kernel_rfl) (kseq rfl (kblk (f73_20_ok o c n k w))) (kseq (f73_25_ok o c n k w) rfl)).tk
noncomputable def f73_11 (s0 s1 s4 s6 s7 s29 : AV) (h : Heap) : α :=
  ifF o s29 (f73_13 o c n k n s0 s1 s4 s7 h) (convA Pq o 5 21 s6 fun v109 => c 113 [v109] h fun v110 h => pk k v110 h <| f73_18 o c n k s0 s1 s4 s6 s7 v110 h)
theorem f73_11_ok : R Pq o c n (cB (cB (cB (cA (cA (cB (cB (cB b73)))))))) (blockK (cI (cA (cB (cB (cB b73))))) (f73_9K o c n k w)) = fun t _ h => f73_11 o c n k (t 0) (t 1) (t 4) (t 6) (t 7) (t 29) h := (c_cond (by kernel_rfl) (kseq rfl (kblk (f73_13_ok o c n k w))) (kseq (f73_18_ok o c n k w) rfl)).tk
noncomputable def f73_32K : Ex → K α := (nxK (fun t _ h => f73_11 o c n k (t 0) (t 1) (t 4) (t 6) (t 7) (t 29) h) (blockK (cI (cA (cB (cB (cB b73))))) (f73_9K o c n k w)))
noncomputable def f73_33 (s0 s1 s4 s6 s7 s32 s37 : AV) (h : Heap) : α :=
  pickF o s32 s37 (.b false) fun v111 => bkF o true v111 (addF Pq o 3 s1 (.i .i64 1) fun v112 => sxF o s0 v112 fun v113 => eqiF Pq o 5 v113 (.i .u8 47) fun v114 => pickF o v111 v114 (.b false) fun v115 => f73_11 o c n k s0 s1 s4 s6 s7 v115 h) (pickF o v111 (.tup []) (.b false) fun v116 => f73_11 o c n k s0 s1 s4 s6 s7 v116 h)
theorem f73_33_ok : Q Pq o c (cO (cA (cB (cB (cA (cA (cB (cB (cB b73))))))))) (f73_32K o c n k w) 8 = fun t _ h => f73_33 o c n k (t 0) (t 1) (t 4) (t 6) (t 7) (t 32) (t 37) h := (q_seg 8 10 (by kernel_rfl) (q_guard 10 15 (9, true) (by kernel_rfl) (by kernel_rfl) (by kernel_rfl) rfl)).tk
noncomputable def f73_10 (s0 s1 s4 s6 s7 s13 : AV) (h : Heap) : α :=
  ifF o s13 (storeF o h 3 s4 (.agg [(.i .i64 0), (.s 0 0), (.i .i64 0)]) fun h => on o (resV Pq h [(s4, some 116), ((.i .i64 1), none)]) fun v => k v h) (eqiF Pq o 5 s6 (.i .u8 47) fun v117 => bkF o true v117 (addF Pq o 3 s1 (.i .i64 1) fun v118 => lensF o s0 fun v119 => lssF Pq o 3 v118 v119 fun v120 => f73_33 o c n k s0 s1 s4 s6 s7 v117 v120 h) (f73_33 o c n k s0 s1 s4 s6 s7 v117 (.tup []) h))
theorem f73_10_ok : R Pq o c n (cB (cA (cA (cB (cB (cB b73)))))) (blockK (cI (cA (cB (cB (cB b73))))) (f73_9K o c n k w)) = fun t _ h => f73_10 o c n k (t 0) (t 1) (t 4) (t 6) (t 7) (t 13) h := (c_cond (by kernel_rfl) rfl (kseq (f73_11_ok o c n k w) (r_start 3 (by kernel_rfl) (q_guard 3 8 (2, true) (by kernel_rfl) (by kernel_rfl) (by kernel_rfl) (f73_33_ok o c n k w))))).tk
noncomputable def f73_34K : Ex → K α := (nxK (fun t _ h => f73_10 o c n k (t 0) (t 1) (t 4) (t 6) (t 7) (t 13) h) (blockK (cI (cA (cB (cB (cB b73))))) (f73_9K o c n k w)))
noncomputable def f73_36 (s0 s1 s4 s6 s7 s20 s22 : AV) (h : Heap) : α :=
  pickF o s20 (.b true) s22 fun v121 => bkF o false v121 (eqiF Pq o 5 s6 (.i .u8 13) fun v122 => pickF o v121 (.b true) v122 fun v123 => f73_10 o c n k s0 s1 s4 s6 s7 v123 h) (pickF o v121 (.b true) (.tup []) fun v124 => f73_10 o c n k s0 s1 s4 s6 s7 v124 h)
theorem f73_36_ok : Q Pq o c (cO (cA (cA (cA (cB (cB (cB b73))))))) (f73_34K o c n k w) 9 = fun t _ h => f73_36 o c n k (t 0) (t 1) (t 4) (t 6) (t 7) (t 20) (t 22) h := (q_seg 9 11 (by kernel_rfl) (q_guard 11 13 (10, false) (by kernel_rfl) (by kernel_rfl) (by kernel_rfl) rfl)).tk
noncomputable def f73_35 (s0 s1 s4 s6 s7 s16 s18 : AV) (h : Heap) : α :=
  pickF o s16 (.b true) s18 fun v125 => bkF o false v125 (eqiF Pq o 5 s6 (.i .u8 10) fun v126 => f73_36 o c n k s0 s1 s4 s6 s7 v125 v126 h) (f73_36 o c n k s0 s1 s4 s6 s7 v125 (.tup []) h)
theorem f73_35_ok : Q Pq o c (cO (cA (cA (cA (cB (cB (cB b73))))))) (f73_34K o c n k w) 5 = fun t _ h => f73_35 o c n k (t 0) (t 1) (t 4) (t 6) (t 7) (t 16) (t 18) h := (q_seg 5 7 (by kernel_rfl) (q_guard 7 9 (6, false) (by kernel_rfl) (by kernel_rfl) (by kernel_rfl) (f73_36_ok o c n k w))).tk
noncomputable def f73_3 (s0 s1 s4 s6 s7 : AV) (h : Heap) : α :=
  eqiF Pq o 5 s6 (.i .u8 32) fun v127 => bkF o false v127 (eqiF Pq o 5 s6 (.i .u8 9) fun v128 => f73_35 o c n k s0 s1 s4 s6 s7 v127 v128 h) (f73_35 o c n k s0 s1 s4 s6 s7 v127 (.tup []) h)
theorem f73_3_ok : R Pq o c n (cB (cB (cB b73))) (kend Pq o c n w rs73 k) = fun t _ h => f73_3 o c n k (t 0) (t 1) (t 4) (t 6) (t 7) h := (kseq (f73_4_ok o c n k w) (kblk (kseq (f73_10_ok o c n k w) (r_start 3 (by kernel_rfl) (q_guard 3 5 (2, false) (by kernel_rfl) (by kernel_rfl) (by kernel_rfl) (f73_35_ok o c n k w)))))).tk
noncomputable def f73_2 (s0 s1 s4 s6 : AV) (h : Heap) : α :=
  f73_3 o c n k s0 s1 s4 s6 (.i .i64 1) h
theorem f73_2_ok : R Pq o c n (cB (cB b73)) (kend Pq o c n w rs73 k) = fun t _ h => f73_2 o c n k (t 0) (t 1) (t 4) (t 6) h := (kseq (f73_3_ok o c n k w) rfl).tk
noncomputable def f73_1 (s0 s1 s4 : AV) (h : Heap) : α :=
  sxF o s0 s1 fun v129 => f73_2 o c n k s0 s1 s4 v129 h
theorem f73_1_ok : R Pq o c n (cB b73) (kend Pq o c n w rs73 k) = fun t _ h => f73_1 o c n k (t 0) (t 1) (t 4) h := (kseq (f73_2_ok o c n k w) rfl).tk
noncomputable def f73 (a0 a1 : AV) (h : Heap) : α :=
  newF h h.next 3 [(.i .i64 0), (.s 0 0), (.i .i64 0)] fun v130 h => f73_1 o c n k a0 a1 v130 h
theorem f73_ok : R Pq o c n b73 (kend Pq o c n w rs73 k) = fun t _ h => f73 o c n k (t 0) (t 1) h := (kseq (f73_1_ok o c n k w) rfl).tk
theorem f73_good : Good Pq (cfg mm) 73 (entF Pq (cfg mm) 73 2 fun α => f73) := entG b73 rs73 183 fun _ => f73_ok
noncomputable def b76 := bdy Tryz.f76
noncomputable def rs76 := Tryz.f76.results.toList
noncomputable def f76 {α : Type} (o : α) (c : Call' α) (n : Nat) (k : AV → Heap → α) (a0 : AV) (h : Heap) : α :=
  dreg o h 12 fun base h => nilChk o a0 fun v1 => faF o 0 v1 fun v2 => rootF o v2 a0 <| load1F o (h.look 7) v2 fun v3 => nilChk o a0 fun v4 => faF o 2 v4 fun v5 => rootF o v5 a0 <| load1F o (h.look 112) v5 fun v6 => ixF o 3 v3 v6 fun v7 => faF o 1 v7 fun v8 => load1F o (h.look 1023) v8 fun v9 => hb h.shut fun h => lensF o v9 fun v10 => gtrF Pq o 3 v10 (.i .i64 20) fun v11 => ifF o v11 (c 74 [a0, (.i .i64 5)] h fun v12 h => pk k v12 h <| k (.s 0 0) h) (nilChk o a0 fun v13 => faF o 2 v13 fun v14 => load1F o h v14 fun v15 => addF Pq o 3 v15 (.i .i64 1) fun v16 => nilChk o a0 fun v17 => faF o 2 v17 fun v18 => storeF o h 1 v18 v16 fun h => k v9 h)
theorem f76_ok : R Pq o c n b76 (kend Pq o c n w rs76 k) = fun t _ h => f76 o c n k (t 0) h := by kernel_rfl
theorem f76_good : Good Pq (cfg mm) 76 (entF Pq (cfg mm) 76 1 fun α => f76) := entG b76 rs76 28 fun _ => f76_ok
noncomputable def b77 := bdy Tryz.f77
noncomputable def rs77 := Tryz.f77.results.toList
noncomputable def f77 {α : Type} (o : α) (c : Call' α) (n : Nat) (k : AV → Heap → α) (a0 a1 : AV) (h : Heap) : α :=
  c 78 [a0, (.i .i64 0), (.i .i64 1), a1] h fun v1 h => pk k v1 h <| k v1 h
theorem f77_ok : R Pq o c n b77 (kend Pq o c n w rs77 k) = fun t _ h => f77 o c n k (t 0) (t 1) h := by kernel_rfl
theorem f77_good : Good Pq (cfg mm) 77 (entF Pq (cfg mm) 77 2 fun α => f77) := entG b77 rs77 8 fun _ => f77_ok
noncomputable def b78 := bdy Tryz.f78
noncomputable def rs78 := Tryz.f78.results.toList
noncomputable def f78_3K : Ex → K α := (nxK (R Pq o c n (cB (cB (cB b78))) (kend Pq o c n w rs78 k)) (kend Pq o c n w rs78 k))
noncomputable def f78_7 {α : Type} (o : α) (c : Call' α) (n : Nat) (k : AV → Heap → α) (s42 s45 s55 : AV) (h : Heap) : α :=
  bkF o true s42 (pickF o s45 (.b true) s55 fun v1 => pickF o s42 v1 (.b false) fun v2 => k v2 h) (pickF o s42 (.tup []) (.b false) fun v3 => k v3 h)
theorem f78_7_ok : Q Pq o c (cO (cA (cB (cB b78)))) (f78_3K o c n k w) 40 = fun t _ h => f78_7 o c n k (t 42) (t 45) (t 55) h := (q_seg 40 40 (by kernel_rfl) (q_guard 40 41 (26, true) (by kernel_rfl) (by kernel_rfl) (by kernel_rfl) rfl)).tk
noncomputable def f78_6 (s0 s3 s9 s42 s45 : AV) (h : Heap) : α :=
  bkF o false s45 (nilChk o s0 fun v4 => faF o 0 v4 fun v5 => load1F o h v5 fun v6 => ixF o 3 v6 s9 fun v7 => faF o 1 v7 fun v8 => load1F o h v8 fun v9 => eqsF Pq o 9 v9 s3 fun v10 => f78_7 o c n k s42 s45 v10 h) (f78_7 o c n k s42 s45 (.tup []) h)
theorem f78_6_ok : Q Pq o c (cO (cA (cB (cB b78)))) (f78_3K o c n k w) 30 = fun t _ h => f78_6 o c n k (t 0) (t 3) (t 9) (t 42) (t 45) h := (q_seg 30 30 (by kernel_rfl) (q_guard 30 40 (29, false) (by kernel_rfl) (by kernel_rfl) (by kernel_rfl) (f78_7_ok o c n k w))).tk
noncomputable def f78_5 (s0 s3 s9 s30 s40 : AV) (h : Heap) : α :=
  pickF o s30 s40 (.b false) fun v11 => bkF o true v11 (eqsF Pq o 9 s3 (.s 0 0) fun v12 => f78_6 o c n k s0 s3 s9 v11 v12 h) (f78_6 o c n k s0 s3 s9 v11 (.tup []) h)
theorem f78_5_ok : Q Pq o c (cO (cA (cB (cB b78)))) (f78_3K o c n k w) 25 = fun t _ h => f78_5 o c n k (t 0) (t 3) (t 9) (t 30) (t 40) h := (q_seg 25 27 (by kernel_rfl) (q_guard 27 30 (26, true) (by kernel_rfl) (by kernel_rfl) (by kernel_rfl) (f78_6_ok o c n k w))).tk
noncomputable def f78_4 (s0 s2 s3 s9 s21 s28 : AV) (h : Heap) : α :=
  pickF o s21 s28 (.b false) fun v13 => bkF o true v13 (nilChk o s0 fun v14 => faF o 0 v14 fun v15 => load1F o h v15 fun v16 => ixF o 3 v16 s9 fun v17 => faF o 0 v17 fun v18 => load1F o h v18 fun v19 => eqiF Pq o 3 v19 s2 fun v20 => f78_5 o c n k s0 s3 s9 v13 v20 h) (f78_5 o c n k s0 s3 s9 v13 (.tup []) h)
theorem f78_4_ok : Q Pq o c (cO (cA (cB (cB b78)))) (f78_3K o c n k w) 13 = fun t _ h => f78_4 o c n k (t 0) (t 2) (t 3) (t 9) (t 21) (t 28) h := (q_seg 13 15 (by kernel_rfl) (q_guard 15 25 (14, true) (by kernel_rfl) (by kernel_rfl) (by kernel_rfl) (f78_5_ok o c n k w))).tk
noncomputable def f78_2 (s0 s2 s3 s9 : AV) (h : Heap) : α :=
  nilChk o s0 fun v21 => faF o 3 v21 fun v22 => load1F o h v22 fun v23 => eqiF Pq o 3 v23 (.i .i64 0) fun v24 => bkF o true v24 (nilChk o s0 fun v25 => faF o 0 v25 fun v26 => load1F o h v26 fun v27 => lenF o v27 fun v28 => lssF Pq o 3 s9 v28 fun v29 => f78_4 o c n k s0 s2 s3 s9 v24 v29 h) (f78_4 o c n k s0 s2 s3 s9 v24 (.tup []) h)
theorem f78_2_ok : R Pq o c n (cB (cB b78)) (kend Pq o c n w rs78 k) = fun t _ h => f78_2 o c n k (t 0) (t 2) (t 3) (t 9) h := (kseq rfl (r_start 6 (by kernel_rfl) (q_guard 6 13 (5, true) (by kernel_rfl) (by kernel_rfl) (by kernel_rfl) (f78_4_ok o c n k w)))).tk
noncomputable def f78_1 (s0 s1 s2 s3 : AV) (h : Heap) : α :=
  nilChk o s0 fun v30 => faF o 2 v30 fun v31 => load1F o h v31 fun v32 => addF Pq o 3 v32 s1 fun v33 => f78_2 o c n k s0 s2 s3 v33 h
theorem f78_1_ok : R Pq o c n (cB b78) (kend Pq o c n w rs78 k) = fun t _ h => f78_1 o c n k (t 0) (t 1) (t 2) (t 3) h := (kseq (f78_2_ok o c n k w) rfl).tk
noncomputable def f78 (a0 a1 a2 a3 : AV) (h : Heap) : α :=
  f78_1 o c n k a0 a1 a2 a3 h
theorem f78_ok : R Pq o c n b78 (kend Pq o c n w rs78 k) = fun t _ h => f78 o c n k (t 0) (t 1) (t 2) (t 3) h := (kseq (f78_1_ok o c n k w) rfl).tk
theorem f78_good : Good Pq (cfg mm) 78 (entF Pq (cfg mm) 78 4 fun α => f78) := entG b78 rs78 58 fun _ => f78_ok
noncomputable def b81 := bdy Tryz.f81
noncomputable def rs81 := Tryz.f81.results.toList
noncomputable def f81 {α : Type} (o : α) (c : Call' α) (n : Nat) (k : AV → Heap → α) (a0 : AV) (h : Heap) : α :=
  c 122 [a0, (.i .i64 0)] h fun v1 h => pk k v1 h <| notF o v1 fun v2 => ifF o v2 (c 74 [a0, (.i .i64 3)] h fun v3 h => pk k v3 h <| k (.s 0 0) h) (c 76 [a0] h fun v4 h => pk k v4 h <| k v4 h)
theorem f81_ok : R Pq o c n b81 (kend Pq o c n w rs81 k) = fun t _ h => f81 o c n k (t 0) h := by kernel_rfl
theorem f81_good : Good Pq (cfg mm) 81 (entF Pq (cfg mm) 81 1 fun α => f81) := entG b81 rs81 10 fun _ => f81_ok
noncomputable def b82 := bdy Tryz.f82
noncomputable def rs82 := Tryz.f82.results.toList
noncomputable def f82 {α : Type} (o : α) (c : Call' α) (n : Nat) (k : AV → Heap → α) (a0 : AV) (h : Heap) : α :=
  c 123 [a0, (.i .i64 0)] h fun v1 h => pk k v1 h <| notF o v1 fun v2 => ifF o v2 (c 74 [a0, (.i .i64 3)] h fun v3 h => pk k v3 h <| k (.s 0 0) h) (c 76 [a0] h fun v4 h => pk k v4 h <| k v4 h)
theorem f82_ok : R Pq o c n b82 (kend Pq o c n w rs82 k) = fun t _ h => f82 o c n k (t 0) h := by kernel_rfl
theorem f82_good : Good Pq (cfg mm) 82 (entF Pq (cfg mm) 82 1 fun α => f82) := entG b82 rs82 10 fun _ => f82_ok
noncomputable def b85 := bdy Tryz.f85
noncomputable def rs85 := Tryz.f85.results.toList
noncomputable def f85_2K : Ex → K α := (nxK (R Pq o c n (cB (cB b85)) (kend Pq o c n w rs85 k)) (kend Pq o c n w rs85 k))
noncomputable def f85_3 {α : Type} (o : α) (c : Call' α) (n : Nat) (k : AV → Heap → α) (s0 s5 s9 : AV) (h : Heap) : α :=
  pickF o s5 s9 (.b false) fun v1 => bkF o true v1 (nesF Pq o 9 s0 (.s 6 113723913172051) fun v2 => pickF o v1 v2 (.b false) fun v3 => k v3 h) (pickF o v1 (.tup []) (.b false) fun v4 => k v4 h)
theorem f85_3_ok : Q Pq o c (cO (cA (cB b85))) (f85_2K o c n k w) 7 = fun t _ h => f85_3 o c n k (t 0) (t 5) (t 9) h := (q_seg 7 9 (by kernel_rfl) (q_guard 9 11 (8, true) (by kernel_rfl) (by kernel_rfl) (by kernel_rfl) rfl)).tk
noncomputable def f85_1 (s0 : AV) (h : Heap) : α :=
  c 127 [s0, (.i .i64 20)] h fun v5 h => pk k v5 h <| bkF o true v5 (sxF o s0 (.i .i64 0) fun v6 => convA Pq o 5 21 v6 fun v7 => c 128 [v7] h fun v8 h => pk k v8 h <| f85_3 o c n k s0 v5 v8 h) (f85_3 o c n k s0 v5 (.tup []) h)
theorem f85_1_ok : R Pq o c n (cB b85) (kend Pq o c n w rs85 k) = fun t _ h => f85_1 o c n k (t 0) h := (kseq rfl (r_start 3 (by kernel_rfl) (q_guard 3 7 (2, true) (by kernel_rfl) (by kernel_rfl) (by kernel_rfl) (f85_3_ok o c n k w)))).tk
noncomputable def f85 (a0 : AV) (h : Heap) : α :=
  f85_1 o c n k a0 h
theorem f85_ok : R Pq o c n b85 (kend Pq o c n w rs85 k) = fun t _ h => f85 o c n k (t 0) h := (kseq (f85_1_ok o c n k w) rfl).tk
theorem f85_good : Good Pq (cfg mm) 85 (entF Pq (cfg mm) 85 1 fun α => f85) := entG b85 rs85 15 fun _ => f85_ok
noncomputable def b86 := bdy Tryz.f86
noncomputable def rs86 := Tryz.f86.results.toList
noncomputable def f86_2K : Ex → K α := (nxK (R Pq o c n (cB (cB b86)) (kend Pq o c n w rs86 k)) (kend Pq o c n w rs86 k))
noncomputable def f86_4 {α : Type} (o : α) (c : Call' α) (n : Nat) (k : AV → Heap → α) (s0 s9 s11 : AV) (h : Heap) : α :=
  pickF o s9 (.b true) s11 fun v1 => bkF o false v1 (c 85 [s0] h fun v2 h => pk k v2 h <| pickF o v1 (.b true) v2 fun v3 => k v3 h) (pickF o v1 (.b true) (.tup []) fun v4 => k v4 h)
theorem f86_4_ok : Q Pq o c (cO (cA (cB b86))) (f86_2K o c n k w) 9 = fun t _ h => f86_4 o c n k (t 0) (t 9) (t 11) h := (q_seg 9 11 (by kernel_rfl) (q_guard 11 13 (10, false) (by kernel_rfl) (by kernel_rfl) (by kernel_rfl) rfl)).tk
noncomputable def f86_3 (s0 s5 s7 : AV) (h : Heap) : α :=
  pickF o s5 (.b true) s7 fun v5 => bkF o false v5 (eqsF Pq o 9 s0 (.s 6 113723913172051) fun v6 => f86_4 o c n k s0 v5 v6 h) (f86_4 o c n k s0 v5 (.tup []) h)
theorem f86_3_ok : Q Pq o c (cO (cA (cB b86))) (f86_2K o c n k w) 5 = fun t _ h => f86_3 o c n k (t 0) (t 5) (t 7) h := (q_seg 5 7 (by kernel_rfl) (q_guard 7 9 (6, false) (by kernel_rfl) (by kernel_rfl) (by kernel_rfl) (f86_4_ok o c n k w))).tk
noncomputable def f86_1 (s0 : AV) (h : Heap) : α :=
  eqsF Pq o 9 s0 (.s 3 7630441) fun v7 => bkF o false v7 (eqsF Pq o 9 s0 (.s 7 31069335677005666) fun v8 => f86_3 o c n k s0 v7 v8 h) (f86_3 o c n k s0 v7 (.tup []) h)
theorem f86_1_ok : R Pq o c n (cB b86) (kend Pq o c n w rs86 k) = fun t _ h => f86_1 o c n k (t 0) h := (kseq rfl (r_start 3 (by kernel_rfl) (q_guard 3 5 (2, false) (by kernel_rfl) (by kernel_rfl) (by kernel_rfl) (f86_3_ok o c n k w)))).tk
noncomputable def f86 (a0 : AV) (h : Heap) : α :=
  f86_1 o c n k a0 h
theorem f86_ok : R Pq o c n b86 (kend Pq o c n w rs86 k) = fun t _ h => f86 o c n k (t 0) h := (kseq (f86_1_ok o c n k w) rfl).tk
theorem f86_good : Good Pq (cfg mm) 86 (entF Pq (cfg mm) 86 1 fun α => f86) := entG b86 rs86 17 fun _ => f86_ok
noncomputable def b87 := bdy Tryz.f87
noncomputable def rs87 := Tryz.f87.results.toList
noncomputable def f87_2K : Ex → K α := (nxK (R Pq o c n (cB (cB b87)) (kend Pq o c n w rs87 k)) (kend Pq o c n w rs87 k))
noncomputable def f87_3 {α : Type} (o : α) (c : Call' α) (n : Nat) (k : AV → Heap → α) (s0 s5 s9 : AV) (h : Heap) : α :=
  pickF o s5 s9 (.b false) fun v1 => bkF o true v1 (c 130 [s0] h fun v2 h => pk k v2 h <| notF o v2 fun v3 => pickF o v1 v3 (.b false) fun v4 => k v4 h) (pickF o v1 (.tup []) (.b false) fun v5 => k v5 h)
theorem f87_3_ok : Q Pq o c (cO (cA (cB b87))) (f87_2K o c n k w) 7 = fun t _ h => f87_3 o c n k (t 0) (t 5) (t 9) h := (q_seg 7 9 (by kernel_rfl) (q_guard 9 12 (8, true) (by kernel_rfl) (by kernel_rfl) (by kernel_rfl) rfl)).tk
noncomputable def f87_1 (s0 : AV) (h : Heap) : α :=
  c 127 [s0, (.i .i64 20)] h fun v6 h => pk k v6 h <| bkF o true v6 (sxF o s0 (.i .i64 0) fun v7 => convA Pq o 5 21 v7 fun v8 => c 129 [v8] h fun v9 h => pk k v9 h <| f87_3 o c n k s0 v6 v9 h) (f87_3 o c n k s0 v6 (.tup []) h)
theorem f87_1_ok : R Pq o c n (cB b87) (kend Pq o c n w rs87 k) = fun t _ h => f87_1 o c n k (t 0) h := (kseq rfl (r_start 3 (by kernel_rfl) (q_guard 3 7 (2, true) (by kernel_rfl) (by kernel_rfl) (by kernel_rfl) (f87_3_ok o c n k w)))).tk
noncomputable def f87 (a0 : AV) (h : Heap) : α :=
  f87_1 o c n k a0 h
theorem f87_ok : R Pq o c n b87 (kend Pq o c n w rs87 k) = fun t _ h => f87 o c n k (t 0) h := (kseq (f87_1_ok o c n k w) rfl).tk
theorem f87_good : Good Pq (cfg mm) 87 (entF Pq (cfg mm) 87 1 fun α => f87) := entG b87 rs87 16 fun _ => f87_ok
noncomputable def b88 := bdy Tryz.f88
noncomputable def rs88 := Tryz.f88.results.toList
noncomputable def f88_6K : Ex → K α := (nxK (R Pq o c n (cB (cB (cB (cB (cB (cB b88)))))) (kend Pq o c n w rs88 k)) (kend Pq o c n w rs88 k))
noncomputable def f88_8 {α : Type} (o : α) (c : Call' α) (n : Nat) (k : AV → Heap → α) (m : Nat) : AVs (Heap → α) 3 :=
  Nat.rec (motive := fun _ => AVs (Heap → α) 3) (fun _ _ _ _ => o) (fun _ lp0 s1 s2 s10 h => faF o 5 s2 fun v1 => load1F o h v1 fun v2 => lenF o v2 fun v3 => lssF Pq o 3 s10 v3 fun v4 => ifF o v4 (faF o 5 s2 fun v5 => load1F o h v5 fun v6 => ixF o 8 v6 s10 fun v7 => loadNF o h 8 v7 fun v8 => addF Pq o 3 s1 (.i .i64 1) fun v9 => c 88 [v8, v9] h fun v10 h => pk k v10 h <| notF o v10 fun v11 => ifF o v11 (k (.b false) h) (addF Pq o 3 s10 (.i .i64 1) fun v12 => lp0 s1 s2 v12 h)) (k (.b true) h)) m
theorem f88_8_ok : R Pq o c n (cA (cB (cA (cB (cB (cB (cB (cB b88)))))))) (blockK (cI (cB (cA (cB (cB (cB (cB (cB b88)))))))) (f88_6K o c n k w)) = fun t _ h => f88_8 o c n k n (t 1) (t 2) (t 10) h :=
  c_loop (F := fun m t _ h => f88_8 o c n k m (t 1) (t 2) (t 10) h) (by kernel_rfl) (by kernel_rfl) fun m => by kernel_rfl
noncomputable def f88_7 (s1 s2 s10 : AV) (h : Heap) : α :=
  f88_8 o c n k n s1 s2 s10 h
theorem f88_7_ok : R Pq o c n (cB (cA (cB (cB (cB (cB (cB b88))))))) (f88_6K o c n k w) = fun t _ h => f88_7 o c n k (t 1) (t 2) (t 10) h := (kblk (f88_8_ok o c n k w)).tk
noncomputable def f88_5 (s1 s2 : AV) (h : Heap) : α :=
  f88_7 o c n k s1 s2 (.i .i64 0) h
theorem f88_5_ok : R Pq o c n (cB (cB (cB (cB (cB b88))))) (kend Pq o c n w rs88 k) = fun t _ h => f88_5 o c n k (t 1) (t 2) h := (kseq rfl (kseq (f88_7_ok o c n k w) rfl)).tk
noncomputable def f88_9K : Ex → K α := (nxK (fun t _ h => f88_5 o c n k (t 1) (t 2) h) (kend Pq o c n w rs88 k))
noncomputable def f88_10 (s1 s2 s179 : AV) (h : Heap) : α :=
  ifF o s179 (k (.b false) h) (f88_5 o c n k s1 s2 h)
theorem f88_10_ok : R Pq o c n (cB (cA (cB (cB (cB (cB b88)))))) (f88_9K o c n k w) = fun t _ h => f88_10 o c n k (t 1) (t 2) (t 179) h := by kernel_rfl
noncomputable def f88_11K : Ex → K α := (nxK (fun t _ h => f88_10 o c n k (t 1) (t 2) (t 179) h) (f88_9K o c n k w))
noncomputable def f88_18 (s1 s2 s166 s169 s177 : AV) (h : Heap) : α :=
  bkF o false s166 (pickF o s169 s177 (.b false) fun v13 => pickF o s166 (.b true) v13 fun v14 => f88_10 o c n k s1 s2 v14 h) (pickF o s166 (.b true) (.tup []) fun v15 => f88_10 o c n k s1 s2 v15 h)
theorem f88_18_ok : Q Pq o c (cO (cA (cA (cB (cB (cB (cB b88))))))) (f88_11K o c n k w) 24 = fun t _ h => f88_18 o c n k (t 1) (t 2) (t 166) (t 169) (t 177) h := (q_seg 24 24 (by kernel_rfl) (q_guard 24 25 (12, false) (by kernel_rfl) (by kernel_rfl) (by kernel_rfl) rfl)).tk
noncomputable def f88_17 (s1 s2 s166 s169 s173 s176 : AV) (h : Heap) : α :=
  bkF o true s169 (pickF o s173 (.b true) s176 fun v16 => f88_18 o c n k s1 s2 s166 s169 v16 h) (f88_18 o c n k s1 s2 s166 s169 (.tup []) h)
theorem f88_17_ok : Q Pq o c (cO (cA (cA (cB (cB (cB (cB b88))))))) (f88_11K o c n k w) 23 = fun t _ h => f88_17 o c n k (t 1) (t 2) (t 166) (t 169) (t 173) (t 176) h := (q_seg 23 23 (by kernel_rfl) (q_guard 23 24 (15, true) (by kernel_rfl) (by kernel_rfl) (by kernel_rfl) (f88_18_ok o c n k w))).tk
noncomputable def f88_16 (s1 s2 s166 s169 s173 : AV) (h : Heap) : α :=
  bkF o false s173 (faF o 0 s2 fun v17 => load1F o h v17 fun v18 => c 134 [v18] h fun v19 h => pk k v19 h <| f88_17 o c n k s1 s2 s166 s169 s173 v19 h) (f88_17 o c n k s1 s2 s166 s169 s173 (.tup []) h)
theorem f88_16_ok : Q Pq o c (cO (cA (cA (cB (cB (cB (cB b88))))))) (f88_11K o c n k w) 20 = fun t _ h => f88_16 o c n k (t 1) (t 2) (t 166) (t 169) (t 173) h := (q_seg 20 20 (by kernel_rfl) (q_guard 20 23 (19, false) (by kernel_rfl) (by kernel_rfl) (by kernel_rfl) (f88_17_ok o c n k w))).tk
noncomputable def f88_15 (s1 s2 s166 s169 : AV) (h : Heap) : α :=
  bkF o true s169 (faF o 4 s2 fun v20 => load1F o h v20 fun v21 => nesF Pq o 9 v21 (.s 0 0) fun v22 => f88_16 o c n k s1 s2 s166 s169 v22 h) (f88_16 o c n k s1 s2 s166 s169 (.tup []) h)
theorem f88_15_ok : Q Pq o c (cO (cA (cA (cB (cB (cB (cB b88))))))) (f88_11K o c n k w) 16 = fun t _ h => f88_15 o c n k (t 1) (t 2) (t 166) (t 169) h := (q_seg 16 16 (by kernel_rfl) (q_guard 16 20 (15, true) (by kernel_rfl) (by kernel_rfl) (by kernel_rfl) (f88_16_ok o c n k w))).tk
noncomputable def f88_14 (s1 s2 s8 s156 s164 : AV) (h : Heap) : α :=
  pickF o s156 s164 (.b false) fun v23 => bkF o false v23 (notF o s8 fun v24 => f88_15 o c n k s1 s2 v23 v24 h) (f88_15 o c n k s1 s2 v23 (.tup []) h)
theorem f88_14_ok : Q Pq o c (cO (cA (cA (cB (cB (cB (cB b88))))))) (f88_11K o c n k w) 11 = fun t _ h => f88_14 o c n k (t 1) (t 2) (t 8) (t 156) (t 164) h := (q_seg 11 13 (by kernel_rfl) (q_guard 13 16 (12, false) (by kernel_rfl) (by kernel_rfl) (by kernel_rfl) (f88_15_ok o c n k w))).tk
noncomputable def f88_13 (s1 s2 s8 s156 s160 s163 : AV) (h : Heap) : α :=
  bkF o true s156 (pickF o s160 (.b true) s163 fun v25 => f88_14 o c n k s1 s2 s8 s156 v25 h) (f88_14 o c n k s1 s2 s8 s156 (.tup []) h)
theorem f88_13_ok : Q Pq o c (cO (cA (cA (cB (cB (cB (cB b88))))))) (f88_11K o c n k w) 10 = fun t _ h => f88_13 o c n k (t 1) (t 2) (t 8) (t 156) (t 160) (t 163) h := (q_seg 10 10 (by kernel_rfl) (q_guard 10 11 (2, true) (by kernel_rfl) (by kernel_rfl) (by kernel_rfl) (f88_14_ok o c n k w))).tk
noncomputable def f88_12 (s1 s2 s8 s156 s160 : AV) (h : Heap) : α :=
  bkF o false s160 (faF o 0 s2 fun v26 => load1F o h v26 fun v27 => c 133 [v27] h fun v28 h => pk k v28 h <| f88_13 o c n k s1 s2 s8 s156 s160 v28 h) (f88_13 o c n k s1 s2 s8 s156 s160 (.tup []) h)
theorem f88_12_ok : Q Pq o c (cO (cA (cA (cB (cB (cB (cB b88))))))) (f88_11K o c n k w) 7 = fun t _ h => f88_12 o c n k (t 1) (t 2) (t 8) (t 156) (t 160) h := (q_seg 7 7 (by kernel_rfl) (q_guard 7 10 (6, false) (by kernel_rfl) (by kernel_rfl) (by kernel_rfl) (f88_13_ok o c n k w))).tk
noncomputable def f88_4 (s1 s2 s7 s8 : AV) (h : Heap) : α :=
  notF o s7 fun v29 => bkF o true v29 (faF o 3 s2 fun v30 => load1F o h v30 fun v31 => nesF Pq o 9 v31 (.s 0 0) fun v32 => f88_12 o c n k s1 s2 s8 v29 v32 h) (f88_12 o c n k s1 s2 s8 v29 (.tup []) h)
theorem f88_4_ok : R Pq o c n (cB (cB (cB (cB b88)))) (kend Pq o c n w rs88 k) = fun t _ h => f88_4 o c n k (t 1) (t 2) (t 7) (t 8) h := (kseq (f88_5_ok o c n k w) (kseq (f88_10_ok o c n k w) (r_start 3 (by kernel_rfl) (q_guard 3 7 (2, true) (by kernel_rfl) (by kernel_rfl) (by kernel_rfl) (f88_12_ok o c n k w))))).tk
noncomputable def f88_19K : Ex → K α := (nxK (fun t _ h => f88_4 o c n k (t 1) (t 2) (t 7) (t 8) h) (kend Pq o c n w rs88 k))
noncomputable def f88_20 (s1 s2 s7 s8 s153 : AV) (h : Heap) : α :=
  ifF o s153 (k (.b false) h) (f88_4 o c n k s1 s2 s7 s8 h)
theorem f88_20_ok : R Pq o c n (cB (cA (cB (cB (cB b88))))) (f88_19K o c n k w) = fun t _ h => f88_20 o c n k (t 1) (t 2) (t 7) (t 8) (t 153) h := by kernel_rfl
noncomputable def f88_21K : Ex → K α := (nxK (fun t _ h => f88_20 o c n k (t 1) (t 2) (t 7) (t 8) (t 153) h) (f88_19K o c n k w))
noncomputable def f88_31 (s1 s2 s7 s8 s145 s148 s151 : AV) (h : Heap) : α :=
  bkF o false s145 (pickF o s148 s151 (.b false) fun v33 => pickF o s145 (.b true) v33 fun v34 => f88_20 o c n k s1 s2 s7 s8 v34 h) (pickF o s145 (.b true) (.tup []) fun v35 => f88_20 o c n k s1 s2 s7 s8 v35 h)
theorem f88_31_ok : Q Pq o c (cO (cA (cA (cB (cB (cB b88)))))) (f88_21K o c n k w) 35 = fun t _ h => f88_31 o c n k (t 1) (t 2) (t 7) (t 8) (t 145) (t 148) (t 151) h := (q_seg 35 35 (by kernel_rfl) (q_guard 35 36 (28, false) (by kernel_rfl) (by kernel_rfl) (by kernel_rfl) rfl)).tk
noncomputable def f88_30 (s1 s2 s7 s8 s145 s148 : AV) (h : Heap) : α :=
  bkF o true s148 (faF o 2 s2 fun v36 => load1F o h v36 fun v37 => nesF Pq o 9 v37 (.s 0 0) fun v38 => f88_31 o c n k s1 s2 s7 s8 s145 s148 v38 h) (f88_31 o c n k s1 s2 s7 s8 s145 s148 (.tup []) h)
theorem f88_30_ok : Q Pq o c (cO (cA (cA (cB (cB (cB b88)))))) (f88_21K o c n k w) 32 = fun t _ h => f88_30 o c n k (t 1) (t 2) (t 7) (t 8) (t 145) (t 148) h := (q_seg 32 32 (by kernel_rfl) (q_guard 32 35 (31, true) (by kernel_rfl) (by kernel_rfl) (by kernel_rfl) (f88_31_ok o c n k w))).tk
noncomputable def f88_29 (s1 s2 s6 s7 s8 s126 s143 : AV) (h : Heap) : α :=
  pickF o s126 (.b true) s143 fun v39 => bkF o false v39 (notF o s6 fun v40 => f88_30 o c n k s1 s2 s7 s8 v39 v40 h) (f88_30 o c n k s1 s2 s7 s8 v39 (.tup []) h)
theorem f88_29_ok : Q Pq o c (cO (cA (cA (cB (cB (cB b88)))))) (f88_21K o c n k w) 27 = fun t _ h => f88_29 o c n k (t 1) (t 2) (t 6) (t 7) (t 8) (t 126) (t 143) h := (q_seg 27 29 (by kernel_rfl) (q_guard 29 32 (28, false) (by kernel_rfl) (by kernel_rfl) (by kernel_rfl) (f88_30_ok o c n k w))).tk
noncomputable def f88_28 (s1 s2 s6 s7 s8 s126 s129 s142 : AV) (h : Heap) : α :=
  bkF o false s126 (pickF o s129 s142 (.b false) fun v41 => f88_29 o c n k s1 s2 s6 s7 s8 s126 v41 h) (f88_29 o c n k s1 s2 s6 s7 s8 s126 (.tup []) h)
theorem f88_28_ok : Q Pq o c (cO (cA (cA (cB (cB (cB b88)))))) (f88_21K o c n k w) 26 = fun t _ h => f88_28 o c n k (t 1) (t 2) (t 6) (t 7) (t 8) (t 126) (t 129) (t 142) h := (q_seg 26 26 (by kernel_rfl) (q_guard 26 27 (9, false) (by kernel_rfl) (by kernel_rfl) (by kernel_rfl) (f88_29_ok o c n k w))).tk
noncomputable def f88_27 (s1 s2 s6 s7 s8 s126 s129 s138 s141 : AV) (h : Heap) : α :=
  bkF o true s129 (pickF o s138 (.b true) s141 fun v42 => f88_28 o c n k s1 s2 s6 s7 s8 s126 s129 v42 h) (f88_28 o c n k s1 s2 s6 s7 s8 s126 s129 (.tup []) h)
theorem f88_27_ok : Q Pq o c (cO (cA (cA (cB (cB (cB b88)))))) (f88_21K o c n k w) 25 = fun t _ h => f88_27 o c n k (t 1) (t 2) (t 6) (t 7) (t 8) (t 126) (t 129) (t 138) (t 141) h := (q_seg 25 25 (by kernel_rfl) (q_guard 25 26 (12, true) (by kernel_rfl) (by kernel_rfl) (by kernel_rfl) (f88_28_ok o c n k w))).tk
noncomputable def f88_26 (s1 s2 s6 s7 s8 s126 s129 s138 : AV) (h : Heap) : α :=
  bkF o false s138 (faF o 0 s2 fun v43 => load1F o h v43 fun v44 => eqiF Pq o 3 v44 (.i .i64 2) fun v45 => f88_27 o c n k s1 s2 s6 s7 s8 s126 s129 s138 v45 h) (f88_27 o c n k s1 s2 s6 s7 s8 s126 s129 s138 (.tup []) h)
theorem f88_26_ok : Q Pq o c (cO (cA (cA (cB (cB (cB b88)))))) (f88_21K o c n k w) 22 = fun t _ h => f88_26 o c n k (t 1) (t 2) (t 6) (t 7) (t 8) (t 126) (t 129) (t 138) h := (q_seg 22 22 (by kernel_rfl) (q_guard 22 25 (21, false) (by kernel_rfl) (by kernel_rfl) (by kernel_rfl) (f88_27_ok o c n k w))).tk
noncomputable def f88_25 (s1 s2 s6 s7 s8 s126 s129 s133 s136 : AV) (h : Heap) : α :=
  bkF o true s129 (pickF o s133 (.b true) s136 fun v46 => f88_26 o c n k s1 s2 s6 s7 s8 s126 s129 v46 h) (f88_26 o c n k s1 s2 s6 s7 s8 s126 s129 (.tup []) h)
theorem f88_25_ok : Q Pq o c (cO (cA (cA (cB (cB (cB b88)))))) (f88_21K o c n k w) 20 = fun t _ h => f88_25 o c n k (t 1) (t 2) (t 6) (t 7) (t 8) (t 126) (t 129) (t 133) (t 136) h := (q_seg 20 20 (by kernel_rfl) (q_guard 20 22 (12, true) (by kernel_rfl) (by kernel_rfl) (by kernel_rfl) (f88_26_ok o c n k w))).tk
noncomputable def f88_24 (s1 s2 s6 s7 s8 s126 s129 s133 : AV) (h : Heap) : α :=
  bkF o false s133 (faF o 0 s2 fun v47 => load1F o h v47 fun v48 => eqiF Pq o 3 v48 (.i .i64 1) fun v49 => f88_25 o c n k s1 s2 s6 s7 s8 s126 s129 s133 v49 h) (f88_25 o c n k s1 s2 s6 s7 s8 s126 s129 s133 (.tup []) h)
theorem f88_24_ok : Q Pq o c (cO (cA (cA (cB (cB (cB b88)))))) (f88_21K o c n k w) 17 = fun t _ h => f88_24 o c n k (t 1) (t 2) (t 6) (t 7) (t 8) (t 126) (t 129) (t 133) h := (q_seg 17 17 (by kernel_rfl) (q_guard 17 20 (16, false) (by kernel_rfl) (by kernel_rfl) (by kernel_rfl) (f88_25_ok o c n k w))).tk
noncomputable def f88_23 (s1 s2 s6 s7 s8 s126 s129 : AV) (h : Heap) : α :=
  bkF o true s129 (faF o 1 s2 fun v50 => load1F o h v50 fun v51 => neiF Pq o 21 v51 (.i .i32 0) fun v52 => f88_24 o c n k s1 s2 s6 s7 s8 s126 s129 v52 h) (f88_24 o c n k s1 s2 s6 s7 s8 s126 s129 (.tup []) h)
theorem f88_23_ok : Q Pq o c (cO (cA (cA (cB (cB (cB b88)))))) (f88_21K o c n k w) 13 = fun t _ h => f88_23 o c n k (t 1) (t 2) (t 6) (t 7) (t 8) (t 126) (t 129) h := (q_seg 13 13 (by kernel_rfl) (q_guard 13 17 (12, true) (by kernel_rfl) (by kernel_rfl) (by kernel_rfl) (f88_24_ok o c n k w))).tk
noncomputable def f88_22 (s1 s2 s5 s6 s7 s8 s119 s124 : AV) (h : Heap) : α :=
  pickF o s119 (.b true) s124 fun v53 => bkF o false v53 (notF o s5 fun v54 => f88_23 o c n k s1 s2 s6 s7 s8 v53 v54 h) (f88_23 o c n k s1 s2 s6 s7 s8 v53 (.tup []) h)
theorem f88_22_ok : Q Pq o c (cO (cA (cA (cB (cB (cB b88)))))) (f88_21K o c n k w) 8 = fun t _ h => f88_22 o c n k (t 1) (t 2) (t 5) (t 6) (t 7) (t 8) (t 119) (t 124) h := (q_seg 8 10 (by kernel_rfl) (q_guard 10 13 (9, false) (by kernel_rfl) (by kernel_rfl) (by kernel_rfl) (f88_23_ok o c n k w))).tk
noncomputable def f88_3 (s1 s2 s5 s6 s7 s8 s9 : AV) (h : Heap) : α :=
  gtrF Pq o 3 s1 (.i .i64 40) fun v55 => bkF o false v55 (faF o 5 s2 fun v56 => load1F o h v56 fun v57 => lenF o v57 fun v58 => neiF Pq o 3 v58 s9 fun v59 => f88_22 o c n k s1 s2 s5 s6 s7 s8 v55 v59 h) (f88_22 o c n k s1 s2 s5 s6 s7 s8 v55 (.tup []) h)
theorem f88_3_ok : R Pq o c n (cB (cB (cB b88))) (kend Pq o c n w rs88 k) = fun t _ h => f88_3 o c n k (t 1) (t 2) (t 5) (t 6) (t 7) (t 8) (t 9) h := (kseq (f88_4_ok o c n k w) (kseq (f88_20_ok o c n k w) (r_start 3 (by kernel_rfl) (q_guard 3 8 (2, false) (by kernel_rfl) (by kernel_rfl) (by kernel_rfl) (f88_22_ok o c n k w))))).tk
noncomputable def f88_32K : Ex → K α := (nxK (fun t _ h => f88_3 o c n k (t 1) (t 2) (t 5) (t 6) (t 7) (t 8) (t 9) h) (kend Pq o c n w rs88 k))
noncomputable def f88_37 (s1 s2 s5 s6 s7 s8 s9 : AV) (h : Heap) : α :=
  notF o s6 fun v60 => ifF o v60 (k (.b false) h) (f88_3 o c n k s1 s2 s5 s6 s7 s8 s9 h)
theorem f88_37_ok : R Pq o c n (cB (cA (cB (cB (cB (cB (cB (cA (cB (cA (cB (cB b88)))))))))))) (blockK (cI (cB (cA (cB (cB b88))))) (f88_32K o c n k w)) = fun t _ h => f88_37 o c n k (t 1) (t 2) (t 5) (t 6) (t 7) (t 8) (t 9) h := by kernel_rfl
noncomputable def f88_38K : Ex → K α := (nxK (fun t _ h => f88_37 o c n k (t 1) (t 2) (t 5) (t 6) (t 7) (t 8) (t 9) h) (blockK (cI (cB (cA (cB (cB b88))))) (f88_32K o c n k w)))
noncomputable def f88_47 (s1 s2 s5 s6 s7 s8 s12 s101 : AV) (h : Heap) : α :=
  ifF o s101 (faF o 4 s2 fun v61 => load1F o h v61 fun v62 => c 85 [v62] h fun v63 h => pk k v63 h <| f88_3 o c n k s1 s2 s5 s6 s7 v63 (.i .i64 1) h) (eqiF Pq o 3 s12 (.i .i64 17) fun v64 => ifF o v64 (faF o 3 s2 fun v65 => load1F o h v65 fun v66 => c 131 [v66] h fun v67 h => pk k v67 h <| f88_3 o c n k s1 s2 s5 s6 v67 s8 (.i .i64 2) h) (eqiF Pq o 3 s12 (.i .i64 18) fun v68 => ifF o v68 (faF o 3 s2 fun v69 => load1F o h v69 fun v70 => c 132 [v70] h fun v71 h => pk k v71 h <| f88_3 o c n k s1 s2 s5 s6 v71 s8 (.i .i64 1) h) (k (.b false) h)))
theorem f88_47_ok : R Pq o c n (cB (cB (cB (cB (cB (cB (cB (cB (cB (cB (cB (cB (cB (cB (cB (cB (cB (cB (cB (cB (cB (cB (cB (cA (cB (cA (cB (cB b88)))))))))))))))))))))))))))) (blockK (cI (cB (cA (cB (cB b88))))) (f88_32K o c n k w)) = fun t _ h => f88_47 o c n k (t 1) (t 2) (t 5) (t 6) (t 7) (t 8) (t 12) (t 101) h := by kernel_rfl
noncomputable def f88_46 (s1 s2 s5 s6 s7 s8 s12 s93 : AV) (h : Heap) : α :=
  ifF o s93 (dreg o h 8 fun base h => faF o 4 s2 fun v72 => rootF o v72 s2 <| load1F o (h.look 1) v72 fun v73 => callD o c (hidD false [(.fn (.func 85) [] []), v73] [] (sBlk s2 [])) 85 [v73] (h.look 0) fun v74 h => pnF v74 (fun x => hb h.shut fun hd => faF o 5 s2 fun v75 => rootF o v75 s2 <| load1F o (h.look 8) v75 fun v76 => lenF o v76 fun v77 => k x.pn hd) <| faF o 5 s2 fun v78 => rootF o v78 s2 <| load1F o (h.look 8) v78 fun v79 => lenF o v79 fun v80 => hb h.shut fun h => f88_3 o c n k s1 s2 s5 s6 s7 v74 v80 h) (eqiF Pq o 3 s12 (.i .i64 15) fun v81 => ifF o v81 (f88_47 o c n k s1 s2 s5 s6 s7 s8 s12 v81 h) (eqiF Pq o 3 s12 (.i .i64 16) fun v82 => f88_47 o c n k s1 s2 s5 s6 s7 s8 s12 v82 h))
theorem f88_46_ok : R Pq o c n (cB (cB (cB (cB (cB (cB (cB (cB (cB (cB (cB (cB (cB (cB (cB (cB (cB (cB (cB (cB (cB (cA (cB (cA (cB (cB b88)))))))))))))))))))))))))) (blockK (cI (cB (cA (cB (cB b88))))) (f88_32K o c n k w)) = fun t _ h => f88_46 o c n k (t 1) (t 2) (t 5) (t 6) (t 7) (t 8) (t 12) (t 93) h := (c_cond (by kernel_rfl) rfl (kseq (f88_47_ok o c n k w) rfl)).tk
noncomputable def f88_45 (s1 s2 s5 s6 s7 s8 s12 s82 : AV) (h : Heap) : α :=
  ifF o s82 (dreg o h 12 fun base h => faF o 3 s2 fun v83 => rootF o v83 s2 <| load1F o (h.look 1) v83 fun v84 => callD o c (hidD false [(.fn (.func 87) [] []), v84] [] (sBlk s2 (sBlk s2 []))) 87 [v84] (h.look 0) fun v85 h => pnF v85 (fun x => hb h.shut fun hd => faF o 4 s2 fun v86 => rootF o v86 s2 <| load1F o (h.look 8) v86 fun v87 => faF o 5 s2 fun v88 => rootF o v88 s2 <| load1F o (h.look 64) v88 fun v89 => lenF o v89 fun v90 => k x.pn hd) <| faF o 4 s2 fun v91 => rootF o v91 s2 <| load1F o (h.look 8) v91 fun v92 => callD o c (hidD false [(.fn (.func 85) [] []), v92] [] (sBlk s2 [])) 85 [v92] (h.look 0) fun v93 h => pnF v93 (fun x => hb h.shut fun hd => faF o 5 s2 fun v94 => rootF o v94 s2 <| load1F o (h.look 64) v94 fun v95 => lenF o v95 fun v96 => k x.pn hd) <| faF o 5 s2 fun v97 => rootF o v97 s2 <| load1F o (h.look 64) v97 fun v98 => lenF o v98 fun v99 => hb h.shut fun h => f88_3 o c n k s1 s2 s5 s6 v85 v93 v99 h) (eqiF Pq o 3 s12 (.i .i64 14) fun v100 => f88_46 o c n k s1 s2 s5 s6 s7 s8 s12 v100 h)
theorem f88_45_ok : R Pq o c n (cB (cB (cB (cB (cB (cB (cB (cB (cB (cB (cB (cB (cB (cB (cB (cB (cB (cB (cB (cA (cB (cA (cB (cB b88)))))))))))))))))))))))) (blockK (cI (cB (cA (cB (cB b88))))) (f88_32K o c n k w)) = fun t _ h => f88_45 o c n k (t 1) (t 2) (t 5) (t 6) (t 7) (t 8) (t 12) (t 82) h := (c_cond (by kernel_rfl) rfl (kseq (f88_46_ok o c n k w) rfl)).tk
noncomputable def f88_44 (s1 s2 s5 s6 s7 s8 s12 s73 : AV) (h : Heap) : α :=
  ifF o s73 (dreg o h 8 fun base h => faF o 3 s2 fun v101 => rootF o v101 s2 <| load1F o (h.look 1) v101 fun v102 => callD o c (hidD false [(.fn (.func 87) [] []), v102] [] (sBlk s2 [])) 87 [v102] (h.look 0) fun v103 h => pnF v103 (fun x => hb h.shut fun hd => faF o 5 s2 fun v104 => rootF o v104 s2 <| load1F o (h.look 8) v104 fun v105 => lenF o v105 fun v106 => k x.pn hd) <| faF o 5 s2 fun v107 => rootF o v107 s2 <| load1F o (h.look 8) v107 fun v108 => lenF o v108 fun v109 => hb h.shut fun h => f88_3 o c n k s1 s2 s5 s6 v103 s8 v109 h) (eqiF Pq o 3 s12 (.i .i64 13) fun v110 => f88_45 o c n k s1 s2 s5 s6 s7 s8 s12 v110 h)
theorem f88_44_ok : R Pq o c n (cB (cB (cB (cB (cB (cB (cB (cB (cB (cB (cB (cB (cB (cB (cB (cB (cB (cA (cB (cA (cB (cB b88)))))))))))))))))))))) (blockK (cI (cB (cA (cB (cB b88))))) (f88_32K o c n k w)) = fun t _ h => f88_44 o c n k (t 1) (t 2) (t 5) (t 6) (t 7) (t 8) (t 12) (t 73) h := (c_cond (by kernel_rfl) rfl (kseq (f88_45_ok o c n k w) rfl)).tk
noncomputable def f88_43 (s1 s2 s5 s6 s7 s8 s12 s64 : AV) (h : Heap) : α :=
  ifF o s64 (dreg o h 9 fun base h => faF o 3 s2 fun v111 => rootF o v111 s2 <| load1F o (h.look 1) v111 fun v112 => callD o c (hidD false [(.fn (.func 87) [] []), v112] [] (sBlk s2 [])) 87 [v112] (h.look 0) fun v113 h => pnF v113 (fun x => hb h.shut fun hd => faF o 5 s2 fun v114 => rootF o v114 s2 <| load1F o (h.look 8) v114 fun v115 => lenF o v115 fun v116 => minmax o true (.i .i64 1) v116 fun v117 => k x.pn hd) <| faF o 5 s2 fun v118 => rootF o v118 s2 <| load1F o (h.look 8) v118 fun v119 => lenF o v119 fun v120 => minmax o true (.i .i64 1) v120 fun v121 => hb h.shut fun h => f88_3 o c n k s1 s2 s5 s6 v113 s8 v121 h) (eqiF Pq o 3 s12 (.i .i64 11) fun v122 => ifF o v122 (f88_44 o c n k s1 s2 s5 s6 s7 s8 s12 v122 h) (eqiF Pq o 3 s12 (.i .i64 12) fun v123 => f88_44 o c n k s1 s2 s5 s6 s7 s8 s12 v123 h))
theorem f88_43_ok : R Pq o c n (cB (cB (cB (cB (cB (cB (cB (cB (cB (cB (cB (cB (cB (cB (cB (cA (cB (cA (cB (cB b88)))))))))))))))))))) (blockK (cI (cB (cA (cB (cB b88))))) (f88_32K o c n k w)) = fun t _ h => f88_43 o c n k (t 1) (t 2) (t 5) (t 6) (t 7) (t 8) (t 12) (t 64) h := (c_cond (by kernel_rfl) rfl (kseq (f88_44_ok o c n k w) rfl)).tk
noncomputable def f88_42 (s1 s2 s5 s6 s7 s8 s9 s12 s56 : AV) (h : Heap) : α :=
  ifF o s56 (dreg o h 8 fun base h => faF o 3 s2 fun v124 => rootF o v124 s2 <| load1F o (h.look 1) v124 fun v125 => callD o c (hidD false [(.fn (.func 87) [] []), v125] [] (sBlk s2 [])) 87 [v125] (h.look 0) fun v126 h => pnF v126 (fun x => hb h.shut fun hd => faF o 4 s2 fun v127 => rootF o v127 s2 <| load1F o (h.look 8) v127 fun v128 => k x.pn hd) <| faF o 4 s2 fun v129 => rootF o v129 s2 <| load1F o (h.look 8) v129 fun v130 => callD o c [] 85 [v130] (h.look 0) fun v131 h => pnF v131 (fun x => hb h.shut fun hd => k x.pn hd) <| hb h.shut fun h => f88_3 o c n k s1 s2 s5 s6 v126 v131 s9 h) (eqiF Pq o 3 s12 (.i .i64 10) fun v132 => f88_43 o c n k s1 s2 s5 s6 s7 s8 s12 v132 h)
theorem f88_42_ok : R Pq o c n (cB (cB (cB (cB (cB (cB (cB (cB (cB (cB (cB (cB (cB (cA (cB (cA (cB (cB b88)))))))))))))))))) (blockK (cI (cB (cA (cB (cB b88))))) (f88_32K o c n k w)) = fun t _ h => f88_42 o c n k (t 1) (t 2) (t 5) (t 6) (t 7) (t 8) (t 9) (t 12) (t 56) h := (c_cond (by kernel_rfl) rfl (kseq (f88_43_ok o c n k w) rfl)).tk
noncomputable def f88_41 (s1 s2 s5 s6 s7 s8 s9 s12 s51 : AV) (h : Heap) : α :=
  ifF o s51 (faF o 3 s2 fun v133 => load1F o h v133 fun v134 => c 87 [v134] h fun v135 h => pk k v135 h <| f88_3 o c n k s1 s2 s5 s6 v135 s8 (.i .i64 1) h) (eqiF Pq o 3 s12 (.i .i64 9) fun v136 => f88_42 o c n k s1 s2 s5 s6 s7 s8 s9 s12 v136 h)
theorem f88_41_ok : R Pq o c n (cB (cB (cB (cB (cB (cB (cB (cB (cB (cB (cB (cA (cB (cA (cB (cB b88)))))))))))))))) (blockK (cI (cB (cA (cB (cB b88))))) (f88_32K o c n k w)) = fun t _ h => f88_41 o c n k (t 1) (t 2) (t 5) (t 6) (t 7) (t 8) (t 9) (t 12) (t 51) h := (c_cond (by kernel_rfl) rfl (kseq (f88_42_ok o c n k w) rfl)).tk
noncomputable def f88_40 (s1 s2 s5 s6 s7 s8 s9 s12 s45 : AV) (h : Heap) : α :=
  ifF o s45 (faF o 3 s2 fun v137 => load1F o h v137 fun v138 => c 87 [v138] h fun v139 h => pk k v139 h <| f88_3 o c n k s1 s2 s5 s6 v139 s8 s9 h) (eqiF Pq o 3 s12 (.i .i64 7) fun v140 => f88_41 o c n k s1 s2 s5 s6 s7 s8 s9 s12 v140 h)
theorem f88_40_ok : R Pq o c n (cB (cB (cB (cB (cB (cB (cB (cB (cB (cA (cB (cA (cB (cB b88)))))))))))))) (blockK (cI (cB (cA (cB (cB b88))))) (f88_32K o c n k w)) = fun t _ h => f88_40 o c n k (t 1) (t 2) (t 5) (t 6) (t 7) (t 8) (t 9) (t 12) (t 45) h := (c_cond (by kernel_rfl) rfl (kseq (f88_41_ok o c n k w) rfl)).tk
noncomputable def f88_39 (s1 s2 s5 s6 s7 s8 s9 s12 s42 : AV) (h : Heap) : α :=
  ifF o s42 (f88_3 o c n k s1 s2 s5 s6 s7 s8 s9 h) (eqiF Pq o 3 s12 (.i .i64 6) fun v141 => ifF o v141 (f88_40 o c n k s1 s2 s5 s6 s7 s8 s9 s12 v141 h) (eqiF Pq o 3 s12 (.i .i64 8) fun v142 => f88_40 o c n k s1 s2 s5 s6 s7 s8 s9 s12 v142 h))
theorem f88_39_ok : R Pq o c n (cB (cB (cB (cB (cB (cB (cB (cA (cB (cA (cB (cB b88)))))))))))) (blockK (cI (cB (cA (cB (cB b88))))) (f88_32K o c n k w)) = fun t _ h => f88_39 o c n k (t 1) (t 2) (t 5) (t 6) (t 7) (t 8) (t 9) (t 12) (t 42) h := (c_cond (by kernel_rfl) rfl (kseq (f88_40_ok o c n k w) rfl)).tk
noncomputable def f88_36 (s1 s2 s5 s6 s7 s8 s9 s12 s28 : AV) (h : Heap) : α :=
  ifF o s28 (faF o 2 s2 fun v143 => load1F o h v143 fun v144 => lensF o v144 fun v145 => leqF Pq o 3 v145 (.i .i64 1000) fun v146 => bkF o true v146 (faF o 2 s2 fun v147 => load1F o h v147 fun v148 => c 72 [v148] h fun v149 h => pk k v149 h <| lssF Pq o 3 v149 (.i .i64 0) fun v150 => pickF o v146 v150 (.b false) fun v151 => f88_37 o c n k s1 s2 s5 v151 s7 s8 s9 h) (pickF o v146 (.tup []) (.b false) fun v152 => f88_37 o c n k s1 s2 s5 v152 s7 s8 s9 h)) (eqiF Pq o 3 s12 (.i .i64 4) fun v153 => ifF o v153 (f88_39 o c n k s1 s2 s5 s6 s7 s8 s9 s12 v153 h) (eqiF Pq o 3 s12 (.i .i64 5) fun v154 => f88_39 o c n k s1 s2 s5 s6 s7 s8 s9 s12 v154 h))
theorem f88_36_ok : R Pq o c n (cB (cB (cB (cB (cB (cA (cB (cA (cB (cB b88)))))))))) (blockK (cI (cB (cA (cB (cB b88))))) (f88_32K o c n k w)) = fun t _ h => f88_36 o c n k (t 1) (t 2) (t 5) (t 6) (t 7) (t 8) (t 9) (t 12) (t 28) h := (c_cond (by kernel_rfl) (kseq (f88_37_ok o c n k w) (r_start 5 (by kernel_rfl) (q_guard 5 9 (4, true) (by kernel_rfl) (by kernel_rfl) (by kernel_rfl) rfl))) (kseq (f88_39_ok o c n k w) rfl)).tk
noncomputable def f88_35 (s1 s2 s5 s6 s7 s8 s9 s12 s18 : AV) (h : Heap) : α :=
  ifF o s18 (faF o 1 s2 fun v155 => load1F o h v155 fun v156 => eqiF Pq o 21 v156 (.i .i32 0) fun v157 => bkF o false v157 (faF o 1 s2 fun v158 => load1F o h v158 fun v159 => eqiF Pq o 21 v159 (.i .i32 1) fun v160 => pickF o v157 (.b true) v160 fun v161 => f88_3 o c n k s1 s2 v161 s6 s7 s8 s9 h) (pickF o v157 (.b true) (.tup []) fun v162 => f88_3 o c n k s1 s2 v162 s6 s7 s8 s9 h)) (eqiF Pq o 3 s12 (.i .i64 3) fun v163 => f88_36 o c n k s1 s2 s5 s6 s7 s8 s9 s12 v163 h)
theorem f88_35_ok : R Pq o c n (cB (cB (cB (cA (cB (cA (cB (cB b88)))))))) (blockK (cI (cB (cA (cB (cB b88))))) (f88_32K o c n k w)) = fun t _ h => f88_35 o c n k (t 1) (t 2) (t 5) (t 6) (t 7) (t 8) (t 9) (t 12) (t 18) h := (c_cond (by kernel_rfl) (r_start 4 (by kernel_rfl) (q_guard 4 7 (3, false) (by kernel_rfl) (by kernel_rfl) (by kernel_rfl) rfl)) (kseq (f88_36_ok o c n k w) rfl)).tk
noncomputable def f88_34 (s1 s2 s5 s6 s7 s8 s9 s12 s13 : AV) (h : Heap) : α :=
  ifF o s13 (faF o 1 s2 fun v164 => load1F o h v164 fun v165 => geqF Pq o 21 v165 (.i .i32 0) fun v166 => f88_3 o c n k s1 s2 v166 s6 s7 s8 s9 h) (eqiF Pq o 3 s12 (.i .i64 2) fun v167 => f88_35 o c n k s1 s2 s5 s6 s7 s8 s9 s12 v167 h)
theorem f88_34_ok : R Pq o c n (cB (cA (cB (cA (cB (cB b88)))))) (blockK (cI (cB (cA (cB (cB b88))))) (f88_32K o c n k w)) = fun t _ h => f88_34 o c n k (t 1) (t 2) (t 5) (t 6) (t 7) (t 8) (t 9) (t 12) (t 13) h := (c_cond (by kernel_rfl) rfl (kseq (f88_35_ok o c n k w) rfl)).tk
noncomputable def f88_33 (s1 s2 s5 s6 s7 s8 s9 s12 : AV) (h : Heap) : α :=
  eqiF Pq o 3 s12 (.i .i64 1) fun v168 => f88_34 o c n k s1 s2 s5 s6 s7 s8 s9 s12 v168 h
theorem f88_33_ok : R Pq o c n (cB (cA (cB (cB b88)))) (f88_32K o c n k w) = fun t _ h => f88_33 o c n k (t 1) (t 2) (t 5) (t 6) (t 7) (t 8) (t 9) (t 12) h := (kblk (kseq (f88_34_ok o c n k w) rfl)).tk
noncomputable def f88_2 (s1 s2 s5 s6 s7 s8 s9 : AV) (h : Heap) : α :=
  faF o 0 s2 fun v169 => load1F o h v169 fun v170 => f88_33 o c n k s1 s2 s5 s6 s7 s8 s9 v170 h
theorem f88_2_ok : R Pq o c n (cB (cB b88)) (kend Pq o c n w rs88 k) = fun t _ h => f88_2 o c n k (t 1) (t 2) (t 5) (t 6) (t 7) (t 8) (t 9) h := (kseq (f88_3_ok o c n k w) (kseq (f88_33_ok o c n k w) rfl)).tk
noncomputable def f88_1 (s1 s2 : AV) (h : Heap) : α :=
  f88_2 o c n k s1 s2 (.b false) (.b false) (.b false) (.b false) (.i .i64 0) h
theorem f88_1_ok : R Pq o c n (cB b88) (kend Pq o c n w rs88 k) = fun t _ h => f88_1 o c n k (t 1) (t 2) h := (kseq (f88_2_ok o c n k w) rfl).tk
noncomputable def f88 (a0 a1 : AV) (h : Heap) : α :=
  boxF o a0 h h.next fun v171 h => f88_1 o c n k a1 v171 h
theorem f88_ok : R Pq o c n b88 (kend Pq o c n w rs88 k) = fun t _ h => f88 o c n k (t 0) (t 1) h := (kseq (f88_1_ok o c n k w) rfl).tk
theorem f88_good : Good Pq (cfg mm) 88 (entF Pq (cfg mm) 88 2 fun α => f88) := entG b88 rs88 196 fun _ => f88_ok
noncomputable def b100 := bdy Tryz.f100
noncomputable def rs100 := Tryz.f100.results.toList
noncomputable def f100_2K : Ex → K α := (nxK (R Pq o c n (cB (cB b100)) (kend Pq o c n w rs100 k)) (kend Pq o c n w rs100 k))
noncomputable def f100_4 {α : Type} (o : α) (c : Call' α) (n : Nat) (k : AV → Heap → α) (m : Nat) : AVs (Heap → α) 4 :=
  Nat.rec (motive := fun _ => AVs (Heap → α) 4) (fun _ _ _ _ _ => o) (fun _ lp0 s0 s1 s7 s8 h => lssF Pq o 3 s8 s7 fun v1 => ifF o v1 (ixF o 1 s0 s8 fun v2 => load1F o h v2 fun v3 => eqsF Pq o 9 s1 v3 fun v4 => ifF o v4 (k s8 h) (addF Pq o 3 s8 (.i .i64 1) fun v5 => lp0 s0 s1 s7 v5 h)) (k (.i .i64 (-1)) h)) m
theorem f100_4_ok : R Pq o c n (cA (cB (cA (cB b100)))) (blockK (cI (cB (cA (cB b100)))) (f100_2K o c n k w)) = fun t _ h => f100_4 o c n k n (t 0) (t 1) (t 7) (t 8) h :=
  c_loop (F := fun m t _ h => f100_4 o c n k m (t 0) (t 1) (t 7) (t 8) h) (by kernel_rfl) (by kernel_rfl) fun m => by kernel_rfl
noncomputable def f100_3 (s0 s1 s7 s8 : AV) (h : Heap) : α :=
  f100_4 o c n k n s0 s1 s7 s8 h
theorem f100_3_ok : R Pq o c n (cB (cA (cB b100))) (f100_2K o c n k w) = fun t _ h => f100_3 o c n k (t 0) (t 1) (t 7) (t 8) h := (kblk (f100_4_ok o c n k w)).tk
noncomputable def f100_1 (s0 s1 : AV) (h : Heap) : α :=
  lenF o s0 fun v6 => f100_3 o c n k s0 s1 v6 (.i .i64 0) h
theorem f100_1_ok : R Pq o c n (cB b100) (kend Pq o c n w rs100 k) = fun t _ h => f100_1 o c n k (t 0) (t 1) h := (kseq rfl (kseq (f100_3_ok o c n k w) rfl)).tk
noncomputable def f100 (a0 a1 : AV) (h : Heap) : α :=
  f100_1 o c n k a0 a1 h
theorem f100_ok : R Pq o c n b100 (kend Pq o c n w rs100 k) = fun t _ h => f100 o c n k (t 0) (t 1) h := (kseq (f100_1_ok o c n k w) rfl).tk
theorem f100_good : Good Pq (cfg mm) 100 (entF Pq (cfg mm) 100 2 fun α => f100) := entG b100 rs100 19 fun _ => f100_ok
noncomputable def b112 := bdy Tryz.f112
noncomputable def rs112 := Tryz.f112.results.toList
noncomputable def f112_7K : Ex → K α := (nxK (R Pq o c n (cB (cB (cB (cB (cB (cB (cB b112))))))) (kend Pq o c n w rs112 k)) (kend Pq o c n w rs112 k))
noncomputable def f112_10K (lp0 : AVs (Heap → α) 8) : Ex → K α := (nxK (fun t _ h => lp0 (t 0) (t 1) (t 4) (t 6) (t 7) (t 8) (t 9) (t 10) h) (blockK (cI (cB (cA (cB (cB (cB (cB (cB (cB b112))))))))) (f112_7K o c n k w)))
noncomputable def f112_12 {α : Type} (o : α) (c : Call' α) (n : Nat) (k : AV → Heap → α) (lp0 : AVs (Heap → α) 8) (s0 s1 s4 s6 s7 s8 s9 s10 : AV) (h : Heap) : α :=
  addF Pq o 3 s10 (.i .i64 1) fun v1 => lp0 s0 s1 s4 s6 s7 s8 s9 v1 h
theorem f112_12_ok (lp0 : AVs (Heap → α) 8) : R Pq o c n (cB (cB (cA (cA (cB (cA (cB (cB (cB (cB (cB (cB b112)))))))))))) (f112_10K o c n k w lp0) = fun t _ h => f112_12 o c n k lp0 (t 0) (t 1) (t 4) (t 6) (t 7) (t 8) (t 9) (t 10) h := by kernel_rfl
noncomputable def f112_13K (lp0 : AVs (Heap → α) 8) : Ex → K α := (nxK (fun t _ h => f112_12 o c n k lp0 (t 0) (t 1) (t 4) (t 6) (t 7) (t 8) (t 9) (t 10) h) (f112_10K o c n k w lp0))
noncomputable def f112_15 (lp0 : AVs (Heap → α) 8) (s0 s1 s4 s6 s7 s8 s9 s10 s11 : AV) (h : Heap) : α :=
  binA Pq o .shl 21 s9 (.i .u64 6) fun v2 => binA Pq o .and 3 s11 (.i .i64 63) fun v3 => convA Pq o 3 21 v3 fun v4 => binA Pq o .or 21 v2 v4 fun v5 => f112_12 o c n k lp0 s0 s1 s4 s6 s7 s8 v5 s10 h
theorem f112_15_ok (lp0 : AVs (Heap → α) 8) : R Pq o c n (cB (cB (cA (cA (cB (cA (cA (cB (cA (cB (cB (cB (cB (cB (cB b112))))))))))))))) (blockK (cI (cA (cB (cA (cA (cB (cA (cB (cB (cB (cB (cB (cB b112))))))))))))) (f112_13K o c n k w lp0)) = fun t _ h => f112_15 o c n k lp0 (t 0) (t 1) (t 4) (t 6) (t 7) (t 8) (t 9) (t 10) (t 11) h := by kernel_rfl
noncomputable def f112_16K (lp0 : AVs (Heap → α) 8) : Ex → K α := (nxK (fun t _ h => f112_15 o c n k lp0 (t 0) (t 1) (t 4) (t 6) (t 7) (t 8) (t 9) (t 10) (t 11) h) (blockK (cI (cA (cB (cA (cA (cB (cA (cB (cB (cB (cB (cB (cB b112))))))))))))) (f112_13K o c n k w lp0)))
noncomputable def f112_17 (lp0 : AVs (Heap → α) 8) (s0 s1 s4 s6 s7 s8 s9 s10 s11 s99 : AV) (h : Heap) : α :=
  ifF o s99 (layF o 0 (.i .i32 65533) [(.i .i32 0), (.i .i64 0), (.b false)] fun v6 => layF o 1 (.i .i64 1) v6 fun v7 => layF o 2 (.b true) v7 fun v8 => storeF o h 3 s4 (.agg v8) fun h => on o (resV Pq h [(s4, some 151)]) fun v => k v h) (f112_15 o c n k lp0 s0 s1 s4 s6 s7 s8 s9 s10 s11 h)
theorem f112_17_ok (lp0 : AVs (Heap → α) 8) : R Pq o c n (cB (cA (cB (cA (cA (cB (cA (cA (cB (cA (cB (cB (cB (cB (cB (cB b112)))))))))))))))) (f112_16K o c n k w lp0) = fun t _ h => f112_17 o c n k lp0 (t 0) (t 1) (t 4) (t 6) (t 7) (t 8) (t 9) (t 10) (t 11) (t 99) h := by kernel_rfl
noncomputable def f112_18K (lp0 : AVs (Heap → α) 8) : Ex → K α := (nxK (fun t _ h => f112_17 o c n k lp0 (t 0) (t 1) (t 4) (t 6) (t 7) (t 8) (t 9) (t 10) (t 11) (t 99) h) (f112_16K o c n k w lp0))
noncomputable def f112_22 (lp0 : AVs (Heap → α) 8) (s0 s1 s4 s6 s7 s8 s9 s10 s11 s92 s94 : AV) (h : Heap) : α :=
  pickF o s92 (.b true) s94 fun v9 => bkF o false v9 (gtrF Pq o 3 s11 (.i .i64 191) fun v10 => pickF o v9 (.b true) v10 fun v11 => f112_17 o c n k lp0 s0 s1 s4 s6 s7 s8 s9 s10 s11 v11 h) (pickF o v9 (.b true) (.tup []) fun v12 => f112_17 o c n k lp0 s0 s1 s4 s6 s7 s8 s9 s10 s11 v12 h)
theorem f112_22_ok (lp0 : AVs (Heap → α) 8) : Q Pq o c (cO (cA (cA (cB (cA (cA (cB (cA (cA (cB (cA (cB (cB (cB (cB (cB (cB b112))))))))))))))))) (f112_18K o c n k w lp0) 15 = fun t _ h => f112_22 o c n k lp0 (t 0) (t 1) (t 4) (t 6) (t 7) (t 8) (t 9) (t 10) (t 11) (t 92) (t 94) h := (q_seg 15 17 (by kernel_rfl) (q_guard 17 19 (16, false) (by kernel_rfl) (by kernel_rfl) (by kernel_rfl) rfl)).tk
noncomputable def f112_21 (lp0 : AVs (Heap → α) 8) (s0 s1 s4 s6 s7 s8 s9 s10 s11 s82 s90 : AV) (h : Heap) : α :=
  pickF o s82 s90 (.b false) fun v13 => bkF o false v13 (lssF Pq o 3 s11 (.i .i64 128) fun v14 => f112_22 o c n k lp0 s0 s1 s4 s6 s7 s8 s9 s10 s11 v13 v14 h) (f112_22 o c n k lp0 s0 s1 s4 s6 s7 s8 s9 s10 s11 v13 (.tup []) h)
theorem f112_21_ok (lp0 : AVs (Heap → α) 8) : Q Pq o c (cO (cA (cA (cB (cA (cA (cB (cA (cA (cB (cA (cB (cB (cB (cB (cB (cB b112))))))))))))))))) (f112_18K o c n k w lp0) 11 = fun t _ h => f112_21 o c n k lp0 (t 0) (t 1) (t 4) (t 6) (t 7) (t 8) (t 9) (t 10) (t 11) (t 82) (t 90) h := (q_seg 11 13 (by kernel_rfl) (q_guard 13 15 (12, false) (by kernel_rfl) (by kernel_rfl) (by kernel_rfl) (f112_22_ok o c n k w lp0))).tk
noncomputable def f112_20 (lp0 : AVs (Heap → α) 8) (s0 s1 s4 s6 s7 s8 s9 s10 s11 s82 s86 s89 : AV) (h : Heap) : α :=
  bkF o true s82 (pickF o s86 (.b true) s89 fun v15 => f112_21 o c n k lp0 s0 s1 s4 s6 s7 s8 s9 s10 s11 s82 v15 h) (f112_21 o c n k lp0 s0 s1 s4 s6 s7 s8 s9 s10 s11 s82 (.tup []) h)
theorem f112_20_ok (lp0 : AVs (Heap → α) 8) : Q Pq o c (cO (cA (cA (cB (cA (cA (cB (cA (cA (cB (cA (cB (cB (cB (cB (cB (cB b112))))))))))))))))) (f112_18K o c n k w lp0) 10 = fun t _ h => f112_20 o c n k lp0 (t 0) (t 1) (t 4) (t 6) (t 7) (t 8) (t 9) (t 10) (t 11) (t 82) (t 86) (t 89) h := (q_seg 10 10 (by kernel_rfl) (q_guard 10 11 (2, true) (by kernel_rfl) (by kernel_rfl) (by kernel_rfl) (f112_21_ok o c n k w lp0))).tk
noncomputable def f112_19 (lp0 : AVs (Heap → α) 8) (s0 s1 s4 s6 s7 s8 s9 s10 s11 s82 s86 : AV) (h : Heap) : α :=
  bkF o false s86 (gtrF Pq o 3 s11 s8 fun v16 => f112_20 o c n k lp0 s0 s1 s4 s6 s7 s8 s9 s10 s11 s82 s86 v16 h) (f112_20 o c n k lp0 s0 s1 s4 s6 s7 s8 s9 s10 s11 s82 s86 (.tup []) h)
theorem f112_19_ok (lp0 : AVs (Heap → α) 8) : Q Pq o c (cO (cA (cA (cB (cA (cA (cB (cA (cA (cB (cA (cB (cB (cB (cB (cB (cB b112))))))))))))))))) (f112_18K o c n k w lp0) 7 = fun t _ h => f112_19 o c n k lp0 (t 0) (t 1) (t 4) (t 6) (t 7) (t 8) (t 9) (t 10) (t 11) (t 82) (t 86) h := (q_seg 7 7 (by kernel_rfl) (q_guard 7 10 (6, false) (by kernel_rfl) (by kernel_rfl) (by kernel_rfl) (f112_20_ok o c n k w lp0))).tk
noncomputable def f112_14 (lp0 : AVs (Heap → α) 8) (s0 s1 s4 s6 s7 s8 s9 s10 s11 : AV) (h : Heap) : α :=
  eqiF Pq o 3 s10 (.i .i64 1) fun v17 => bkF o true v17 (lssF Pq o 3 s11 s7 fun v18 => f112_19 o c n k lp0 s0 s1 s4 s6 s7 s8 s9 s10 s11 v17 v18 h) (f112_19 o c n k lp0 s0 s1 s4 s6 s7 s8 s9 s10 s11 v17 (.tup []) h)
theorem f112_14_ok (lp0 : AVs (Heap → α) 8) : R Pq o c n (cB (cA (cA (cB (cA (cA (cB (cA (cB (cB (cB (cB (cB (cB b112)))))))))))))) (blockK (cI (cA (cB (cA (cA (cB (cA (cB (cB (cB (cB (cB (cB b112))))))))))))) (f112_13K o c n k w lp0)) = fun t _ h => f112_14 o c n k lp0 (t 0) (t 1) (t 4) (t 6) (t 7) (t 8) (t 9) (t 10) (t 11) h := (kseq (f112_15_ok o c n k w lp0) (kseq (f112_17_ok o c n k w lp0) (r_start 3 (by kernel_rfl) (q_guard 3 7 (2, true) (by kernel_rfl) (by kernel_rfl) (by kernel_rfl) (f112_19_ok o c n k w lp0))))).tk
noncomputable def f112_11 (lp0 : AVs (Heap → α) 8) (s0 s1 s4 s6 s7 s8 s9 s10 : AV) (h : Heap) : α :=
  addF Pq o 3 s1 s10 fun v19 => sxF o s0 v19 fun v20 => convA Pq o 5 3 v20 fun v21 => f112_14 o c n k lp0 s0 s1 s4 s6 s7 s8 s9 s10 v21 h
theorem f112_11_ok (lp0 : AVs (Heap → α) 8) : R Pq o c n (cB (cA (cA (cB (cA (cB (cB (cB (cB (cB (cB b112))))))))))) (f112_10K o c n k w lp0) = fun t _ h => f112_11 o c n k lp0 (t 0) (t 1) (t 4) (t 6) (t 7) (t 8) (t 9) (t 10) h := (kseq (f112_12_ok o c n k w lp0) (kblk (kseq (f112_14_ok o c n k w lp0) rfl))).tk
noncomputable def f112_9 (m : Nat) : AVs (Heap → α) 8 :=
  Nat.rec (motive := fun _ => AVs (Heap → α) 8) (fun _ _ _ _ _ _ _ _ _ => o) (fun _ lp0 s0 s1 s4 s6 s7 s8 s9 s10 h => lssF Pq o 3 s10 s6 fun v22 => ifF o v22 (f112_11 o c n k lp0 s0 s1 s4 s6 s7 s8 s9 s10 h) (layF o 0 s9 [(.i .i32 0), (.i .i64 0), (.b false)] fun v23 => layF o 1 s6 v23 fun v24 => storeF o h 3 s4 (.agg v24) fun h => on o (resV Pq h [(s4, some 151)]) fun v => k v h)) m
theorem f112_9_ok : R Pq o c n (cA (cB (cA (cB (cB (cB (cB (cB (cB b112))))))))) (blockK (cI (cB (cA (cB (cB (cB (cB (cB (cB b112))))))))) (f112_7K o c n k w)) = fun t _ h => f112_9 o c n k n (t 0) (t 1) (t 4) (t 6) (t 7) (t 8) (t 9) (t 10) h :=
  c_loop (F := fun m t _ h => f112_9 o c n k m (t 0) (t 1) (t 4) (t 6) (t 7) (t 8) (t 9) (t 10) h) (by kernel_rfl) (by kernel_rfl) fun m => (kseq (f112_11_ok o c n k w (f112_9 o c n k m)) rfl).tk
noncomputable def f112_8 (s0 s1 s4 s6 s7 s8 s9 s10 : AV) (h : Heap) : α :=
  f112_9 o c n k n s0 s1 s4 s6 s7 s8 s9 s10 h
theorem f112_8_ok : R Pq o c n (cB (cA (cB (cB (cB (cB (cB (cB b112)))))))) (f112_7K o c n k w) = fun t _ h => f112_8 o c n k (t 0) (t 1) (t 4) (t 6) (t 7) (t 8) (t 9) (t 10) h := (kblk (f112_9_ok o c n k w)).tk
noncomputable def f112_6 (s0 s1 s4 s6 s7 s8 s9 : AV) (h : Heap) : α :=
  f112_8 o c n k s0 s1 s4 s6 s7 s8 s9 (.i .i64 1) h
theorem f112_6_ok : R Pq o c n (cB (cB (cB (cB (cB (cB b112)))))) (kend Pq o c n w rs112 k) = fun t _ h => f112_6 o c n k (t 0) (t 1) (t 4) (t 6) (t 7) (t 8) (t 9) h := (kseq rfl (kseq (f112_8_ok o c n k w) rfl)).tk
noncomputable def f112_5 (s0 s1 s4 s5 s6 s7 s8 : AV) (h : Heap) : α :=
  convA Pq o 5 21 s5 fun v25 => binA Pq o .sub 3 (.i .i64 7) s6 fun v26 => convA Pq o 3 24 v26 fun v27 => binA Pq o .shl 21 (.i .i32 1) v27 fun v28 => binA Pq o .sub 21 v28 (.i .i32 1) fun v29 => binA Pq o .and 21 v25 v29 fun v30 => f112_6 o c n k s0 s1 s4 s6 s7 s8 v30 h
theorem f112_5_ok : R Pq o c n (cB (cB (cB (cB (cB b112))))) (kend Pq o c n w rs112 k) = fun t _ h => f112_5 o c n k (t 0) (t 1) (t 4) (t 5) (t 6) (t 7) (t 8) h := (kseq (f112_6_ok o c n k w) rfl).tk
noncomputable def f112_23K : Ex → K α := (nxK (fun t _ h => f112_5 o c n k (t 0) (t 1) (t 4) (t 5) (t 6) (t 7) (t 8) h) (kend Pq o c n w rs112 k))
noncomputable def f112_24 (s0 s1 s4 s5 s6 s7 s8 s59 : AV) (h : Heap) : α :=
  ifF o s59 (layF o 0 (.i .i32 65533) [(.i .i32 0), (.i .i64 0), (.b false)] fun v31 => layF o 1 (.i .i64 1) v31 fun v32 => layF o 2 (.b true) v32 fun v33 => storeF o h 3 s4 (.agg v33) fun h => on o (resV Pq h [(s4, some 151)]) fun v => k v h) (f112_5 o c n k s0 s1 s4 s5 s6 s7 s8 h)
theorem f112_24_ok : R Pq o c n (cB (cA (cB (cB (cB (cB b112)))))) (f112_23K o c n k w) = fun t _ h => f112_24 o c n k (t 0) (t 1) (t 4) (t 5) (t 6) (t 7) (t 8) (t 59) h := by kernel_rfl
noncomputable def f112_25K : Ex → K α := (nxK (fun t _ h => f112_24 o c n k (t 0) (t 1) (t 4) (t 5) (t 6) (t 7) (t 8) (t 59) h) (f112_23K o c n k w))
noncomputable def f112_4 (s0 s1 s4 s5 s6 s7 s8 : AV) (h : Heap) : α :=
  eqiF Pq o 3 s6 (.i .i64 0) fun v34 => bkF o false v34 (addF Pq o 3 s1 s6 fun v35 => lensF o s0 fun v36 => gtrF Pq o 3 v35 v36 fun v37 => pickF o v34 (.b true) v37 fun v38 => f112_24 o c n k s0 s1 s4 s5 s6 s7 s8 v38 h) (pickF o v34 (.b true) (.tup []) fun v39 => f112_24 o c n k s0 s1 s4 s5 s6 s7 s8 v39 h)
theorem f112_4_ok : R Pq o c n (cB (cB (cB (cB b112)))) (kend Pq o c n w rs112 k) = fun t _ h => f112_4 o c n k (t 0) (t 1) (t 4) (t 5) (t 6) (t 7) (t 8) h := (kseq (f112_5_ok o c n k w) (kseq (f112_24_ok o c n k w) (r_start 3 (by kernel_rfl) (q_guard 3 9 (2, false) (by kernel_rfl) (by kernel_rfl) (by kernel_rfl) rfl)))).tk
noncomputable def f112_26K : Ex → K α := (nxK (fun t _ h => f112_4 o c n k (t 0) (t 1) (t 4) (t 5) (t 6) (t 7) (t 8) h) (kend Pq o c n w rs112 k))
noncomputable def f112_31 (s0 s1 s4 s5 s6 s7 s8 : AV) (h : Heap) : α :=
  eqiF Pq o 5 s5 (.i .u8 237) fun v40 => ifF o v40 (f112_4 o c n k s0 s1 s4 s5 s6 s7 (.i .i64 159) h) (f112_4 o c n k s0 s1 s4 s5 s6 s7 s8 h)
theorem f112_31_ok : R Pq o c n (cB (cB (cA (cB (cB (cB (cB (cB (cA (cA (cB (cB (cB b112))))))))))))) (blockK (cI (cA (cB (cB (cB b112))))) (f112_26K o c n k w)) = fun t _ h => f112_31 o c n k (t 0) (t 1) (t 4) (t 5) (t 6) (t 7) (t 8) h := by kernel_rfl
noncomputable def f112_30 (s0 s1 s4 s5 s6 s7 s8 : AV) (h : Heap) : α :=
  eqiF Pq o 5 s5 (.i .u8 224) fun v41 => ifF o v41 (f112_31 o c n k s0 s1 s4 s5 s6 (.i .i64 160) s8 h) (f112_31 o c n k s0 s1 s4 s5 s6 s7 s8 h)
theorem f112_30_ok : R Pq o c n (cB (cA (cB (cB (cB (cB (cB (cA (cA (cB (cB (cB b112)))))))))))) (blockK (cI (cA (cB (cB (cB b112))))) (f112_26K o c n k w)) = fun t _ h => f112_30 o c n k (t 0) (t 1) (t 4) (t 5) (t 6) (t 7) (t 8) h := (kseq (f112_31_ok o c n k w) rfl).tk
noncomputable def f112_34 (s0 s1 s4 s5 s6 s7 s8 : AV) (h : Heap) : α :=
  eqiF Pq o 5 s5 (.i .u8 244) fun v42 => ifF o v42 (f112_4 o c n k s0 s1 s4 s5 s6 s7 (.i .i64 143) h) (f112_4 o c n k s0 s1 s4 s5 s6 s7 s8 h)
theorem f112_34_ok : R Pq o c n (cB (cB (cA (cB (cB (cB (cB (cB (cB (cB (cA (cA (cB (cB (cB b112))))))))))))))) (blockK (cI (cA (cB (cB (cB b112))))) (f112_26K o c n k w)) = fun t _ h => f112_34 o c n k (t 0) (t 1) (t 4) (t 5) (t 6) (t 7) (t 8) h := by kernel_rfl
noncomputable def f112_33 (s0 s1 s4 s5 s6 s7 s8 : AV) (h : Heap) : α :=
  eqiF Pq o 5 s5 (.i .u8 240) fun v43 => ifF o v43 (f112_34 o c n k s0 s1 s4 s5 s6 (.i .i64 144) s8 h) (f112_34 o c n k s0 s1 s4 s5 s6 s7 s8 h)
theorem f112_33_ok : R Pq o c n (cB (cA (cB (cB (cB (cB (cB (cB (cB (cA (cA (cB (cB (cB b112)))))))))))))) (blockK (cI (cA (cB (cB (cB b112))))) (f112_26K o c n k w)) = fun t _ h => f112_33 o c n k (t 0) (t 1) (t 4) (t 5) (t 6) (t 7) (t 8) h := (kseq (f112_34_ok o c n k w) rfl).tk
noncomputable def f112_32 (s0 s1 s4 s5 s6 s7 s8 s39 : AV) (h : Heap) : α :=
  ifF o s39 (f112_33 o c n k s0 s1 s4 s5 (.i .i64 4) s7 s8 h) (f112_4 o c n k s0 s1 s4 s5 s6 s7 s8 h)
theorem f112_32_ok : R Pq o c n (cB (cB (cB (cB (cB (cB (cB (cA (cA (cB (cB (cB b112)))))))))))) (blockK (cI (cA (cB (cB (cB b112))))) (f112_26K o c n k w)) = fun t _ h => f112_32 o c n k (t 0) (t 1) (t 4) (t 5) (t 6) (t 7) (t 8) (t 39) h := (c_cond (by kernel_rfl) (kseq (f112_33_ok o c n k w) rfl) rfl).tk
noncomputable def f112_35K : Ex → K α := (nxK (fun t _ h => f112_32 o c n k (t 0) (t 1) (t 4) (t 5) (t 6) (t 7) (t 8) (t 39) h) (blockK (cI (cA (cB (cB (cB b112))))) (f112_26K o c n k w)))
noncomputable def f112_29 (s0 s1 s4 s5 s6 s7 s8 s28 : AV) (h : Heap) : α :=
  ifF o s28 (f112_30 o c n k s0 s1 s4 s5 (.i .i64 3) s7 s8 h) (geqF Pq o 5 s5 (.i .u8 240) fun v44 => bkF o true v44 (leqF Pq o 5 s5 (.i .u8 244) fun v45 => pickF o v44 v45 (.b false) fun v46 => f112_32 o c n k s0 s1 s4 s5 s6 s7 s8 v46 h) (pickF o v44 (.tup []) (.b false) fun v47 => f112_32 o c n k s0 s1 s4 s5 s6 s7 s8 v47 h))
theorem f112_29_ok : R Pq o c n (cB (cB (cB (cB (cB (cA (cA (cB (cB (cB b112)))))))))) (blockK (cI (cA (cB (cB (cB b112))))) (f112_26K o c n k w)) = fun t _ h => f112_29 o c n k (t 0) (t 1) (t 4) (t 5) (t 6) (t 7) (t 8) (t 28) h := (c_cond (by kernel_rfl) (kseq (f112_30_ok o c n k w) rfl) (kseq (f112_32_ok o c n k w) (r_start 3 (by kernel_rfl) (q_guard 3 5 (2, true) (by kernel_rfl) (by kernel_rfl) (by kernel_rfl) rfl)))).tk
noncomputable def f112_36K : Ex → K α := (nxK (fun t _ h => f112_29 o c n k (t 0) (t 1) (t 4) (t 5) (t 6) (t 7) (t 8) (t 28) h) (blockK (cI (cA (cB (cB (cB b112))))) (f112_26K o c n k w)))
noncomputable def f112_28 (s0 s1 s4 s5 s6 s7 s8 s21 : AV) (h : Heap) : α :=
  ifF o s21 (f112_4 o c n k s0 s1 s4 s5 (.i .i64 2) s7 s8 h) (geqF Pq o 5 s5 (.i .u8 224) fun v48 => bkF o true v48 (leqF Pq o 5 s5 (.i .u8 239) fun v49 => pickF o v48 v49 (.b false) fun v50 => f112_29 o c n k s0 s1 s4 s5 s6 s7 s8 v50 h) (pickF o v48 (.tup []) (.b false) fun v51 => f112_29 o c n k s0 s1 s4 s5 s6 s7 s8 v51 h))
theorem f112_28_ok : R Pq o c n (cB (cB (cB (cA (cA (cB (cB (cB b112)))))))) (blockK (cI (cA (cB (cB (cB b112))))) (f112_26K o c n k w)) = fun t _ h => f112_28 o c n k (t 0) (t 1) (t 4) (t 5) (t 6) (t 7) (t 8) (t 21) h := (c_cond (by kernel_rfl) rfl (kseq (f112_29_ok o c n k w) (r_start 3 (by kernel_rfl) (q_guard 3 5 (2, true) (by kernel_rfl) (by kernel_rfl) (by kernel_rfl) rfl)))).tk
noncomputable def f112_37K : Ex → K α := (nxK (fun t _ h => f112_28 o c n k (t 0) (t 1) (t 4) (t 5) (t 6) (t 7) (t 8) (t 21) h) (blockK (cI (cA (cB (cB (cB b112))))) (f112_26K o c n k w)))
noncomputable def f112_27 (s0 s1 s4 s5 s6 s7 s8 s15 : AV) (h : Heap) : α :=
  ifF o s15 (convA Pq o 5 21 s5 fun v52 => layF o 0 v52 [(.i .i32 0), (.i .i64 0), (.b false)] fun v53 => layF o 1 (.i .i64 1) v53 fun v54 => storeF o h 3 s4 (.agg v54) fun h => on o (resV Pq h [(s4, some 151)]) fun v => k v h) (geqF Pq o 5 s5 (.i .u8 194) fun v55 => bkF o true v55 (leqF Pq o 5 s5 (.i .u8 223) fun v56 => pickF o v55 v56 (.b false) fun v57 => f112_28 o c n k s0 s1 s4 s5 s6 s7 s8 v57 h) (pickF o v55 (.tup []) (.b false) fun v58 => f112_28 o c n k s0 s1 s4 s5 s6 s7 s8 v58 h))
theorem f112_27_ok : R Pq o c n (cB (cA (cA (cB (cB (cB b112)))))) (blockK (cI (cA (cB (cB (cB b112))))) (f112_26K o c n k w)) = fun t _ h => f112_27 o c n k (t 0) (t 1) (t 4) (t 5) (t 6) (t 7) (t 8) (t 15) h := (c_cond (by kernel_rfl) rfl (kseq (f112_28_ok o c n k w) (r_start 3 (by kernel_rfl) (q_guard 3 5 (2, true) (by kernel_rfl) (by kernel_rfl) (by kernel_rfl) rfl)))).tk
noncomputable def f112_3 (s0 s1 s4 s5 s6 s7 s8 : AV) (h : Heap) : α :=
  lssF Pq o 5 s5 (.i .u8 128) fun v59 => f112_27 o c n k s0 s1 s4 s5 s6 s7 s8 v59 h
theorem f112_3_ok : R Pq o c n (cB (cB (cB b112))) (kend Pq o c n w rs112 k) = fun t _ h => f112_3 o c n k (t 0) (t 1) (t 4) (t 5) (t 6) (t 7) (t 8) h := (kseq (f112_4_ok o c n k w) (kblk (kseq (f112_27_ok o c n k w) rfl))).tk
noncomputable def f112_2 (s0 s1 s4 s5 : AV) (h : Heap) : α :=
  f112_3 o c n k s0 s1 s4 s5 (.i .i64 0) (.i .i64 128) (.i .i64 191) h
theorem f112_2_ok : R Pq o c n (cB (cB b112)) (kend Pq o c n w rs112 k) = fun t _ h => f112_2 o c n k (t 0) (t 1) (t 4) (t 5) h := (kseq (f112_3_ok o c n k w) rfl).tk
noncomputable def f112_1 (s0 s1 s4 : AV) (h : Heap) : α :=
  sxF o s0 s1 fun v60 => f112_2 o c n k s0 s1 s4 v60 h
theorem f112_1_ok : R Pq o c n (cB b112) (kend Pq o c n w rs112 k) = fun t _ h => f112_1 o c n k (t 0) (t 1) (t 4) h := (kseq (f112_2_ok o c n k w) rfl).tk
noncomputable def f112 (a0 a1 : AV) (h : Heap) : α :=
  newF h h.next 3 [(.i .i32 0), (.i .i64 0), (.b false)] fun v61 h => f112_1 o c n k a0 a1 v61 h
theorem f112_ok : R Pq o c n b112 (kend Pq o c n w rs112 k) = fun t _ h => f112 o c n k (t 0) (t 1) h := (kseq (f112_1_ok o c n k w) rfl).tk
theorem f112_good : Good Pq (cfg mm) 112 (entF Pq (cfg mm) 112 2 fun α => f112) := entG b112 rs112 110 fun _ => f112_ok
noncomputable def b113 := bdy Tryz.f113
noncomputable def rs113 := Tryz.f113.results.toList
noncomputable def f113_2K : Ex → K α := (nxK (R Pq o c n (cB (cB b113)) (kend Pq o c n w rs113 k)) (kend Pq o c n w rs113 k))
noncomputable def f113_1 {α : Type} (o : α) (c : Call' α) (n : Nat) (k : AV → Heap → α) (s0 : AV) (h : Heap) : α :=
  geqF Pq o 21 s0 (.i .i32 48) fun v1 => bkF o true v1 (leqF Pq o 21 s0 (.i .i32 57) fun v2 => pickF o v1 v2 (.b false) fun v3 => k v3 h) (pickF o v1 (.tup []) (.b false) fun v4 => k v4 h)
theorem f113_1_ok : R Pq o c n (cB b113) (kend Pq o c n w rs113 k) = fun t _ h => f113_1 o c n k (t 0) h := (kseq rfl (r_start 3 (by kernel_rfl) (q_guard 3 5 (2, true) (by kernel_rfl) (by kernel_rfl) (by kernel_rfl) rfl))).tk
noncomputable def f113 (a0 : AV) (h : Heap) : α :=
  f113_1 o c n k a0 h
theorem f113_ok : R Pq o c n b113 (kend Pq o c n w rs113 k) = fun t _ h => f113 o c n k (t 0) h := (kseq (f113_1_ok o c n k w) rfl).tk
theorem f113_good : Good Pq (cfg mm) 113 (entF Pq (cfg mm) 113 1 fun α => f113) := entG b113 rs113 9 fun _ => f113_ok
noncomputable def b114 := bdy Tryz.f114
noncomputable def rs114 := Tryz.f114.results.toList
noncomputable def f114_2K : Ex → K α := (nxK (R Pq o c n (cB (cB b114)) (kend Pq o c n w rs114 k)) (kend Pq o c n w rs114 k))
noncomputable def f114_3 {α : Type} (o : α) (c : Call' α) (n : Nat) (k : AV → Heap → α) (s0 s6 s9 : AV) (h : Heap) : α :=
  pickF o s6 (.b true) s9 fun v1 => bkF o false v1 (convA Pq o 5 21 s0 fun v2 => c 113 [v2] h fun v3 h => pk k v3 h <| pickF o v1 (.b true) v3 fun v4 => k v4 h) (pickF o v1 (.b true) (.tup []) fun v5 => k v5 h)
theorem f114_3_ok : Q Pq o c (cO (cA (cB b114))) (f114_2K o c n k w) 7 = fun t _ h => f114_3 o c n k (t 0) (t 6) (t 9) h := (q_seg 7 9 (by kernel_rfl) (q_guard 9 12 (8, false) (by kernel_rfl) (by kernel_rfl) (by kernel_rfl) rfl)).tk
noncomputable def f114_1 (s0 : AV) (h : Heap) : α :=
  convA Pq o 5 21 s0 fun v6 => c 129 [v6] h fun v7 h => pk k v7 h <| bkF o false v7 (convA Pq o 5 21 s0 fun v8 => c 128 [v8] h fun v9 h => pk k v9 h <| f114_3 o c n k s0 v7 v9 h) (f114_3 o c n k s0 v7 (.tup []) h)
theorem f114_1_ok : R Pq o c n (cB b114) (kend Pq o c n w rs114 k) = fun t _ h => f114_1 o c n k (t 0) h := (kseq rfl (r_start 4 (by kernel_rfl) (q_guard 4 7 (3, false) (by kernel_rfl) (by kernel_rfl) (by kernel_rfl) (f114_3_ok o c n k w)))).tk
noncomputable def f114 (a0 : AV) (h : Heap) : α :=
  f114_1 o c n k a0 h
theorem f114_ok : R Pq o c n b114 (kend Pq o c n w rs114 k) = fun t _ h => f114 o c n k (t 0) h := (kseq (f114_1_ok o c n k w) rfl).tk
theorem f114_good : Good Pq (cfg mm) 114 (entF Pq (cfg mm) 114 1 fun α => f114) := entG b114 rs114 16 fun _ => f114_ok
noncomputable def b117 := bdy Tryz.f117
noncomputable def rs117 := Tryz.f117.results.toList
noncomputable def f117_2K : Ex → K α := (nxK (R Pq o c n (cB (cB b117)) (kend Pq o c n w rs117 k)) (kend Pq o c n w rs117 k))
noncomputable def f117_4 {α : Type} (o : α) (c : Call' α) (n : Nat) (k : AV → Heap → α) (m : Nat) : AVs (Heap → α) 3 :=
  Nat.rec (motive := fun _ => AVs (Heap → α) 3) (fun _ _ _ _ => o) (fun _ lp0 s0 s1 s5 h => lenF o s0 fun v1 => lssF Pq o 3 s5 v1 fun v2 => ifF o v2 (ixF o 1 s0 s5 fun v3 => load1F o h v3 fun v4 => eqsF Pq o 9 v4 s1 fun v5 => ifF o v5 (k (.b true) h) (addF Pq o 3 s5 (.i .i64 1) fun v6 => lp0 s0 s1 v6 h)) (k (.b false) h)) m
theorem f117_4_ok : R Pq o c n (cA (cB (cA (cB b117)))) (blockK (cI (cB (cA (cB b117)))) (f117_2K o c n k w)) = fun t _ h => f117_4 o c n k n (t 0) (t 1) (t 5) h :=
  c_loop (F := fun m t _ h => f117_4 o c n k m (t 0) (t 1) (t 5) h) (by kernel_rfl) (by kernel_rfl) fun m => by kernel_rfl
noncomputable def f117_3 (s0 s1 s5 : AV) (h : Heap) : α :=
  f117_4 o c n k n s0 s1 s5 h
theorem f117_3_ok : R Pq o c n (cB (cA (cB b117))) (f117_2K o c n k w) = fun t _ h => f117_3 o c n k (t 0) (t 1) (t 5) h := (kblk (f117_4_ok o c n k w)).tk
noncomputable def f117_1 (s0 s1 : AV) (h : Heap) : α :=
  f117_3 o c n k s0 s1 (.i .i64 0) h
theorem f117_1_ok : R Pq o c n (cB b117) (kend Pq o c n w rs117 k) = fun t _ h => f117_1 o c n k (t 0) (t 1) h := (kseq rfl (kseq (f117_3_ok o c n k w) rfl)).tk
noncomputable def f117 (a0 a1 : AV) (h : Heap) : α :=
  f117_1 o c n k a0 a1 h
theorem f117_ok : R Pq o c n b117 (kend Pq o c n w rs117 k) = fun t _ h => f117 o c n k (t 0) (t 1) h := (kseq (f117_1_ok o c n k w) rfl).tk
theorem f117_good : Good Pq (cfg mm) 117 (entF Pq (cfg mm) 117 2 fun α => f117) := entG b117 rs117 18 fun _ => f117_ok
noncomputable def b118 := bdy Tryz.f118
noncomputable def rs118 := Tryz.f118.results.toList
noncomputable def f118 {α : Type} (o : α) (c : Call' α) (n : Nat) (k : AV → Heap → α) (a0 : AV) (h : Heap) : α :=
  dreg o h 10 fun base h => nilChk o a0 fun v1 => faF o 2 v1 fun v2 => rootF o v2 a0 <| load1F o (h.look 7) v2 fun v3 => nilChk o a0 fun v4 => faF o 0 v4 fun v5 => rootF o v5 a0 <| load1F o (h.look 112) v5 fun v6 => lenF o v6 fun v7 => lssF Pq o 3 v3 v7 fun v8 => hb h.shut fun h => ifF o v8 (dreg o h 12 fun base h => nilChk o a0 fun v9 => faF o 0 v9 fun v10 => rootF o v10 a0 <| load1F o (h.look 7) v10 fun v11 => nilChk o a0 fun v12 => faF o 2 v12 fun v13 => rootF o v13 a0 <| load1F o (h.look 112) v13 fun v14 => ixF o 3 v11 v14 fun v15 => faF o 2 v15 fun v16 => load1F o (h.look 1023) v16 fun v17 => hb h.shut fun h => k v17 h) (nilChk o a0 fun v18 => faF o 1 v18 fun v19 => load1F o h v19 fun v20 => k v20 h)
theorem f118_ok : R Pq o c n b118 (kend Pq o c n w rs118 k) = fun t _ h => f118 o c n k (t 0) h := by kernel_rfl
theorem f118_good : Good Pq (cfg mm) 118 (entF Pq (cfg mm) 118 1 fun α => f118) := entG b118 rs118 28 fun _ => f118_ok
noncomputable def b119 := bdy Tryz.f119
noncomputable def rs119 := Tryz.f119.results.toList
noncomputable def f119_2K : Ex → K α := (nxK (R Pq o c n (cB (cB b119)) (kend Pq o c n w rs119 k)) (kend Pq o c n w rs119 k))
noncomputable def f119_3 {α : Type} (o : α) (c : Call' α) (n : Nat) (k : AV → Heap → α) (s0 s5 s9 : AV) (h : Heap) : α :=
  pickF o s5 s9 (.b false) fun v1 => bkF o true v1 (nesF Pq o 9 s0 (.s 6 113723913172051) fun v2 => pickF o v1 v2 (.b false) fun v3 => k v3 h) (pickF o v1 (.tup []) (.b false) fun v4 => k v4 h)
theorem f119_3_ok : Q Pq o c (cO (cA (cB b119))) (f119_2K o c n k w) 7 = fun t _ h => f119_3 o c n k (t 0) (t 5) (t 9) h := (q_seg 7 9 (by kernel_rfl) (q_guard 9 11 (8, true) (by kernel_rfl) (by kernel_rfl) (by kernel_rfl) rfl)).tk
noncomputable def f119_1 (s0 : AV) (h : Heap) : α :=
  nesF Pq o 9 s0 (.s 0 0) fun v5 => bkF o true v5 (sxF o s0 (.i .i64 0) fun v6 => convA Pq o 5 21 v6 fun v7 => c 128 [v7] h fun v8 h => pk k v8 h <| f119_3 o c n k s0 v5 v8 h) (f119_3 o c n k s0 v5 (.tup []) h)
theorem f119_1_ok : R Pq o c n (cB b119) (kend Pq o c n w rs119 k) = fun t _ h => f119_1 o c n k (t 0) h := (kseq rfl (r_start 3 (by kernel_rfl) (q_guard 3 7 (2, true) (by kernel_rfl) (by kernel_rfl) (by kernel_rfl) (f119_3_ok o c n k w)))).tk
noncomputable def f119 (a0 : AV) (h : Heap) : α :=
  f119_1 o c n k a0 h
theorem f119_ok : R Pq o c n b119 (kend Pq o c n w rs119 k) = fun t _ h => f119 o c n k (t 0) h := (kseq (f119_1_ok o c n k w) rfl).tk
theorem f119_good : Good Pq (cfg mm) 119 (entF Pq (cfg mm) 119 1 fun α => f119) := entG b119 rs119 15 fun _ => f119_ok
noncomputable def b120 := bdy Tryz.f120
noncomputable def rs120 := Tryz.f120.results.toList
noncomputable def f120 {α : Type} (o : α) (c : Call' α) (n : Nat) (k : AV → Heap → α) (a0 : AV) (h : Heap) : α :=
  nilChk o a0 fun v1 => faF o 5 v1 fun v2 => load1F o h v2 fun v3 => gtrF Pq o 3 v3 (.i .i64 40) fun v4 => ifF o v4 (c 74 [a0, (.i .i64 4)] h fun v5 h => pk k v5 h <| k (.b false) h) (nilChk o a0 fun v6 => faF o 5 v6 fun v7 => load1F o h v7 fun v8 => addF Pq o 3 v8 (.i .i64 1) fun v9 => nilChk o a0 fun v10 => faF o 5 v10 fun v11 => storeF o h 1 v11 v9 fun h => k (.b true) h)
theorem f120_ok : R Pq o c n b120 (kend Pq o c n w rs120 k) = fun t _ h => f120 o c n k (t 0) h := by kernel_rfl
theorem f120_good : Good Pq (cfg mm) 120 (entF Pq (cfg mm) 120 1 fun α => f120) := entG b120 rs120 17 fun _ => f120_ok
noncomputable def b124 := bdy Tryz.f124
noncomputable def rs124 := Tryz.f124.results.toList
noncomputable def f124_4K : Ex → K α := (nxK (R Pq o c n (cB (cB (cB (cB b124)))) (kend Pq o c n w rs124 k)) (kend Pq o c n w rs124 k))
noncomputable def f124_6K (lp0 : AVs (Heap → α) 4) : Ex → K α := (nxK (fun t _ h => lp0 (t 0) (t 1) (t 4) (t 5) h) (blockK (cI (cA (cB (cB (cB b124))))) (f124_4K o c n k w)))
noncomputable def f124_7K (lp0 : AVs (Heap → α) 4) : Ex → K α := (nxK (R Pq o c n (cB (cA (cA (cA (cB (cB (cB b124))))))) (f124_6K o c n k w lp0)) (f124_6K o c n k w lp0))
noncomputable def f124_8K (lp0 : AVs (Heap → α) 4) : Ex → K α := (nxK (R Pq o c n (cB (cA (cA (cA (cA (cB (cB (cB b124)))))))) (f124_7K o c n k w lp0)) (f124_7K o c n k w lp0))
noncomputable def f124_23 {α : Type} (o : α) (c : Call' α) (n : Nat) (k : AV → Heap → α) (lp0 : AVs (Heap → α) 4) (base : Nat) (s0 s1 s4 s5 s18 s32 : AV) (h : Heap) : α :=
  pickF o s18 s32 (.b false) fun v1 => hb h.shut fun h => ifF o v1 (dreg o h 12 fun base h => nilChk o s0 fun v2 => faF o 0 v2 fun v3 => rootF o v3 s0 <| load1F o (h.look 7) v3 fun v4 => nilChk o s0 fun v5 => faF o 2 v5 fun v6 => rootF o v6 s0 <| load1F o (h.look 112) v6 fun v7 => ixF o 3 v4 v7 fun v8 => faF o 1 v8 fun v9 => load1F o (h.look 1023) v9 fun v10 => hb h.shut fun h => nilChk o s0 fun v11 => faF o 2 v11 fun v12 => load1F o h v12 fun v13 => addF Pq o 3 v13 (.i .i64 1) fun v14 => nilChk o s0 fun v15 => faF o 2 v15 fun v16 => storeF o h 1 v16 v14 fun h => addF Pq o 3 s1 (.i .i64 1) fun v17 => c 124 [s0, v17] h fun v18 h => pk k v18 h <| newF h h.next 8 [(.i .i64 0), (.i .i32 0), (.s 0 0), (.s 0 0), (.s 0 0), .nsl, (.s 0 0), (.i .i64 0)] fun v19 h => storeF o h 8 v19 v18 fun h => loadNF o h 8 s5 fun v20 => loadNF o h 8 v19 fun v21 => fil1 o 8 2 0 v20 [[(.i .i64 0), (.i .i32 0), (.s 0 0), (.s 0 0), (.s 0 0), .nsl, (.s 0 0), (.i .i64 0)], [(.i .i64 0), (.i .i32 0), (.s 0 0), (.s 0 0), (.s 0 0), .nsl, (.s 0 0), (.i .i64 0)]] fun v22 => fil1 o 8 2 1 v21 v22 fun v23 => newEF h h.next 8 2 v23 fun v24 h => layF o 0 (.i .i64 17) [(.i .i64 0), (.i .i32 0), (.s 0 0), (.s 0 0), (.s 0 0), .nsl, (.s 0 0), (.i .i64 0)] fun v25 => layF o 3 v10 v25 fun v26 => layF o 5 v24 v26 fun v27 => storeF o h 8 s5 (.agg v27) fun h => lp0 s0 s1 s4 s5 h) (loadNF o h 8 s5 fun v28 => storeF o h 8 s4 v28 fun h => on o (resV Pq h [(s4, some 127)]) fun v => k v h)
theorem f124_23_ok (lp0 : AVs (Heap → α) 4) (base : Nat) : QD Pq o c (cO (cA (cA (cA (cA (cA (cB (cB (cB b124))))))))) base ((f124_8K o c n k w lp0)) 17 = fun t _ h => f124_23 o c n k lp0 base (t 0) (t 1) (t 4) (t 5) (t 18) (t 32) h := by kernel_rfl
noncomputable def f124_22 (lp0 : AVs (Heap → α) 4) (base : Nat) (s0 s1 s4 s5 s18 s30 s31 : AV) (h : Heap) : α :=
  bkF o true s18 (eqiF Pq o 3 s30 s31 fun v29 => f124_23 o c n k lp0 base s0 s1 s4 s5 s18 v29 (h.look 0)) (f124_23 o c n k lp0 base s0 s1 s4 s5 s18 (.tup []) (h.look 0))
theorem f124_22_ok (lp0 : AVs (Heap → α) 4) (base : Nat) : QD Pq o c (cO (cA (cA (cA (cA (cA (cB (cB (cB b124))))))))) base ((f124_8K o c n k w lp0)) 16 = fun t _ h => f124_22 o c n k lp0 base (t 0) (t 1) (t 4) (t 5) (t 18) (t 30) (t 31) h := (qd_seg 16 17 (by kernel_rfl) (f124_23_ok o c n k w lp0 base)).tk
noncomputable def f124_21 (lp0 : AVs (Heap → α) 4) (base : Nat) (s0 s1 s4 s5 s18 s30 : AV) (h : Heap) : α :=
  bkF o true s18 (f124_22 o c n k lp0 base s0 s1 s4 s5 s18 s30 s1 (h.look 0)) (f124_22 o c n k lp0 base s0 s1 s4 s5 s18 s30 (.tup []) (h.look 0))
theorem f124_21_ok (lp0 : AVs (Heap → α) 4) (base : Nat) : QD Pq o c (cO (cA (cA (cA (cA (cA (cB (cB (cB b124))))))))) base ((f124_8K o c n k w lp0)) 15 = fun t _ h => f124_21 o c n k lp0 base (t 0) (t 1) (t 4) (t 5) (t 18) (t 30) h := (qd_seg 15 16 (by kernel_rfl) (f124_22_ok o c n k w lp0 base)).tk
noncomputable def f124_20 (lp0 : AVs (Heap → α) 4) (base : Nat) (s0 s1 s4 s5 s18 s29 : AV) (h : Heap) : α :=
  bkF o true s18 (callD o c [] 182 [s29] h fun v30 h => pnF v30 (fun x => hb h.shut fun hd => bkF o true s18 (k x.pn hd) (k x.pn hd)) <| f124_21 o c n k lp0 base s0 s1 s4 s5 s18 v30 h) (f124_21 o c n k lp0 base s0 s1 s4 s5 s18 (.tup []) h)
theorem f124_20_ok (lp0 : AVs (Heap → α) 4) (base : Nat) : QD Pq o c (cO (cA (cA (cA (cA (cA (cB (cB (cB b124))))))))) base ((f124_8K o c n k w lp0)) 14 = fun t _ h => f124_20 o c n k lp0 base (t 0) (t 1) (t 4) (t 5) (t 18) (t 29) h := (qd_seg 14 15 (by kernel_rfl) (f124_21_ok o c n k w lp0 base)).tk
noncomputable def f124_19 (lp0 : AVs (Heap → α) 4) (base : Nat) (s0 s1 s4 s5 s18 s28 : AV) (h : Heap) : α :=
  bkF o true s18 (load1F o (h.look 8191) s28 fun v31 => f124_20 o c n k lp0 base s0 s1 s4 s5 s18 v31 (h.look 0)) (f124_20 o c n k lp0 base s0 s1 s4 s5 s18 (.tup []) (h.look 0))
theorem f124_19_ok (lp0 : AVs (Heap → α) 4) (base : Nat) : QD Pq o c (cO (cA (cA (cA (cA (cA (cB (cB (cB b124))))))))) base ((f124_8K o c n k w lp0)) 13 = fun t _ h => f124_19 o c n k lp0 base (t 0) (t 1) (t 4) (t 5) (t 18) (t 28) h := (qd_seg 13 14 (by kernel_rfl) (f124_20_ok o c n k w lp0 base)).tk
noncomputable def f124_18 (lp0 : AVs (Heap → α) 4) (base : Nat) (s0 s1 s4 s5 s18 s27 : AV) (h : Heap) : α :=
  bkF o true s18 (faF o 1 s27 fun v32 => f124_19 o c n k lp0 base s0 s1 s4 s5 s18 v32 (h.look 0)) (f124_19 o c n k lp0 base s0 s1 s4 s5 s18 (.tup []) (h.look 0))
theorem f124_18_ok (lp0 : AVs (Heap → α) 4) (base : Nat) : QD Pq o c (cO (cA (cA (cA (cA (cA (cB (cB (cB b124))))))))) base ((f124_8K o c n k w lp0)) 12 = fun t _ h => f124_18 o c n k lp0 base (t 0) (t 1) (t 4) (t 5) (t 18) (t 27) h := (qd_seg 12 13 (by kernel_rfl) (f124_19_ok o c n k w lp0 base)).tk
noncomputable def f124_17 (lp0 : AVs (Heap → α) 4) (base : Nat) (s0 s1 s4 s5 s18 s22 s26 : AV) (h : Heap) : α :=
  bkF o true s18 (ixF o 3 s22 s26 fun v33 => f124_18 o c n k lp0 base s0 s1 s4 s5 s18 v33 (h.look 0)) (f124_18 o c n k lp0 base s0 s1 s4 s5 s18 (.tup []) (h.look 0))
theorem f124_17_ok (lp0 : AVs (Heap → α) 4) (base : Nat) : QD Pq o c (cO (cA (cA (cA (cA (cA (cB (cB (cB b124))))))))) base ((f124_8K o c n k w lp0)) 11 = fun t _ h => f124_17 o c n k lp0 base (t 0) (t 1) (t 4) (t 5) (t 18) (t 22) (t 26) h := (qd_seg 11 12 (by kernel_rfl) (f124_18_ok o c n k w lp0 base)).tk
noncomputable def f124_16 (lp0 : AVs (Heap → α) 4) (base : Nat) (s0 s1 s4 s5 s18 s22 s25 : AV) (h : Heap) : α :=
  rootF o s25 s0 <| bkF o true s18 (load1F o (h.look 903) s25 fun v34 => f124_17 o c n k lp0 base s0 s1 s4 s5 s18 s22 v34 (h.look 0)) (f124_17 o c n k lp0 base s0 s1 s4 s5 s18 s22 (.tup []) (h.look 0))
theorem f124_16_ok (lp0 : AVs (Heap → α) 4) (base : Nat) : QD Pq o c (cO (cA (cA (cA (cA (cA (cB (cB (cB b124))))))))) base ((f124_8K o c n k w lp0)) 10 = fun t _ h => f124_16 o c n k lp0 base (t 0) (t 1) (t 4) (t 5) (t 18) (t 22) (t 25) h := (qd_seg 10 11 (by kernel_rfl) (f124_17_ok o c n k w lp0 base)).tk
noncomputable def f124_15 (lp0 : AVs (Heap → α) 4) (base : Nat) (s0 s1 s4 s5 s18 s22 s24 : AV) (h : Heap) : α :=
  bkF o true s18 (faF o 2 s24 fun v35 => f124_16 o c n k lp0 base s0 s1 s4 s5 s18 s22 v35 (h.look 0)) (f124_16 o c n k lp0 base s0 s1 s4 s5 s18 s22 (.tup []) (h.look 0))
theorem f124_15_ok (lp0 : AVs (Heap → α) 4) (base : Nat) : QD Pq o c (cO (cA (cA (cA (cA (cA (cB (cB (cB b124))))))))) base ((f124_8K o c n k w lp0)) 9 = fun t _ h => f124_15 o c n k lp0 base (t 0) (t 1) (t 4) (t 5) (t 18) (t 22) (t 24) h := (qd_seg 9 10 (by kernel_rfl) (f124_16_ok o c n k w lp0 base)).tk
noncomputable def f124_14 (lp0 : AVs (Heap → α) 4) (base : Nat) (s0 s1 s4 s5 s18 s22 s23 : AV) (h : Heap) : α :=
  bkF o true s18 (nilChk o s23 fun v36 => f124_15 o c n k lp0 base s0 s1 s4 s5 s18 s22 v36 (h.look 0)) (f124_15 o c n k lp0 base s0 s1 s4 s5 s18 s22 (.tup []) (h.look 0))
theorem f124_14_ok (lp0 : AVs (Heap → α) 4) (base : Nat) : QD Pq o c (cO (cA (cA (cA (cA (cA (cB (cB (cB b124))))))))) base ((f124_8K o c n k w lp0)) 8 = fun t _ h => f124_14 o c n k lp0 base (t 0) (t 1) (t 4) (t 5) (t 18) (t 22) (t 23) h := (qd_seg 8 9 (by kernel_rfl) (f124_15_ok o c n k w lp0 base)).tk
noncomputable def f124_13 (lp0 : AVs (Heap → α) 4) (base : Nat) (s0 s1 s4 s5 s18 s22 : AV) (h : Heap) : α :=
  bkF o true s18 (f124_14 o c n k lp0 base s0 s1 s4 s5 s18 s22 s0 (h.look 0)) (f124_14 o c n k lp0 base s0 s1 s4 s5 s18 s22 (.tup []) (h.look 0))
theorem f124_13_ok (lp0 : AVs (Heap → α) 4) (base : Nat) : QD Pq o c (cO (cA (cA (cA (cA (cA (cB (cB (cB b124))))))))) base ((f124_8K o c n k w lp0)) 7 = fun t _ h => f124_13 o c n k lp0 base (t 0) (t 1) (t 4) (t 5) (t 18) (t 22) h := (qd_seg 7 8 (by kernel_rfl) (f124_14_ok o c n k w lp0 base)).tk
noncomputable def f124_12 (lp0 : AVs (Heap → α) 4) (base : Nat) (s0 s1 s4 s5 s18 s21 : AV) (h : Heap) : α :=
  rootF o s21 s0 <| bkF o true s18 (load1F o (h.look 63) s21 fun v37 => f124_13 o c n k lp0 base s0 s1 s4 s5 s18 v37 (h.look 0)) (f124_13 o c n k lp0 base s0 s1 s4 s5 s18 (.tup []) (h.look 0))
theorem f124_12_ok (lp0 : AVs (Heap → α) 4) (base : Nat) : QD Pq o c (cO (cA (cA (cA (cA (cA (cB (cB (cB b124))))))))) base ((f124_8K o c n k w lp0)) 6 = fun t _ h => f124_12 o c n k lp0 base (t 0) (t 1) (t 4) (t 5) (t 18) (t 21) h := (qd_seg 6 7 (by kernel_rfl) (f124_13_ok o c n k w lp0 base)).tk
noncomputable def f124_11 (lp0 : AVs (Heap → α) 4) (base : Nat) (s0 s1 s4 s5 s18 s20 : AV) (h : Heap) : α :=
  bkF o true s18 (faF o 0 s20 fun v38 => f124_12 o c n k lp0 base s0 s1 s4 s5 s18 v38 (h.look 0)) (f124_12 o c n k lp0 base s0 s1 s4 s5 s18 (.tup []) (h.look 0))
theorem f124_11_ok (lp0 : AVs (Heap → α) 4) (base : Nat) : QD Pq o c (cO (cA (cA (cA (cA (cA (cB (cB (cB b124))))))))) base ((f124_8K o c n k w lp0)) 5 = fun t _ h => f124_11 o c n k lp0 base (t 0) (t 1) (t 4) (t 5) (t 18) (t 20) h := (qd_seg 5 6 (by kernel_rfl) (f124_12_ok o c n k w lp0 base)).tk
noncomputable def f124_10 (lp0 : AVs (Heap → α) 4) (base : Nat) (s0 s1 s4 s5 s18 s19 : AV) (h : Heap) : α :=
  bkF o true s18 (nilChk o s19 fun v39 => f124_11 o c n k lp0 base s0 s1 s4 s5 s18 v39 (h.look 0)) (f124_11 o c n k lp0 base s0 s1 s4 s5 s18 (.tup []) (h.look 0))
theorem f124_10_ok (lp0 : AVs (Heap → α) 4) (base : Nat) : QD Pq o c (cO (cA (cA (cA (cA (cA (cB (cB (cB b124))))))))) base ((f124_8K o c n k w lp0)) 4 = fun t _ h => f124_10 o c n k lp0 base (t 0) (t 1) (t 4) (t 5) (t 18) (t 19) h := (qd_seg 4 5 (by kernel_rfl) (f124_11_ok o c n k w lp0 base)).tk
noncomputable def f124_9 (lp0 : AVs (Heap → α) 4) (base : Nat) (s0 s1 s4 s5 s17 : AV) (h : Heap) : α :=
  bkF o true s17 (f124_10 o c n k lp0 base s0 s1 s4 s5 s17 s0 (h.look 0)) (f124_10 o c n k lp0 base s0 s1 s4 s5 s17 (.tup []) (h.look 0))
theorem f124_9_ok (lp0 : AVs (Heap → α) 4) (base : Nat) : QD Pq o c (cO (cA (cA (cA (cA (cA (cB (cB (cB b124))))))))) base ((f124_8K o c n k w lp0)) 2 = fun t _ h => f124_9 o c n k lp0 base (t 0) (t 1) (t 4) (t 5) (t 17) h := (qd_seg 2 4 (by kernel_rfl) (f124_10_ok o c n k w lp0 base)).tk
noncomputable def f124_5 (m : Nat) : AVs (Heap → α) 4 :=
  Nat.rec (motive := fun _ => AVs (Heap → α) 4) (fun _ _ _ _ _ => o) (fun _ lp0 s0 s1 s4 s5 h => dreg o h 18 fun base h => callD o c [] 78 [s0, (.i .i64 0), (.i .i64 4), (.s 0 0)] (h.look 0) fun v40 h => pnF v40 (fun x => hb h.shut fun hd => k x.pn hd) <| f124_9 o c n k lp0 base s0 s1 s4 s5 v40 h) m
theorem f124_5_ok : R Pq o c n (cA (cA (cB (cB (cB b124))))) (blockK (cI (cA (cB (cB (cB b124))))) (f124_4K o c n k w)) = fun t _ h => f124_5 o c n k n (t 0) (t 1) (t 4) (t 5) h :=
  c_loop (F := fun m t _ h => f124_5 o c n k m (t 0) (t 1) (t 4) (t 5) h) (by kernel_rfl) (by kernel_rfl) fun m => (kseq rfl (kseq rfl (r_startD 2 (by kernel_rfl) (by kernel_rfl) (X := fun base => fun t _ h => f124_9 o c n k (f124_5 o c n k m) base (t 0) (t 1) (t 4) (t 5) (t 17) h) (fun base => f124_9_ok o c n k w (f124_5 o c n k m) base)))).tk
noncomputable def f124_3 (s0 s1 s4 s5 : AV) (h : Heap) : α :=
  f124_5 o c n k n s0 s1 s4 s5 h
theorem f124_3_ok : R Pq o c n (cB (cB (cB b124))) (kend Pq o c n w rs124 k) = fun t _ h => f124_3 o c n k (t 0) (t 1) (t 4) (t 5) h := (kseq rfl (kblk (f124_5_ok o c n k w))).tk
noncomputable def f124_2 (s0 s1 s4 : AV) (h : Heap) : α :=
  addF Pq o 3 s1 (.i .i64 1) fun v41 => c 124 [s0, v41] h fun v42 h => pk k v42 h <| newF h h.next 8 [(.i .i64 0), (.i .i32 0), (.s 0 0), (.s 0 0), (.s 0 0), .nsl, (.s 0 0), (.i .i64 0)] fun v43 h => storeF o h 8 v43 v42 fun h => f124_3 o c n k s0 s1 s4 v43 h
theorem f124_2_ok : R Pq o c n (cB (cB b124)) (kend Pq o c n w rs124 k) = fun t _ h => f124_2 o c n k (t 0) (t 1) (t 4) h := (kseq (f124_3_ok o c n k w) rfl).tk
noncomputable def f124_1 (s0 s1 s4 : AV) (h : Heap) : α :=
  gtrF Pq o 3 s1 (.i .i64 6) fun v44 => ifF o v44 (c 181 [s0] h fun v45 h => pk k v45 h <| storeF o h 8 s4 v45 fun h => on o (resV Pq h [(s4, some 127)]) fun v => k v h) (f124_2 o c n k s0 s1 s4 h)
theorem f124_1_ok : R Pq o c n (cB b124) (kend Pq o c n w rs124 k) = fun t _ h => f124_1 o c n k (t 0) (t 1) (t 4) h := (kseq (f124_2_ok o c n k w) rfl).tk
noncomputable def f124 (a0 a1 : AV) (h : Heap) : α :=
  newF h h.next 8 [(.i .i64 0), (.i .i32 0), (.s 0 0), (.s 0 0), (.s 0 0), .nsl, (.s 0 0), (.i .i64 0)] fun v46 h => f124_1 o c n k a0 a1 v46 h
theorem f124_ok : R Pq o c n b124 (kend Pq o c n w rs124 k) = fun t _ h => f124 o c n k (t 0) (t 1) h := (kseq (f124_1_ok o c n k w) rfl).tk
theorem f124_good : Good Pq (cfg mm) 124 (entF Pq (cfg mm) 124 2 fun α => f124) := entG b124 rs124 62 fun _ => f124_ok
end Go.Zev.Su
