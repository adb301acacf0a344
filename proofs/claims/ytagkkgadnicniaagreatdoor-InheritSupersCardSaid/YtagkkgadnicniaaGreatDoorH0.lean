/-
  Printed by zgen.py: clean forms.
-/
import Derived.Test.YtagkkgadnicniaaGreatDoorZ3
import Derived.Test.YtagkkgadnicniaaGreatDoorProg
import Derived.KernelRfl
set_option linter.unusedVariables false
set_option maxRecDepth 20000
namespace Go.Zev.Is
open Go Go.Zev Go.Proofs
noncomputable abbrev Pq : Program := Tryz.prog
noncomputable def cfg (memo : FuncId → Option (List AV → Option AV)) : Cfg := ⟨fun f => Nat.beq f 34 || Nat.beq f 35 || Nat.beq f 95 || Nat.beq f 105 || Nat.beq f 109 || Nat.beq f 110 || Nat.beq f 111 || Nat.beq f 182 || Nat.beq f 189 || Nat.beq f 285, fun f => Bool.rec (motive := fun _ => Nat) (Bool.rec (motive := fun _ => Nat) 512 511 (Nat.beq f 13 || Nat.beq f 36 || Nat.beq f 37 || Nat.beq f 38)) 510 (Nat.beq f 17 || Nat.beq f 40 || Nat.beq f 46 || Nat.beq f 49), memo, fun f => Nat.beq f 191⟩
variable {mm : FuncId → Option (List AV → Option AV)}
noncomputable def b4 := bdy Tryz.f4
noncomputable def rs4 := Tryz.f4.results.toList
variable {α : Type} (o : α) (c : Call' α) (n : Nat) (k : AV → Heap → α) (w : FuncId → Nat)
noncomputable def f4_8K : Ex → K α := (nxK (R Pq o c n (cB (cB (cB (cB (cB (cB (cB (cB b4)))))))) (kend Pq o c n w rs4 k)) (kend Pq o c n w rs4 k))
noncomputable def f4_11K (lp0 : AVs (Heap → α) 3) : Ex → K α := (nxK (fun t _ h => lp0 (t 5) (t 9) (t 10) h) (blockK (cI (cB (cA (cB (cB (cB (cB (cB (cB (cB b4)))))))))) (f4_8K o c n k w)))
noncomputable def f4_13 {α : Type} (o : α) (c : Call' α) (n : Nat) (k : AV → Heap → α) (lp0 : AVs (Heap → α) 3) (s5 s9 s10 : AV) (h : Heap) : α :=
  addF Pq o 3 s10 (.i .i64 1) fun v1 => lp0 s5 s9 v1 h
theorem f4_13_ok (lp0 : AVs (Heap → α) 3) : R Pq o c n (cB (cB (cA (cA (cB (cA (cB (cB (cB (cB (cB (cB (cB b4))))))))))))) (f4_11K o c n k w lp0) = fun t _ h => f4_13 o c n k lp0 (t 5) (t 9) (t 10) h := by kernel_rfl
noncomputable def f4_14K (lp0 : AVs (Heap → α) 3) : Ex → K α := (nxK (fun t _ h => f4_13 o c n k lp0 (t 5) (t 9) (t 10) h) (f4_11K o c n k w lp0))
noncomputable def f4_18K (lp0 : AVs (Heap → α) 3) (lp1 : AVs (Heap → α) 4) : Ex → K α := (nxK (fun t _ h => lp1 (t 5) (t 9) (t 10) (t 11) h) (blockK (cI (cB (cB (cA (cA (cB (cA (cA (cB (cA (cB (cB (cB (cB (cB (cB (cB b4))))))))))))))))) (blockK (cI (cA (cB (cA (cA (cB (cA (cB (cB (cB (cB (cB (cB (cB b4)))))))))))))) (f4_14K o c n k w lp0))))
noncomputable def f4_20 {α : Type} (o : α) (c : Call' α) (n : Nat) (k : AV → Heap → α) (lp0 : AVs (Heap → α) 3) (lp1 : AVs (Heap → α) 4) (s5 s9 s10 s11 : AV) (h : Heap) : α :=
  addF Pq o 3 s11 (.i .i64 1) fun v2 => lp1 s5 s9 s10 v2 h
theorem f4_20_ok (lp0 : AVs (Heap → α) 3) (lp1 : AVs (Heap → α) 4) : R Pq o c n (cB (cB (cA (cA (cB (cB (cA (cA (cB (cA (cA (cB (cA (cB (cB (cB (cB (cB (cB (cB b4)))))))))))))))))))) (f4_18K o c n k w lp0 lp1) = fun t _ h => f4_20 o c n k lp0 lp1 (t 5) (t 9) (t 10) (t 11) h := by kernel_rfl
noncomputable def f4_21K (lp0 : AVs (Heap → α) 3) (lp1 : AVs (Heap → α) 4) : Ex → K α := (nxK (fun t _ h => f4_20 o c n k lp0 lp1 (t 5) (t 9) (t 10) (t 11) h) (f4_18K o c n k w lp0 lp1))
noncomputable def f4_23 (lp0 : AVs (Heap → α) 3) (lp1 : AVs (Heap → α) 4) (s5 s9 s10 s11 s126 : AV) (h : Heap) : α :=
  ifF o s126 (k (.b false) h) (f4_20 o c n k lp0 lp1 s5 s9 s10 s11 h)
theorem f4_23_ok (lp0 : AVs (Heap → α) 3) (lp1 : AVs (Heap → α) 4) : R Pq o c n (cB (cB (cA (cA (cB (cA (cA (cB (cB (cA (cA (cB (cA (cA (cB (cA (cB (cB (cB (cB (cB (cB (cB b4))))))))))))))))))))))) (blockK (cI (cA (cB (cA (cA (cB (cB (cA (cA (cB (cA (cA (cB (cA (cB (cB (cB (cB (cB (cB (cB b4))))))))))))))))))))) (f4_21K o c n k w lp0 lp1)) = fun t _ h => f4_23 o c n k lp0 lp1 (t 5) (t 9) (t 10) (t 11) (t 126) h := by kernel_rfl
noncomputable def f4_24K (lp0 : AVs (Heap → α) 3) (lp1 : AVs (Heap → α) 4) : Ex → K α := (nxK (fun t _ h => f4_23 o c n k lp0 lp1 (t 5) (t 9) (t 10) (t 11) (t 126) h) (blockK (cI (cA (cB (cA (cA (cB (cB (cA (cA (cB (cA (cA (cB (cA (cB (cB (cB (cB (cB (cB (cB b4))))))))))))))))))))) (f4_21K o c n k w lp0 lp1)))
noncomputable def f4_26 (lp0 : AVs (Heap → α) 3) (lp1 : AVs (Heap → α) 4) (s5 s9 s10 s11 s109 s115 s120 : AV) (h : Heap) : α :=
  bkF o false s109 (pickF o s115 (.b true) s120 fun v3 => neiF Pq o 3 s11 s10 fun v4 => neiF Pq o 4 v3 v4 fun v5 => pickF o s109 (.b true) v5 fun v6 => f4_23 o c n k lp0 lp1 s5 s9 s10 s11 v6 h) (pickF o s109 (.b true) (.tup []) fun v7 => f4_23 o c n k lp0 lp1 s5 s9 s10 s11 v7 h)
theorem f4_26_ok (lp0 : AVs (Heap → α) 3) (lp1 : AVs (Heap → α) 4) : Q Pq o c (cO (cA (cB (cA (cA (cB (cA (cA (cB (cB (cA (cA (cB (cA (cA (cB (cA (cB (cB (cB (cB (cB (cB (cB b4)))))))))))))))))))))))) (f4_24K o c n k w lp0 lp1) 15 = fun t _ h => f4_26 o c n k lp0 lp1 (t 5) (t 9) (t 10) (t 11) (t 109) (t 115) (t 120) h := (q_seg 15 15 (by kernel_rfl) (q_guard 15 20 (3, false) (by kernel_rfl) (by kernel_rfl) (by kernel_rfl) rfl)).tk
noncomputable def f4_25 (lp0 : AVs (Heap → α) 3) (lp1 : AVs (Heap → α) 4) (s5 s9 s10 s11 s12 s109 s115 : AV) (h : Heap) : α :=
  bkF o false s115 (ixF o 8 s12 (.i .i64 0) fun v8 => faF o 0 v8 fun v9 => load1F o h v9 fun v10 => eqiF Pq o 3 v10 (.i .i64 12) fun v11 => f4_26 o c n k lp0 lp1 s5 s9 s10 s11 s109 s115 v11 h) (f4_26 o c n k lp0 lp1 s5 s9 s10 s11 s109 s115 (.tup []) h)
theorem f4_25_ok (lp0 : AVs (Heap → α) 3) (lp1 : AVs (Heap → α) 4) : Q Pq o c (cO (cA (cB (cA (cA (cB (cA (cA (cB (cB (cA (cA (cB (cA (cA (cB (cA (cB (cB (cB (cB (cB (cB (cB b4)))))))))))))))))))))))) (f4_24K o c n k w lp0 lp1) 10 = fun t _ h => f4_25 o c n k lp0 lp1 (t 5) (t 9) (t 10) (t 11) (t 12) (t 109) (t 115) h := (q_seg 10 10 (by kernel_rfl) (q_guard 10 15 (9, false) (by kernel_rfl) (by kernel_rfl) (by kernel_rfl) (f4_26_ok o c n k w lp0 lp1))).tk
noncomputable def f4_22 (lp0 : AVs (Heap → α) 3) (lp1 : AVs (Heap → α) 4) (s5 s9 s10 s11 s12 : AV) (h : Heap) : α :=
  lenF o s12 fun v12 => neiF Pq o 3 v12 (.i .i64 1) fun v13 => bkF o false v13 (ixF o 8 s12 (.i .i64 0) fun v14 => faF o 0 v14 fun v15 => load1F o h v15 fun v16 => eqiF Pq o 3 v16 (.i .i64 8) fun v17 => f4_25 o c n k lp0 lp1 s5 s9 s10 s11 s12 v13 v17 h) (f4_25 o c n k lp0 lp1 s5 s9 s10 s11 s12 v13 (.tup []) h)
theorem f4_22_ok (lp0 : AVs (Heap → α) 3) (lp1 : AVs (Heap → α) 4) : R Pq o c n (cB (cA (cA (cB (cA (cA (cB (cB (cA (cA (cB (cA (cA (cB (cA (cB (cB (cB (cB (cB (cB (cB b4)))))))))))))))))))))) (blockK (cI (cA (cB (cA (cA (cB (cB (cA (cA (cB (cA (cA (cB (cA (cB (cB (cB (cB (cB (cB (cB b4))))))))))))))))))))) (f4_21K o c n k w lp0 lp1)) = fun t _ h => f4_22 o c n k lp0 lp1 (t 5) (t 9) (t 10) (t 11) (t 12) h := (kseq (f4_23_ok o c n k w lp0 lp1) (r_start 4 (by kernel_rfl) (q_guard 4 10 (3, false) (by kernel_rfl) (by kernel_rfl) (by kernel_rfl) (f4_25_ok o c n k w lp0 lp1)))).tk
noncomputable def f4_19 (lp0 : AVs (Heap → α) 3) (lp1 : AVs (Heap → α) 4) (s5 s9 s10 s11 : AV) (h : Heap) : α :=
  ixF o 4 s9 s10 fun v18 => faF o 3 v18 fun v19 => faF o 0 v19 fun v20 => load1F o h v20 fun v21 => ixF o 4 v21 (.i .i64 1) fun v22 => faF o 3 v22 fun v23 => load1F o h v23 fun v24 => ixF o 6 v24 (.i .i64 1) fun v25 => faF o 5 v25 fun v26 => load1F o h v26 fun v27 => ixF o 9 v27 s11 fun v28 => faF o 4 v28 fun v29 => load1F o h v29 fun v30 => f4_22 o c n k lp0 lp1 s5 s9 s10 s11 v30 h
theorem f4_19_ok (lp0 : AVs (Heap → α) 3) (lp1 : AVs (Heap → α) 4) : R Pq o c n (cB (cA (cA (cB (cB (cA (cA (cB (cA (cA (cB (cA (cB (cB (cB (cB (cB (cB (cB b4))))))))))))))))))) (f4_18K o c n k w lp0 lp1) = fun t _ h => f4_19 o c n k lp0 lp1 (t 5) (t 9) (t 10) (t 11) h := (kseq (f4_20_ok o c n k w lp0 lp1) (kblk (kseq (f4_22_ok o c n k w lp0 lp1) rfl))).tk
noncomputable def f4_17 (lp0 : AVs (Heap → α) 3) (m : Nat) : AVs (Heap → α) 4 :=
  Nat.rec (motive := fun _ => AVs (Heap → α) 4) (fun _ _ _ _ _ => o) (fun _ lp1 s5 s9 s10 s11 h => lssF Pq o 3 s11 s5 fun v31 => ifF o v31 (f4_19 o c n k lp0 lp1 s5 s9 s10 s11 h) (f4_13 o c n k lp0 s5 s9 s10 h)) m
theorem f4_17_ok (lp0 : AVs (Heap → α) 3) : R Pq o c n (cA (cB (cB (cA (cA (cB (cA (cA (cB (cA (cB (cB (cB (cB (cB (cB (cB b4))))))))))))))))) (blockK (cI (cB (cB (cA (cA (cB (cA (cA (cB (cA (cB (cB (cB (cB (cB (cB (cB b4))))))))))))))))) (blockK (cI (cA (cB (cA (cA (cB (cA (cB (cB (cB (cB (cB (cB (cB b4)))))))))))))) (f4_14K o c n k w lp0))) = fun t _ h => f4_17 o c n k lp0 n (t 5) (t 9) (t 10) (t 11) h :=
  c_loop (F := fun m t _ h => f4_17 o c n k lp0 m (t 5) (t 9) (t 10) (t 11) h) (by kernel_rfl) (by kernel_rfl) fun m => (kseq (f4_19_ok o c n k w lp0 (f4_17 o c n k lp0 m)) rfl).tk
noncomputable def f4_16 (lp0 : AVs (Heap → α) 3) (s5 s9 s10 s11 : AV) (h : Heap) : α :=
  f4_17 o c n k lp0 n s5 s9 s10 s11 h
theorem f4_16_ok (lp0 : AVs (Heap → α) 3) : R Pq o c n (cB (cB (cA (cA (cB (cA (cA (cB (cA (cB (cB (cB (cB (cB (cB (cB b4)))))))))))))))) (blockK (cI (cA (cB (cA (cA (cB (cA (cB (cB (cB (cB (cB (cB (cB b4)))))))))))))) (f4_14K o c n k w lp0)) = fun t _ h => f4_16 o c n k lp0 (t 5) (t 9) (t 10) (t 11) h := (kblk (f4_17_ok o c n k w lp0)).tk
noncomputable def f4_15 (lp0 : AVs (Heap → α) 3) (s5 s9 s10 : AV) (h : Heap) : α :=
  f4_16 o c n k lp0 s5 s9 s10 (.i .i64 0) h
theorem f4_15_ok (lp0 : AVs (Heap → α) 3) : R Pq o c n (cB (cA (cA (cB (cA (cA (cB (cA (cB (cB (cB (cB (cB (cB (cB b4))))))))))))))) (blockK (cI (cA (cB (cA (cA (cB (cA (cB (cB (cB (cB (cB (cB (cB b4)))))))))))))) (f4_14K o c n k w lp0)) = fun t _ h => f4_15 o c n k lp0 (t 5) (t 9) (t 10) h := (kseq (f4_16_ok o c n k w lp0) rfl).tk
noncomputable def f4_27K (lp0 : AVs (Heap → α) 3) : Ex → K α := (nxK (fun t _ h => f4_15 o c n k lp0 (t 5) (t 9) (t 10) h) (blockK (cI (cA (cB (cA (cA (cB (cA (cB (cB (cB (cB (cB (cB (cB b4)))))))))))))) (f4_14K o c n k w lp0)))
noncomputable def f4_28 (lp0 : AVs (Heap → α) 3) (s5 s9 s10 s84 : AV) (h : Heap) : α :=
  ifF o s84 (k (.b false) h) (f4_15 o c n k lp0 s5 s9 s10 h)
theorem f4_28_ok (lp0 : AVs (Heap → α) 3) : R Pq o c n (cB (cA (cA (cA (cB (cA (cA (cB (cA (cB (cB (cB (cB (cB (cB (cB b4)))))))))))))))) (f4_27K o c n k w lp0) = fun t _ h => f4_28 o c n k lp0 (t 5) (t 9) (t 10) (t 84) h := by kernel_rfl
noncomputable def f4_29K (lp0 : AVs (Heap → α) 3) : Ex → K α := (nxK (fun t _ h => f4_28 o c n k lp0 (t 5) (t 9) (t 10) (t 84) h) (f4_27K o c n k w lp0))
noncomputable def f4_30 (lp0 : AVs (Heap → α) 3) (s5 s9 s10 s55 s66 : AV) (h : Heap) : α :=
  pickF o s55 (.b true) s66 fun v32 => bkF o false v32 (ixF o 4 s9 s10 fun v33 => faF o 3 v33 fun v34 => faF o 0 v34 fun v35 => load1F o h v35 fun v36 => ixF o 4 v36 (.i .i64 1) fun v37 => faF o 3 v37 fun v38 => load1F o h v38 fun v39 => ixF o 6 v39 (.i .i64 1) fun v40 => faF o 5 v40 fun v41 => load1F o h v41 fun v42 => lenF o v42 fun v43 => neiF Pq o 3 v43 s5 fun v44 => pickF o v32 (.b true) v44 fun v45 => f4_28 o c n k lp0 s5 s9 s10 v45 h) (pickF o v32 (.b true) (.tup []) fun v46 => f4_28 o c n k lp0 s5 s9 s10 v46 h)
theorem f4_30_ok (lp0 : AVs (Heap → α) 3) : Q Pq o c (cO (cA (cA (cA (cA (cB (cA (cA (cB (cA (cB (cB (cB (cB (cB (cB (cB b4))))))))))))))))) (f4_29K o c n k w lp0) 20 = fun t _ h => f4_30 o c n k lp0 (t 5) (t 9) (t 10) (t 55) (t 66) h := (q_seg 20 22 (by kernel_rfl) (q_guard 22 37 (21, false) (by kernel_rfl) (by kernel_rfl) (by kernel_rfl) rfl)).tk
noncomputable def f4_12 (lp0 : AVs (Heap → α) 3) (s5 s9 s10 : AV) (h : Heap) : α :=
  ixF o 4 s9 s10 fun v47 => faF o 3 v47 fun v48 => faF o 0 v48 fun v49 => load1F o h v49 fun v50 => lenF o v50 fun v51 => neiF Pq o 3 v51 (.i .i64 2) fun v52 => bkF o false v52 (ixF o 4 s9 s10 fun v53 => faF o 3 v53 fun v54 => faF o 0 v54 fun v55 => load1F o h v55 fun v56 => ixF o 4 v56 (.i .i64 1) fun v57 => faF o 3 v57 fun v58 => load1F o h v58 fun v59 => lenF o v59 fun v60 => neiF Pq o 3 v60 (.i .i64 2) fun v61 => f4_30 o c n k lp0 s5 s9 s10 v52 v61 h) (f4_30 o c n k lp0 s5 s9 s10 v52 (.tup []) h)
theorem f4_12_ok (lp0 : AVs (Heap → α) 3) : R Pq o c n (cB (cA (cA (cB (cA (cB (cB (cB (cB (cB (cB (cB b4)))))))))))) (f4_11K o c n k w lp0) = fun t _ h => f4_12 o c n k lp0 (t 5) (t 9) (t 10) h := (kseq (f4_13_ok o c n k w lp0) (kblk (kseq (f4_15_ok o c n k w lp0) (kseq (f4_28_ok o c n k w lp0) (r_start 9 (by kernel_rfl) (q_guard 9 20 (8, false) (by kernel_rfl) (by kernel_rfl) (by kernel_rfl) (f4_30_ok o c n k w lp0))))))).tk
noncomputable def f4_10 (m : Nat) : AVs (Heap → α) 3 :=
  Nat.rec (motive := fun _ => AVs (Heap → α) 3) (fun _ _ _ _ => o) (fun _ lp0 s5 s9 s10 h => lssF Pq o 3 s10 s5 fun v62 => ifF o v62 (f4_12 o c n k lp0 s5 s9 s10 h) (c 9 [] h fun v63 h => pk k v63 h <| k v63 h)) m
theorem f4_10_ok : R Pq o c n (cA (cB (cA (cB (cB (cB (cB (cB (cB (cB b4)))))))))) (blockK (cI (cB (cA (cB (cB (cB (cB (cB (cB (cB b4)))))))))) (f4_8K o c n k w)) = fun t _ h => f4_10 o c n k n (t 5) (t 9) (t 10) h :=
  c_loop (F := fun m t _ h => f4_10 o c n k m (t 5) (t 9) (t 10) h) (by kernel_rfl) (by kernel_rfl) fun m => (kseq (f4_12_ok o c n k w (f4_10 o c n k m)) rfl).tk
noncomputable def f4_9 (s5 s9 s10 : AV) (h : Heap) : α :=
  f4_10 o c n k n s5 s9 s10 h
theorem f4_9_ok : R Pq o c n (cB (cA (cB (cB (cB (cB (cB (cB (cB b4))))))))) (f4_8K o c n k w) = fun t _ h => f4_9 o c n k (t 5) (t 9) (t 10) h := (kblk (f4_10_ok o c n k w)).tk
noncomputable def f4_7 (s5 s9 : AV) (h : Heap) : α :=
  f4_9 o c n k s5 s9 (.i .i64 0) h
theorem f4_7_ok : R Pq o c n (cB (cB (cB (cB (cB (cB (cB b4))))))) (kend Pq o c n w rs4 k) = fun t _ h => f4_7 o c n k (t 5) (t 9) h := (kseq rfl (kseq (f4_9_ok o c n k w) rfl)).tk
noncomputable def f4_6 (s5 s9 : AV) (h : Heap) : α :=
  lenF o s9 fun v64 => neiF Pq o 3 v64 s5 fun v65 => ifF o v65 (k (.b false) h) (f4_7 o c n k s5 s9 h)
theorem f4_6_ok : R Pq o c n (cB (cB (cB (cB (cB (cB b4)))))) (kend Pq o c n w rs4 k) = fun t _ h => f4_6 o c n k (t 5) (t 9) h := (kseq (f4_7_ok o c n k w) rfl).tk
noncomputable def f4_5 (s5 s8 : AV) (h : Heap) : α :=
  loadNF o h 1 s8 fun v66 => c 7 [v66, (.s 3 4936521)] h fun v67 h => pk k v67 h <| f4_6 o c n k s5 v67 h
theorem f4_5_ok : R Pq o c n (cB (cB (cB (cB (cB b4))))) (kend Pq o c n w rs4 k) = fun t _ h => f4_5 o c n k (t 5) (t 8) h := (kseq (f4_6_ok o c n k w) rfl).tk
noncomputable def f4_4 (s5 s6 : AV) (h : Heap) : α :=
  addF Pq o 9 (.s 100 3207044783926080888378351460302561066093039825464472532682796877823695645794242574587383199565112213189455035626485837575534083304871785193110598695166268230150609765013962545338266419557598886648468919500319350286323941347292784851440200803) s6 fun v68 => addF Pq o 9 v68 (.s 4 2099281184) fun v69 => c 6 [v69] h fun v70 h => pk k v70 h <| newF h h.next 1 [.nsl] fun v71 h => storeF o h 1 v71 v70 fun h => f4_5 o c n k s5 v71 h
theorem f4_4_ok : R Pq o c n (cB (cB (cB (cB b4)))) (kend Pq o c n w rs4 k) = fun t _ h => f4_4 o c n k (t 5) (t 6) h := (kseq (f4_5_ok o c n k w) rfl).tk
noncomputable def f4_31K : Ex → K α := (nxK (fun t _ h => f4_4 o c n k (t 5) (t 6) h) (kend Pq o c n w rs4 k))
noncomputable def f4_34K (lp0 : AVs (Heap → α) 4) : Ex → K α := (nxK (fun t _ h => lp0 (t 1) (t 5) (t 6) (t 7) h) (blockK (cI (cB (cA (cB (cB (cB b4)))))) (f4_31K o c n k w)))
noncomputable def f4_36 {α : Type} (o : α) (c : Call' α) (n : Nat) (k : AV → Heap → α) (lp0 : AVs (Heap → α) 4) (s1 s5 s6 s7 : AV) (h : Heap) : α :=
  addF Pq o 3 s7 (.i .i64 1) fun v72 => lp0 s1 s5 s6 v72 h
theorem f4_36_ok (lp0 : AVs (Heap → α) 4) : R Pq o c n (cB (cB (cA (cA (cB (cA (cB (cB (cB b4))))))))) (f4_34K o c n k w lp0) = fun t _ h => f4_36 o c n k lp0 (t 1) (t 5) (t 6) (t 7) h := by kernel_rfl
noncomputable def f4_35 (lp0 : AVs (Heap → α) 4) (s1 s5 s6 s7 : AV) (h : Heap) : α :=
  convA Pq o 3 22 s7 fun v73 => binA Pq o .shr 3 s1 v73 fun v74 => binA Pq o .and 3 v74 (.i .i64 1) fun v75 => eqiF Pq o 3 v75 (.i .i64 1) fun v76 => ifF o v76 (addF Pq o 9 s6 (.s 15 308783083705392385719014193332645920) fun v77 => f4_36 o c n k lp0 s1 s5 v77 s7 h) (addF Pq o 9 s6 (.s 17 20131367760522571260058867231658372919328) fun v78 => f4_36 o c n k lp0 s1 s5 v78 s7 h)
theorem f4_35_ok (lp0 : AVs (Heap → α) 4) : R Pq o c n (cB (cA (cA (cB (cA (cB (cB (cB b4)))))))) (f4_34K o c n k w lp0) = fun t _ h => f4_35 o c n k lp0 (t 1) (t 5) (t 6) (t 7) h := (kseq (f4_36_ok o c n k w lp0) rfl).tk
noncomputable def f4_33 (m : Nat) : AVs (Heap → α) 4 :=
  Nat.rec (motive := fun _ => AVs (Heap → α) 4) (fun _ _ _ _ _ => o) (fun _ lp0 s1 s5 s6 s7 h => lssF Pq o 3 s7 s5 fun v79 => ifF o v79 (f4_35 o c n k lp0 s1 s5 s6 s7 h) (f4_4 o c n k s5 s6 h)) m
theorem f4_33_ok : R Pq o c n (cA (cB (cA (cB (cB (cB b4)))))) (blockK (cI (cB (cA (cB (cB (cB b4)))))) (f4_31K o c n k w)) = fun t _ h => f4_33 o c n k n (t 1) (t 5) (t 6) (t 7) h :=
  c_loop (F := fun m t _ h => f4_33 o c n k m (t 1) (t 5) (t 6) (t 7) h) (by kernel_rfl) (by kernel_rfl) fun m => (kseq (f4_35_ok o c n k w (f4_33 o c n k m)) rfl).tk
noncomputable def f4_32 (s1 s5 s6 s7 : AV) (h : Heap) : α :=
  f4_33 o c n k n s1 s5 s6 s7 h
theorem f4_32_ok : R Pq o c n (cB (cA (cB (cB (cB b4))))) (f4_31K o c n k w) = fun t _ h => f4_32 o c n k (t 1) (t 5) (t 6) (t 7) h := (kblk (f4_33_ok o c n k w)).tk
noncomputable def f4_3 (s1 s5 s6 : AV) (h : Heap) : α :=
  f4_32 o c n k s1 s5 s6 (.i .i64 0) h
theorem f4_3_ok : R Pq o c n (cB (cB (cB b4))) (kend Pq o c n w rs4 k) = fun t _ h => f4_3 o c n k (t 1) (t 5) (t 6) h := (kseq (f4_4_ok o c n k w) (kseq (f4_32_ok o c n k w) rfl)).tk
noncomputable def f4_2 (s1 s5 : AV) (h : Heap) : α :=
  f4_3 o c n k s1 s5 (.s 0 0) h
theorem f4_2_ok : R Pq o c n (cB (cB b4)) (kend Pq o c n w rs4 k) = fun t _ h => f4_2 o c n k (t 1) (t 5) h := (kseq (f4_3_ok o c n k w) rfl).tk
noncomputable def f4_1 (s0 s1 : AV) (h : Heap) : α :=
  convA Pq o 3 22 s0 fun v80 => binA Pq o .rem 22 v80 (.i .u64 7) fun v81 => convA Pq o 22 3 v81 fun v82 => f4_2 o c n k s1 v82 h
theorem f4_1_ok : R Pq o c n (cB b4) (kend Pq o c n w rs4 k) = fun t _ h => f4_1 o c n k (t 0) (t 1) h := (kseq (f4_2_ok o c n k w) rfl).tk
noncomputable def f4 (a0 a1 : AV) (h : Heap) : α :=
  f4_1 o c n k a0 a1 h
theorem f4_ok : R Pq o c n b4 (kend Pq o c n w rs4 k) = fun t _ h => f4 o c n k (t 0) (t 1) h := (kseq (f4_1_ok o c n k w) rfl).tk
theorem f4_good : Good Pq (cfg mm) 4 (entF Pq (cfg mm) 4 2 fun α => f4) := entG b4 rs4 128 fun _ => f4_ok
noncomputable def b14 := bdy Tryz.f14
noncomputable def rs14 := Tryz.f14.results.toList
noncomputable def f14 {α : Type} (o : α) (c : Call' α) (n : Nat) (k : AV → Heap → α) (a0 a1 : AV) (h : Heap) : α :=
  c 39 [a0, a1] h fun v1 h => pk k v1 h <| geqF Pq o 3 v1 (.i .i64 0) fun v2 => k v2 h
theorem f14_ok : R Pq o c n b14 (kend Pq o c n w rs14 k) = fun t _ h => f14 o c n k (t 0) (t 1) h := by kernel_rfl
theorem f14_good : Good Pq (cfg mm) 14 (entF Pq (cfg mm) 14 2 fun α => f14) := entG b14 rs14 9 fun _ => f14_ok
noncomputable def b16 := bdy Tryz.f16
noncomputable def rs16 := Tryz.f16.results.toList
noncomputable def f16 {α : Type} (o : α) (c : Call' α) (n : Nat) (k : AV → Heap → α) (a0 a1 : AV) (h : Heap) : α :=
  nilChk o a0 fun v1 => faF o 3 v1 fun v2 => storeF o h 1 v2 a1 fun h => nilChk o a0 fun v3 => faF o 4 v3 fun v4 => storeF o h 1 v4 (.i .i64 0) fun h => k (.tup []) h
theorem f16_ok : R Pq o c n b16 (kend Pq o c n w rs16 k) = fun t _ h => f16 o c n k (t 0) (t 1) h := by kernel_rfl
theorem f16_good : Good Pq (cfg mm) 16 (entF Pq (cfg mm) 16 2 fun α => f16) := entG b16 rs16 11 fun _ => f16_ok
noncomputable def b21 := bdy Tryz.f21
noncomputable def rs21 := Tryz.f21.results.toList
noncomputable def f21_5K : Ex → K α := (nxK (R Pq o c n (cB (cB (cB (cB (cB b21))))) (kend Pq o c n w rs21 k)) (kend Pq o c n w rs21 k))
noncomputable def f21_8K (lp0 : AVs (Heap → α) 4) : Ex → K α := (nxK (fun t _ h => lp0 (t 0) (t 5) (t 6) (t 7) h) (blockK (cI (cB (cA (cB (cB (cB (cB b21))))))) (f21_5K o c n k w)))
noncomputable def f21_14 {α : Type} (o : α) (c : Call' α) (n : Nat) (k : AV → Heap → α) (lp0 : AVs (Heap → α) 4) (s0 s5 s6 s7 s9 : AV) (h : Heap) : α :=
  addF Pq o 3 s7 s9 fun v1 => lp0 s0 s5 s6 v1 h
theorem f21_14_ok (lp0 : AVs (Heap → α) 4) : R Pq o c n (cB (cB (cB (cB (cB (cA (cB (cA (cA (cB (cA (cB (cB (cB (cB b21))))))))))))))) (blockK (cI (cB (cA (cA (cB (cA (cB (cB (cB (cB b21)))))))))) (f21_8K o c n k w lp0)) = fun t _ h => f21_14 o c n k lp0 (t 0) (t 5) (t 6) (t 7) (t 9) h := by kernel_rfl
noncomputable def f21_13 (lp0 : AVs (Heap → α) 4) (s0 s5 s6 s7 s8 s9 : AV) (h : Heap) : α :=
  faF o 0 s8 fun v2 => load1F o h v2 fun v3 => gtrF Pq o 3 v3 (.i .i64 0) fun v4 => ifF o v4 (loadNF o h 3 s8 fun v5 => fil1 o 3 1 0 v5 [[(.i .i64 0), (.s 0 0), (.i .i64 0)]] fun v6 => newEF h h.next 3 1 v6 fun v7 h => appX Pq o h h.next 69 69 s6 v7 fun v8 h => f21_14 o c n k lp0 s0 s5 v8 s7 s9 h) (f21_14 o c n k lp0 s0 s5 s6 s7 s9 h)
theorem f21_13_ok (lp0 : AVs (Heap → α) 4) : R Pq o c n (cB (cB (cB (cB (cA (cB (cA (cA (cB (cA (cB (cB (cB (cB b21)))))))))))))) (blockK (cI (cB (cA (cA (cB (cA (cB (cB (cB (cB b21)))))))))) (f21_8K o c n k w lp0)) = fun t _ h => f21_13 o c n k lp0 (t 0) (t 5) (t 6) (t 7) (t 8) (t 9) h := (kseq (f21_14_ok o c n k w lp0) rfl).tk
noncomputable def f21_15K (lp0 : AVs (Heap → α) 4) : Ex → K α := (nxK (fun t _ h => f21_13 o c n k lp0 (t 0) (t 5) (t 6) (t 7) (t 8) (t 9) h) (blockK (cI (cB (cA (cA (cB (cA (cB (cB (cB (cB b21)))))))))) (f21_8K o c n k w lp0)))
noncomputable def f21_16 (lp0 : AVs (Heap → α) 4) (s0 s5 s6 s7 s8 s9 s40 : AV) (h : Heap) : α :=
  ifF o s40 (k (.tup [.nsl, (.i .i64 2), s5]) h) (f21_13 o c n k lp0 s0 s5 s6 s7 s8 s9 h)
theorem f21_16_ok (lp0 : AVs (Heap → α) 4) : R Pq o c n (cB (cA (cB (cB (cB (cA (cB (cA (cA (cB (cA (cB (cB (cB (cB b21))))))))))))))) (f21_15K o c n k w lp0) = fun t _ h => f21_16 o c n k lp0 (t 0) (t 5) (t 6) (t 7) (t 8) (t 9) (t 40) h := by kernel_rfl
noncomputable def f21_17K (lp0 : AVs (Heap → α) 4) : Ex → K α := (nxK (fun t _ h => f21_16 o c n k lp0 (t 0) (t 5) (t 6) (t 7) (t 8) (t 9) (t 40) h) (f21_15K o c n k w lp0))
noncomputable def f21_12 (lp0 : AVs (Heap → α) 4) (s0 s5 s6 s7 s8 s9 : AV) (h : Heap) : α :=
  geqF Pq o 3 s5 (.i .i64 0) fun v9 => bkF o true v9 (addF Pq o 3 s7 s9 fun v10 => gtrF Pq o 3 v10 s5 fun v11 => pickF o v9 v11 (.b false) fun v12 => f21_16 o c n k lp0 s0 s5 s6 s7 s8 s9 v12 h) (pickF o v9 (.tup []) (.b false) fun v13 => f21_16 o c n k lp0 s0 s5 s6 s7 s8 s9 v13 h)
theorem f21_12_ok (lp0 : AVs (Heap → α) 4) : R Pq o c n (cB (cB (cB (cA (cB (cA (cA (cB (cA (cB (cB (cB (cB b21))))))))))))) (blockK (cI (cB (cA (cA (cB (cA (cB (cB (cB (cB b21)))))))))) (f21_8K o c n k w lp0)) = fun t _ h => f21_12 o c n k lp0 (t 0) (t 5) (t 6) (t 7) (t 8) (t 9) h := (kseq (f21_13_ok o c n k w lp0) (kseq (f21_16_ok o c n k w lp0) (r_start 3 (by kernel_rfl) (q_guard 3 8 (2, true) (by kernel_rfl) (by kernel_rfl) (by kernel_rfl) rfl)))).tk
noncomputable def f21_11 (lp0 : AVs (Heap → α) 4) (s0 s5 s6 s7 s8 s9 : AV) (h : Heap) : α :=
  eqiF Pq o 3 s9 (.i .i64 0) fun v14 => ifF o v14 (k (.tup [.nsl, (.i .i64 2), s7]) h) (f21_12 o c n k lp0 s0 s5 s6 s7 s8 s9 h)
theorem f21_11_ok (lp0 : AVs (Heap → α) 4) : R Pq o c n (cB (cB (cA (cB (cA (cA (cB (cA (cB (cB (cB (cB b21)))))))))))) (blockK (cI (cB (cA (cA (cB (cA (cB (cB (cB (cB b21)))))))))) (f21_8K o c n k w lp0)) = fun t _ h => f21_11 o c n k lp0 (t 0) (t 5) (t 6) (t 7) (t 8) (t 9) h := (kseq (f21_12_ok o c n k w lp0) rfl).tk
noncomputable def f21_10 (lp0 : AVs (Heap → α) 4) (s0 s5 s6 s7 : AV) (h : Heap) : α :=
  c 62 [s0, s7] h fun v15 h => pk k v15 h <| exF o v15 0 fun v16 => exF o v15 1 fun v17 => newF h h.next 3 [(.i .i64 0), (.s 0 0), (.i .i64 0)] fun v18 h => storeF o h 3 v18 v16 fun h => f21_11 o c n k lp0 s0 s5 s6 s7 v18 v17 h
theorem f21_10_ok (lp0 : AVs (Heap → α) 4) : R Pq o c n (cB (cA (cB (cA (cA (cB (cA (cB (cB (cB (cB b21))))))))))) (blockK (cI (cB (cA (cA (cB (cA (cB (cB (cB (cB b21)))))))))) (f21_8K o c n k w lp0)) = fun t _ h => f21_10 o c n k lp0 (t 0) (t 5) (t 6) (t 7) h := (kseq (f21_11_ok o c n k w lp0) rfl).tk
noncomputable def f21_9 (lp0 : AVs (Heap → α) 4) (s0 s5 s6 s7 : AV) (h : Heap) : α :=
  eqiF Pq o 3 s7 s5 fun v19 => ifF o v19 (k (.tup [.nsl, (.i .i64 2), s5]) h) (f21_10 o c n k lp0 s0 s5 s6 s7 h)
theorem f21_9_ok (lp0 : AVs (Heap → α) 4) : R Pq o c n (cB (cA (cA (cB (cA (cB (cB (cB (cB b21))))))))) (f21_8K o c n k w lp0) = fun t _ h => f21_9 o c n k lp0 (t 0) (t 5) (t 6) (t 7) h := (kblk (kseq (f21_10_ok o c n k w lp0) rfl)).tk
noncomputable def f21_7 (m : Nat) : AVs (Heap → α) 4 :=
  Nat.rec (motive := fun _ => AVs (Heap → α) 4) (fun _ _ _ _ _ => o) (fun _ lp0 s0 s5 s6 s7 h => lensF o s0 fun v20 => lssF Pq o 3 s7 v20 fun v21 => ifF o v21 (f21_9 o c n k lp0 s0 s5 s6 s7 h) (k (.tup [s6, (.i .i64 0), (.i .i64 0)]) h)) m
theorem f21_7_ok : R Pq o c n (cA (cB (cA (cB (cB (cB (cB b21))))))) (blockK (cI (cB (cA (cB (cB (cB (cB b21))))))) (f21_5K o c n k w)) = fun t _ h => f21_7 o c n k n (t 0) (t 5) (t 6) (t 7) h :=
  c_loop (F := fun m t _ h => f21_7 o c n k m (t 0) (t 5) (t 6) (t 7) h) (by kernel_rfl) (by kernel_rfl) fun m => (kseq (f21_9_ok o c n k w (f21_7 o c n k m)) rfl).tk
noncomputable def f21_6 (s0 s5 s6 s7 : AV) (h : Heap) : α :=
  f21_7 o c n k n s0 s5 s6 s7 h
theorem f21_6_ok : R Pq o c n (cB (cA (cB (cB (cB (cB b21)))))) (f21_5K o c n k w) = fun t _ h => f21_6 o c n k (t 0) (t 5) (t 6) (t 7) h := (kblk (f21_7_ok o c n k w)).tk
noncomputable def f21_4 (s0 s5 s6 : AV) (h : Heap) : α :=
  f21_6 o c n k s0 s5 s6 (.i .i64 0) h
theorem f21_4_ok : R Pq o c n (cB (cB (cB (cB b21)))) (kend Pq o c n w rs21 k) = fun t _ h => f21_4 o c n k (t 0) (t 5) (t 6) h := (kseq rfl (kseq (f21_6_ok o c n k w) rfl)).tk
noncomputable def f21_3 (s0 s5 : AV) (h : Heap) : α :=
  f21_4 o c n k s0 s5 .nsl h
theorem f21_3_ok : R Pq o c n (cB (cB (cB b21))) (kend Pq o c n w rs21 k) = fun t _ h => f21_3 o c n k (t 0) (t 5) h := (kseq (f21_4_ok o c n k w) rfl).tk
noncomputable def f21_2 (s0 : AV) (h : Heap) : α :=
  c 61 [s0] h fun v22 h => pk k v22 h <| f21_3 o c n k s0 v22 h
theorem f21_2_ok : R Pq o c n (cB (cB b21)) (kend Pq o c n w rs21 k) = fun t _ h => f21_2 o c n k (t 0) h := (kseq (f21_3_ok o c n k w) rfl).tk
noncomputable def f21_1 (s0 : AV) (h : Heap) : α :=
  lensF o s0 fun v23 => gtrF Pq o 3 v23 (.i .i64 8000) fun v24 => ifF o v24 (k (.tup [.nsl, (.i .i64 5), (.i .i64 0)]) h) (f21_2 o c n k s0 h)
theorem f21_1_ok : R Pq o c n (cB b21) (kend Pq o c n w rs21 k) = fun t _ h => f21_1 o c n k (t 0) h := (kseq (f21_2_ok o c n k w) rfl).tk
noncomputable def f21 (a0 : AV) (h : Heap) : α :=
  f21_1 o c n k a0 h
theorem f21_ok : R Pq o c n b21 (kend Pq o c n w rs21 k) = fun t _ h => f21 o c n k (t 0) h := (kseq (f21_1_ok o c n k w) rfl).tk
theorem f21_good : Good Pq (cfg mm) 21 (entF Pq (cfg mm) 21 1 fun α => f21) := entG b21 rs21 53 fun _ => f21_ok
noncomputable def b22 := bdy Tryz.f22
noncomputable def rs22 := Tryz.f22.results.toList
noncomputable def f22 {α : Type} (o : α) (c : Call' α) (n : Nat) (k : AV → Heap → α) (a0 a1 : AV) (h : Heap) : α :=
  c 24 [a0, a1] h fun v1 h => pk k v1 h <| notF o v1 fun v2 => ifF o v2 (c 63 [a0, (.i .i64 3)] h fun v3 h => pk k v3 h <| k (.tup []) h) (k (.tup []) h)
theorem f22_ok : R Pq o c n b22 (kend Pq o c n w rs22 k) = fun t _ h => f22 o c n k (t 0) (t 1) h := by kernel_rfl
theorem f22_good : Good Pq (cfg mm) 22 (entF Pq (cfg mm) 22 2 fun α => f22) := entG b22 rs22 10 fun _ => f22_ok
noncomputable def b23 := bdy Tryz.f23
noncomputable def rs23 := Tryz.f23.results.toList
noncomputable def f23 {α : Type} (o : α) (c : Call' α) (n : Nat) (k : AV → Heap → α) (a0 : AV) (h : Heap) : α :=
  c 64 [a0, (.i .i64 0)] h fun v1 h => pk k v1 h <| notF o v1 fun v2 => ifF o v2 (c 63 [a0, (.i .i64 3)] h fun v3 h => pk k v3 h <| k (.s 0 0) h) (c 65 [a0] h fun v4 h => pk k v4 h <| k v4 h)
theorem f23_ok : R Pq o c n b23 (kend Pq o c n w rs23 k) = fun t _ h => f23 o c n k (t 0) h := by kernel_rfl
theorem f23_good : Good Pq (cfg mm) 23 (entF Pq (cfg mm) 23 1 fun α => f23) := entG b23 rs23 10 fun _ => f23_ok
noncomputable def b24 := bdy Tryz.f24
noncomputable def rs24 := Tryz.f24.results.toList
noncomputable def f24_2K : Ex → K α := (nxK (R Pq o c n (cB (cB b24)) (kend Pq o c n w rs24 k)) (kend Pq o c n w rs24 k))
noncomputable def f24_3 {α : Type} (o : α) (c : Call' α) (n : Nat) (k : AV → Heap → α) (s0 s12 : AV) (h : Heap) : α :=
  ifF o s12 (nilChk o s0 fun v1 => faF o 2 v1 fun v2 => load1F o h v2 fun v3 => addF Pq o 3 v3 (.i .i64 1) fun v4 => nilChk o s0 fun v5 => faF o 2 v5 fun v6 => storeF o h 1 v6 v4 fun h => k (.b true) h) (k (.b false) h)
theorem f24_3_ok : R Pq o c n (cB (cA (cB b24))) (f24_2K o c n k w) = fun t _ h => f24_3 o c n k (t 0) (t 12) h := by kernel_rfl
noncomputable def f24_4K : Ex → K α := (nxK (fun t _ h => f24_3 o c n k (t 0) (t 12) h) (f24_2K o c n k w))
noncomputable def f24_1 (s0 s1 : AV) (h : Heap) : α :=
  c 25 [s0, s1] h fun v7 h => pk k v7 h <| bkF o false v7 (c 66 [s0, s1] h fun v8 h => pk k v8 h <| pickF o v7 (.b true) v8 fun v9 => f24_3 o c n k s0 v9 h) (pickF o v7 (.b true) (.tup []) fun v10 => f24_3 o c n k s0 v10 h)
theorem f24_1_ok : R Pq o c n (cB b24) (kend Pq o c n w rs24 k) = fun t _ h => f24_1 o c n k (t 0) (t 1) h := (kseq rfl (kseq (f24_3_ok o c n k w) (r_start 4 (by kernel_rfl) (q_guard 4 7 (3, false) (by kernel_rfl) (by kernel_rfl) (by kernel_rfl) rfl)))).tk
noncomputable def f24 (a0 a1 : AV) (h : Heap) : α :=
  f24_1 o c n k a0 a1 h
theorem f24_ok : R Pq o c n b24 (kend Pq o c n w rs24 k) = fun t _ h => f24 o c n k (t 0) (t 1) h := (kseq (f24_1_ok o c n k w) rfl).tk
theorem f24_good : Good Pq (cfg mm) 24 (entF Pq (cfg mm) 24 2 fun α => f24) := entG b24 rs24 20 fun _ => f24_ok
noncomputable def b25 := bdy Tryz.f25
noncomputable def rs25 := Tryz.f25.results.toList
noncomputable def f25 {α : Type} (o : α) (c : Call' α) (n : Nat) (k : AV → Heap → α) (a0 a1 : AV) (h : Heap) : α :=
  c 67 [a0, (.i .i64 0), (.i .i64 4), a1] h fun v1 h => pk k v1 h <| k v1 h
theorem f25_ok : R Pq o c n b25 (kend Pq o c n w rs25 k) = fun t _ h => f25 o c n k (t 0) (t 1) h := by kernel_rfl
theorem f25_good : Good Pq (cfg mm) 25 (entF Pq (cfg mm) 25 2 fun α => f25) := entG b25 rs25 8 fun _ => f25_ok
noncomputable def b31 := bdy Tryz.f31
noncomputable def rs31 := Tryz.f31.results.toList
noncomputable def f31 {α : Type} (o : α) (c : Call' α) (n : Nat) (k : AV → Heap → α) (a0 : AV) (h : Heap) : α :=
  boxF o a0 h h.next fun v1 h => loadNF o h 1 v1 fun v2 => c 81 [v2, (.fn (.func 82) [] [v1])] h fun v3 h => pk k v3 h <| assertA Pq o v3 127 true fun v4 => exF o v4 0 fun v5 => exF o v4 1 fun v6 => newF h h.next 2 [(.i .i64 0), (.i .i64 0)] fun v7 h => storeF o h 2 v7 v5 fun h => ifF o v6 (dreg o h 6 fun base h => faF o 0 v7 fun v8 => rootF o v8 v7 <| load1F o (h.look 1) v8 fun v9 => faF o 1 v7 fun v10 => rootF o v10 v7 <| load1F o (h.look 4) v10 fun v11 => hb h.shut fun h => k (.tup [v9, v11]) h) (loadNF o h 1 v1 fun v12 => c 81 [v12, (.fn (.func 85) [] [v1])] h fun v13 h => pk k v13 h <| assertA Pq o v13 127 true fun v14 => exF o v14 0 fun v15 => exF o v14 1 fun v16 => newF h h.next 2 [(.i .i64 0), (.i .i64 0)] fun v17 h => storeF o h 2 v17 v15 fun h => ifF o v16 (dreg o h 6 fun base h => faF o 0 v17 fun v18 => rootF o v18 v17 <| load1F o (h.look 1) v18 fun v19 => faF o 1 v17 fun v20 => rootF o v20 v17 <| load1F o (h.look 4) v20 fun v21 => hb h.shut fun h => k (.tup [v19, v21]) h) (k (.tup [(.i .i64 0), (.i .i64 0)]) h))
theorem f31_ok : R Pq o c n b31 (kend Pq o c n w rs31 k) = fun t _ h => f31 o c n k (t 0) h := by kernel_rfl
theorem f31_good : Good Pq (cfg mm) 31 (entF Pq (cfg mm) 31 1 fun α => f31) := entG b31 rs31 32 fun _ => f31_ok
noncomputable def b34 := bdy Tryz.f34
noncomputable def rs34 := Tryz.f34.results.toList
noncomputable def f34 {α : Type} (o : α) (c : Call' α) (n : Nat) (k : AV → Heap → α) (a0 : AV) (h : Heap) : α :=
  eqiF Pq o 31 a0 .nsl fun v1 => ifF o v1 (k .nsl h) (newEF h h.next 4 0 [] fun v2 h => appX Pq o h h.next 31 31 v2 a0 fun v3 h => k v3 h)
theorem f34_ok : R Pq o c n b34 (kend Pq o c n w rs34 k) = fun t _ h => f34 o c n k (t 0) h := by kernel_rfl
theorem f34_good : Good Pq (cfg mm) 34 (entF Pq (cfg mm) 34 1 fun α => f34) := entG b34 rs34 8 fun _ => f34_ok
noncomputable def b35 := bdy Tryz.f35
noncomputable def rs35 := Tryz.f35.results.toList
noncomputable def f35 {α : Type} (o : α) (c : Call' α) (n : Nat) (k : AV → Heap → α) (a0 : AV) (h : Heap) : α :=
  eqiF Pq o 32 a0 .nsl fun v1 => ifF o v1 (k .nsl h) (newEF h h.next 6 0 [] fun v2 h => appX Pq o h h.next 32 32 v2 a0 fun v3 h => k v3 h)
theorem f35_ok : R Pq o c n b35 (kend Pq o c n w rs35 k) = fun t _ h => f35 o c n k (t 0) h := by kernel_rfl
theorem f35_good : Good Pq (cfg mm) 35 (entF Pq (cfg mm) 35 1 fun α => f35) := entG b35 rs35 8 fun _ => f35_ok
noncomputable def b39 := bdy Tryz.f39
noncomputable def rs39 := Tryz.f39.results.toList
noncomputable def f39_2K : Ex → K α := (nxK (R Pq o c n (cB (cB b39)) (kend Pq o c n w rs39 k)) (kend Pq o c n w rs39 k))
noncomputable def f39_4 {α : Type} (o : α) (c : Call' α) (n : Nat) (k : AV → Heap → α) (m : Nat) : AVs (Heap → α) 4 :=
  Nat.rec (motive := fun _ => AVs (Heap → α) 4) (fun _ _ _ _ _ => o) (fun _ lp0 s0 s1 s7 s8 h => lssF Pq o 3 s8 s7 fun v1 => ifF o v1 (ixF o 1 s0 s8 fun v2 => load1F o h v2 fun v3 => eqsF Pq o 9 s1 v3 fun v4 => ifF o v4 (k s8 h) (addF Pq o 3 s8 (.i .i64 1) fun v5 => lp0 s0 s1 s7 v5 h)) (k (.i .i64 (-1)) h)) m
theorem f39_4_ok : R Pq o c n (cA (cB (cA (cB b39)))) (blockK (cI (cB (cA (cB b39)))) (f39_2K o c n k w)) = fun t _ h => f39_4 o c n k n (t 0) (t 1) (t 7) (t 8) h :=
  c_loop (F := fun m t _ h => f39_4 o c n k m (t 0) (t 1) (t 7) (t 8) h) (by kernel_rfl) (by kernel_rfl) fun m => by kernel_rfl
noncomputable def f39_3 (s0 s1 s7 s8 : AV) (h : Heap) : α :=
  f39_4 o c n k n s0 s1 s7 s8 h
theorem f39_3_ok : R Pq o c n (cB (cA (cB b39))) (f39_2K o c n k w) = fun t _ h => f39_3 o c n k (t 0) (t 1) (t 7) (t 8) h := (kblk (f39_4_ok o c n k w)).tk
noncomputable def f39_1 (s0 s1 : AV) (h : Heap) : α :=
  lenF o s0 fun v6 => f39_3 o c n k s0 s1 v6 (.i .i64 0) h
theorem f39_1_ok : R Pq o c n (cB b39) (kend Pq o c n w rs39 k) = fun t _ h => f39_1 o c n k (t 0) (t 1) h := (kseq rfl (kseq (f39_3_ok o c n k w) rfl)).tk
noncomputable def f39 (a0 a1 : AV) (h : Heap) : α :=
  f39_1 o c n k a0 a1 h
theorem f39_ok : R Pq o c n b39 (kend Pq o c n w rs39 k) = fun t _ h => f39 o c n k (t 0) (t 1) h := (kseq (f39_1_ok o c n k w) rfl).tk
theorem f39_good : Good Pq (cfg mm) 39 (entF Pq (cfg mm) 39 2 fun α => f39) := entG b39 rs39 19 fun _ => f39_ok
noncomputable def b42 := bdy Tryz.f42
noncomputable def rs42 := Tryz.f42.results.toList
noncomputable def f42 {α : Type} (o : α) (c : Call' α) (n : Nat) (k : AV → Heap → α) (a0 a1 : AV) (h : Heap) : α :=
  boxF o a1 h h.next fun v1 h => nilChk o a0 fun v2 => faF o 4 v2 fun v3 => load1F o h v3 fun v4 => addF Pq o 3 v4 (.i .i64 1) fun v5 => nilChk o a0 fun v6 => faF o 4 v6 fun v7 => storeF o h 1 v7 v5 fun h => dreg o h 32 fun base h => nilChk o a0 fun v8 => faF o 2 v8 fun v9 => rootF o v9 a0 <| load1F o (h.look 14) v9 fun v10 => nilChk o a0 fun v11 => faF o 1 v11 fun v12 => rootF o v12 a0 <| load1F o (h.look 224) v12 fun v13 => nilChk o a0 fun v14 => faF o 0 v14 fun v15 => faF o 0 v15 fun v16 => rootF o v16 a0 <| load1F o (h.look 7680) v16 fun v17 => nilChk o a0 fun v18 => faF o 3 v18 fun v19 => rootF o v19 a0 <| load1F o (h.look 114688) v19 fun v20 => ixF o 4 v17 v20 fun v21 => faF o 0 v21 fun v22 => load1F o (h.look 1048064) v22 fun v23 => nilChk o a0 fun v24 => faF o 4 v24 fun v25 => rootF o v25 a0 <| load1F o (h.look 14680064) v25 fun v26 => loadNF o (h.look 0) 1 v1 fun v27 => layF o 0 v13 [(.s 0 0), (.s 0 0), (.i .i64 0), .nsl] fun v28 => layF o 1 v23 v28 fun v29 => layF o 2 v26 v29 fun v30 => layF o 3 v27 v30 fun v31 => fil1 o 4 1 0 (.agg v31) [[(.s 0 0), (.s 0 0), (.i .i64 0), .nsl]] fun v32 => newEF (h.look 134217696) (Nat.add base 27) 4 1 v32 fun v33 h => lb [] fun ids => appD o ids (Nat.add base 28) <| appendY Pq o (hide ids (h.look 268435454)) (Nat.add base 28) 27 27 v10 v33 fun v34 g => hb (back h ids g) fun h => nilChk o a0 fun v35 => faF o 2 v35 fun v36 => rootF o v36 a0 <| storeF o (h.look 2147483647) 1 v36 v34 fun h => hb h.shut fun h => k (.tup []) h
theorem f42_ok : R Pq o c n b42 (kend Pq o c n w rs42 k) = fun t _ h => f42 o c n k (t 0) (t 1) h := by kernel_rfl
theorem f42_good : Good Pq (cfg mm) 42 (entF Pq (cfg mm) 42 2 fun α => f42) := entG b42 rs42 42 fun _ => f42_ok
noncomputable def b47 := bdy Tryz.f47
noncomputable def rs47 := Tryz.f47.results.toList
noncomputable def f47_3 {α : Type} (o : α) (c : Call' α) (n : Nat) (k : AV → Heap → α) (s3 s6 : AV) (h : Heap) : α :=
  loadNF o h 1 s3 fun v1 => storeF o h 1 s6 v1 fun h => on o (resV Pq h [(s6, some 25)]) fun v => k v h
theorem f47_3_ok : R Pq o c n (cB (cB (cB b47))) (kend Pq o c n w rs47 k) = fun t _ h => f47_3 o c n k (t 3) (t 6) h := by kernel_rfl
noncomputable def f47_4K : Ex → K α := (nxK (fun t _ h => f47_3 o c n k (t 3) (t 6) h) (kend Pq o c n w rs47 k))
noncomputable def f47_5 (s1 s2 s3 s6 s18 : AV) (h : Heap) : α :=
  ifF o s18 (layF o 3 s2 [(.s 0 0), (.s 0 0), .nsl, .nsl] fun v2 => fil1 o 4 1 0 (.agg v2) [[(.s 0 0), (.s 0 0), .nsl, .nsl]] fun v3 => newEF h h.next 4 1 v3 fun v4 h => layF o 0 v4 [.nsl] fun v5 => c 105 [(.agg v5)] h fun v6 h => pk k v6 h <| newF h h.next 1 [.nsl] fun v7 h => storeF o h 1 v7 v6 fun h => dreg o h 11 fun base h => faF o 0 s3 fun v8 => rootF o v8 s3 <| load1F o (h.look 1) v8 fun v9 => faF o 0 v7 fun v10 => rootF o v10 v7 <| load1F o (h.look 8) v10 fun v11 => ixF o 4 v11 (.i .i64 0) fun v12 => faF o 3 v12 fun v13 => load1F o (h.look 120) v13 fun v14 => ixF o 4 v9 s1 fun v15 => faF o 3 v15 fun v16 => storeF o (h.look 1023) 1 v16 v14 fun h => hb h.shut fun h => f47_3 o c n k s3 s6 h) (f47_3 o c n k s3 s6 h)
theorem f47_5_ok : R Pq o c n (cB (cA (cB (cB b47)))) (f47_4K o c n k w) = fun t _ h => f47_5 o c n k (t 1) (t 2) (t 3) (t 6) (t 18) h := by kernel_rfl
noncomputable def f47_6K : Ex → K α := (nxK (fun t _ h => f47_5 o c n k (t 1) (t 2) (t 3) (t 6) (t 18) h) (f47_4K o c n k w))
noncomputable def f47_2 (s1 s2 s3 s6 : AV) (h : Heap) : α :=
  geqF Pq o 3 s1 (.i .i64 0) fun v17 => bkF o true v17 (faF o 0 s3 fun v18 => load1F o h v18 fun v19 => lenF o v19 fun v20 => lssF Pq o 3 s1 v20 fun v21 => pickF o v17 v21 (.b false) fun v22 => f47_5 o c n k s1 s2 s3 s6 v22 h) (pickF o v17 (.tup []) (.b false) fun v23 => f47_5 o c n k s1 s2 s3 s6 v23 h)
theorem f47_2_ok : R Pq o c n (cB (cB b47)) (kend Pq o c n w rs47 k) = fun t _ h => f47_2 o c n k (t 1) (t 2) (t 3) (t 6) h := (kseq (f47_3_ok o c n k w) (kseq (f47_5_ok o c n k w) (r_start 3 (by kernel_rfl) (q_guard 3 8 (2, true) (by kernel_rfl) (by kernel_rfl) (by kernel_rfl) rfl)))).tk
noncomputable def f47_1 (s1 s2 s3 s6 : AV) (h : Heap) : α :=
  loadNF o h 1 s3 fun v24 => c 105 [v24] h fun v25 h => pk k v25 h <| storeF o h 1 s3 v25 fun h => f47_2 o c n k s1 s2 s3 s6 h
theorem f47_1_ok : R Pq o c n (cB b47) (kend Pq o c n w rs47 k) = fun t _ h => f47_1 o c n k (t 1) (t 2) (t 3) (t 6) h := (kseq (f47_2_ok o c n k w) rfl).tk
noncomputable def f47 (a0 a1 a2 : AV) (h : Heap) : α :=
  boxF o a0 h h.next fun v26 h => newF h h.next 1 [.nsl] fun v27 h => f47_1 o c n k a1 a2 v26 v27 h
theorem f47_ok : R Pq o c n b47 (kend Pq o c n w rs47 k) = fun t _ h => f47 o c n k (t 0) (t 1) (t 2) h := (kseq (f47_1_ok o c n k w) rfl).tk
theorem f47_good : Good Pq (cfg mm) 47 (entF Pq (cfg mm) 47 3 fun α => f47) := entG b47 rs47 35 fun _ => f47_ok
noncomputable def b53 := bdy Tryz.f53
noncomputable def rs53 := Tryz.f53.results.toList
noncomputable def f53 {α : Type} (o : α) (c : Call' α) (n : Nat) (k : AV → Heap → α) (a0 a1 : AV) (h : Heap) : α :=
  boxF o a0 h h.next fun v1 h => faF o 0 v1 fun v2 => load1F o h v2 fun v3 => eqiF Pq o 3 v3 (.i .i64 8) fun v4 => ifF o v4 (faF o 0 v1 fun v5 => storeF o h 1 v5 (.i .i64 6) fun h => loadNF o h 8 v1 fun v6 => cfF o a1 [v6] c h fun v7 h => pk k v7 h <| k (.tup []) h) (eqiF Pq o 3 v3 (.i .i64 12) fun v8 => ifF o v8 (faF o 0 v1 fun v9 => storeF o h 1 v9 (.i .i64 11) fun h => loadNF o h 8 v1 fun v10 => cfF o a1 [v10] c h fun v11 h => pk k v11 h <| k (.tup []) h) (k (.tup []) h))
theorem f53_ok : R Pq o c n b53 (kend Pq o c n w rs53 k) = fun t _ h => f53 o c n k (t 0) (t 1) h := by kernel_rfl
theorem f53_good : Good Pq (cfg mm) 53 (entF Pq (cfg mm) 53 2 fun α => f53) := entG b53 rs53 18 fun _ => f53_ok
noncomputable def b54 := bdy Tryz.f54
noncomputable def rs54 := Tryz.f54.results.toList
noncomputable def f54_2 {α : Type} (o : α) (c : Call' α) (n : Nat) (k : AV → Heap → α) (s1 s2 s3 s4 s8 : AV) (h : Heap) : α :=
  faF o 0 s4 fun v1 => load1F o h v1 fun v2 => ixF o 4 v2 s1 fun v3 => faF o 3 v3 fun v4 => load1F o h v4 fun v5 => c 35 [v5] h fun v6 h => pk k v6 h <| ixF o 6 v6 s2 fun v7 => faF o 5 v7 fun v8 => storeF o h 1 v8 s3 fun h => loadNF o h 1 s4 fun v9 => c 47 [v9, s1, v6] h fun v10 h => pk k v10 h <| storeF o h 1 s8 v10 fun h => on o (resV Pq h [(s8, some 25)]) fun v => k v h
theorem f54_2_ok : R Pq o c n (cB (cB b54)) (kend Pq o c n w rs54 k) = fun t _ h => f54_2 o c n k (t 1) (t 2) (t 3) (t 4) (t 8) h := by kernel_rfl
noncomputable def f54_3K : Ex → K α := (nxK (fun t _ h => f54_2 o c n k (t 1) (t 2) (t 3) (t 4) (t 8) h) (kend Pq o c n w rs54 k))
noncomputable def f54_4 (s1 s2 s3 s4 s8 s33 : AV) (h : Heap) : α :=
  ifF o s33 (loadNF o h 1 s4 fun v11 => c 105 [v11] h fun v12 h => pk k v12 h <| storeF o h 1 s8 v12 fun h => on o (resV Pq h [(s8, some 25)]) fun v => k v h) (f54_2 o c n k s1 s2 s3 s4 s8 h)
theorem f54_4_ok : R Pq o c n (cB (cA (cB b54))) (f54_3K o c n k w) = fun t _ h => f54_4 o c n k (t 1) (t 2) (t 3) (t 4) (t 8) (t 33) h := by kernel_rfl
noncomputable def f54_5K : Ex → K α := (nxK (fun t _ h => f54_4 o c n k (t 1) (t 2) (t 3) (t 4) (t 8) (t 33) h) (f54_3K o c n k w))
noncomputable def f54_7 (s1 s2 s3 s4 s8 s19 s21 : AV) (h : Heap) : α :=
  pickF o s19 (.b true) s21 fun v13 => bkF o false v13 (faF o 0 s4 fun v14 => load1F o h v14 fun v15 => ixF o 4 v15 s1 fun v16 => faF o 3 v16 fun v17 => load1F o h v17 fun v18 => lenF o v18 fun v19 => geqF Pq o 3 s2 v19 fun v20 => pickF o v13 (.b true) v20 fun v21 => f54_4 o c n k s1 s2 s3 s4 s8 v21 h) (pickF o v13 (.b true) (.tup []) fun v22 => f54_4 o c n k s1 s2 s3 s4 s8 v22 h)
theorem f54_7_ok : Q Pq o c (cO (cA (cA (cB b54)))) (f54_5K o c n k w) 12 = fun t _ h => f54_7 o c n k (t 1) (t 2) (t 3) (t 4) (t 8) (t 19) (t 21) h := (q_seg 12 14 (by kernel_rfl) (q_guard 14 23 (13, false) (by kernel_rfl) (by kernel_rfl) (by kernel_rfl) rfl)).tk
noncomputable def f54_6 (s1 s2 s3 s4 s8 s12 s17 : AV) (h : Heap) : α :=
  pickF o s12 (.b true) s17 fun v23 => bkF o false v23 (lssF Pq o 3 s2 (.i .i64 0) fun v24 => f54_7 o c n k s1 s2 s3 s4 s8 v23 v24 h) (f54_7 o c n k s1 s2 s3 s4 s8 v23 (.tup []) h)
theorem f54_6_ok : Q Pq o c (cO (cA (cA (cB b54)))) (f54_5K o c n k w) 8 = fun t _ h => f54_6 o c n k (t 1) (t 2) (t 3) (t 4) (t 8) (t 12) (t 17) h := (q_seg 8 10 (by kernel_rfl) (q_guard 10 12 (9, false) (by kernel_rfl) (by kernel_rfl) (by kernel_rfl) (f54_7_ok o c n k w))).tk
noncomputable def f54_1 (s1 s2 s3 s4 s8 : AV) (h : Heap) : α :=
  lssF Pq o 3 s1 (.i .i64 0) fun v25 => bkF o false v25 (faF o 0 s4 fun v26 => load1F o h v26 fun v27 => lenF o v27 fun v28 => geqF Pq o 3 s1 v28 fun v29 => f54_6 o c n k s1 s2 s3 s4 s8 v25 v29 h) (f54_6 o c n k s1 s2 s3 s4 s8 v25 (.tup []) h)
theorem f54_1_ok : R Pq o c n (cB b54) (kend Pq o c n w rs54 k) = fun t _ h => f54_1 o c n k (t 1) (t 2) (t 3) (t 4) (t 8) h := (kseq (f54_2_ok o c n k w) (kseq (f54_4_ok o c n k w) (r_start 3 (by kernel_rfl) (q_guard 3 8 (2, false) (by kernel_rfl) (by kernel_rfl) (by kernel_rfl) (f54_6_ok o c n k w))))).tk
noncomputable def f54 (a0 a1 a2 a3 : AV) (h : Heap) : α :=
  boxF o a0 h h.next fun v30 h => newF h h.next 1 [.nsl] fun v31 h => f54_1 o c n k a1 a2 a3 v30 v31 h
theorem f54_ok : R Pq o c n b54 (kend Pq o c n w rs54 k) = fun t _ h => f54 o c n k (t 0) (t 1) (t 2) (t 3) h := (kseq (f54_1_ok o c n k w) rfl).tk
theorem f54_good : Good Pq (cfg mm) 54 (entF Pq (cfg mm) 54 4 fun α => f54) := entG b54 rs54 52 fun _ => f54_ok
noncomputable def b61 := bdy Tryz.f61
noncomputable def rs61 := Tryz.f61.results.toList
noncomputable def f61_2K : Ex → K α := (nxK (R Pq o c n (cB (cB b61)) (kend Pq o c n w rs61 k)) (kend Pq o c n w rs61 k))
noncomputable def f61_4 {α : Type} (o : α) (c : Call' α) (n : Nat) (k : AV → Heap → α) (m : Nat) : AVs (Heap → α) 2 :=
  Nat.rec (motive := fun _ => AVs (Heap → α) 2) (fun _ _ _ => o) (fun _ lp0 s0 s3 h => lensF o s0 fun v1 => lssF Pq o 3 s3 v1 fun v2 => ifF o v2 (c 138 [s0, s3] h fun v3 h => pk k v3 h <| newF h h.next 3 [(.i .i32 0), (.i .i64 0), (.b false)] fun v4 h => storeF o h 3 v4 v3 fun h => faF o 2 v4 fun v5 => load1F o h v5 fun v6 => ifF o v6 (k s3 h) (faF o 1 v4 fun v7 => load1F o h v7 fun v8 => addF Pq o 3 s3 v8 fun v9 => lp0 s0 v9 h)) (k (.i .i64 (-1)) h)) m
theorem f61_4_ok : R Pq o c n (cA (cB (cA (cB b61)))) (blockK (cI (cB (cA (cB b61)))) (f61_2K o c n k w)) = fun t _ h => f61_4 o c n k n (t 0) (t 3) h :=
  c_loop (F := fun m t _ h => f61_4 o c n k m (t 0) (t 3) h) (by kernel_rfl) (by kernel_rfl) fun m => by kernel_rfl
noncomputable def f61_3 (s0 s3 : AV) (h : Heap) : α :=
  f61_4 o c n k n s0 s3 h
theorem f61_3_ok : R Pq o c n (cB (cA (cB b61))) (f61_2K o c n k w) = fun t _ h => f61_3 o c n k (t 0) (t 3) h := (kblk (f61_4_ok o c n k w)).tk
noncomputable def f61_1 (s0 : AV) (h : Heap) : α :=
  f61_3 o c n k s0 (.i .i64 0) h
theorem f61_1_ok : R Pq o c n (cB b61) (kend Pq o c n w rs61 k) = fun t _ h => f61_1 o c n k (t 0) h := (kseq rfl (kseq (f61_3_ok o c n k w) rfl)).tk
noncomputable def f61 (a0 : AV) (h : Heap) : α :=
  f61_1 o c n k a0 h
theorem f61_ok : R Pq o c n b61 (kend Pq o c n w rs61 k) = fun t _ h => f61 o c n k (t 0) h := (kseq (f61_1_ok o c n k w) rfl).tk
theorem f61_good : Good Pq (cfg mm) 61 (entF Pq (cfg mm) 61 1 fun α => f61) := entG b61 rs61 19 fun _ => f61_ok
noncomputable def b62 := bdy Tryz.f62
noncomputable def rs62 := Tryz.f62.results.toList
noncomputable def f62_5 {α : Type} (o : α) (c : Call' α) (n : Nat) (k : AV → Heap → α) (s0 s1 s4 : AV) (h : Heap) : α :=
  fil1 o 1 17 0 (.s 1 123) (lrep [(.s 0 0)] 17) fun v1 => fil1 o 1 17 1 (.s 1 125) v1 fun v2 => fil1 o 1 17 2 (.s 1 40) v2 fun v3 => fil1 o 1 17 3 (.s 1 41) v3 fun v4 => fil1 o 1 17 4 (.s 1 59) v4 fun v5 => fil1 o 1 17 5 (.s 1 44) v5 fun v6 => fil1 o 1 17 6 (.s 1 46) v6 fun v7 => fil1 o 1 17 7 (.s 1 61) v7 fun v8 => fil1 o 1 17 8 (.s 1 60) v8 fun v9 => fil1 o 1 17 9 (.s 1 43) v9 fun v10 => fil1 o 1 17 10 (.s 1 45) v10 fun v11 => fil1 o 1 17 11 (.s 1 42) v11 fun v12 => fil1 o 1 17 12 (.s 1 47) v12 fun v13 => fil1 o 1 17 13 (.s 1 37) v13 fun v14 => fil1 o 1 17 14 (.s 1 33) v14 fun v15 => fil1 o 1 17 15 (.s 1 35) v15 fun v16 => fil1 o 1 17 16 (.s 1 64) v16 fun v17 => newEF h h.next 1 17 v17 fun v18 h => addF Pq o 3 s1 (.i .i64 1) fun v19 => ssF Pq o 9 s0 (some s1) (some v19) fun v20 => c 143 [v18, v20] h fun v21 h => pk k v21 h <| ifF o v21 (addF Pq o 3 s1 (.i .i64 1) fun v22 => ssF Pq o 9 s0 (some s1) (some v22) fun v23 => layF o 0 (.i .i64 4) [(.i .i64 0), (.s 0 0), (.i .i64 0)] fun v24 => layF o 1 v23 v24 fun v25 => layF o 2 s1 v25 fun v26 => storeF o h 3 s4 (.agg v26) fun h => on o (resV Pq h [(s4, some 115), ((.i .i64 1), none)]) fun v => k v h) (storeF o h 3 s4 (.agg [(.i .i64 0), (.s 0 0), (.i .i64 0)]) fun h => on o (resV Pq h [(s4, some 115), ((.i .i64 0), none)]) fun v => k v h)
theorem f62_5_ok : R Pq o c n (cB (cB (cB (cB (cB b62))))) (kend Pq o c n w rs62 k) = fun t _ h => f62_5 o c n k (t 0) (t 1) (t 4) h := by kernel_rfl
noncomputable def f62_6K : Ex → K α := (nxK (fun t _ h => f62_5 o c n k (t 0) (t 1) (t 4) h) (kend Pq o c n w rs62 k))
noncomputable def f62_7 (s0 s1 s4 s160 : AV) (h : Heap) : α :=
  ifF o s160 (addF Pq o 3 s1 (.i .i64 2) fun v27 => ssF Pq o 9 s0 (some s1) (some v27) fun v28 => layF o 0 (.i .i64 4) [(.i .i64 0), (.s 0 0), (.i .i64 0)] fun v29 => layF o 1 v28 v29 fun v30 => layF o 2 s1 v30 fun v31 => storeF o h 3 s4 (.agg v31) fun h => on o (resV Pq h [(s4, some 115), ((.i .i64 2), none)]) fun v => k v h) (f62_5 o c n k s0 s1 s4 h)
theorem f62_7_ok : R Pq o c n (cB (cA (cB (cB (cB (cB b62)))))) (f62_6K o c n k w) = fun t _ h => f62_7 o c n k (t 0) (t 1) (t 4) (t 160) h := by kernel_rfl
noncomputable def f62_8K : Ex → K α := (nxK (fun t _ h => f62_7 o c n k (t 0) (t 1) (t 4) (t 160) h) (f62_6K o c n k w))
noncomputable def f62_4 (s0 s1 s4 : AV) (h : Heap) : α :=
  addF Pq o 3 s1 (.i .i64 2) fun v32 => lensF o s0 fun v33 => leqF Pq o 3 v32 v33 fun v34 => bkF o true v34 (fil1 o 1 6 0 (.s 2 14906) (lrep [(.s 0 0)] 6) fun v35 => fil1 o 1 6 1 (.s 2 15676) v35 fun v36 => fil1 o 1 6 2 (.s 2 15677) v36 fun v37 => fil1 o 1 6 3 (.s 2 15649) v37 fun v38 => fil1 o 1 6 4 (.s 2 9766) v38 fun v39 => fil1 o 1 6 5 (.s 2 31868) v39 fun v40 => newEF h h.next 1 6 v40 fun v41 h => addF Pq o 3 s1 (.i .i64 2) fun v42 => ssF Pq o 9 s0 (some s1) (some v42) fun v43 => c 143 [v41, v43] h fun v44 h => pk k v44 h <| pickF o v34 v44 (.b false) fun v45 => f62_7 o c n k s0 s1 s4 v45 h) (pickF o v34 (.tup []) (.b false) fun v46 => f62_7 o c n k s0 s1 s4 v46 h)
theorem f62_4_ok : R Pq o c n (cB (cB (cB (cB b62)))) (kend Pq o c n w rs62 k) = fun t _ h => f62_4 o c n k (t 0) (t 1) (t 4) h := (kseq (f62_5_ok o c n k w) (kseq (f62_7_ok o c n k w) (r_start 6 (by kernel_rfl) (q_guard 6 13 (5, true) (by kernel_rfl) (by kernel_rfl) (by kernel_rfl) rfl)))).tk
noncomputable def f62_9K : Ex → K α := (nxK (fun t _ h => f62_4 o c n k (t 0) (t 1) (t 4) h) (kend Pq o c n w rs62 k))
noncomputable def f62_12K : Ex → K α := (nxK (R Pq o c n (cB (cA (cB (cB (cB (cA (cA (cB (cB (cB b62)))))))))) (blockK (cI (cA (cB (cB (cB b62))))) (f62_9K o c n k w))) (blockK (cI (cA (cB (cB (cB b62))))) (f62_9K o c n k w)))
noncomputable def f62_14K (lp0 : AVs (Heap → α) 4) : Ex → K α := (nxK (fun t _ h => lp0 (t 0) (t 1) (t 4) (t 7) h) (blockK (cI (cA (cA (cB (cB (cB (cA (cA (cB (cB (cB b62))))))))))) (f62_12K o c n k w)))
noncomputable def f62_15 {α : Type} (o : α) (c : Call' α) (n : Nat) (k : AV → Heap → α) (lp0 : AVs (Heap → α) 4) (s0 s1 s4 s7 : AV) (h : Heap) : α :=
  addF Pq o 3 s7 (.i .i64 1) fun v47 => lp0 s0 s1 s4 v47 h
theorem f62_15_ok (lp0 : AVs (Heap → α) 4) : R Pq o c n (cB (cA (cA (cA (cA (cB (cB (cB (cA (cA (cB (cB (cB b62))))))))))))) (f62_14K o c n k w lp0) = fun t _ h => f62_15 o c n k lp0 (t 0) (t 1) (t 4) (t 7) h := by kernel_rfl
noncomputable def f62_16K (lp0 : AVs (Heap → α) 4) : Ex → K α := (nxK (fun t _ h => f62_15 o c n k lp0 (t 0) (t 1) (t 4) (t 7) h) (f62_14K o c n k w lp0))
noncomputable def f62_17K (lp0 : AVs (Heap → α) 4) : Ex → K α := (nxK (R Pq o c n (cB (cA (cA (cA (cA (cA (cB (cB (cB (cA (cA (cB (cB (cB b62)))))))))))))) (f62_16K o c n k w lp0)) (f62_16K o c n k w lp0))
noncomputable def f62_13 (m : Nat) : AVs (Heap → α) 4 :=
  Nat.rec (motive := fun _ => AVs (Heap → α) 4) (fun _ _ _ _ _ => o) (fun _ lp0 s0 s1 s4 s7 h => addF Pq o 3 s1 s7 fun v48 => lensF o s0 fun v49 => lssF Pq o 3 v48 v49 fun v50 => bkF o true v50 (addF Pq o 3 s1 s7 fun v51 => sxF o s0 v51 fun v52 => neiF Pq o 5 v52 (.i .u8 10) fun v53 => pickF o v50 v53 (.b false) fun v54 => ifF o v54 (f62_15 o c n k lp0 s0 s1 s4 s7 h) (storeF o h 3 s4 (.agg [(.i .i64 0), (.s 0 0), (.i .i64 0)]) fun h => on o (resV Pq h [(s4, some 115), (s7, none)]) fun v => k v h)) (pickF o v50 (.tup []) (.b false) fun v55 => ifF o v55 (f62_15 o c n k lp0 s0 s1 s4 s7 h) (storeF o h 3 s4 (.agg [(.i .i64 0), (.s 0 0), (.i .i64 0)]) fun h => on o (resV Pq h [(s4, some 115), (s7, none)]) fun v => k v h))) m
theorem f62_13_ok : R Pq o c n (cA (cA (cA (cB (cB (cB (cA (cA (cB (cB (cB b62))))))))))) (blockK (cI (cA (cA (cB (cB (cB (cA (cA (cB (cB (cB b62))))))))))) (f62_12K o c n k w)) = fun t _ h => f62_13 o c n k n (t 0) (t 1) (t 4) (t 7) h :=
  c_loop (F := fun m t _ h => f62_13 o c n k m (t 0) (t 1) (t 4) (t 7) h) (by kernel_rfl) (by kernel_rfl) fun m => (kseq (f62_15_ok o c n k w (f62_13 o c n k m)) (kseq rfl (r_start 7 (by kernel_rfl) (q_guard 7 13 (6, true) (by kernel_rfl) (by kernel_rfl) (by kernel_rfl) rfl)))).tk
noncomputable def f62_19K : Ex → K α := (nxK (R Pq o c n (cB (cA (cB (cB (cB (cB (cB (cA (cA (cB (cB (cB b62)))))))))))) (blockK (cI (cA (cB (cB (cB b62))))) (f62_9K o c n k w))) (blockK (cI (cA (cB (cB (cB b62))))) (f62_9K o c n k w)))
noncomputable def f62_21K (lp0 : AVs (Heap → α) 4) : Ex → K α := (nxK (fun t _ h => lp0 (t 0) (t 1) (t 4) (t 7) h) (blockK (cI (cA (cA (cB (cB (cB (cB (cB (cA (cA (cB (cB (cB b62))))))))))))) (f62_19K o c n k w)))
noncomputable def f62_22 {α : Type} (o : α) (c : Call' α) (n : Nat) (k : AV → Heap → α) (lp0 : AVs (Heap → α) 4) (s0 s1 s4 s7 : AV) (h : Heap) : α :=
  addF Pq o 3 s7 (.i .i64 1) fun v56 => lp0 s0 s1 s4 v56 h
theorem f62_22_ok (lp0 : AVs (Heap → α) 4) : R Pq o c n (cB (cA (cA (cA (cA (cB (cB (cB (cB (cB (cA (cA (cB (cB (cB b62))))))))))))))) (f62_21K o c n k w lp0) = fun t _ h => f62_22 o c n k lp0 (t 0) (t 1) (t 4) (t 7) h := by kernel_rfl
noncomputable def f62_23K (lp0 : AVs (Heap → α) 4) : Ex → K α := (nxK (fun t _ h => f62_22 o c n k lp0 (t 0) (t 1) (t 4) (t 7) h) (f62_21K o c n k w lp0))
noncomputable def f62_24K (lp0 : AVs (Heap → α) 4) : Ex → K α := (nxK (R Pq o c n (cB (cA (cA (cA (cA (cA (cB (cB (cB (cB (cB (cA (cA (cB (cB (cB b62)))))))))))))))) (f62_23K o c n k w lp0)) (f62_23K o c n k w lp0))
noncomputable def f62_20 (m : Nat) : AVs (Heap → α) 4 :=
  Nat.rec (motive := fun _ => AVs (Heap → α) 4) (fun _ _ _ _ _ => o) (fun _ lp0 s0 s1 s4 s7 h => addF Pq o 3 s1 s7 fun v57 => lensF o s0 fun v58 => lssF Pq o 3 v57 v58 fun v59 => bkF o true v59 (addF Pq o 3 s1 s7 fun v60 => sxF o s0 v60 fun v61 => convA Pq o 5 21 v61 fun v62 => c 139 [v62] h fun v63 h => pk k v63 h <| pickF o v59 v63 (.b false) fun v64 => ifF o v64 (f62_22 o c n k lp0 s0 s1 s4 s7 h) (addF Pq o 3 s1 s7 fun v65 => ssF Pq o 9 s0 (some s1) (some v65) fun v66 => layF o 0 (.i .i64 2) [(.i .i64 0), (.s 0 0), (.i .i64 0)] fun v67 => layF o 1 v66 v67 fun v68 => layF o 2 s1 v68 fun v69 => storeF o h 3 s4 (.agg v69) fun h => on o (resV Pq h [(s4, some 115), (s7, none)]) fun v => k v h)) (pickF o v59 (.tup []) (.b false) fun v70 => ifF o v70 (f62_22 o c n k lp0 s0 s1 s4 s7 h) (addF Pq o 3 s1 s7 fun v71 => ssF Pq o 9 s0 (some s1) (some v71) fun v72 => layF o 0 (.i .i64 2) [(.i .i64 0), (.s 0 0), (.i .i64 0)] fun v73 => layF o 1 v72 v73 fun v74 => layF o 2 s1 v74 fun v75 => storeF o h 3 s4 (.agg v75) fun h => on o (resV Pq h [(s4, some 115), (s7, none)]) fun v => k v h))) m
theorem f62_20_ok : R Pq o c n (cA (cA (cA (cB (cB (cB (cB (cB (cA (cA (cB (cB (cB b62))))))))))))) (blockK (cI (cA (cA (cB (cB (cB (cB (cB (cA (cA (cB (cB (cB b62))))))))))))) (f62_19K o c n k w)) = fun t _ h => f62_20 o c n k n (t 0) (t 1) (t 4) (t 7) h :=
  c_loop (F := fun m t _ h => f62_20 o c n k m (t 0) (t 1) (t 4) (t 7) h) (by kernel_rfl) (by kernel_rfl) fun m => (kseq (f62_22_ok o c n k w (f62_20 o c n k m)) (kseq rfl (r_start 7 (by kernel_rfl) (q_guard 7 14 (6, true) (by kernel_rfl) (by kernel_rfl) (by kernel_rfl) rfl)))).tk
noncomputable def f62_26K : Ex → K α := (nxK (R Pq o c n (cB (cA (cB (cB (cB (cB (cB (cB (cB (cA (cA (cB (cB (cB b62)))))))))))))) (blockK (cI (cA (cB (cB (cB b62))))) (f62_9K o c n k w))) (blockK (cI (cA (cB (cB (cB b62))))) (f62_9K o c n k w)))
noncomputable def f62_28K (lp0 : AVs (Heap → α) 4) : Ex → K α := (nxK (fun t _ h => lp0 (t 0) (t 1) (t 4) (t 7) h) (blockK (cI (cA (cA (cB (cB (cB (cB (cB (cB (cB (cA (cA (cB (cB (cB b62))))))))))))))) (f62_26K o c n k w)))
noncomputable def f62_29 {α : Type} (o : α) (c : Call' α) (n : Nat) (k : AV → Heap → α) (lp0 : AVs (Heap → α) 4) (s0 s1 s4 s7 : AV) (h : Heap) : α :=
  addF Pq o 3 s7 (.i .i64 1) fun v76 => lp0 s0 s1 s4 v76 h
theorem f62_29_ok (lp0 : AVs (Heap → α) 4) : R Pq o c n (cB (cA (cA (cA (cA (cB (cB (cB (cB (cB (cB (cB (cA (cA (cB (cB (cB b62))))))))))))))))) (f62_28K o c n k w lp0) = fun t _ h => f62_29 o c n k lp0 (t 0) (t 1) (t 4) (t 7) h := by kernel_rfl
noncomputable def f62_30K (lp0 : AVs (Heap → α) 4) : Ex → K α := (nxK (fun t _ h => f62_29 o c n k lp0 (t 0) (t 1) (t 4) (t 7) h) (f62_28K o c n k w lp0))
noncomputable def f62_31K (lp0 : AVs (Heap → α) 4) : Ex → K α := (nxK (R Pq o c n (cB (cA (cA (cA (cA (cA (cB (cB (cB (cB (cB (cB (cB (cA (cA (cB (cB (cB b62)))))))))))))))))) (f62_30K o c n k w lp0)) (f62_30K o c n k w lp0))
noncomputable def f62_27 (m : Nat) : AVs (Heap → α) 4 :=
  Nat.rec (motive := fun _ => AVs (Heap → α) 4) (fun _ _ _ _ _ => o) (fun _ lp0 s0 s1 s4 s7 h => addF Pq o 3 s1 s7 fun v77 => lensF o s0 fun v78 => lssF Pq o 3 v77 v78 fun v79 => bkF o true v79 (addF Pq o 3 s1 s7 fun v80 => sxF o s0 v80 fun v81 => c 140 [v81] h fun v82 h => pk k v82 h <| pickF o v79 v82 (.b false) fun v83 => ifF o v83 (f62_29 o c n k lp0 s0 s1 s4 s7 h) (addF Pq o 3 s1 s7 fun v84 => ssF Pq o 9 s0 (some s1) (some v84) fun v85 => layF o 0 (.i .i64 1) [(.i .i64 0), (.s 0 0), (.i .i64 0)] fun v86 => layF o 1 v85 v86 fun v87 => layF o 2 s1 v87 fun v88 => storeF o h 3 s4 (.agg v88) fun h => on o (resV Pq h [(s4, some 115), (s7, none)]) fun v => k v h)) (pickF o v79 (.tup []) (.b false) fun v89 => ifF o v89 (f62_29 o c n k lp0 s0 s1 s4 s7 h) (addF Pq o 3 s1 s7 fun v90 => ssF Pq o 9 s0 (some s1) (some v90) fun v91 => layF o 0 (.i .i64 1) [(.i .i64 0), (.s 0 0), (.i .i64 0)] fun v92 => layF o 1 v91 v92 fun v93 => layF o 2 s1 v93 fun v94 => storeF o h 3 s4 (.agg v94) fun h => on o (resV Pq h [(s4, some 115), (s7, none)]) fun v => k v h))) m
theorem f62_27_ok : R Pq o c n (cA (cA (cA (cB (cB (cB (cB (cB (cB (cB (cA (cA (cB (cB (cB b62))))))))))))))) (blockK (cI (cA (cA (cB (cB (cB (cB (cB (cB (cB (cA (cA (cB (cB (cB b62))))))))))))))) (f62_26K o c n k w)) = fun t _ h => f62_27 o c n k n (t 0) (t 1) (t 4) (t 7) h :=
  c_loop (F := fun m t _ h => f62_27 o c n k m (t 0) (t 1) (t 4) (t 7) h) (by kernel_rfl) (by kernel_rfl) fun m => (kseq (f62_29_ok o c n k w (f62_27 o c n k m)) (kseq rfl (r_start 7 (by kernel_rfl) (q_guard 7 13 (6, true) (by kernel_rfl) (by kernel_rfl) (by kernel_rfl) rfl)))).tk
noncomputable def f62_25 (s0 s1 s4 s6 s7 s94 : AV) (h : Heap) : α :=
  ifF o s94 (f62_27 o c n k n s0 s1 s4 s7 h) (eqiF Pq o 5 s6 (.i .u8 34) fun v95 => ifF o v95 (c 141 [s0, s1] h fun v96 h => pk k v96 h <| eqiF Pq o 3 v96 (.i .i64 0) fun v97 => ifF o v97 (storeF o h 3 s4 (.agg [(.i .i64 0), (.s 0 0), (.i .i64 0)]) fun h => on o (resV Pq h [(s4, some 115), ((.i .i64 0), none)]) fun v => k v h) (addF Pq o 3 s1 (.i .i64 1) fun v98 => addF Pq o 3 s1 v96 fun v99 => binA Pq o .sub 3 v99 (.i .i64 1) fun v100 => ssF Pq o 9 s0 (some v98) (some v100) fun v101 => c 142 [v101] h fun v102 h => pk k v102 h <| exF o v102 0 fun v103 => exF o v102 1 fun v104 => layF o 0 (.i .i64 3) [(.i .i64 0), (.s 0 0), (.i .i64 0)] fun v105 => layF o 1 v103 v105 fun v106 => layF o 2 s1 v106 fun v107 => storeF o h 3 s4 (.agg v107) fun h => on o (resV Pq h [(s4, some 115), (v96, none)]) fun v => k v h)) (f62_4 o c n k s0 s1 s4 h))
theorem f62_25_ok : R Pq o c n (cB (cB (cB (cB (cB (cB (cB (cA (cA (cB (cB (cB b62)))))))))))) (blockK (cI (cA (cB (cB (cB b62))))) (f62_9K o c n k w)) = fun t _ h => f62_25 o c n k (t 0) (t 1) (t 4) (t 6) (t 7) (t 94) h := (c_cond (by kernel_rfl) (kseq rfl (kblk (f62_27_ok o c n k w))) rfl).tk
noncomputable def f62_18 (s0 s1 s4 s6 s7 s64 : AV) (h : Heap) : α :=
  ifF o s64 (f62_20 o c n k n s0 s1 s4 s7 h) (c 140 [s6] h fun v108 h => pk k v108 h <| f62_25 o c n k s0 s1 s4 s6 s7 v108 h)
theorem f62_18_ok : R Pq o c n (cB (cB (cB (cB (cB (cA (cA (cB (cB (cB b62)))))))))) (blockK (cI (cA (cB (cB (cB b62))))) (f62_9K o c n k w)) = fun t _ h => f62_18 o c n k (t 0) (t 1) (t 4) (t 6) (t 7) (t 64) h := (c_cond (by kernel_rfl) (kseq rfl (kblk (f62_20_ok o c n k w))) (kseq (f62_25_ok o c n k w) rfl)).tk
noncomputable def f62_11 (s0 s1 s4 s6 s7 s29 : AV) (h : Heap) : α :=
  ifF o s29 (f62_13 o c n k n s0 s1 s4 s7 h) (convA Pq o 5 21 s6 fun v109 => c 139 [v109] h fun v110 h => pk k v110 h <| f62_18 o c n k s0 s1 s4 s6 s7 v110 h)
theorem f62_11_ok : R Pq o c n (cB (cB (cB (cA (cA (cB (cB (cB b62)))))))) (blockK (cI (cA (cB (cB (cB b62))))) (f62_9K o c n k w)) = fun t _ h => f62_11 o c n k (t 0) (t 1) (t 4) (t 6) (t 7) (t 29) h := (c_cond (by kernel_rfl) (kseq rfl (kblk (f62_13_ok o c n k w))) (kseq (f62_18_ok o c n k w) rfl)).tk
noncomputable def f62_32K : Ex → K α := (nxK (fun t _ h => f62_11 o c n k (t 0) (t 1) (t 4) (t 6) (t 7) (t 29) h) (blockK (cI (cA (cB (cB (cB b62))))) (f62_9K o c n k w)))
noncomputable def f62_33 (s0 s1 s4 s6 s7 s32 s37 : AV) (h : Heap) : α :=
  pickF o s32 s37 (.b false) fun v111 => bkF o true v111 (addF Pq o 3 s1 (.i .i64 1) fun v112 => sxF o s0 v112 fun v113 => eqiF Pq o 5 v113 (.i .u8 47) fun v114 => pickF o v111 v114 (.b false) fun v115 => f62_11 o c n k s0 s1 s4 s6 s7 v115 h) (pickF o v111 (.tup []) (.b false) fun v116 => f62_11 o c n k s0 s1 s4 s6 s7 v116 h)
theorem f62_33_ok : Q Pq o c (cO (cA (cB (cB (cA (cA (cB (cB (cB b62))))))))) (f62_32K o c n k w) 8 = fun t _ h => f62_33 o c n k (t 0) (t 1) (t 4) (t 6) (t 7) (t 32) (t 37) h := (q_seg 8 10 (by kernel_rfl) (q_guard 10 15 (9, true) (by kernel_rfl) (by kernel_rfl) (by kernel_rfl) rfl)).tk
noncomputable def f62_10 (s0 s1 s4 s6 s7 s13 : AV) (h : Heap) : α :=
  ifF o s13 (storeF o h 3 s4 (.agg [(.i .i64 0), (.s 0 0), (.i .i64 0)]) fun h => on o (resV Pq h [(s4, some 115), ((.i .i64 1), none)]) fun v => k v h) (eqiF Pq o 5 s6 (.i .u8 47) fun v117 => bkF o true v117 (addF Pq o 3 s1 (.i .i64 1) fun v118 => lensF o s0 fun v119 => lssF Pq o 3 v118 v119 fun v120 => f62_33 o c n k s0 s1 s4 s6 s7 v117 v120 h) (f62_33 o c n k s0 s1 s4 s6 s7 v117 (.tup []) h))
theorem f62_10_ok : R Pq o c n (cB (cA (cA (cB (cB (cB b62)))))) (blockK (cI (cA (cB (cB (cB b62))))) (f62_9K o c n k w)) = fun t _ h => f62_10 o c n k (t 0) (t 1) (t 4) (t 6) (t 7) (t 13) h := (c_cond (by kernel_rfl) rfl (kseq (f62_11_ok o c n k w) (r_start 3 (by kernel_rfl) (q_guard 3 8 (2, true) (by kernel_rfl) (by kernel_rfl) (by kernel_rfl) (f62_33_ok o c n k w))))).tk
noncomputable def f62_34K : Ex → K α := (nxK (fun t _ h => f62_10 o c n k (t 0) (t 1) (t 4) (t 6) (t 7) (t 13) h) (blockK (cI (cA (cB (cB (cB b62))))) (f62_9K o c n k w)))
noncomputable def f62_36 (s0 s1 s4 s6 s7 s20 s22 : AV) (h : Heap) : α :=
  pickF o s20 (.b true) s22 fun v121 => bkF o false v121 (eqiF Pq o 5 s6 (.i .u8 13) fun v122 => pickF o v121 (.b true) v122 fun v123 => f62_10 o c n k s0 s1 s4 s6 s7 v123 h) (pickF o v121 (.b true) (.tup []) fun v124 => f62_10 o c n k s0 s1 s4 s6 s7 v124 h)
theorem f62_36_ok : Q Pq o c (cO (cA (cA (cA (cB (cB (cB b62))))))) (f62_34K o c n k w) 9 = fun t _ h => f62_36 o c n k (t 0) (t 1) (t 4) (t 6) (t 7) (t 20) (t 22) h := (q_seg 9 11 (by kernel_rfl) (q_guard 11 13 (10, false) (by kernel_rfl) (by kernel_rfl) (by kernel_rfl) rfl)).tk
noncomputable def f62_35 (s0 s1 s4 s6 s7 s16 s18 : AV) (h : Heap) : α :=
  pickF o s16 (.b true) s18 fun v125 => bkF o false v125 (eqiF Pq o 5 s6 (.i .u8 10) fun v126 => f62_36 o c n k s0 s1 s4 s6 s7 v125 v126 h) (f62_36 o c n k s0 s1 s4 s6 s7 v125 (.tup []) h)
theorem f62_35_ok : Q Pq o c (cO (cA (cA (cA (cB (cB (cB b62))))))) (f62_34K o c n k w) 5 = fun t _ h => f62_35 o c n k (t 0) (t 1) (t 4) (t 6) (t 7) (t 16) (t 18) h := (q_seg 5 7 (by kernel_rfl) (q_guard 7 9 (6, false) (by kernel_rfl) (by kernel_rfl) (by kernel_rfl) (f62_36_ok o c n k w))).tk
noncomputable def f62_3 (s0 s1 s4 s6 s7 : AV) (h : Heap) : α :=
  eqiF Pq o 5 s6 (.i .u8 32) fun v127 => bkF o false v127 (eqiF Pq o 5 s6 (.i .u8 9) fun v128 => f62_35 o c n k s0 s1 s4 s6 s7 v127 v128 h) (f62_35 o c n k s0 s1 s4 s6 s7 v127 (.tup []) h)
theorem f62_3_ok : R Pq o c n (cB (cB (cB b62))) (kend Pq o c n w rs62 k) = fun t _ h => f62_3 o c n k (t 0) (t 1) (t 4) (t 6) (t 7) h := (kseq (f62_4_ok o c n k w) (kblk (kseq (f62_10_ok o c n k w) (r_start 3 (by kernel_rfl) (q_guard 3 5 (2, false) (by kernel_rfl) (by kernel_rfl) (by kernel_rfl) (f62_35_ok o c n k w)))))).tk
noncomputable def f62_2 (s0 s1 s4 s6 : AV) (h : Heap) : α :=
  f62_3 o c n k s0 s1 s4 s6 (.i .i64 1) h
theorem f62_2_ok : R Pq o c n (cB (cB b62)) (kend Pq o c n w rs62 k) = fun t _ h => f62_2 o c n k (t 0) (t 1) (t 4) (t 6) h := (kseq (f62_3_ok o c n k w) rfl).tk
noncomputable def f62_1 (s0 s1 s4 : AV) (h : Heap) : α :=
  sxF o s0 s1 fun v129 => f62_2 o c n k s0 s1 s4 v129 h
theorem f62_1_ok : R Pq o c n (cB b62) (kend Pq o c n w rs62 k) = fun t _ h => f62_1 o c n k (t 0) (t 1) (t 4) h := (kseq (f62_2_ok o c n k w) rfl).tk
noncomputable def f62 (a0 a1 : AV) (h : Heap) : α :=
  newF h h.next 3 [(.i .i64 0), (.s 0 0), (.i .i64 0)] fun v130 h => f62_1 o c n k a0 a1 v130 h
theorem f62_ok : R Pq o c n b62 (kend Pq o c n w rs62 k) = fun t _ h => f62 o c n k (t 0) (t 1) h := (kseq (f62_1_ok o c n k w) rfl).tk
theorem f62_good : Good Pq (cfg mm) 62 (entF Pq (cfg mm) 62 2 fun α => f62) := entG b62 rs62 183 fun _ => f62_ok
noncomputable def b64 := bdy Tryz.f64
noncomputable def rs64 := Tryz.f64.results.toList
noncomputable def f64_2K : Ex → K α := (nxK (R Pq o c n (cB (cB b64)) (kend Pq o c n w rs64 k)) (kend Pq o c n w rs64 k))
noncomputable def f64_17 {α : Type} (o : α) (c : Call' α) (n : Nat) (k : AV → Heap → α) (base : Nat) (s8 s22 : AV) (h : Heap) : α :=
  pickF o s8 s22 (.b false) fun v1 => hb h.shut fun h => k v1 h
theorem f64_17_ok (base : Nat) : QD Pq o c (cO (cA (cB b64))) base ((f64_2K o c n k w)) 18 = fun t _ h => f64_17 o c n k base (t 8) (t 22) h := by kernel_rfl
noncomputable def f64_16 (base : Nat) (s8 s21 : AV) (h : Heap) : α :=
  bkF o true s8 (callD o c [] 145 [s21] h fun v2 h => pnF v2 (fun x => hb h.shut fun hd => k x.pn hd) <| f64_17 o c n k base s8 v2 h) (f64_17 o c n k base s8 (.tup []) h)
theorem f64_16_ok (base : Nat) : QD Pq o c (cO (cA (cB b64))) base ((f64_2K o c n k w)) 17 = fun t _ h => f64_16 o c n k base (t 8) (t 21) h := (qd_seg 17 18 (by kernel_rfl) (f64_17_ok o c n k w base)).tk
noncomputable def f64_15 (base : Nat) (s8 s20 : AV) (h : Heap) : α :=
  bkF o true s8 (load1F o (h.look 65535) s20 fun v3 => f64_16 o c n k base s8 v3 (h.look 0)) (f64_16 o c n k base s8 (.tup []) (h.look 0))
theorem f64_15_ok (base : Nat) : QD Pq o c (cO (cA (cB b64))) base ((f64_2K o c n k w)) 16 = fun t _ h => f64_15 o c n k base (t 8) (t 20) h := (qd_seg 16 17 (by kernel_rfl) (f64_16_ok o c n k w base)).tk
noncomputable def f64_14 (base : Nat) (s8 s19 : AV) (h : Heap) : α :=
  bkF o true s8 (faF o 1 s19 fun v4 => f64_15 o c n k base s8 v4 (h.look 0)) (f64_15 o c n k base s8 (.tup []) (h.look 0))
theorem f64_14_ok (base : Nat) : QD Pq o c (cO (cA (cB b64))) base ((f64_2K o c n k w)) 15 = fun t _ h => f64_14 o c n k base (t 8) (t 19) h := (qd_seg 15 16 (by kernel_rfl) (f64_15_ok o c n k w base)).tk
noncomputable def f64_13 (base : Nat) (s8 s12 s18 : AV) (h : Heap) : α :=
  bkF o true s8 (ixF o 3 s12 s18 fun v5 => f64_14 o c n k base s8 v5 (h.look 0)) (f64_14 o c n k base s8 (.tup []) (h.look 0))
theorem f64_13_ok (base : Nat) : QD Pq o c (cO (cA (cB b64))) base ((f64_2K o c n k w)) 14 = fun t _ h => f64_13 o c n k base (t 8) (t 12) (t 18) h := (qd_seg 14 15 (by kernel_rfl) (f64_14_ok o c n k w base)).tk
noncomputable def f64_12 (base : Nat) (s8 s12 s16 s17 : AV) (h : Heap) : α :=
  bkF o true s8 (addF Pq o 3 s16 s17 fun v6 => f64_13 o c n k base s8 s12 v6 (h.look 0)) (f64_13 o c n k base s8 s12 (.tup []) (h.look 0))
theorem f64_12_ok (base : Nat) : QD Pq o c (cO (cA (cB b64))) base ((f64_2K o c n k w)) 13 = fun t _ h => f64_12 o c n k base (t 8) (t 12) (t 16) (t 17) h := (qd_seg 13 14 (by kernel_rfl) (f64_13_ok o c n k w base)).tk
noncomputable def f64_11 (base : Nat) (s1 s8 s12 s16 : AV) (h : Heap) : α :=
  bkF o true s8 (f64_12 o c n k base s8 s12 s16 s1 (h.look 0)) (f64_12 o c n k base s8 s12 s16 (.tup []) (h.look 0))
theorem f64_11_ok (base : Nat) : QD Pq o c (cO (cA (cB b64))) base ((f64_2K o c n k w)) 12 = fun t _ h => f64_11 o c n k base (t 1) (t 8) (t 12) (t 16) h := (qd_seg 12 13 (by kernel_rfl) (f64_12_ok o c n k w base)).tk
noncomputable def f64_10 (base : Nat) (s0 s1 s8 s12 s15 : AV) (h : Heap) : α :=
  rootF o s15 s0 <| bkF o true s8 (load1F o (h.look 1807) s15 fun v7 => f64_11 o c n k base s1 s8 s12 v7 (h.look 0)) (f64_11 o c n k base s1 s8 s12 (.tup []) (h.look 0))
theorem f64_10_ok (base : Nat) : QD Pq o c (cO (cA (cB b64))) base ((f64_2K o c n k w)) 11 = fun t _ h => f64_10 o c n k base (t 0) (t 1) (t 8) (t 12) (t 15) h := (qd_seg 11 12 (by kernel_rfl) (f64_11_ok o c n k w base)).tk
noncomputable def f64_9 (base : Nat) (s0 s1 s8 s12 s14 : AV) (h : Heap) : α :=
  bkF o true s8 (faF o 2 s14 fun v8 => f64_10 o c n k base s0 s1 s8 s12 v8 (h.look 0)) (f64_10 o c n k base s0 s1 s8 s12 (.tup []) (h.look 0))
theorem f64_9_ok (base : Nat) : QD Pq o c (cO (cA (cB b64))) base ((f64_2K o c n k w)) 10 = fun t _ h => f64_9 o c n k base (t 0) (t 1) (t 8) (t 12) (t 14) h := (qd_seg 10 11 (by kernel_rfl) (f64_10_ok o c n k w base)).tk
noncomputable def f64_8 (base : Nat) (s0 s1 s8 s12 s13 : AV) (h : Heap) : α :=
  bkF o true s8 (nilChk o s13 fun v9 => f64_9 o c n k base s0 s1 s8 s12 v9 (h.look 0)) (f64_9 o c n k base s0 s1 s8 s12 (.tup []) (h.look 0))
theorem f64_8_ok (base : Nat) : QD Pq o c (cO (cA (cB b64))) base ((f64_2K o c n k w)) 9 = fun t _ h => f64_8 o c n k base (t 0) (t 1) (t 8) (t 12) (t 13) h := (qd_seg 9 10 (by kernel_rfl) (f64_9_ok o c n k w base)).tk
noncomputable def f64_7 (base : Nat) (s0 s1 s8 s12 : AV) (h : Heap) : α :=
  bkF o true s8 (f64_8 o c n k base s0 s1 s8 s12 s0 (h.look 0)) (f64_8 o c n k base s0 s1 s8 s12 (.tup []) (h.look 0))
theorem f64_7_ok (base : Nat) : QD Pq o c (cO (cA (cB b64))) base ((f64_2K o c n k w)) 8 = fun t _ h => f64_7 o c n k base (t 0) (t 1) (t 8) (t 12) h := (qd_seg 8 9 (by kernel_rfl) (f64_8_ok o c n k w base)).tk
noncomputable def f64_6 (base : Nat) (s0 s1 s8 s11 : AV) (h : Heap) : α :=
  rootF o s11 s0 <| bkF o true s8 (load1F o (h.look 127) s11 fun v10 => f64_7 o c n k base s0 s1 s8 v10 (h.look 0)) (f64_7 o c n k base s0 s1 s8 (.tup []) (h.look 0))
theorem f64_6_ok (base : Nat) : QD Pq o c (cO (cA (cB b64))) base ((f64_2K o c n k w)) 7 = fun t _ h => f64_6 o c n k base (t 0) (t 1) (t 8) (t 11) h := (qd_seg 7 8 (by kernel_rfl) (f64_7_ok o c n k w base)).tk
noncomputable def f64_5 (base : Nat) (s0 s1 s8 s10 : AV) (h : Heap) : α :=
  bkF o true s8 (faF o 0 s10 fun v11 => f64_6 o c n k base s0 s1 s8 v11 (h.look 0)) (f64_6 o c n k base s0 s1 s8 (.tup []) (h.look 0))
theorem f64_5_ok (base : Nat) : QD Pq o c (cO (cA (cB b64))) base ((f64_2K o c n k w)) 6 = fun t _ h => f64_5 o c n k base (t 0) (t 1) (t 8) (t 10) h := (qd_seg 6 7 (by kernel_rfl) (f64_6_ok o c n k w base)).tk
noncomputable def f64_4 (base : Nat) (s0 s1 s8 s9 : AV) (h : Heap) : α :=
  bkF o true s8 (nilChk o s9 fun v12 => f64_5 o c n k base s0 s1 s8 v12 (h.look 0)) (f64_5 o c n k base s0 s1 s8 (.tup []) (h.look 0))
theorem f64_4_ok (base : Nat) : QD Pq o c (cO (cA (cB b64))) base ((f64_2K o c n k w)) 5 = fun t _ h => f64_4 o c n k base (t 0) (t 1) (t 8) (t 9) h := (qd_seg 5 6 (by kernel_rfl) (f64_5_ok o c n k w base)).tk
noncomputable def f64_3 (base : Nat) (s0 s1 s7 : AV) (h : Heap) : α :=
  bkF o true s7 (f64_4 o c n k base s0 s1 s7 s0 (h.look 0)) (f64_4 o c n k base s0 s1 s7 (.tup []) (h.look 0))
theorem f64_3_ok (base : Nat) : QD Pq o c (cO (cA (cB b64))) base ((f64_2K o c n k w)) 3 = fun t _ h => f64_3 o c n k base (t 0) (t 1) (t 7) h := (qd_seg 3 5 (by kernel_rfl) (f64_4_ok o c n k w base)).tk
noncomputable def f64_1 (s0 s1 : AV) (h : Heap) : α :=
  dreg o h 20 fun base h => callD o c [] 67 [s0, s1, (.i .i64 1), (.s 0 0)] (h.look 0) fun v13 h => pnF v13 (fun x => hb h.shut fun hd => k x.pn hd) <| f64_3 o c n k base s0 s1 v13 h
theorem f64_1_ok : R Pq o c n (cB b64) (kend Pq o c n w rs64 k) = fun t _ h => f64_1 o c n k (t 0) (t 1) h := (kseq rfl (r_startD 3 (by kernel_rfl) (by kernel_rfl) (X := fun base => fun t _ h => f64_3 o c n k base (t 0) (t 1) (t 7) h) (fun base => f64_3_ok o c n k w base))).tk
noncomputable def f64 (a0 a1 : AV) (h : Heap) : α :=
  f64_1 o c n k a0 a1 h
theorem f64_ok : R Pq o c n b64 (kend Pq o c n w rs64 k) = fun t _ h => f64 o c n k (t 0) (t 1) h := (kseq (f64_1_ok o c n k w) rfl).tk
theorem f64_good : Good Pq (cfg mm) 64 (entF Pq (cfg mm) 64 2 fun α => f64) := entG b64 rs64 24 fun _ => f64_ok
noncomputable def b65 := bdy Tryz.f65
noncomputable def rs65 := Tryz.f65.results.toList
noncomputable def f65 {α : Type} (o : α) (c : Call' α) (n : Nat) (k : AV → Heap → α) (a0 : AV) (h : Heap) : α :=
  dreg o h 12 fun base h => nilChk o a0 fun v1 => faF o 0 v1 fun v2 => rootF o v2 a0 <| load1F o (h.look 7) v2 fun v3 => nilChk o a0 fun v4 => faF o 2 v4 fun v5 => rootF o v5 a0 <| load1F o (h.look 112) v5 fun v6 => ixF o 3 v3 v6 fun v7 => faF o 1 v7 fun v8 => load1F o (h.look 1023) v8 fun v9 => hb h.shut fun h => lensF o v9 fun v10 => gtrF Pq o 3 v10 (.i .i64 20) fun v11 => ifF o v11 (c 63 [a0, (.i .i64 5)] h fun v12 h => pk k v12 h <| k (.s 0 0) h) (nilChk o a0 fun v13 => faF o 2 v13 fun v14 => load1F o h v14 fun v15 => addF Pq o 3 v15 (.i .i64 1) fun v16 => nilChk o a0 fun v17 => faF o 2 v17 fun v18 => storeF o h 1 v18 v16 fun h => k v9 h)
theorem f65_ok : R Pq o c n b65 (kend Pq o c n w rs65 k) = fun t _ h => f65 o c n k (t 0) h := by kernel_rfl
theorem f65_good : Good Pq (cfg mm) 65 (entF Pq (cfg mm) 65 1 fun α => f65) := entG b65 rs65 28 fun _ => f65_ok
noncomputable def b66 := bdy Tryz.f66
noncomputable def rs66 := Tryz.f66.results.toList
noncomputable def f66 {α : Type} (o : α) (c : Call' α) (n : Nat) (k : AV → Heap → α) (a0 a1 : AV) (h : Heap) : α :=
  c 67 [a0, (.i .i64 0), (.i .i64 1), a1] h fun v1 h => pk k v1 h <| k v1 h
theorem f66_ok : R Pq o c n b66 (kend Pq o c n w rs66 k) = fun t _ h => f66 o c n k (t 0) (t 1) h := by kernel_rfl
theorem f66_good : Good Pq (cfg mm) 66 (entF Pq (cfg mm) 66 2 fun α => f66) := entG b66 rs66 8 fun _ => f66_ok
noncomputable def b67 := bdy Tryz.f67
noncomputable def rs67 := Tryz.f67.results.toList
noncomputable def f67_3K : Ex → K α := (nxK (R Pq o c n (cB (cB (cB b67))) (kend Pq o c n w rs67 k)) (kend Pq o c n w rs67 k))
noncomputable def f67_7 {α : Type} (o : α) (c : Call' α) (n : Nat) (k : AV → Heap → α) (s42 s45 s55 : AV) (h : Heap) : α :=
  bkF o true s42 (pickF o s45 (.b true) s55 fun v1 => pickF o s42 v1 (.b false) fun v2 => k v2 h) (pickF o s42 (.tup []) (.b false) fun v3 => k v3 h)
theorem f67_7_ok : Q Pq o c (cO (cA (cB (cB b67)))) (f67_3K o c n k w) 40 = fun t _ h => f67_7 o c n k (t 42) (t 45) (t 55) h := (q_seg 40 40 (by kernel_rfl) (q_guard 40 41 (26, true) (by kernel_rfl) (by kernel_rfl) (by kernel_rfl) rfl)).tk
noncomputable def f67_6 (s0 s3 s9 s42 s45 : AV) (h : Heap) : α :=
  bkF o false s45 (nilChk o s0 fun v4 => faF o 0 v4 fun v5 => load1F o h v5 fun v6 => ixF o 3 v6 s9 fun v7 => faF o 1 v7 fun v8 => load1F o h v8 fun v9 => eqsF Pq o 9 v9 s3 fun v10 => f67_7 o c n k s42 s45 v10 h) (f67_7 o c n k s42 s45 (.tup []) h)
theorem f67_6_ok : Q Pq o c (cO (cA (cB (cB b67)))) (f67_3K o c n k w) 30 = fun t _ h => f67_6 o c n k (t 0) (t 3) (t 9) (t 42) (t 45) h := (q_seg 30 30 (by kernel_rfl) (q_guard 30 40 (29, false) (by kernel_rfl) (by kernel_rfl) (by kernel_rfl) (f67_7_ok o c n k w))).tk
noncomputable def f67_5 (s0 s3 s9 s30 s40 : AV) (h : Heap) : α :=
  pickF o s30 s40 (.b false) fun v11 => bkF o true v11 (eqsF Pq o 9 s3 (.s 0 0) fun v12 => f67_6 o c n k s0 s3 s9 v11 v12 h) (f67_6 o c n k s0 s3 s9 v11 (.tup []) h)
theorem f67_5_ok : Q Pq o c (cO (cA (cB (cB b67)))) (f67_3K o c n k w) 25 = fun t _ h => f67_5 o c n k (t 0) (t 3) (t 9) (t 30) (t 40) h := (q_seg 25 27 (by kernel_rfl) (q_guard 27 30 (26, true) (by kernel_rfl) (by kernel_rfl) (by kernel_rfl) (f67_6_ok o c n k w))).tk
noncomputable def f67_4 (s0 s2 s3 s9 s21 s28 : AV) (h : Heap) : α :=
  pickF o s21 s28 (.b false) fun v13 => bkF o true v13 (nilChk o s0 fun v14 => faF o 0 v14 fun v15 => load1F o h v15 fun v16 => ixF o 3 v16 s9 fun v17 => faF o 0 v17 fun v18 => load1F o h v18 fun v19 => eqiF Pq o 3 v19 s2 fun v20 => f67_5 o c n k s0 s3 s9 v13 v20 h) (f67_5 o c n k s0 s3 s9 v13 (.tup []) h)
theorem f67_4_ok : Q Pq o c (cO (cA (cB (cB b67)))) (f67_3K o c n k w) 13 = fun t _ h => f67_4 o c n k (t 0) (t 2) (t 3) (t 9) (t 21) (t 28) h := (q_seg 13 15 (by kernel_rfl) (q_guard 15 25 (14, true) (by kernel_rfl) (by kernel_rfl) (by kernel_rfl) (f67_5_ok o c n k w))).tk
noncomputable def f67_2 (s0 s2 s3 s9 : AV) (h : Heap) : α :=
  nilChk o s0 fun v21 => faF o 3 v21 fun v22 => load1F o h v22 fun v23 => eqiF Pq o 3 v23 (.i .i64 0) fun v24 => bkF o true v24 (nilChk o s0 fun v25 => faF o 0 v25 fun v26 => load1F o h v26 fun v27 => lenF o v27 fun v28 => lssF Pq o 3 s9 v28 fun v29 => f67_4 o c n k s0 s2 s3 s9 v24 v29 h) (f67_4 o c n k s0 s2 s3 s9 v24 (.tup []) h)
theorem f67_2_ok : R Pq o c n (cB (cB b67)) (kend Pq o c n w rs67 k) = fun t _ h => f67_2 o c n k (t 0) (t 2) (t 3) (t 9) h := (kseq rfl (r_start 6 (by kernel_rfl) (q_guard 6 13 (5, true) (by kernel_rfl) (by kernel_rfl) (by kernel_rfl) (f67_4_ok o c n k w)))).tk
noncomputable def f67_1 (s0 s1 s2 s3 : AV) (h : Heap) : α :=
  nilChk o s0 fun v30 => faF o 2 v30 fun v31 => load1F o h v31 fun v32 => addF Pq o 3 v32 s1 fun v33 => f67_2 o c n k s0 s2 s3 v33 h
theorem f67_1_ok : R Pq o c n (cB b67) (kend Pq o c n w rs67 k) = fun t _ h => f67_1 o c n k (t 0) (t 1) (t 2) (t 3) h := (kseq (f67_2_ok o c n k w) rfl).tk
noncomputable def f67 (a0 a1 a2 a3 : AV) (h : Heap) : α :=
  f67_1 o c n k a0 a1 a2 a3 h
theorem f67_ok : R Pq o c n b67 (kend Pq o c n w rs67 k) = fun t _ h => f67 o c n k (t 0) (t 1) (t 2) (t 3) h := (kseq (f67_1_ok o c n k w) rfl).tk
theorem f67_good : Good Pq (cfg mm) 67 (entF Pq (cfg mm) 67 4 fun α => f67) := entG b67 rs67 58 fun _ => f67_ok
noncomputable def b69 := bdy Tryz.f69
noncomputable def rs69 := Tryz.f69.results.toList
noncomputable def f69_6K : Ex → K α := (nxK (R Pq o c n (cB (cB (cB (cB (cB (cB b69)))))) (kend Pq o c n w rs69 k)) (kend Pq o c n w rs69 k))
noncomputable def f69_8K (lp0 : AVs (Heap → α) 3) : Ex → K α := (nxK (fun t _ h => lp0 (t 0) (t 1) (t 5) h) (blockK (cI (cA (cB (cB (cB (cB (cB b69))))))) (f69_6K o c n k w)))
noncomputable def f69_10 {α : Type} (o : α) (c : Call' α) (n : Nat) (k : AV → Heap → α) (lp0 : AVs (Heap → α) 3) (s0 s1 s31 s32 s34 s37 : AV) (h : Heap) : α :=
  pickF o s34 s37 (.b false) fun v1 => c 147 [s32, v1] h fun v2 h => pk k v2 h <| fil1 o 9 1 0 v2 [[(.i .i64 0), (.i .i32 0), (.s 0 0), (.s 0 0), .nsl, .nsl, .nsl, .nsl, (.i .i64 0)]] fun v3 => newEF h h.next 9 1 v3 fun v4 h => appX Pq o h h.next 36 36 s31 v4 fun v5 h => lp0 s0 s1 v5 h
theorem f69_10_ok (lp0 : AVs (Heap → α) 3) : Q Pq o c (cO (cA (cB (cA (cA (cA (cB (cB (cB (cB (cB b69))))))))))) (blockK (cI (cB (cA (cA (cA (cB (cB (cB (cB (cB b69)))))))))) (f69_8K o c n k w lp0)) 7 = fun t _ h => f69_10 o c n k lp0 (t 0) (t 1) (t 31) (t 32) (t 34) (t 37) h := by kernel_rfl
noncomputable def f69_9 (lp0 : AVs (Heap → α) 3) (s0 s1 s5 : AV) (h : Heap) : α :=
  bkF o true s1 (lenF o s5 fun v6 => eqiF Pq o 3 v6 (.i .i64 0) fun v7 => f69_10 o c n k lp0 s0 s1 s5 s0 s1 v7 h) (f69_10 o c n k lp0 s0 s1 s5 s0 s1 (.tup []) h)
theorem f69_9_ok (lp0 : AVs (Heap → α) 3) : R Pq o c n (cB (cA (cA (cA (cB (cB (cB (cB (cB b69))))))))) (f69_8K o c n k w lp0) = fun t _ h => f69_9 o c n k lp0 (t 0) (t 1) (t 5) h := (kblk (r_start 4 (by kernel_rfl) (q_guard 4 7 (3, true) (by kernel_rfl) (by kernel_rfl) (by kernel_rfl) (f69_10_ok o c n k w lp0)))).tk
noncomputable def f69_11K (lp0 : AVs (Heap → α) 3) : Ex → K α := (nxK (fun t _ h => f69_9 o c n k lp0 (t 0) (t 1) (t 5) h) (f69_8K o c n k w lp0))
noncomputable def f69_12K (lp0 : AVs (Heap → α) 3) : Ex → K α := (nxK (R Pq o c n (cB (cA (cA (cA (cA (cB (cB (cB (cB (cB b69)))))))))) (f69_11K o c n k w lp0)) (f69_11K o c n k w lp0))
noncomputable def f69_7 (m : Nat) : AVs (Heap → α) 3 :=
  Nat.rec (motive := fun _ => AVs (Heap → α) 3) (fun _ _ _ _ => o) (fun _ lp0 s0 s1 s5 h => nilChk o s0 fun v8 => faF o 3 v8 fun v9 => load1F o h v9 fun v10 => eqiF Pq o 3 v10 (.i .i64 0) fun v11 => bkF o true v11 (c 25 [s0, (.s 1 125)] h fun v12 h => pk k v12 h <| notF o v12 fun v13 => pickF o v11 v13 (.b false) fun v14 => ifF o v14 (f69_9 o c n k lp0 s0 s1 s5 h) (c 22 [s0, (.s 1 125)] h fun v15 h => pk k v15 h <| nilChk o s0 fun v16 => faF o 5 v16 fun v17 => load1F o h v17 fun v18 => binA Pq o .sub 3 v18 (.i .i64 1) fun v19 => nilChk o s0 fun v20 => faF o 5 v20 fun v21 => storeF o h 1 v21 v19 fun h => k s5 h)) (pickF o v11 (.tup []) (.b false) fun v22 => ifF o v22 (f69_9 o c n k lp0 s0 s1 s5 h) (c 22 [s0, (.s 1 125)] h fun v23 h => pk k v23 h <| nilChk o s0 fun v24 => faF o 5 v24 fun v25 => load1F o h v25 fun v26 => binA Pq o .sub 3 v26 (.i .i64 1) fun v27 => nilChk o s0 fun v28 => faF o 5 v28 fun v29 => storeF o h 1 v29 v27 fun h => k s5 h))) m
theorem f69_7_ok : R Pq o c n (cA (cA (cB (cB (cB (cB (cB b69))))))) (blockK (cI (cA (cB (cB (cB (cB (cB b69))))))) (f69_6K o c n k w)) = fun t _ h => f69_7 o c n k n (t 0) (t 1) (t 5) h :=
  c_loop (F := fun m t _ h => f69_7 o c n k m (t 0) (t 1) (t 5) h) (by kernel_rfl) (by kernel_rfl) fun m => (kseq (f69_9_ok o c n k w (f69_7 o c n k m)) (kseq rfl (r_start 6 (by kernel_rfl) (q_guard 6 9 (5, true) (by kernel_rfl) (by kernel_rfl) (by kernel_rfl) rfl)))).tk
noncomputable def f69_5 (s0 s1 s5 : AV) (h : Heap) : α :=
  f69_7 o c n k n s0 s1 s5 h
theorem f69_5_ok : R Pq o c n (cB (cB (cB (cB (cB b69))))) (kend Pq o c n w rs69 k) = fun t _ h => f69_5 o c n k (t 0) (t 1) (t 5) h := (kseq rfl (kblk (f69_7_ok o c n k w))).tk
noncomputable def f69_4 (s0 s1 : AV) (h : Heap) : α :=
  f69_5 o c n k s0 s1 .nsl h
theorem f69_4_ok : R Pq o c n (cB (cB (cB (cB b69)))) (kend Pq o c n w rs69 k) = fun t _ h => f69_4 o c n k (t 0) (t 1) h := (kseq (f69_5_ok o c n k w) rfl).tk
noncomputable def f69_3 (s0 s1 : AV) (h : Heap) : α :=
  nilChk o s0 fun v30 => faF o 2 v30 fun v31 => load1F o h v31 fun v32 => addF Pq o 3 v32 (.i .i64 1) fun v33 => nilChk o s0 fun v34 => faF o 2 v34 fun v35 => storeF o h 1 v35 v33 fun h => f69_4 o c n k s0 s1 h
theorem f69_3_ok : R Pq o c n (cB (cB (cB b69))) (kend Pq o c n w rs69 k) = fun t _ h => f69_3 o c n k (t 0) (t 1) h := (kseq (f69_4_ok o c n k w) rfl).tk
noncomputable def f69_2 (s0 s1 : AV) (h : Heap) : α :=
  c 146 [s0] h fun v36 h => pk k v36 h <| notF o v36 fun v37 => ifF o v37 (k .nsl h) (f69_3 o c n k s0 s1 h)
theorem f69_2_ok : R Pq o c n (cB (cB b69)) (kend Pq o c n w rs69 k) = fun t _ h => f69_2 o c n k (t 0) (t 1) h := (kseq (f69_3_ok o c n k w) rfl).tk
noncomputable def f69_1 (s0 s1 : AV) (h : Heap) : α :=
  c 25 [s0, (.s 1 123)] h fun v38 h => pk k v38 h <| notF o v38 fun v39 => ifF o v39 (c 63 [s0, (.i .i64 3)] h fun v40 h => pk k v40 h <| k .nsl h) (f69_2 o c n k s0 s1 h)
theorem f69_1_ok : R Pq o c n (cB b69) (kend Pq o c n w rs69 k) = fun t _ h => f69_1 o c n k (t 0) (t 1) h := (kseq (f69_2_ok o c n k w) rfl).tk
noncomputable def f69 (a0 a1 : AV) (h : Heap) : α :=
  f69_1 o c n k a0 a1 h
theorem f69_ok : R Pq o c n b69 (kend Pq o c n w rs69 k) = fun t _ h => f69 o c n k (t 0) (t 1) h := (kseq (f69_1_ok o c n k w) rfl).tk
theorem f69_good : Good Pq (cfg mm) 69 (entF Pq (cfg mm) 69 2 fun α => f69) := entG b69 rs69 52 fun _ => f69_ok
noncomputable def b70 := bdy Tryz.f70
noncomputable def rs70 := Tryz.f70.results.toList
noncomputable def f70 {α : Type} (o : α) (c : Call' α) (n : Nat) (k : AV → Heap → α) (a0 : AV) (h : Heap) : α :=
  c 148 [a0, (.i .i64 0)] h fun v1 h => pk k v1 h <| notF o v1 fun v2 => ifF o v2 (c 63 [a0, (.i .i64 3)] h fun v3 h => pk k v3 h <| k (.s 0 0) h) (c 65 [a0] h fun v4 h => pk k v4 h <| k v4 h)
theorem f70_ok : R Pq o c n b70 (kend Pq o c n w rs70 k) = fun t _ h => f70 o c n k (t 0) h := by kernel_rfl
theorem f70_good : Good Pq (cfg mm) 70 (entF Pq (cfg mm) 70 1 fun α => f70) := entG b70 rs70 10 fun _ => f70_ok
noncomputable def b71 := bdy Tryz.f71
noncomputable def rs71 := Tryz.f71.results.toList
noncomputable def f71 {α : Type} (o : α) (c : Call' α) (n : Nat) (k : AV → Heap → α) (a0 : AV) (h : Heap) : α :=
  c 149 [a0, (.i .i64 0)] h fun v1 h => pk k v1 h <| notF o v1 fun v2 => ifF o v2 (c 63 [a0, (.i .i64 3)] h fun v3 h => pk k v3 h <| k (.s 0 0) h) (c 65 [a0] h fun v4 h => pk k v4 h <| k v4 h)
theorem f71_ok : R Pq o c n b71 (kend Pq o c n w rs71 k) = fun t _ h => f71 o c n k (t 0) h := by kernel_rfl
theorem f71_good : Good Pq (cfg mm) 71 (entF Pq (cfg mm) 71 1 fun α => f71) := entG b71 rs71 10 fun _ => f71_ok
noncomputable def b72 := bdy Tryz.f72
noncomputable def rs72 := Tryz.f72.results.toList
noncomputable def f72 {α : Type} (o : α) (c : Call' α) (n : Nat) (k : AV → Heap → α) (a0 : AV) (h : Heap) : α :=
  newF h h.next 8 [(.i .i64 0), (.i .i32 0), (.s 0 0), (.s 0 0), (.s 0 0), .nsl, (.s 0 0), (.i .i64 0)] fun v1 h => c 150 [a0, (.i .i64 1)] h fun v2 h => pk k v2 h <| storeF o h 8 v1 v2 fun h => on o (resV Pq h [(v1, some 43)]) fun v => k v h
theorem f72_ok : R Pq o c n b72 (kend Pq o c n w rs72 k) = fun t _ h => f72 o c n k (t 0) h := by kernel_rfl
theorem f72_good : Good Pq (cfg mm) 72 (entF Pq (cfg mm) 72 1 fun α => f72) := entG b72 rs72 5 fun _ => f72_ok
noncomputable def b73 := bdy Tryz.f73
noncomputable def rs73 := Tryz.f73.results.toList
noncomputable def f73_3K : Ex → K α := (nxK (R Pq o c n (cB (cB (cB b73))) (kend Pq o c n w rs73 k)) (kend Pq o c n w rs73 k))
noncomputable def f73_6K (lp0 : AVs (Heap → α) 3) : Ex → K α := (nxK (fun t _ h => lp0 (t 1) (t 3) (t 4) h) (blockK (cI (cB (cA (cB (cB b73))))) (f73_3K o c n k w)))
noncomputable def f73_8K (lp0 : AVs (Heap → α) 3) : Ex → K α := (nxK (R Pq o c n (cB (cB (cA (cA (cB (cA (cB (cB b73)))))))) (f73_6K o c n k w lp0)) (f73_6K o c n k w lp0))
noncomputable def f73_13 {α : Type} (o : α) (c : Call' α) (n : Nat) (k : AV → Heap → α) (lp0 : AVs (Heap → α) 3) (m : Nat) : AVs (Heap → α) 5 :=
  Nat.rec (motive := fun _ => AVs (Heap → α) 5) (fun _ _ _ _ _ _ => o) (fun _ lp1 s1 s3 s4 s5 s7 h => faF o 3 s5 fun v1 => load1F o h v1 fun v2 => lenF o v2 fun v3 => lssF Pq o 3 s7 v3 fun v4 => ifF o v4 (addF Pq o 3 s3 (.i .i64 1) fun v5 => faF o 3 s5 fun v6 => load1F o h v6 fun v7 => ixF o 6 v7 s7 fun v8 => faF o 5 v8 fun v9 => load1F o h v9 fun v10 => c 152 [v10] h fun v11 h => pk k v11 h <| addF Pq o 3 v5 v11 fun v12 => addF Pq o 3 s7 (.i .i64 1) fun v13 => lp1 s1 v12 s4 s5 v13 h) (addF Pq o 3 s4 (.i .i64 1) fun v14 => lp0 s1 s3 v14 h)) m
theorem f73_13_ok (lp0 : AVs (Heap → α) 3) : R Pq o c n (cA (cB (cB (cB (cB (cA (cA (cB (cA (cA (cB (cA (cB (cB b73)))))))))))))) (blockK (cI (cB (cB (cB (cB (cA (cA (cB (cA (cA (cB (cA (cB (cB b73)))))))))))))) (blockK (cI (cA (cB (cA (cA (cB (cA (cB (cB b73))))))))) (f73_8K o c n k w lp0))) = fun t _ h => f73_13 o c n k lp0 n (t 1) (t 3) (t 4) (t 5) (t 7) h :=
  c_loop (F := fun m t _ h => f73_13 o c n k lp0 m (t 1) (t 3) (t 4) (t 5) (t 7) h) (by kernel_rfl) (by kernel_rfl) fun m => by kernel_rfl
noncomputable def f73_12 (lp0 : AVs (Heap → α) 3) (s1 s3 s4 s5 s7 : AV) (h : Heap) : α :=
  f73_13 o c n k lp0 n s1 s3 s4 s5 s7 h
theorem f73_12_ok (lp0 : AVs (Heap → α) 3) : R Pq o c n (cB (cB (cB (cB (cA (cA (cB (cA (cA (cB (cA (cB (cB b73))))))))))))) (blockK (cI (cA (cB (cA (cA (cB (cA (cB (cB b73))))))))) (f73_8K o c n k w lp0)) = fun t _ h => f73_12 o c n k lp0 (t 1) (t 3) (t 4) (t 5) (t 7) h := (kblk (f73_13_ok o c n k w lp0)).tk
noncomputable def f73_11 (lp0 : AVs (Heap → α) 3) (s1 s3 s4 s5 : AV) (h : Heap) : α :=
  f73_12 o c n k lp0 s1 s3 s4 s5 (.i .i64 0) h
theorem f73_11_ok (lp0 : AVs (Heap → α) 3) : R Pq o c n (cB (cB (cB (cA (cA (cB (cA (cA (cB (cA (cB (cB b73)))))))))))) (blockK (cI (cA (cB (cA (cA (cB (cA (cB (cB b73))))))))) (f73_8K o c n k w lp0)) = fun t _ h => f73_11 o c n k lp0 (t 1) (t 3) (t 4) (t 5) h := (kseq (f73_12_ok o c n k w lp0) rfl).tk
noncomputable def f73_14K (lp0 : AVs (Heap → α) 3) : Ex → K α := (nxK (fun t _ h => f73_11 o c n k lp0 (t 1) (t 3) (t 4) (t 5) h) (blockK (cI (cA (cB (cA (cA (cB (cA (cB (cB b73))))))))) (f73_8K o c n k w lp0)))
noncomputable def f73_16 (lp0 : AVs (Heap → α) 3) (m : Nat) : AVs (Heap → α) 5 :=
  Nat.rec (motive := fun _ => AVs (Heap → α) 5) (fun _ _ _ _ _ _ => o) (fun _ lp1 s1 s3 s4 s5 s6 h => faF o 2 s5 fun v15 => load1F o h v15 fun v16 => lenF o v16 fun v17 => lssF Pq o 3 s6 v17 fun v18 => ifF o v18 (addF Pq o 3 s3 (.i .i64 1) fun v19 => faF o 2 s5 fun v20 => load1F o h v20 fun v21 => ixF o 4 v21 s6 fun v22 => faF o 3 v22 fun v23 => load1F o h v23 fun v24 => c 151 [v24] h fun v25 h => pk k v25 h <| addF Pq o 3 v19 v25 fun v26 => addF Pq o 3 s6 (.i .i64 1) fun v27 => lp1 s1 v26 s4 s5 v27 h) (f73_11 o c n k lp0 s1 s3 s4 s5 h)) m
theorem f73_16_ok (lp0 : AVs (Heap → α) 3) : R Pq o c n (cA (cB (cA (cB (cB (cA (cA (cB (cA (cA (cB (cA (cB (cB b73)))))))))))))) (blockK (cI (cB (cA (cB (cB (cA (cA (cB (cA (cA (cB (cA (cB (cB b73)))))))))))))) (f73_14K o c n k w lp0)) = fun t _ h => f73_16 o c n k lp0 n (t 1) (t 3) (t 4) (t 5) (t 6) h :=
  c_loop (F := fun m t _ h => f73_16 o c n k lp0 m (t 1) (t 3) (t 4) (t 5) (t 6) h) (by kernel_rfl) (by kernel_rfl) fun m => by kernel_rfl
noncomputable def f73_15 (lp0 : AVs (Heap → α) 3) (s1 s3 s4 s5 s6 : AV) (h : Heap) : α :=
  f73_16 o c n k lp0 n s1 s3 s4 s5 s6 h
theorem f73_15_ok (lp0 : AVs (Heap → α) 3) : R Pq o c n (cB (cA (cB (cB (cA (cA (cB (cA (cA (cB (cA (cB (cB b73))))))))))))) (f73_14K o c n k w lp0) = fun t _ h => f73_15 o c n k lp0 (t 1) (t 3) (t 4) (t 5) (t 6) h := (kblk (f73_16_ok o c n k w lp0)).tk
noncomputable def f73_10 (lp0 : AVs (Heap → α) 3) (s1 s3 s4 s5 : AV) (h : Heap) : α :=
  f73_15 o c n k lp0 s1 s3 s4 s5 (.i .i64 0) h
theorem f73_10_ok (lp0 : AVs (Heap → α) 3) : R Pq o c n (cB (cB (cA (cA (cB (cA (cA (cB (cA (cB (cB b73))))))))))) (blockK (cI (cA (cB (cA (cA (cB (cA (cB (cB b73))))))))) (f73_8K o c n k w lp0)) = fun t _ h => f73_10 o c n k lp0 (t 1) (t 3) (t 4) (t 5) h := (kseq (f73_11_ok o c n k w lp0) (kseq (f73_15_ok o c n k w lp0) rfl)).tk
noncomputable def f73_9 (lp0 : AVs (Heap → α) 3) (s1 s3 s4 s5 : AV) (h : Heap) : α :=
  addF Pq o 3 s3 (.i .i64 1) fun v28 => f73_10 o c n k lp0 s1 v28 s4 s5 h
theorem f73_9_ok (lp0 : AVs (Heap → α) 3) : R Pq o c n (cB (cA (cA (cB (cA (cA (cB (cA (cB (cB b73)))))))))) (blockK (cI (cA (cB (cA (cA (cB (cA (cB (cB b73))))))))) (f73_8K o c n k w lp0)) = fun t _ h => f73_9 o c n k lp0 (t 1) (t 3) (t 4) (t 5) h := (kseq (f73_10_ok o c n k w lp0) rfl).tk
noncomputable def f73_7 (lp0 : AVs (Heap → α) 3) (s1 s3 s4 : AV) (h : Heap) : α :=
  faF o 0 s1 fun v29 => load1F o h v29 fun v30 => ixF o 4 v30 s4 fun v31 => loadNF o h 4 v31 fun v32 => newF h h.next 4 [(.s 0 0), (.s 0 0), .nsl, .nsl] fun v33 h => storeF o h 4 v33 v32 fun h => f73_9 o c n k lp0 s1 s3 s4 v33 h
theorem f73_7_ok (lp0 : AVs (Heap → α) 3) : R Pq o c n (cB (cA (cA (cB (cA (cB (cB b73))))))) (f73_6K o c n k w lp0) = fun t _ h => f73_7 o c n k lp0 (t 1) (t 3) (t 4) h := (kseq rfl (kblk (kseq (f73_9_ok o c n k w lp0) rfl))).tk
noncomputable def f73_5 (m : Nat) : AVs (Heap → α) 3 :=
  Nat.rec (motive := fun _ => AVs (Heap → α) 3) (fun _ _ _ _ => o) (fun _ lp0 s1 s3 s4 h => faF o 0 s1 fun v34 => load1F o h v34 fun v35 => lenF o v35 fun v36 => lssF Pq o 3 s4 v36 fun v37 => ifF o v37 (f73_7 o c n k lp0 s1 s3 s4 h) (k s3 h)) m
theorem f73_5_ok : R Pq o c n (cA (cB (cA (cB (cB b73))))) (blockK (cI (cB (cA (cB (cB b73))))) (f73_3K o c n k w)) = fun t _ h => f73_5 o c n k n (t 1) (t 3) (t 4) h :=
  c_loop (F := fun m t _ h => f73_5 o c n k m (t 1) (t 3) (t 4) h) (by kernel_rfl) (by kernel_rfl) fun m => (kseq (f73_7_ok o c n k w (f73_5 o c n k m)) rfl).tk
noncomputable def f73_4 (s1 s3 s4 : AV) (h : Heap) : α :=
  f73_5 o c n k n s1 s3 s4 h
theorem f73_4_ok : R Pq o c n (cB (cA (cB (cB b73)))) (f73_3K o c n k w) = fun t _ h => f73_4 o c n k (t 1) (t 3) (t 4) h := (kblk (f73_5_ok o c n k w)).tk
noncomputable def f73_2 (s1 s3 : AV) (h : Heap) : α :=
  f73_4 o c n k s1 s3 (.i .i64 0) h
theorem f73_2_ok : R Pq o c n (cB (cB b73)) (kend Pq o c n w rs73 k) = fun t _ h => f73_2 o c n k (t 1) (t 3) h := (kseq rfl (kseq (f73_4_ok o c n k w) rfl)).tk
noncomputable def f73_1 (s1 : AV) (h : Heap) : α :=
  f73_2 o c n k s1 (.i .i64 0) h
theorem f73_1_ok : R Pq o c n (cB b73) (kend Pq o c n w rs73 k) = fun t _ h => f73_1 o c n k (t 1) h := (kseq (f73_2_ok o c n k w) rfl).tk
noncomputable def f73 (a0 : AV) (h : Heap) : α :=
  boxF o a0 h h.next fun v38 h => f73_1 o c n k v38 h
theorem f73_ok : R Pq o c n b73 (kend Pq o c n w rs73 k) = fun t _ h => f73 o c n k (t 0) h := (kseq (f73_1_ok o c n k w) rfl).tk
theorem f73_good : Good Pq (cfg mm) 73 (entF Pq (cfg mm) 73 1 fun α => f73) := entG b73 rs73 57 fun _ => f73_ok
noncomputable def b74 := bdy Tryz.f74
noncomputable def rs74 := Tryz.f74.results.toList
noncomputable def f74_2K : Ex → K α := (nxK (R Pq o c n (cB (cB b74)) (kend Pq o c n w rs74 k)) (kend Pq o c n w rs74 k))
noncomputable def f74_3 {α : Type} (o : α) (c : Call' α) (n : Nat) (k : AV → Heap → α) (s0 s5 s9 : AV) (h : Heap) : α :=
  pickF o s5 s9 (.b false) fun v1 => bkF o true v1 (nesF Pq o 9 s0 (.s 6 113723913172051) fun v2 => pickF o v1 v2 (.b false) fun v3 => k v3 h) (pickF o v1 (.tup []) (.b false) fun v4 => k v4 h)
theorem f74_3_ok : Q Pq o c (cO (cA (cB b74))) (f74_2K o c n k w) 7 = fun t _ h => f74_3 o c n k (t 0) (t 5) (t 9) h := (q_seg 7 9 (by kernel_rfl) (q_guard 9 11 (8, true) (by kernel_rfl) (by kernel_rfl) (by kernel_rfl) rfl)).tk
noncomputable def f74_1 (s0 : AV) (h : Heap) : α :=
  c 153 [s0, (.i .i64 20)] h fun v5 h => pk k v5 h <| bkF o true v5 (sxF o s0 (.i .i64 0) fun v6 => convA Pq o 5 21 v6 fun v7 => c 154 [v7] h fun v8 h => pk k v8 h <| f74_3 o c n k s0 v5 v8 h) (f74_3 o c n k s0 v5 (.tup []) h)
theorem f74_1_ok : R Pq o c n (cB b74) (kend Pq o c n w rs74 k) = fun t _ h => f74_1 o c n k (t 0) h := (kseq rfl (r_start 3 (by kernel_rfl) (q_guard 3 7 (2, true) (by kernel_rfl) (by kernel_rfl) (by kernel_rfl) (f74_3_ok o c n k w)))).tk
noncomputable def f74 (a0 : AV) (h : Heap) : α :=
  f74_1 o c n k a0 h
theorem f74_ok : R Pq o c n b74 (kend Pq o c n w rs74 k) = fun t _ h => f74 o c n k (t 0) h := (kseq (f74_1_ok o c n k w) rfl).tk
theorem f74_good : Good Pq (cfg mm) 74 (entF Pq (cfg mm) 74 1 fun α => f74) := entG b74 rs74 15 fun _ => f74_ok
noncomputable def b76 := bdy Tryz.f76
noncomputable def rs76 := Tryz.f76.results.toList
noncomputable def f76_2K : Ex → K α := (nxK (R Pq o c n (cB (cB b76)) (kend Pq o c n w rs76 k)) (kend Pq o c n w rs76 k))
noncomputable def f76_3 {α : Type} (o : α) (c : Call' α) (n : Nat) (k : AV → Heap → α) (s0 s5 s9 : AV) (h : Heap) : α :=
  pickF o s5 s9 (.b false) fun v1 => bkF o true v1 (c 156 [s0] h fun v2 h => pk k v2 h <| notF o v2 fun v3 => pickF o v1 v3 (.b false) fun v4 => k v4 h) (pickF o v1 (.tup []) (.b false) fun v5 => k v5 h)
theorem f76_3_ok : Q Pq o c (cO (cA (cB b76))) (f76_2K o c n k w) 7 = fun t _ h => f76_3 o c n k (t 0) (t 5) (t 9) h := (q_seg 7 9 (by kernel_rfl) (q_guard 9 12 (8, true) (by kernel_rfl) (by kernel_rfl) (by kernel_rfl) rfl)).tk
noncomputable def f76_1 (s0 : AV) (h : Heap) : α :=
  c 153 [s0, (.i .i64 20)] h fun v6 h => pk k v6 h <| bkF o true v6 (sxF o s0 (.i .i64 0) fun v7 => convA Pq o 5 21 v7 fun v8 => c 155 [v8] h fun v9 h => pk k v9 h <| f76_3 o c n k s0 v6 v9 h) (f76_3 o c n k s0 v6 (.tup []) h)
theorem f76_1_ok : R Pq o c n (cB b76) (kend Pq o c n w rs76 k) = fun t _ h => f76_1 o c n k (t 0) h := (kseq rfl (r_start 3 (by kernel_rfl) (q_guard 3 7 (2, true) (by kernel_rfl) (by kernel_rfl) (by kernel_rfl) (f76_3_ok o c n k w)))).tk
noncomputable def f76 (a0 : AV) (h : Heap) : α :=
  f76_1 o c n k a0 h
theorem f76_ok : R Pq o c n b76 (kend Pq o c n w rs76 k) = fun t _ h => f76 o c n k (t 0) h := (kseq (f76_1_ok o c n k w) rfl).tk
theorem f76_good : Good Pq (cfg mm) 76 (entF Pq (cfg mm) 76 1 fun α => f76) := entG b76 rs76 16 fun _ => f76_ok
noncomputable def b79 := bdy Tryz.f79
noncomputable def rs79 := Tryz.f79.results.toList
noncomputable def f79_5K : Ex → K α := (nxK (R Pq o c n (cB (cB (cB (cB (cB b79))))) (kend Pq o c n w rs79 k)) (kend Pq o c n w rs79 k))
noncomputable def f79_10 {α : Type} (o : α) (c : Call' α) (n : Nat) (k : AV → Heap → α) (s7 s46 s50 : AV) (h : Heap) : α :=
  pickF o s46 s50 (.b false) fun v1 => bkF o true v1 (faF o 3 s7 fun v2 => load1F o h v2 fun v3 => lenF o v3 fun v4 => leqF Pq o 3 v4 (.i .i64 30) fun v5 => pickF o v1 v5 (.b false) fun v6 => k v6 h) (pickF o v1 (.tup []) (.b false) fun v7 => k v7 h)
theorem f79_10_ok : Q Pq o c (cO (cA (cB (cB (cB (cB b79)))))) (f79_5K o c n k w) 21 = fun t _ h => f79_10 o c n k (t 7) (t 46) (t 50) h := (q_seg 21 23 (by kernel_rfl) (q_guard 23 27 (22, true) (by kernel_rfl) (by kernel_rfl) (by kernel_rfl) rfl)).tk
noncomputable def f79_9 (s7 s36 s44 : AV) (h : Heap) : α :=
  pickF o s36 s44 (.b false) fun v8 => bkF o true v8 (faF o 2 s7 fun v9 => load1F o h v9 fun v10 => lenF o v10 fun v11 => leqF Pq o 3 v11 (.i .i64 30) fun v12 => f79_10 o c n k s7 v8 v12 h) (f79_10 o c n k s7 v8 (.tup []) h)
theorem f79_9_ok : Q Pq o c (cO (cA (cB (cB (cB (cB b79)))))) (f79_5K o c n k w) 15 = fun t _ h => f79_9 o c n k (t 7) (t 36) (t 44) h := (q_seg 15 17 (by kernel_rfl) (q_guard 17 21 (16, true) (by kernel_rfl) (by kernel_rfl) (by kernel_rfl) (f79_10_ok o c n k w))).tk
noncomputable def f79_8 (s7 s36 s40 s43 : AV) (h : Heap) : α :=
  bkF o true s36 (pickF o s40 (.b true) s43 fun v13 => f79_9 o c n k s7 s36 v13 h) (f79_9 o c n k s7 s36 (.tup []) h)
theorem f79_8_ok : Q Pq o c (cO (cA (cB (cB (cB (cB b79)))))) (f79_5K o c n k w) 14 = fun t _ h => f79_8 o c n k (t 7) (t 36) (t 40) (t 43) h := (q_seg 14 14 (by kernel_rfl) (q_guard 14 15 (6, true) (by kernel_rfl) (by kernel_rfl) (by kernel_rfl) (f79_9_ok o c n k w))).tk
noncomputable def f79_7 (s7 s36 s40 : AV) (h : Heap) : α :=
  bkF o false s40 (faF o 1 s7 fun v14 => load1F o h v14 fun v15 => c 164 [v15] h fun v16 h => pk k v16 h <| f79_8 o c n k s7 s36 s40 v16 h) (f79_8 o c n k s7 s36 s40 (.tup []) h)
theorem f79_7_ok : Q Pq o c (cO (cA (cB (cB (cB (cB b79)))))) (f79_5K o c n k w) 11 = fun t _ h => f79_7 o c n k (t 7) (t 36) (t 40) h := (q_seg 11 11 (by kernel_rfl) (q_guard 11 14 (10, false) (by kernel_rfl) (by kernel_rfl) (by kernel_rfl) (f79_8_ok o c n k w))).tk
noncomputable def f79_6 (s7 s31 s34 : AV) (h : Heap) : α :=
  pickF o s31 s34 (.b false) fun v17 => bkF o true v17 (faF o 1 s7 fun v18 => load1F o h v18 fun v19 => eqsF Pq o 9 v19 (.s 0 0) fun v20 => f79_7 o c n k s7 v17 v20 h) (f79_7 o c n k s7 v17 (.tup []) h)
theorem f79_6_ok : Q Pq o c (cO (cA (cB (cB (cB (cB b79)))))) (f79_5K o c n k w) 5 = fun t _ h => f79_6 o c n k (t 7) (t 31) (t 34) h := (q_seg 5 7 (by kernel_rfl) (q_guard 7 11 (6, true) (by kernel_rfl) (by kernel_rfl) (by kernel_rfl) (f79_7_ok o c n k w))).tk
noncomputable def f79_4 (s7 s8 : AV) (h : Heap) : α :=
  bkF o true s8 (faF o 0 s7 fun v21 => load1F o h v21 fun v22 => c 164 [v22] h fun v23 h => pk k v23 h <| f79_6 o c n k s7 s8 v23 h) (f79_6 o c n k s7 s8 (.tup []) h)
theorem f79_4_ok : R Pq o c n (cB (cB (cB (cB b79)))) (kend Pq o c n w rs79 k) = fun t _ h => f79_4 o c n k (t 7) (t 8) h := (kseq rfl (r_start 2 (by kernel_rfl) (q_guard 2 5 (1, true) (by kernel_rfl) (by kernel_rfl) (by kernel_rfl) (f79_6_ok o c n k w)))).tk
noncomputable def f79_3 (s0 : AV) (h : Heap) : α :=
  assertA Pq o s0 34 true fun v24 => exF o v24 0 fun v25 => exF o v24 1 fun v26 => newF h h.next 4 [(.s 0 0), (.s 0 0), .nsl, .nsl] fun v27 h => storeF o h 4 v27 v25 fun h => f79_4 o c n k v27 v26 h
theorem f79_3_ok : R Pq o c n (cB (cB (cB b79))) (kend Pq o c n w rs79 k) = fun t _ h => f79_3 o c n k (t 0) h := (kseq (f79_4_ok o c n k w) rfl).tk
noncomputable def f79_2 (s0 : AV) (h : Heap) : α :=
  assertA Pq o s0 38 true fun v28 => exF o v28 0 fun v29 => exF o v28 1 fun v30 => newF h h.next 6 [(.b false), (.b false), (.s 0 0), (.s 0 0), .nsl, .nsl] fun v31 h => storeF o h 6 v31 v29 fun h => ifF o v30 (loadNF o h 6 v31 fun v32 => c 163 [v32] h fun v33 h => pk k v33 h <| k v33 h) (f79_3 o c n k s0 h)
theorem f79_2_ok : R Pq o c n (cB (cB b79)) (kend Pq o c n w rs79 k) = fun t _ h => f79_2 o c n k (t 0) h := (kseq (f79_3_ok o c n k w) rfl).tk
noncomputable def f79_1 (s0 : AV) (h : Heap) : α :=
  assertA Pq o s0 66 true fun v34 => exF o v34 0 fun v35 => exF o v34 1 fun v36 => newF h h.next 4 [(.b false), (.s 0 0), (.s 0 0), .nsl] fun v37 h => storeF o h 4 v37 v35 fun h => ifF o v36 (loadNF o h 4 v37 fun v38 => c 162 [v38] h fun v39 h => pk k v39 h <| k v39 h) (f79_2 o c n k s0 h)
theorem f79_1_ok : R Pq o c n (cB b79) (kend Pq o c n w rs79 k) = fun t _ h => f79_1 o c n k (t 0) h := (kseq (f79_2_ok o c n k w) rfl).tk
noncomputable def f79 (a0 : AV) (h : Heap) : α :=
  f79_1 o c n k a0 h
theorem f79_ok : R Pq o c n b79 (kend Pq o c n w rs79 k) = fun t _ h => f79 o c n k (t 0) h := (kseq (f79_1_ok o c n k w) rfl).tk
theorem f79_good : Good Pq (cfg mm) 79 (entF Pq (cfg mm) 79 1 fun α => f79) := entG b79 rs79 58 fun _ => f79_ok
noncomputable def b81 := bdy Tryz.f81
noncomputable def rs81 := Tryz.f81.results.toList
noncomputable def f81_2K : Ex → K α := (nxK (R Pq o c n (cB (cB b81)) (kend Pq o c n w rs81 k)) (kend Pq o c n w rs81 k))
noncomputable def f81_4 {α : Type} (o : α) (c : Call' α) (n : Nat) (k : AV → Heap → α) (m : Nat) : AVs (Heap → α) 4 :=
  Nat.rec (motive := fun _ => AVs (Heap → α) 4) (fun _ _ _ _ _ => o) (fun _ lp0 s1 s9 s10 s11 h => lssF Pq o 3 s11 s10 fun v1 => ifF o v1 (ixF o 4 s9 s11 fun v2 => loadNF o h 4 v2 fun v3 => newF h h.next 4 [(.s 0 0), (.s 0 0), .nsl, .nsl] fun v4 h => storeF o h 4 v4 v3 fun h => loadNF o h 4 v4 fun v5 => cfF o s1 [s11, v5] c h fun v6 h => pk k v6 h <| neiF Pq o 3 v6 (.i .i64 0) fun v7 => ifF o v7 (layF o 0 v6 [(.i .i64 0), (.i .i64 0)] fun v8 => layF o 1 s11 v8 fun v9 => k (.ifc 127 (.agg v9)) h) (addF Pq o 3 s11 (.i .i64 1) fun v10 => lp0 s1 s9 s10 v10 h)) (k .nifc h)) m
theorem f81_4_ok : R Pq o c n (cA (cB (cA (cB b81)))) (blockK (cI (cB (cA (cB b81)))) (f81_2K o c n k w)) = fun t _ h => f81_4 o c n k n (t 1) (t 9) (t 10) (t 11) h :=
  c_loop (F := fun m t _ h => f81_4 o c n k m (t 1) (t 9) (t 10) (t 11) h) (by kernel_rfl) (by kernel_rfl) fun m => by kernel_rfl
noncomputable def f81_3 (s1 s9 s10 s11 : AV) (h : Heap) : α :=
  f81_4 o c n k n s1 s9 s10 s11 h
theorem f81_3_ok : R Pq o c n (cB (cA (cB b81))) (f81_2K o c n k w) = fun t _ h => f81_3 o c n k (t 1) (t 9) (t 10) (t 11) h := (kblk (f81_4_ok o c n k w)).tk
noncomputable def f81_1 (s1 s2 : AV) (h : Heap) : α :=
  faF o 0 s2 fun v11 => load1F o h v11 fun v12 => lenF o v12 fun v13 => f81_3 o c n k s1 v12 v13 (.i .i64 0) h
theorem f81_1_ok : R Pq o c n (cB b81) (kend Pq o c n w rs81 k) = fun t _ h => f81_1 o c n k (t 1) (t 2) h := (kseq rfl (kseq (f81_3_ok o c n k w) rfl)).tk
noncomputable def f81 (a0 a1 : AV) (h : Heap) : α :=
  boxF o a0 h h.next fun v14 h => f81_1 o c n k a1 v14 h
theorem f81_ok : R Pq o c n b81 (kend Pq o c n w rs81 k) = fun t _ h => f81 o c n k (t 0) (t 1) h := (kseq (f81_1_ok o c n k w) rfl).tk
theorem f81_good : Good Pq (cfg mm) 81 (entF Pq (cfg mm) 81 2 fun α => f81) := entG b81 rs81 27 fun _ => f81_ok
noncomputable def b82 := bdy Tryz.f82
noncomputable def rs82 := Tryz.f82.results.toList
noncomputable def f82_2K : Ex → K α := (nxK (R Pq o c n (cB (cB b82)) (kend Pq o c n w rs82 k)) (kend Pq o c n w rs82 k))
noncomputable def f82_3 {α : Type} (o : α) (c : Call' α) (n : Nat) (k : AV → Heap → α) (s16 : AV) (h : Heap) : α :=
  ifF o s16 (k (.i .i64 6) h) (k (.i .i64 0) h)
theorem f82_3_ok : R Pq o c n (cB (cA (cB b82))) (f82_2K o c n k w) = fun t _ h => f82_3 o c n k (t 16) h := by kernel_rfl
noncomputable def f82_4K : Ex → K α := (nxK (fun t _ h => f82_3 o c n k (t 16) h) (f82_2K o c n k w))
noncomputable def f82_1 (s0 s2 s4 : AV) (h : Heap) : α :=
  faF o 0 s4 fun v1 => load1F o h v1 fun v2 => c 83 [v2] h fun v3 h => pk k v3 h <| bkF o false v3 (loadNF o h 1 s2 fun v4 => faF o 0 s4 fun v5 => load1F o h v5 fun v6 => c 84 [v4, v6] h fun v7 h => pk k v7 h <| lssF Pq o 3 v7 s0 fun v8 => pickF o v3 (.b true) v8 fun v9 => f82_3 o c n k v9 h) (pickF o v3 (.b true) (.tup []) fun v10 => f82_3 o c n k v10 h)
theorem f82_1_ok : R Pq o c n (cB b82) (kend Pq o c n w rs82 k) = fun t _ h => f82_1 o c n k (t 0) (t 2) (t 4) h := (kseq rfl (kseq (f82_3_ok o c n k w) (r_start 4 (by kernel_rfl) (q_guard 4 10 (3, false) (by kernel_rfl) (by kernel_rfl) (by kernel_rfl) rfl)))).tk
noncomputable def f82 (a0 a1 a2 : AV) (h : Heap) : α :=
  boxF o a1 h h.next fun v11 h => f82_1 o c n k a0 a2 v11 h
theorem f82_ok : R Pq o c n b82 (kend Pq o c n w rs82 k) = fun t _ h => f82 o c n k (t 0) (t 1) (t 2) h := (kseq (f82_1_ok o c n k w) rfl).tk
theorem f82_good : Good Pq (cfg mm) 82 (entF Pq (cfg mm) 82 3 fun α => f82) := entG b82 rs82 17 fun _ => f82_ok
noncomputable def b83 := bdy Tryz.f83
noncomputable def rs83 := Tryz.f83.results.toList
noncomputable def f83 {α : Type} (o : α) (c : Call' α) (n : Nat) (k : AV → Heap → α) (a0 : AV) (h : Heap) : α :=
  fil1 o 1 5 0 (.s 9 2037169923944901474373) (lrep [(.s 0 0)] 5) fun v1 => fil1 o 1 5 1 (.s 9 2147637572233774003534) v1 fun v2 => fil1 o 1 5 2 (.s 9 2147637572233908674883) v2 fun v3 => fil1 o 1 5 3 (.s 9 2147637572233824724314) v3 fun v4 => fil1 o 1 5 4 (.s 10 549795218491815995793746) v4 fun v5 => newEF h h.next 1 5 v5 fun v6 h => c 14 [v6, a0] h fun v7 h => pk k v7 h <| k v7 h
theorem f83_ok : R Pq o c n b83 (kend Pq o c n w rs83 k) = fun t _ h => f83 o c n k (t 0) h := by kernel_rfl
theorem f83_good : Good Pq (cfg mm) 83 (entF Pq (cfg mm) 83 1 fun α => f83) := entG b83 rs83 6 fun _ => f83_ok
noncomputable def b84 := bdy Tryz.f84
noncomputable def rs84 := Tryz.f84.results.toList
noncomputable def f84 {α : Type} (o : α) (c : Call' α) (n : Nat) (k : AV → Heap → α) (a0 a1 : AV) (h : Heap) : α :=
  boxF o a0 h h.next fun v1 h => boxF o a1 h h.next fun v2 h => faF o 0 v1 fun v3 => load1F o h v3 fun v4 => c 167 [v4, (.fn (.func 168) [] [v2])] h fun v5 h => pk k v5 h <| k v5 h
theorem f84_ok : R Pq o c n b84 (kend Pq o c n w rs84 k) = fun t _ h => f84 o c n k (t 0) (t 1) h := by kernel_rfl
theorem f84_good : Good Pq (cfg mm) 84 (entF Pq (cfg mm) 84 2 fun α => f84) := entG b84 rs84 9 fun _ => f84_ok
noncomputable def b85 := bdy Tryz.f85
noncomputable def rs85 := Tryz.f85.results.toList
noncomputable def f85 {α : Type} (o : α) (c : Call' α) (n : Nat) (k : AV → Heap → α) (a0 a1 a2 : AV) (h : Heap) : α :=
  boxF o a1 h h.next fun v1 h => faF o 1 v1 fun v2 => load1F o h v2 fun v3 => eqsF Pq o 9 v3 (.s 0 0) fun v4 => ifF o v4 (k (.i .i64 0) h) (loadNF o h 1 a2 fun v5 => faF o 1 v1 fun v6 => load1F o h v6 fun v7 => c 86 [v5, v7] h fun v8 h => pk k v8 h <| notF o v8 fun v9 => ifF o v9 (k (.i .i64 7) h) (loadNF o h 1 a2 fun v10 => faF o 0 v1 fun v11 => load1F o h v11 fun v12 => c 87 [v10, v12] h fun v13 h => pk k v13 h <| dreg o h 9 fun base h => loadNF o (h.look 0) 1 a2 fun v14 => lenF o v13 fun v15 => binA Pq o .sub 3 v15 (.i .i64 1) fun v16 => ixF o 1 v13 v16 fun v17 => rootF o v17 v13 <| load1F o (h.look 62) v17 fun v18 => callD o c [] 88 [v14, v18] (h.look 0) fun v19 h => pnF v19 (fun x => hb h.shut fun hd => k x.pn hd) <| hb h.shut fun h => c 14 [v13, v19] h fun v20 h => pk k v20 h <| ifF o v20 (k (.i .i64 8) h) (k (.i .i64 0) h)))
theorem f85_ok : R Pq o c n b85 (kend Pq o c n w rs85 k) = fun t _ h => f85 o c n k (t 0) (t 1) (t 2) h := by kernel_rfl
theorem f85_good : Good Pq (cfg mm) 85 (entF Pq (cfg mm) 85 3 fun α => f85) := entG b85 rs85 31 fun _ => f85_ok
noncomputable def b86 := bdy Tryz.f86
noncomputable def rs86 := Tryz.f86.results.toList
noncomputable def f86_2K : Ex → K α := (nxK (R Pq o c n (cB (cB b86)) (kend Pq o c n w rs86 k)) (kend Pq o c n w rs86 k))
noncomputable def f86_1 {α : Type} (o : α) (c : Call' α) (n : Nat) (k : AV → Heap → α) (s1 s2 : AV) (h : Heap) : α :=
  c 83 [s1] h fun v1 h => pk k v1 h <| bkF o false v1 (loadNF o h 1 s2 fun v2 => c 84 [v2, s1] h fun v3 h => pk k v3 h <| geqF Pq o 3 v3 (.i .i64 0) fun v4 => pickF o v1 (.b true) v4 fun v5 => k v5 h) (pickF o v1 (.b true) (.tup []) fun v6 => k v6 h)
theorem f86_1_ok : R Pq o c n (cB b86) (kend Pq o c n w rs86 k) = fun t _ h => f86_1 o c n k (t 1) (t 2) h := (kseq rfl (r_start 3 (by kernel_rfl) (q_guard 3 7 (2, false) (by kernel_rfl) (by kernel_rfl) (by kernel_rfl) rfl))).tk
noncomputable def f86 (a0 a1 : AV) (h : Heap) : α :=
  boxF o a0 h h.next fun v7 h => f86_1 o c n k a1 v7 h
theorem f86_ok : R Pq o c n b86 (kend Pq o c n w rs86 k) = fun t _ h => f86 o c n k (t 0) (t 1) h := (kseq (f86_1_ok o c n k w) rfl).tk
theorem f86_good : Good Pq (cfg mm) 86 (entF Pq (cfg mm) 86 2 fun α => f86) := entG b86 rs86 13 fun _ => f86_ok
noncomputable def b87 := bdy Tryz.f87
noncomputable def rs87 := Tryz.f87.results.toList
noncomputable def f87_3K : Ex → K α := (nxK (R Pq o c n (cB (cB (cB b87))) (kend Pq o c n w rs87 k)) (kend Pq o c n w rs87 k))
noncomputable def f87_5K (lp0 : AVs (Heap → α) 3) : Ex → K α := (nxK (fun t _ h => lp0 (t 1) (t 2) (t 5) h) (blockK (cI (cA (cB (cB b87)))) (f87_3K o c n k w)))
noncomputable def f87_6 {α : Type} (o : α) (c : Call' α) (n : Nat) (k : AV → Heap → α) (lp0 : AVs (Heap → α) 3) (s1 s2 s5 : AV) (h : Heap) : α :=
  fil1 o 1 1 0 s1 [[(.s 0 0)]] fun v1 => newEF h h.next 1 1 v1 fun v2 h => appX Pq o h h.next 56 56 s5 v2 fun v3 h => loadNF o h 1 s2 fun v4 => c 88 [v4, s1] h fun v5 h => pk k v5 h <| lp0 v5 s2 v3 h
theorem f87_6_ok (lp0 : AVs (Heap → α) 3) : R Pq o c n (cB (cA (cA (cA (cB (cB b87)))))) (f87_5K o c n k w lp0) = fun t _ h => f87_6 o c n k lp0 (t 1) (t 2) (t 5) h := by kernel_rfl
noncomputable def f87_7K (lp0 : AVs (Heap → α) 3) : Ex → K α := (nxK (fun t _ h => f87_6 o c n k lp0 (t 1) (t 2) (t 5) h) (f87_5K o c n k w lp0))
noncomputable def f87_8K (lp0 : AVs (Heap → α) 3) : Ex → K α := (nxK (R Pq o c n (cB (cA (cA (cA (cA (cB (cB b87))))))) (f87_7K o c n k w lp0)) (f87_7K o c n k w lp0))
noncomputable def f87_4 (m : Nat) : AVs (Heap → α) 3 :=
  Nat.rec (motive := fun _ => AVs (Heap → α) 3) (fun _ _ _ _ => o) (fun _ lp0 s1 s2 s5 h => loadNF o h 1 s2 fun v6 => c 86 [v6, s1] h fun v7 h => pk k v7 h <| bkF o true v7 (c 14 [s5, s1] h fun v8 h => pk k v8 h <| notF o v8 fun v9 => pickF o v7 v9 (.b false) fun v10 => ifF o v10 (f87_6 o c n k lp0 s1 s2 s5 h) (k s5 h)) (pickF o v7 (.tup []) (.b false) fun v11 => ifF o v11 (f87_6 o c n k lp0 s1 s2 s5 h) (k s5 h))) m
theorem f87_4_ok : R Pq o c n (cA (cA (cB (cB b87)))) (blockK (cI (cA (cB (cB b87)))) (f87_3K o c n k w)) = fun t _ h => f87_4 o c n k n (t 1) (t 2) (t 5) h :=
  c_loop (F := fun m t _ h => f87_4 o c n k m (t 1) (t 2) (t 5) h) (by kernel_rfl) (by kernel_rfl) fun m => (kseq (f87_6_ok o c n k w (f87_4 o c n k m)) (kseq rfl (r_start 4 (by kernel_rfl) (q_guard 4 8 (3, true) (by kernel_rfl) (by kernel_rfl) (by kernel_rfl) rfl)))).tk
noncomputable def f87_2 (s1 s2 s5 : AV) (h : Heap) : α :=
  f87_4 o c n k n s1 s2 s5 h
theorem f87_2_ok : R Pq o c n (cB (cB b87)) (kend Pq o c n w rs87 k) = fun t _ h => f87_2 o c n k (t 1) (t 2) (t 5) h := (kseq rfl (kblk (f87_4_ok o c n k w))).tk
noncomputable def f87_1 (s1 s2 : AV) (h : Heap) : α :=
  f87_2 o c n k s1 s2 .nsl h
theorem f87_1_ok : R Pq o c n (cB b87) (kend Pq o c n w rs87 k) = fun t _ h => f87_1 o c n k (t 1) (t 2) h := (kseq (f87_2_ok o c n k w) rfl).tk
noncomputable def f87 (a0 a1 : AV) (h : Heap) : α :=
  boxF o a0 h h.next fun v12 h => f87_1 o c n k a1 v12 h
theorem f87_ok : R Pq o c n b87 (kend Pq o c n w rs87 k) = fun t _ h => f87 o c n k (t 0) (t 1) h := (kseq (f87_1_ok o c n k w) rfl).tk
theorem f87_good : Good Pq (cfg mm) 87 (entF Pq (cfg mm) 87 2 fun α => f87) := entG b87 rs87 23 fun _ => f87_ok
noncomputable def b88 := bdy Tryz.f88
noncomputable def rs88 := Tryz.f88.results.toList
noncomputable def f88 {α : Type} (o : α) (c : Call' α) (n : Nat) (k : AV → Heap → α) (a0 a1 : AV) (h : Heap) : α :=
  boxF o a0 h h.next fun v1 h => c 83 [a1] h fun v2 h => pk k v2 h <| ifF o v2 (eqsF Pq o 9 a1 (.s 9 2037169923944901474373) fun v3 => ifF o v3 (k (.s 0 0) h) (k (.s 9 2037169923944901474373) h)) (loadNF o h 1 v1 fun v4 => c 84 [v4, a1] h fun v5 h => pk k v5 h <| lssF Pq o 3 v5 (.i .i64 0) fun v6 => ifF o v6 (k (.s 0 0) h) (faF o 0 v1 fun v7 => load1F o h v7 fun v8 => ixF o 4 v8 v5 fun v9 => faF o 1 v9 fun v10 => load1F o h v10 fun v11 => k v11 h))
theorem f88_ok : R Pq o c n b88 (kend Pq o c n w rs88 k) = fun t _ h => f88 o c n k (t 0) (t 1) h := by kernel_rfl
theorem f88_good : Good Pq (cfg mm) 88 (entF Pq (cfg mm) 88 2 fun α => f88) := entG b88 rs88 21 fun _ => f88_ok
noncomputable def b89 := bdy Tryz.f89
noncomputable def rs89 := Tryz.f89.results.toList
noncomputable def f89 {α : Type} (o : α) (c : Call' α) (n : Nat) (k : AV → Heap → α) (a0 : AV) (h : Heap) : α :=
  boxF o a0 h h.next fun v1 h => loadNF o h 1 v1 fun v2 => c 31 [v2] h fun v3 h => pk k v3 h <| exF o v3 0 fun v4 => exF o v3 1 fun v5 => eqiF Pq o 3 v4 (.i .i64 0) fun v6 => k v6 h
theorem f89_ok : R Pq o c n b89 (kend Pq o c n w rs89 k) = fun t _ h => f89 o c n k (t 0) h := by kernel_rfl
theorem f89_good : Good Pq (cfg mm) 89 (entF Pq (cfg mm) 89 1 fun α => f89) := entG b89 rs89 12 fun _ => f89_ok
noncomputable def b90 := bdy Tryz.f90
noncomputable def rs90 := Tryz.f90.results.toList
noncomputable def f90 {α : Type} (o : α) (c : Call' α) (n : Nat) (k : AV → Heap → α) (a0 a1 a2 : AV) (h : Heap) : α :=
  boxF o a0 h h.next fun v1 h => boxF o a2 h h.next fun v2 h => loadNF o h 1 v1 fun v3 => c 170 [v3, a1] h fun v4 h => pk k v4 h <| c 169 [v4, (.fn (.func 171) [] [v2])] h fun v5 h => pk k v5 h <| k v5 h
theorem f90_ok : R Pq o c n b90 (kend Pq o c n w rs90 k) = fun t _ h => f90 o c n k (t 0) (t 1) (t 2) h := by kernel_rfl
theorem f90_good : Good Pq (cfg mm) 90 (entF Pq (cfg mm) 90 3 fun α => f90) := entG b90 rs90 12 fun _ => f90_ok
noncomputable def b91 := bdy Tryz.f91
noncomputable def rs91 := Tryz.f91.results.toList
noncomputable def f91_2K : Ex → K α := (nxK (R Pq o c n (cB (cB b91)) (kend Pq o c n w rs91 k)) (kend Pq o c n w rs91 k))
noncomputable def f91_4 {α : Type} (o : α) (c : Call' α) (n : Nat) (k : AV → Heap → α) (s1 s2 s11 s13 : AV) (h : Heap) : α :=
  pickF o s11 (.b true) s13 fun v1 => bkF o false v1 (loadNF o h 1 s2 fun v2 => c 86 [v2, s1] h fun v3 h => pk k v3 h <| pickF o v1 (.b true) v3 fun v4 => k v4 h) (pickF o v1 (.b true) (.tup []) fun v5 => k v5 h)
theorem f91_4_ok : Q Pq o c (cO (cA (cB b91))) (f91_2K o c n k w) 9 = fun t _ h => f91_4 o c n k (t 1) (t 2) (t 11) (t 13) h := (q_seg 9 11 (by kernel_rfl) (q_guard 11 14 (10, false) (by kernel_rfl) (by kernel_rfl) (by kernel_rfl) rfl)).tk
noncomputable def f91_3 (s1 s2 s7 s9 : AV) (h : Heap) : α :=
  pickF o s7 (.b true) s9 fun v6 => bkF o false v6 (eqsF Pq o 9 s1 (.s 6 113723913172051) fun v7 => f91_4 o c n k s1 s2 v6 v7 h) (f91_4 o c n k s1 s2 v6 (.tup []) h)
theorem f91_3_ok : Q Pq o c (cO (cA (cB b91))) (f91_2K o c n k w) 5 = fun t _ h => f91_3 o c n k (t 1) (t 2) (t 7) (t 9) h := (q_seg 5 7 (by kernel_rfl) (q_guard 7 9 (6, false) (by kernel_rfl) (by kernel_rfl) (by kernel_rfl) (f91_4_ok o c n k w))).tk
noncomputable def f91_1 (s1 s2 : AV) (h : Heap) : α :=
  eqsF Pq o 9 s1 (.s 3 7630441) fun v8 => bkF o false v8 (eqsF Pq o 9 s1 (.s 7 31069335677005666) fun v9 => f91_3 o c n k s1 s2 v8 v9 h) (f91_3 o c n k s1 s2 v8 (.tup []) h)
theorem f91_1_ok : R Pq o c n (cB b91) (kend Pq o c n w rs91 k) = fun t _ h => f91_1 o c n k (t 1) (t 2) h := (kseq rfl (r_start 3 (by kernel_rfl) (q_guard 3 5 (2, false) (by kernel_rfl) (by kernel_rfl) (by kernel_rfl) (f91_3_ok o c n k w)))).tk
noncomputable def f91 (a0 a1 : AV) (h : Heap) : α :=
  boxF o a0 h h.next fun v10 h => f91_1 o c n k a1 v10 h
theorem f91_ok : R Pq o c n b91 (kend Pq o c n w rs91 k) = fun t _ h => f91 o c n k (t 0) (t 1) h := (kseq (f91_1_ok o c n k w) rfl).tk
theorem f91_good : Good Pq (cfg mm) 91 (entF Pq (cfg mm) 91 2 fun α => f91) := entG b91 rs91 20 fun _ => f91_ok
noncomputable def b92 := bdy Tryz.f92
noncomputable def rs92 := Tryz.f92.results.toList
noncomputable def f92 {α : Type} (o : α) (c : Call' α) (n : Nat) (k : AV → Heap → α) (a0 : AV) (h : Heap) : α :=
  boxF o a0 h h.next fun v1 h => loadNF o h 1 v1 fun v2 => c 31 [v2] h fun v3 h => pk k v3 h <| exF o v3 0 fun v4 => exF o v3 1 fun v5 => eqiF Pq o 3 v4 (.i .i64 0) fun v6 => k v6 h
theorem f92_ok : R Pq o c n b92 (kend Pq o c n w rs92 k) = fun t _ h => f92 o c n k (t 0) h := by kernel_rfl
theorem f92_good : Good Pq (cfg mm) 92 (entF Pq (cfg mm) 92 1 fun α => f92) := entG b92 rs92 12 fun _ => f92_ok
noncomputable def b95 := bdy Tryz.f95
noncomputable def rs95 := Tryz.f95.results.toList
noncomputable def f95 {α : Type} (o : α) (c : Call' α) (n : Nat) (k : AV → Heap → α) (a0 : AV) (h : Heap) : α :=
  eqiF Pq o 39 a0 .nsl fun v1 => ifF o v1 (k .nsl h) (newEF h h.next 8 0 [] fun v2 h => appX Pq o h h.next 39 39 v2 a0 fun v3 h => k v3 h)
theorem f95_ok : R Pq o c n b95 (kend Pq o c n w rs95 k) = fun t _ h => f95 o c n k (t 0) h := by kernel_rfl
theorem f95_good : Good Pq (cfg mm) 95 (entF Pq (cfg mm) 95 1 fun α => f95) := entG b95 rs95 8 fun _ => f95_ok
noncomputable def b96 := bdy Tryz.f96
noncomputable def rs96 := Tryz.f96.results.toList
noncomputable def f96_2K : Ex → K α := (nxK (R Pq o c n (cB (cB b96)) (kend Pq o c n w rs96 k)) (kend Pq o c n w rs96 k))
noncomputable def f96_3 {α : Type} (o : α) (c : Call' α) (n : Nat) (k : AV → Heap → α) (base : Nat) (s4 s19 : AV) (h : Heap) : α :=
  exF o s19 0 fun v1 => exF o s19 1 fun v2 => exF o s19 2 fun v3 => newF (h.look 0) (Nat.add base 14) 8 [(.i .i64 0), (.i .i32 0), (.s 0 0), (.s 0 0), (.s 0 0), .nsl, (.s 0 0), (.i .i64 0)] fun v4 h => storeF o (h.look 20479) 8 v4 v1 fun h => hb h.shut fun h => eqiF Pq o 3 v3 (.i .i64 0) fun v5 => c 180 [v5, v3] h fun v6 h => pk k v6 h <| loadNF o h 8 v4 fun v7 => storeF o h 8 s4 v7 fun h => on o (resV Pq h [(s4, some 43), (v2, none)]) fun v => k v h
theorem f96_3_ok (base : Nat) : QD Pq o c (cO (cA (cB b96))) base ((f96_2K o c n k w)) 10 = fun t _ h => f96_3 o c n k base (t 4) (t 19) h := by kernel_rfl
noncomputable def f96_1 (s0 s3 s4 : AV) (h : Heap) : α :=
  dreg o h 18 fun base h => nilChk o s0 fun v8 => faF o 0 v8 fun v9 => rootF o v9 s0 <| loadNF o (h.look 7) 1 v9 fun v10 => nilChk o s0 fun v11 => faF o 1 v11 fun v12 => rootF o v12 s0 <| loadNF o (h.look 112) 3 v12 fun v13 => loadNF o (h.look 0) 8 s3 fun v14 => callD o c (lapp (lapp [Nat.add base 14] []) []) 179 [v10, v13, v14] (h.look 0) fun v15 h => pnF v15 (fun x => o) <| f96_3 o c n k base s4 v15 h
theorem f96_1_ok : R Pq o c n (cB b96) (kend Pq o c n w rs96 k) = fun t _ h => f96_1 o c n k (t 0) (t 3) (t 4) h := (kseq rfl (r_startD 10 (by kernel_rfl) (by kernel_rfl) (X := fun base => fun t _ h => f96_3 o c n k base (t 4) (t 19) h) (fun base => f96_3_ok o c n k w base))).tk
noncomputable def f96 (a0 a1 : AV) (h : Heap) : α :=
  boxF o a1 h h.next fun v16 h => newF h h.next 8 [(.i .i64 0), (.i .i32 0), (.s 0 0), (.s 0 0), (.s 0 0), .nsl, (.s 0 0), (.i .i64 0)] fun v17 h => f96_1 o c n k a0 v16 v17 h
theorem f96_ok : R Pq o c n b96 (kend Pq o c n w rs96 k) = fun t _ h => f96 o c n k (t 0) (t 1) h := (kseq (f96_1_ok o c n k w) rfl).tk
theorem f96_good : Good Pq (cfg mm) 96 (entF Pq (cfg mm) 96 2 fun α => f96) := entG b96 rs96 29 fun _ => f96_ok
noncomputable def b97 := bdy Tryz.f97
noncomputable def rs97 := Tryz.f97.results.toList
noncomputable def f97 {α : Type} (o : α) (c : Call' α) (n : Nat) (k : AV → Heap → α) (a0 a1 a2 : AV) (h : Heap) : α :=
  nilChk o a0 fun v1 => faF o 0 v1 fun v2 => loadNF o h 1 v2 fun v3 => c 181 [v3, a1, a2] h fun v4 h => pk k v4 h <| c 180 [v4, (.i .i64 14)] h fun v5 h => pk k v5 h <| k (.tup []) h
theorem f97_ok : R Pq o c n b97 (kend Pq o c n w rs97 k) = fun t _ h => f97 o c n k (t 0) (t 1) (t 2) h := by kernel_rfl
theorem f97_good : Good Pq (cfg mm) 97 (entF Pq (cfg mm) 97 3 fun α => f97) := entG b97 rs97 14 fun _ => f97_ok
noncomputable def b98 := bdy Tryz.f98
noncomputable def rs98 := Tryz.f98.results.toList
noncomputable def f98_3 {α : Type} (o : α) (c : Call' α) (n : Nat) (k : AV → Heap → α) (s5 s6 s7 : AV) (h : Heap) : α :=
  faF o 5 s5 fun v1 => load1F o h v1 fun v2 => c 184 [s7, v2, .nsl] h fun v3 h => pk k v3 h <| faF o 5 s5 fun v4 => storeF o h 1 v4 v3 fun h => loadNF o h 6 s5 fun v5 => c 185 [v5] h fun v6 h => pk k v6 h <| c 180 [v6, (.i .i64 15)] h fun v7 h => pk k v7 h <| loadNF o h 6 s5 fun v8 => storeF o h 6 s6 v8 fun h => on o (resV Pq h [(s6, some 38)]) fun v => k v h
theorem f98_3_ok : R Pq o c n (cB (cB (cB b98))) (kend Pq o c n w rs98 k) = fun t _ h => f98_3 o c n k (t 5) (t 6) (t 7) h := by kernel_rfl
noncomputable def f98_4K : Ex → K α := (nxK (fun t _ h => f98_3 o c n k (t 5) (t 6) (t 7) h) (kend Pq o c n w rs98 k))
noncomputable def f98_5 (s1 s3 s5 s6 s7 s26 : AV) (h : Heap) : α :=
  ifF o s26 (loadNF o h 1 s3 fun v9 => c 101 [v9, s1] h fun v10 h => pk k v10 h <| f98_3 o c n k s5 s6 s7 h) (f98_3 o c n k s5 s6 s7 h)
theorem f98_5_ok : R Pq o c n (cB (cA (cB (cB b98)))) (f98_4K o c n k w) = fun t _ h => f98_5 o c n k (t 1) (t 3) (t 5) (t 6) (t 7) (t 26) h := by kernel_rfl
noncomputable def f98_6K : Ex → K α := (nxK (fun t _ h => f98_5 o c n k (t 1) (t 3) (t 5) (t 6) (t 7) (t 26) h) (f98_4K o c n k w))
noncomputable def f98_2 (s1 s3 s5 s6 s7 : AV) (h : Heap) : α :=
  faF o 1 s5 fun v11 => load1F o h v11 fun v12 => bkF o true v12 (faF o 5 s5 fun v13 => load1F o h v13 fun v14 => c 183 [v14] h fun v15 h => pk k v15 h <| notF o v15 fun v16 => pickF o v12 v16 (.b false) fun v17 => f98_5 o c n k s1 s3 s5 s6 s7 v17 h) (pickF o v12 (.tup []) (.b false) fun v18 => f98_5 o c n k s1 s3 s5 s6 s7 v18 h)
theorem f98_2_ok : R Pq o c n (cB (cB b98)) (kend Pq o c n w rs98 k) = fun t _ h => f98_2 o c n k (t 1) (t 3) (t 5) (t 6) (t 7) h := (kseq (f98_3_ok o c n k w) (kseq (f98_5_ok o c n k w) (r_start 3 (by kernel_rfl) (q_guard 3 7 (2, true) (by kernel_rfl) (by kernel_rfl) (by kernel_rfl) rfl)))).tk
noncomputable def f98_1 (s1 s3 s5 s6 : AV) (h : Heap) : α :=
  dreg o h 12 fun base h => loadNF o (h.look 0) 1 s3 fun v19 => faF o 0 s5 fun v20 => rootF o v20 s5 <| load1F o (h.look 4) v20 fun v21 => faF o 4 s5 fun v22 => rootF o v22 s5 <| load1F o (h.look 16) v22 fun v23 => callD o c (hidD false [(.fn (.func 182) [] []), v23] [] (sBlk s3 (sBlk s5 (sBlk s5 [])))) 182 [v23] (h.look 0) fun v24 h => pnF v24 (fun x => hb h.shut fun hd => loadNF o (h.look 0) 6 s5 fun v25 => k x.pn hd) <| layF o 0 s1 [(.s 0 0), (.b false), .nsl] fun v26 => layF o 1 v21 v26 fun v27 => layF o 2 v24 v27 fun v28 => loadNF o (h.look 0) 6 s5 fun v29 => layF o 0 v19 [.nsl, (.s 0 0), (.b false), .nsl, (.b false), (.b false), (.s 0 0), (.s 0 0), .nsl, .nsl] fun v30 => lay1 o 1 3 (.agg v28) v30 fun v31 => lay1 o 4 6 v29 v31 fun v32 => boxF o (.agg v32) (h.look 1023) (Nat.add base 10) fun v33 h => hb h.shut fun h => f98_2 o c n k s1 s3 s5 s6 v33 h
theorem f98_1_ok : R Pq o c n (cB b98) (kend Pq o c n w rs98 k) = fun t _ h => f98_1 o c n k (t 1) (t 3) (t 5) (t 6) h := (kseq (f98_2_ok o c n k w) rfl).tk
noncomputable def f98 (a0 a1 a2 : AV) (h : Heap) : α :=
  boxF o a0 h h.next fun v34 h => boxF o a2 h h.next fun v35 h => newF h h.next 6 [(.b false), (.b false), (.s 0 0), (.s 0 0), .nsl, .nsl] fun v36 h => f98_1 o c n k a1 v34 v35 v36 h
theorem f98_ok : R Pq o c n b98 (kend Pq o c n w rs98 k) = fun t _ h => f98 o c n k (t 0) (t 1) (t 2) h := (kseq (f98_1_ok o c n k w) rfl).tk
theorem f98_good : Good Pq (cfg mm) 98 (entF Pq (cfg mm) 98 3 fun α => f98) := entG b98 rs98 39 fun _ => f98_ok
noncomputable def b99 := bdy Tryz.f99
noncomputable def rs99 := Tryz.f99.results.toList
noncomputable def f99 {α : Type} (o : α) (c : Call' α) (n : Nat) (k : AV → Heap → α) (a0 a1 : AV) (h : Heap) : α :=
  c 186 [a0, a1] h fun v1 h => pk k v1 h <| geqF Pq o 3 v1 (.i .i64 0) fun v2 => k v2 h
theorem f99_ok : R Pq o c n b99 (kend Pq o c n w rs99 k) = fun t _ h => f99 o c n k (t 0) (t 1) h := by kernel_rfl
theorem f99_good : Good Pq (cfg mm) 99 (entF Pq (cfg mm) 99 2 fun α => f99) := entG b99 rs99 9 fun _ => f99_ok
noncomputable def b100 := bdy Tryz.f100
noncomputable def rs100 := Tryz.f100.results.toList
noncomputable def f100 {α : Type} (o : α) (c : Call' α) (n : Nat) (k : AV → Heap → α) (a0 : AV) (h : Heap) : α :=
  boxF o a0 h h.next fun v1 h => faF o 1 v1 fun v2 => load1F o h v2 fun v3 => k v3 h
theorem f100_ok : R Pq o c n b100 (kend Pq o c n w rs100 k) = fun t _ h => f100 o c n k (t 0) h := by kernel_rfl
theorem f100_good : Good Pq (cfg mm) 100 (entF Pq (cfg mm) 100 1 fun α => f100) := entG b100 rs100 5 fun _ => f100_ok
noncomputable def b101 := bdy Tryz.f101
noncomputable def rs101 := Tryz.f101.results.toList
noncomputable def f101 {α : Type} (o : α) (c : Call' α) (n : Nat) (k : AV → Heap → α) (a0 a1 : AV) (h : Heap) : α :=
  boxF o a0 h h.next fun v1 h => loadNF o h 1 v1 fun v2 => c 88 [v2, a1] h fun v3 h => pk k v3 h <| nesF Pq o 9 v3 (.s 0 0) fun v4 => ifF o v4 (loadNF o h 1 v1 fun v5 => c 187 [v5, v3, .nsl] h fun v6 h => pk k v6 h <| exF o v6 0 fun v7 => exF o v6 1 fun v8 => newF h h.next 2 [(.s 0 0), (.i .i64 0)] fun v9 h => storeF o h 2 v9 v7 fun h => eqiF Pq o 3 v8 (.i .i64 0) fun v10 => c 180 [v10, v8] h fun v11 h => pk k v11 h <| k (.tup []) h) (k (.tup []) h)
theorem f101_ok : R Pq o c n b101 (kend Pq o c n w rs101 k) = fun t _ h => f101 o c n k (t 0) (t 1) h := by kernel_rfl
theorem f101_good : Good Pq (cfg mm) 101 (entF Pq (cfg mm) 101 2 fun α => f101) := entG b101 rs101 22 fun _ => f101_ok
noncomputable def b105 := bdy Tryz.f105
noncomputable def rs105 := Tryz.f105.results.toList
noncomputable def f105 {α : Type} (o : α) (c : Call' α) (n : Nat) (k : AV → Heap → α) (a0 : AV) (h : Heap) : α :=
  boxF o a0 h h.next fun v1 h => newF h h.next 1 [.nsl] fun v2 h => loadNF o h 1 v1 fun v3 => c 189 [v3, .nfn, .nfn] h fun v4 h => pk k v4 h <| storeF o h 1 v2 v4 fun h => on o (resV Pq h [(v2, some 25)]) fun v => k v h
theorem f105_ok : R Pq o c n b105 (kend Pq o c n w rs105 k) = fun t _ h => f105 o c n k (t 0) h := by kernel_rfl
theorem f105_good : Good Pq (cfg mm) 105 (entF Pq (cfg mm) 105 1 fun α => f105) := entG b105 rs105 5 fun _ => f105_ok
noncomputable def b114 := bdy Tryz.f114
noncomputable def rs114 := Tryz.f114.results.toList
noncomputable def f114_2K : Ex → K α := (nxK (R Pq o c n (cB (cB b114)) (kend Pq o c n w rs114 k)) (kend Pq o c n w rs114 k))
noncomputable def f114_4 {α : Type} (o : α) (c : Call' α) (n : Nat) (k : AV → Heap → α) (m : Nat) : AVs (Heap → α) 6 :=
  Nat.rec (motive := fun _ => AVs (Heap → α) 6) (fun _ _ _ _ _ _ _ => o) (fun _ lp0 s3 s5 s6 s11 s12 s13 h => lssF Pq o 3 s13 s12 fun v1 => ifF o v1 (ixF o 1 s11 s13 fun v2 => load1F o h v2 fun v3 => loadNF o h 1 s3 fun v4 => c 193 [v4, v3] h fun v5 h => pk k v5 h <| c 186 [v5, (.fn (.func 194) [] [s5])] h fun v6 h => pk k v6 h <| geqF Pq o 3 v6 (.i .i64 0) fun v7 => ifF o v7 (layF o 0 v3 [(.s 0 0), (.i .i64 0)] fun v8 => layF o 1 v6 v8 fun v9 => storeF o h 2 s6 (.agg v9) fun h => on o (resV Pq h [(s6, some 101), ((.b true), none)]) fun v => k v h) (addF Pq o 3 s13 (.i .i64 1) fun v10 => lp0 s3 s5 s6 s11 s12 v10 h)) (storeF o h 2 s6 (.agg [(.s 0 0), (.i .i64 0)]) fun h => on o (resV Pq h [(s6, some 101), ((.b false), none)]) fun v => k v h)) m
theorem f114_4_ok : R Pq o c n (cA (cB (cA (cB b114)))) (blockK (cI (cB (cA (cB b114)))) (f114_2K o c n k w)) = fun t _ h => f114_4 o c n k n (t 3) (t 5) (t 6) (t 11) (t 12) (t 13) h :=
  c_loop (F := fun m t _ h => f114_4 o c n k m (t 3) (t 5) (t 6) (t 11) (t 12) (t 13) h) (by kernel_rfl) (by kernel_rfl) fun m => by kernel_rfl
noncomputable def f114_3 (s3 s5 s6 s11 s12 s13 : AV) (h : Heap) : α :=
  f114_4 o c n k n s3 s5 s6 s11 s12 s13 h
theorem f114_3_ok : R Pq o c n (cB (cA (cB b114))) (f114_2K o c n k w) = fun t _ h => f114_3 o c n k (t 3) (t 5) (t 6) (t 11) (t 12) (t 13) h := (kblk (f114_4_ok o c n k w)).tk
noncomputable def f114_1 (s1 s3 s5 s6 : AV) (h : Heap) : α :=
  lenF o s1 fun v11 => f114_3 o c n k s3 s5 s6 s1 v11 (.i .i64 0) h
theorem f114_1_ok : R Pq o c n (cB b114) (kend Pq o c n w rs114 k) = fun t _ h => f114_1 o c n k (t 1) (t 3) (t 5) (t 6) h := (kseq rfl (kseq (f114_3_ok o c n k w) rfl)).tk
noncomputable def f114 (a0 a1 a2 : AV) (h : Heap) : α :=
  boxF o a0 h h.next fun v12 h => boxF o a2 h h.next fun v13 h => newF h h.next 2 [(.s 0 0), (.i .i64 0)] fun v14 h => f114_1 o c n k a1 v12 v13 v14 h
theorem f114_ok : R Pq o c n b114 (kend Pq o c n w rs114 k) = fun t _ h => f114 o c n k (t 0) (t 1) (t 2) h := (kseq (f114_1_ok o c n k w) rfl).tk
theorem f114_good : Good Pq (cfg mm) 114 (entF Pq (cfg mm) 114 3 fun α => f114) := entG b114 rs114 29 fun _ => f114_ok
noncomputable def b120 := bdy Tryz.f120
noncomputable def rs120 := Tryz.f120.results.toList
noncomputable def f120 {α : Type} (o : α) (c : Call' α) (n : Nat) (k : AV → Heap → α) (a0 : AV) (h : Heap) : α :=
  newF h h.next 1 [.nsl] fun v1 h => c 200 [a0, (.fn (.func 201) [] [v1])] h fun v2 h => pk k v2 h <| load1F o h v1 fun v3 => k v3 h
theorem f120_ok : R Pq o c n b120 (kend Pq o c n w rs120 k) = fun t _ h => f120 o c n k (t 0) h := by kernel_rfl
theorem f120_good : Good Pq (cfg mm) 120 (entF Pq (cfg mm) 120 1 fun α => f120) := entG b120 rs120 8 fun _ => f120_ok
noncomputable def b121 := bdy Tryz.f121
noncomputable def rs121 := Tryz.f121.results.toList
noncomputable def f121 {α : Type} (o : α) (c : Call' α) (n : Nat) (k : AV → Heap → α) (a0 a1 a2 a3 a4 : AV) (h : Heap) : α :=
  boxF o a0 h h.next fun v1 h => faF o 5 a1 fun v2 => load1F o h v2 fun v3 => load1F o h a2 fun v4 => loadNF o h 8 v1 fun v5 => c 122 [v3, v4, v5] h fun v6 h => pk k v6 h <| exF o v6 0 fun v7 => exF o v6 1 fun v8 => dreg o h 13 fun base h => load1F o (h.look 0) a3 fun v9 => load1F o (h.look 0) a3 fun v10 => nilChk o v10 fun v11 => faF o 0 v11 fun v12 => loadNF o (h.look 14) 1 v12 fun v13 => load1F o (h.look 0) a3 fun v14 => nilChk o v14 fun v15 => faF o 3 v15 fun v16 => load1F o (h.look 224) v16 fun v17 => load1F o (h.look 0) a4 fun v18 => callD o c (hidD false [(.fn (.func 54) [] []), v13, v17, v18, v7] [] (sBlk a3 [])) 54 [v13, v17, v18, v7] (h.look 0) fun v19 h => pnF v19 (fun x => hb h.shut fun hd => k x.pn hd) <| callD o c [] 42 [v9, v19] h fun v20 h => pnF v20 (fun x => hb h.shut fun hd => k x.pn hd) <| hb h.shut fun h => k (.tup []) h
theorem f121_ok : R Pq o c n b121 (kend Pq o c n w rs121 k) = fun t _ h => f121 o c n k (t 0) (t 1) (t 2) (t 3) (t 4) h := by kernel_rfl
theorem f121_good : Good Pq (cfg mm) 121 (entF Pq (cfg mm) 121 5 fun α => f121) := entG b121 rs121 29 fun _ => f121_ok
noncomputable def b122 := bdy Tryz.f122
noncomputable def rs122 := Tryz.f122.results.toList
noncomputable def f122 {α : Type} (o : α) (c : Call' α) (n : Nat) (k : AV → Heap → α) (a0 a1 a2 : AV) (h : Heap) : α :=
  boxF o a2 h h.next fun v1 h => loadNF o h 8 v1 fun v2 => layF o 0 (.ifc 3 a1) [.nifc, (.i .i64 0), (.i .i32 0), (.s 0 0), (.s 0 0), (.s 0 0), .nsl, (.s 0 0), (.i .i64 0)] fun v3 => lay1 o 1 8 v2 v3 fun v4 => boxF o (.agg v4) h h.next fun v5 h => lssF Pq o 3 a1 (.i .i64 0) fun v6 => ifF o v6 (nilChk o v5 fun v7 => faF o 0 v7 fun v8 => storeF o h 1 v8 .nifc fun h => c 202 [v5, a0] h fun v9 h => pk k v9 h <| k (.tup [v9, (.b false)]) h) (c 202 [v5, a0] h fun v10 h => pk k v10 h <| dreg o h 8 fun base h => nilChk o v5 fun v11 => faF o 0 v11 fun v12 => rootF o v12 v5 <| load1F o (h.look 14) v12 fun v13 => eqiF Pq o 20 v13 .nifc fun v14 => hb h.shut fun h => k (.tup [v10, v14]) h)
theorem f122_ok : R Pq o c n b122 (kend Pq o c n w rs122 k) = fun t _ h => f122 o c n k (t 0) (t 1) (t 2) h := by kernel_rfl
theorem f122_good : Good Pq (cfg mm) 122 (entF Pq (cfg mm) 122 3 fun α => f122) := entG b122 rs122 32 fun _ => f122_ok
noncomputable def b138 := bdy Tryz.f138
noncomputable def rs138 := Tryz.f138.results.toList
noncomputable def f138_7K : Ex → K α := (nxK (R Pq o c n (cB (cB (cB (cB (cB (cB (cB b138))))))) (kend Pq o c n w rs138 k)) (kend Pq o c n w rs138 k))
noncomputable def f138_10K (lp0 : AVs (Heap → α) 8) : Ex → K α := (nxK (fun t _ h => lp0 (t 0) (t 1) (t 4) (t 6) (t 7) (t 8) (t 9) (t 10) h) (blockK (cI (cB (cA (cB (cB (cB (cB (cB (cB b138))))))))) (f138_7K o c n k w)))
noncomputable def f138_12 {α : Type} (o : α) (c : Call' α) (n : Nat) (k : AV → Heap → α) (lp0 : AVs (Heap → α) 8) (s0 s1 s4 s6 s7 s8 s9 s10 : AV) (h : Heap) : α :=
  addF Pq o 3 s10 (.i .i64 1) fun v1 => lp0 s0 s1 s4 s6 s7 s8 s9 v1 h
theorem f138_12_ok (lp0 : AVs (Heap → α) 8) : R Pq o c n (cB (cB (cA (cA (cB (cA (cB (cB (cB (cB (cB (cB b138)))))))))))) (f138_10K o c n k w lp0) = fun t _ h => f138_12 o c n k lp0 (t 0) (t 1) (t 4) (t 6) (t 7) (t 8) (t 9) (t 10) h := by kernel_rfl
noncomputable def f138_13K (lp0 : AVs (Heap → α) 8) : Ex → K α := (nxK (fun t _ h => f138_12 o c n k lp0 (t 0) (t 1) (t 4) (t 6) (t 7) (t 8) (t 9) (t 10) h) (f138_10K o c n k w lp0))
noncomputable def f138_15 (lp0 : AVs (Heap → α) 8) (s0 s1 s4 s6 s7 s8 s9 s10 s11 : AV) (h : Heap) : α :=
  binA Pq o .shl 21 s9 (.i .u64 6) fun v2 => binA Pq o .and 3 s11 (.i .i64 63) fun v3 => convA Pq o 3 21 v3 fun v4 => binA Pq o .or 21 v2 v4 fun v5 => f138_12 o c n k lp0 s0 s1 s4 s6 s7 s8 v5 s10 h
theorem f138_15_ok (lp0 : AVs (Heap → α) 8) : R Pq o c n (cB (cB (cA (cA (cB (cA (cA (cB (cA (cB (cB (cB (cB (cB (cB b138))))))))))))))) (blockK (cI (cA (cB (cA (cA (cB (cA (cB (cB (cB (cB (cB (cB b138))))))))))))) (f138_13K o c n k w lp0)) = fun t _ h => f138_15 o c n k lp0 (t 0) (t 1) (t 4) (t 6) (t 7) (t 8) (t 9) (t 10) (t 11) h := by kernel_rfl
noncomputable def f138_16K (lp0 : AVs (Heap → α) 8) : Ex → K α := (nxK (fun t _ h => f138_15 o c n k lp0 (t 0) (t 1) (t 4) (t 6) (t 7) (t 8) (t 9) (t 10) (t 11) h) (blockK (cI (cA (cB (cA (cA (cB (cA (cB (cB (cB (cB (cB (cB b138))))))))))))) (f138_13K o c n k w lp0)))
noncomputable def f138_17 (lp0 : AVs (Heap → α) 8) (s0 s1 s4 s6 s7 s8 s9 s10 s11 s99 : AV) (h : Heap) : α :=
  ifF o s99 (layF o 0 (.i .i32 65533) [(.i .i32 0), (.i .i64 0), (.b false)] fun v6 => layF o 1 (.i .i64 1) v6 fun v7 => layF o 2 (.b true) v7 fun v8 => storeF o h 3 s4 (.agg v8) fun h => on o (resV Pq h [(s4, some 181)]) fun v => k v h) (f138_15 o c n k lp0 s0 s1 s4 s6 s7 s8 s9 s10 s11 h)
theorem f138_17_ok (lp0 : AVs (Heap → α) 8) : R Pq o c n (cB (cA (cB (cA (cA (cB (cA (cA (cB (cA (cB (cB (cB (cB (cB (cB b138)))))))))))))))) (f138_16K o c n k w lp0) = fun t _ h => f138_17 o c n k lp0 (t 0) (t 1) (t 4) (t 6) (t 7) (t 8) (t 9) (t 10) (t 11) (t 99) h := by kernel_rfl
noncomputable def f138_18K (lp0 : AVs (Heap → α) 8) : Ex → K α := (nxK (fun t _ h => f138_17 o c n k lp0 (t 0) (t 1) (t 4) (t 6) (t 7) (t 8) (t 9) (t 10) (t 11) (t 99) h) (f138_16K o c n k w lp0))
noncomputable def f138_22 (lp0 : AVs (Heap → α) 8) (s0 s1 s4 s6 s7 s8 s9 s10 s11 s92 s94 : AV) (h : Heap) : α :=
  pickF o s92 (.b true) s94 fun v9 => bkF o false v9 (gtrF Pq o 3 s11 (.i .i64 191) fun v10 => pickF o v9 (.b true) v10 fun v11 => f138_17 o c n k lp0 s0 s1 s4 s6 s7 s8 s9 s10 s11 v11 h) (pickF o v9 (.b true) (.tup []) fun v12 => f138_17 o c n k lp0 s0 s1 s4 s6 s7 s8 s9 s10 s11 v12 h)
theorem f138_22_ok (lp0 : AVs (Heap → α) 8) : Q Pq o c (cO (cA (cA (cB (cA (cA (cB (cA (cA (cB (cA (cB (cB (cB (cB (cB (cB b138))))))))))))))))) (f138_18K o c n k w lp0) 15 = fun t _ h => f138_22 o c n k lp0 (t 0) (t 1) (t 4) (t 6) (t 7) (t 8) (t 9) (t 10) (t 11) (t 92) (t 94) h := (q_seg 15 17 (by kernel_rfl) (q_guard 17 19 (16, false) (by kernel_rfl) (by kernel_rfl) (by kernel_rfl) rfl)).tk
noncomputable def f138_21 (lp0 : AVs (Heap → α) 8) (s0 s1 s4 s6 s7 s8 s9 s10 s11 s82 s90 : AV) (h : Heap) : α :=
  pickF o s82 s90 (.b false) fun v13 => bkF o false v13 (lssF Pq o 3 s11 (.i .i64 128) fun v14 => f138_22 o c n k lp0 s0 s1 s4 s6 s7 s8 s9 s10 s11 v13 v14 h) (f138_22 o c n k lp0 s0 s1 s4 s6 s7 s8 s9 s10 s11 v13 (.tup []) h)
theorem f138_21_ok (lp0 : AVs (Heap → α) 8) : Q Pq o c (cO (cA (cA (cB (cA (cA (cB (cA (cA (cB (cA (cB (cB (cB (cB (cB (cB b138))))))))))))))))) (f138_18K o c n k w lp0) 11 = fun t _ h => f138_21 o c n k lp0 (t 0) (t 1) (t 4) (t 6) (t 7) (t 8) (t 9) (t 10) (t 11) (t 82) (t 90) h := (q_seg 11 13 (by kernel_rfl) (q_guard 13 15 (12, false) (by kernel_rfl) (by kernel_rfl) (by kernel_rfl) (f138_22_ok o c n k w lp0))).tk
noncomputable def f138_20 (lp0 : AVs (Heap → α) 8) (s0 s1 s4 s6 s7 s8 s9 s10 s11 s82 s86 s89 : AV) (h : Heap) : α :=
  bkF o true s82 (pickF o s86 (.b true) s89 fun v15 => f138_21 o c n k lp0 s0 s1 s4 s6 s7 s8 s9 s10 s11 s82 v15 h) (f138_21 o c n k lp0 s0 s1 s4 s6 s7 s8 s9 s10 s11 s82 (.tup []) h)
theorem f138_20_ok (lp0 : AVs (Heap → α) 8) : Q Pq o c (cO (cA (cA (cB (cA (cA (cB (cA (cA (cB (cA (cB (cB (cB (cB (cB (cB b138))))))))))))))))) (f138_18K o c n k w lp0) 10 = fun t _ h => f138_20 o c n k lp0 (t 0) (t 1) (t 4) (t 6) (t 7) (t 8) (t 9) (t 10) (t 11) (t 82) (t 86) (t 89) h := (q_seg 10 10 (by kernel_rfl) (q_guard 10 11 (2, true) (by kernel_rfl) (by kernel_rfl) (by kernel_rfl) (f138_21_ok o c n k w lp0))).tk
noncomputable def f138_19 (lp0 : AVs (Heap → α) 8) (s0 s1 s4 s6 s7 s8 s9 s10 s11 s82 s86 : AV) (h : Heap) : α :=
  bkF o false s86 (gtrF Pq o 3 s11 s8 fun v16 => f138_20 o c n k lp0 s0 s1 s4 s6 s7 s8 s9 s10 s11 s82 s86 v16 h) (f138_20 o c n k lp0 s0 s1 s4 s6 s7 s8 s9 s10 s11 s82 s86 (.tup []) h)
theorem f138_19_ok (lp0 : AVs (Heap → α) 8) : Q Pq o c (cO (cA (cA (cB (cA (cA (cB (cA (cA (cB (cA (cB (cB (cB (cB (cB (cB b138))))))))))))))))) (f138_18K o c n k w lp0) 7 = fun t _ h => f138_19 o c n k lp0 (t 0) (t 1) (t 4) (t 6) (t 7) (t 8) (t 9) (t 10) (t 11) (t 82) (t 86) h := (q_seg 7 7 (by kernel_rfl) (q_guard 7 10 (6, false) (by kernel_rfl) (by kernel_rfl) (by kernel_rfl) (f138_20_ok o c n k w lp0))).tk
noncomputable def f138_14 (lp0 : AVs (Heap → α) 8) (s0 s1 s4 s6 s7 s8 s9 s10 s11 : AV) (h : Heap) : α :=
  eqiF Pq o 3 s10 (.i .i64 1) fun v17 => bkF o true v17 (lssF Pq o 3 s11 s7 fun v18 => f138_19 o c n k lp0 s0 s1 s4 s6 s7 s8 s9 s10 s11 v17 v18 h) (f138_19 o c n k lp0 s0 s1 s4 s6 s7 s8 s9 s10 s11 v17 (.tup []) h)
theorem f138_14_ok (lp0 : AVs (Heap → α) 8) : R Pq o c n (cB (cA (cA (cB (cA (cA (cB (cA (cB (cB (cB (cB (cB (cB b138)))))))))))))) (blockK (cI (cA (cB (cA (cA (cB (cA (cB (cB (cB (cB (cB (cB b138))))))))))))) (f138_13K o c n k w lp0)) = fun t _ h => f138_14 o c n k lp0 (t 0) (t 1) (t 4) (t 6) (t 7) (t 8) (t 9) (t 10) (t 11) h := (kseq (f138_15_ok o c n k w lp0) (kseq (f138_17_ok o c n k w lp0) (r_start 3 (by kernel_rfl) (q_guard 3 7 (2, true) (by kernel_rfl) (by kernel_rfl) (by kernel_rfl) (f138_19_ok o c n k w lp0))))).tk
noncomputable def f138_11 (lp0 : AVs (Heap → α) 8) (s0 s1 s4 s6 s7 s8 s9 s10 : AV) (h : Heap) : α :=
  addF Pq o 3 s1 s10 fun v19 => sxF o s0 v19 fun v20 => convA Pq o 5 3 v20 fun v21 => f138_14 o c n k lp0 s0 s1 s4 s6 s7 s8 s9 s10 v21 h
theorem f138_11_ok (lp0 : AVs (Heap → α) 8) : R Pq o c n (cB (cA (cA (cB (cA (cB (cB (cB (cB (cB (cB b138))))))))))) (f138_10K o c n k w lp0) = fun t _ h => f138_11 o c n k lp0 (t 0) (t 1) (t 4) (t 6) (t 7) (t 8) (t 9) (t 10) h := (kseq (f138_12_ok o c n k w lp0) (kblk (kseq (f138_14_ok o c n k w lp0) rfl))).tk
noncomputable def f138_9 (m : Nat) : AVs (Heap → α) 8 :=
  Nat.rec (motive := fun _ => AVs (Heap → α) 8) (fun _ _ _ _ _ _ _ _ _ => o) (fun _ lp0 s0 s1 s4 s6 s7 s8 s9 s10 h => lssF Pq o 3 s10 s6 fun v22 => ifF o v22 (f138_11 o c n k lp0 s0 s1 s4 s6 s7 s8 s9 s10 h) (layF o 0 s9 [(.i .i32 0), (.i .i64 0), (.b false)] fun v23 => layF o 1 s6 v23 fun v24 => storeF o h 3 s4 (.agg v24) fun h => on o (resV Pq h [(s4, some 181)]) fun v => k v h)) m
theorem f138_9_ok : R Pq o c n (cA (cB (cA (cB (cB (cB (cB (cB (cB b138))))))))) (blockK (cI (cB (cA (cB (cB (cB (cB (cB (cB b138))))))))) (f138_7K o c n k w)) = fun t _ h => f138_9 o c n k n (t 0) (t 1) (t 4) (t 6) (t 7) (t 8) (t 9) (t 10) h :=
  c_loop (F := fun m t _ h => f138_9 o c n k m (t 0) (t 1) (t 4) (t 6) (t 7) (t 8) (t 9) (t 10) h) (by kernel_rfl) (by kernel_rfl) fun m => (kseq (f138_11_ok o c n k w (f138_9 o c n k m)) rfl).tk
noncomputable def f138_8 (s0 s1 s4 s6 s7 s8 s9 s10 : AV) (h : Heap) : α :=
  f138_9 o c n k n s0 s1 s4 s6 s7 s8 s9 s10 h
theorem f138_8_ok : R Pq o c n (cB (cA (cB (cB (cB (cB (cB (cB b138)))))))) (f138_7K o c n k w) = fun t _ h => f138_8 o c n k (t 0) (t 1) (t 4) (t 6) (t 7) (t 8) (t 9) (t 10) h := (kblk (f138_9_ok o c n k w)).tk
noncomputable def f138_6 (s0 s1 s4 s6 s7 s8 s9 : AV) (h : Heap) : α :=
  f138_8 o c n k s0 s1 s4 s6 s7 s8 s9 (.i .i64 1) h
theorem f138_6_ok : R Pq o c n (cB (cB (cB (cB (cB (cB b138)))))) (kend Pq o c n w rs138 k) = fun t _ h => f138_6 o c n k (t 0) (t 1) (t 4) (t 6) (t 7) (t 8) (t 9) h := (kseq rfl (kseq (f138_8_ok o c n k w) rfl)).tk
noncomputable def f138_5 (s0 s1 s4 s5 s6 s7 s8 : AV) (h : Heap) : α :=
  convA Pq o 5 21 s5 fun v25 => binA Pq o .sub 3 (.i .i64 7) s6 fun v26 => convA Pq o 3 22 v26 fun v27 => binA Pq o .shl 21 (.i .i32 1) v27 fun v28 => binA Pq o .sub 21 v28 (.i .i32 1) fun v29 => binA Pq o .and 21 v25 v29 fun v30 => f138_6 o c n k s0 s1 s4 s6 s7 s8 v30 h
theorem f138_5_ok : R Pq o c n (cB (cB (cB (cB (cB b138))))) (kend Pq o c n w rs138 k) = fun t _ h => f138_5 o c n k (t 0) (t 1) (t 4) (t 5) (t 6) (t 7) (t 8) h := (kseq (f138_6_ok o c n k w) rfl).tk
noncomputable def f138_23K : Ex → K α := (nxK (fun t _ h => f138_5 o c n k (t 0) (t 1) (t 4) (t 5) (t 6) (t 7) (t 8) h) (kend Pq o c n w rs138 k))
noncomputable def f138_24 (s0 s1 s4 s5 s6 s7 s8 s59 : AV) (h : Heap) : α :=
  ifF o s59 (layF o 0 (.i .i32 65533) [(.i .i32 0), (.i .i64 0), (.b false)] fun v31 => layF o 1 (.i .i64 1) v31 fun v32 => layF o 2 (.b true) v32 fun v33 => storeF o h 3 s4 (.agg v33) fun h => on o (resV Pq h [(s4, some 181)]) fun v => k v h) (f138_5 o c n k s0 s1 s4 s5 s6 s7 s8 h)
theorem f138_24_ok : R Pq o c n (cB (cA (cB (cB (cB (cB b138)))))) (f138_23K o c n k w) = fun t _ h => f138_24 o c n k (t 0) (t 1) (t 4) (t 5) (t 6) (t 7) (t 8) (t 59) h := by kernel_rfl
noncomputable def f138_25K : Ex → K α := (nxK (fun t _ h => f138_24 o c n k (t 0) (t 1) (t 4) (t 5) (t 6) (t 7) (t 8) (t 59) h) (f138_23K o c n k w))
noncomputable def f138_4 (s0 s1 s4 s5 s6 s7 s8 : AV) (h : Heap) : α :=
  eqiF Pq o 3 s6 (.i .i64 0) fun v34 => bkF o false v34 (addF Pq o 3 s1 s6 fun v35 => lensF o s0 fun v36 => gtrF Pq o 3 v35 v36 fun v37 => pickF o v34 (.b true) v37 fun v38 => f138_24 o c n k s0 s1 s4 s5 s6 s7 s8 v38 h) (pickF o v34 (.b true) (.tup []) fun v39 => f138_24 o c n k s0 s1 s4 s5 s6 s7 s8 v39 h)
theorem f138_4_ok : R Pq o c n (cB (cB (cB (cB b138)))) (kend Pq o c n w rs138 k) = fun t _ h => f138_4 o c n k (t 0) (t 1) (t 4) (t 5) (t 6) (t 7) (t 8) h := (kseq (f138_5_ok o c n k w) (kseq (f138_24_ok o c n k w) (r_start 3 (by kernel_rfl) (q_guard 3 9 (2, false) (by kernel_rfl) (by kernel_rfl) (by kernel_rfl) rfl)))).tk
noncomputable def f138_26K : Ex → K α := (nxK (fun t _ h => f138_4 o c n k (t 0) (t 1) (t 4) (t 5) (t 6) (t 7) (t 8) h) (kend Pq o c n w rs138 k))
noncomputable def f138_31 (s0 s1 s4 s5 s6 s7 s8 : AV) (h : Heap) : α :=
  eqiF Pq o 5 s5 (.i .u8 237) fun v40 => ifF o v40 (f138_4 o c n k s0 s1 s4 s5 s6 s7 (.i .i64 159) h) (f138_4 o c n k s0 s1 s4 s5 s6 s7 s8 h)
theorem f138_31_ok : R Pq o c n (cB (cB (cA (cB (cB (cB (cB (cB (cA (cA (cB (cB (cB b138))))))))))))) (blockK (cI (cA (cB (cB (cB b138))))) (f138_26K o c n k w)) = fun t _ h => f138_31 o c n k (t 0) (t 1) (t 4) (t 5) (t 6) (t 7) (t 8) h := by kernel_rfl
noncomputable def f138_30 (s0 s1 s4 s5 s6 s7 s8 : AV) (h : Heap) : α :=
  eqiF Pq o 5 s5 (.i .u8 224) fun v41 => ifF o v41 (f138_31 o c n k s0 s1 s4 s5 s6 (.i .i64 160) s8 h) (f138_31 o c n k s0 s1 s4 s5 s6 s7 s8 h)
theorem f138_30_ok : R Pq o c n (cB (cA (cB (cB (cB (cB (cB (cA (cA (cB (cB (cB b138)))))))))))) (blockK (cI (cA (cB (cB (cB b138))))) (f138_26K o c n k w)) = fun t _ h => f138_30 o c n k (t 0) (t 1) (t 4) (t 5) (t 6) (t 7) (t 8) h := (kseq (f138_31_ok o c n k w) rfl).tk
noncomputable def f138_34 (s0 s1 s4 s5 s6 s7 s8 : AV) (h : Heap) : α :=
  eqiF Pq o 5 s5 (.i .u8 244) fun v42 => ifF o v42 (f138_4 o c n k s0 s1 s4 s5 s6 s7 (.i .i64 143) h) (f138_4 o c n k s0 s1 s4 s5 s6 s7 s8 h)
theorem f138_34_ok : R Pq o c n (cB (cB (cA (cB (cB (cB (cB (cB (cB (cB (cA (cA (cB (cB (cB b138))))))))))))))) (blockK (cI (cA (cB (cB (cB b138))))) (f138_26K o c n k w)) = fun t _ h => f138_34 o c n k (t 0) (t 1) (t 4) (t 5) (t 6) (t 7) (t 8) h := by kernel_rfl
noncomputable def f138_33 (s0 s1 s4 s5 s6 s7 s8 : AV) (h : Heap) : α :=
  eqiF Pq o 5 s5 (.i .u8 240) fun v43 => ifF o v43 (f138_34 o c n k s0 s1 s4 s5 s6 (.i .i64 144) s8 h) (f138_34 o c n k s0 s1 s4 s5 s6 s7 s8 h)
theorem f138_33_ok : R Pq o c n (cB (cA (cB (cB (cB (cB (cB (cB (cB (cA (cA (cB (cB (cB b138)))))))))))))) (blockK (cI (cA (cB (cB (cB b138))))) (f138_26K o c n k w)) = fun t _ h => f138_33 o c n k (t 0) (t 1) (t 4) (t 5) (t 6) (t 7) (t 8) h := (kseq (f138_34_ok o c n k w) rfl).tk
noncomputable def f138_32 (s0 s1 s4 s5 s6 s7 s8 s39 : AV) (h : Heap) : α :=
  ifF o s39 (f138_33 o c n k s0 s1 s4 s5 (.i .i64 4) s7 s8 h) (f138_4 o c n k s0 s1 s4 s5 s6 s7 s8 h)
theorem f138_32_ok : R Pq o c n (cB (cB (cB (cB (cB (cB (cB (cA (cA (cB (cB (cB b138)))))))))))) (blockK (cI (cA (cB (cB (cB b138))))) (f138_26K o c n k w)) = fun t _ h => f138_32 o c n k (t 0) (t 1) (t 4) (t 5) (t 6) (t 7) (t 8) (t 39) h := (c_cond (by kernel_rfl) (kseq (f138_33_ok o c n k w) rfl) rfl).tk
noncomputable def f138_35K : Ex → K α := (nxK (fun t _ h => f138_32 o c n k (t 0) (t 1) (t 4) (t 5) (t 6) (t 7) (t 8) (t 39) h) (blockK (cI (cA (cB (cB (cB b138))))) (f138_26K o c n k w)))
noncomputable def f138_29 (s0 s1 s4 s5 s6 s7 s8 s28 : AV) (h : Heap) : α :=
  ifF o s28 (f138_30 o c n k s0 s1 s4 s5 (.i .i64 3) s7 s8 h) (geqF Pq o 5 s5 (.i .u8 240) fun v44 => bkF o true v44 (leqF Pq o 5 s5 (.i .u8 244) fun v45 => pickF o v44 v45 (.b false) fun v46 => f138_32 o c n k s0 s1 s4 s5 s6 s7 s8 v46 h) (pickF o v44 (.tup []) (.b false) fun v47 => f138_32 o c n k s0 s1 s4 s5 s6 s7 s8 v47 h))
theorem f138_29_ok : R Pq o c n (cB (cB (cB (cB (cB (cA (cA (cB (cB (cB b138)))))))))) (blockK (cI (cA (cB (cB (cB b138))))) (f138_26K o c n k w)) = fun t _ h => f138_29 o c n k (t 0) (t 1) (t 4) (t 5) (t 6) (t 7) (t 8) (t 28) h := (c_cond (by kernel_rfl) (kseq (f138_30_ok o c n k w) rfl) (kseq (f138_32_ok o c n k w) (r_start 3 (by kernel_rfl) (q_guard 3 5 (2, true) (by kernel_rfl) (by kernel_rfl) (by kernel_rfl) rfl)))).tk
noncomputable def f138_36K : Ex → K α := (nxK (fun t _ h => f138_29 o c n k (t 0) (t 1) (t 4) (t 5) (t 6) (t 7) (t 8) (t 28) h) (blockK (cI (cA (cB (cB (cB b138))))) (f138_26K o c n k w)))
noncomputable def f138_28 (s0 s1 s4 s5 s6 s7 s8 s21 : AV) (h : Heap) : α :=
  ifF o s21 (f138_4 o c n k s0 s1 s4 s5 (.i .i64 2) s7 s8 h) (geqF Pq o 5 s5 (.i .u8 224) fun v48 => bkF o true v48 (leqF Pq o 5 s5 (.i .u8 239) fun v49 => pickF o v48 v49 (.b false) fun v50 => f138_29 o c n k s0 s1 s4 s5 s6 s7 s8 v50 h) (pickF o v48 (.tup []) (.b false) fun v51 => f138_29 o c n k s0 s1 s4 s5 s6 s7 s8 v51 h))
theorem f138_28_ok : R Pq o c n (cB (cB (cB (cA (cA (cB (cB (cB b138)))))))) (blockK (cI (cA (cB (cB (cB b138))))) (f138_26K o c n k w)) = fun t _ h => f138_28 o c n k (t 0) (t 1) (t 4) (t 5) (t 6) (t 7) (t 8) (t 21) h := (c_cond (by kernel_rfl) rfl (kseq (f138_29_ok o c n k w) (r_start 3 (by kernel_rfl) (q_guard 3 5 (2, true) (by kernel_rfl) (by kernel_rfl) (by kernel_rfl) rfl)))).tk
noncomputable def f138_37K : Ex → K α := (nxK (fun t _ h => f138_28 o c n k (t 0) (t 1) (t 4) (t 5) (t 6) (t 7) (t 8) (t 21) h) (blockK (cI (cA (cB (cB (cB b138))))) (f138_26K o c n k w)))
noncomputable def f138_27 (s0 s1 s4 s5 s6 s7 s8 s15 : AV) (h : Heap) : α :=
  ifF o s15 (convA Pq o 5 21 s5 fun v52 => layF o 0 v52 [(.i .i32 0), (.i .i64 0), (.b false)] fun v53 => layF o 1 (.i .i64 1) v53 fun v54 => storeF o h 3 s4 (.agg v54) fun h => on o (resV Pq h [(s4, some 181)]) fun v => k v h) (geqF Pq o 5 s5 (.i .u8 194) fun v55 => bkF o true v55 (leqF Pq o 5 s5 (.i .u8 223) fun v56 => pickF o v55 v56 (.b false) fun v57 => f138_28 o c n k s0 s1 s4 s5 s6 s7 s8 v57 h) (pickF o v55 (.tup []) (.b false) fun v58 => f138_28 o c n k s0 s1 s4 s5 s6 s7 s8 v58 h))
theorem f138_27_ok : R Pq o c n (cB (cA (cA (cB (cB (cB b138)))))) (blockK (cI (cA (cB (cB (cB b138))))) (f138_26K o c n k w)) = fun t _ h => f138_27 o c n k (t 0) (t 1) (t 4) (t 5) (t 6) (t 7) (t 8) (t 15) h := (c_cond (by kernel_rfl) rfl (kseq (f138_28_ok o c n k w) (r_start 3 (by kernel_rfl) (q_guard 3 5 (2, true) (by kernel_rfl) (by kernel_rfl) (by kernel_rfl) rfl)))).tk
noncomputable def f138_3 (s0 s1 s4 s5 s6 s7 s8 : AV) (h : Heap) : α :=
  lssF Pq o 5 s5 (.i .u8 128) fun v59 => f138_27 o c n k s0 s1 s4 s5 s6 s7 s8 v59 h
theorem f138_3_ok : R Pq o c n (cB (cB (cB b138))) (kend Pq o c n w rs138 k) = fun t _ h => f138_3 o c n k (t 0) (t 1) (t 4) (t 5) (t 6) (t 7) (t 8) h := (kseq (f138_4_ok o c n k w) (kblk (kseq (f138_27_ok o c n k w) rfl))).tk
noncomputable def f138_2 (s0 s1 s4 s5 : AV) (h : Heap) : α :=
  f138_3 o c n k s0 s1 s4 s5 (.i .i64 0) (.i .i64 128) (.i .i64 191) h
theorem f138_2_ok : R Pq o c n (cB (cB b138)) (kend Pq o c n w rs138 k) = fun t _ h => f138_2 o c n k (t 0) (t 1) (t 4) (t 5) h := (kseq (f138_3_ok o c n k w) rfl).tk
noncomputable def f138_1 (s0 s1 s4 : AV) (h : Heap) : α :=
  sxF o s0 s1 fun v60 => f138_2 o c n k s0 s1 s4 v60 h
theorem f138_1_ok : R Pq o c n (cB b138) (kend Pq o c n w rs138 k) = fun t _ h => f138_1 o c n k (t 0) (t 1) (t 4) h := (kseq (f138_2_ok o c n k w) rfl).tk
noncomputable def f138 (a0 a1 : AV) (h : Heap) : α :=
  newF h h.next 3 [(.i .i32 0), (.i .i64 0), (.b false)] fun v61 h => f138_1 o c n k a0 a1 v61 h
theorem f138_ok : R Pq o c n b138 (kend Pq o c n w rs138 k) = fun t _ h => f138 o c n k (t 0) (t 1) h := (kseq (f138_1_ok o c n k w) rfl).tk
theorem f138_good : Good Pq (cfg mm) 138 (entF Pq (cfg mm) 138 2 fun α => f138) := entG b138 rs138 110 fun _ => f138_ok
noncomputable def b139 := bdy Tryz.f139
noncomputable def rs139 := Tryz.f139.results.toList
noncomputable def f139_2K : Ex → K α := (nxK (R Pq o c n (cB (cB b139)) (kend Pq o c n w rs139 k)) (kend Pq o c n w rs139 k))
noncomputable def f139_1 {α : Type} (o : α) (c : Call' α) (n : Nat) (k : AV → Heap → α) (s0 : AV) (h : Heap) : α :=
  geqF Pq o 21 s0 (.i .i32 48) fun v1 => bkF o true v1 (leqF Pq o 21 s0 (.i .i32 57) fun v2 => pickF o v1 v2 (.b false) fun v3 => k v3 h) (pickF o v1 (.tup []) (.b false) fun v4 => k v4 h)
theorem f139_1_ok : R Pq o c n (cB b139) (kend Pq o c n w rs139 k) = fun t _ h => f139_1 o c n k (t 0) h := (kseq rfl (r_start 3 (by kernel_rfl) (q_guard 3 5 (2, true) (by kernel_rfl) (by kernel_rfl) (by kernel_rfl) rfl))).tk
noncomputable def f139 (a0 : AV) (h : Heap) : α :=
  f139_1 o c n k a0 h
theorem f139_ok : R Pq o c n b139 (kend Pq o c n w rs139 k) = fun t _ h => f139 o c n k (t 0) h := (kseq (f139_1_ok o c n k w) rfl).tk
theorem f139_good : Good Pq (cfg mm) 139 (entF Pq (cfg mm) 139 1 fun α => f139) := entG b139 rs139 9 fun _ => f139_ok
noncomputable def b140 := bdy Tryz.f140
noncomputable def rs140 := Tryz.f140.results.toList
noncomputable def f140_2K : Ex → K α := (nxK (R Pq o c n (cB (cB b140)) (kend Pq o c n w rs140 k)) (kend Pq o c n w rs140 k))
noncomputable def f140_3 {α : Type} (o : α) (c : Call' α) (n : Nat) (k : AV → Heap → α) (s0 s6 s9 : AV) (h : Heap) : α :=
  pickF o s6 (.b true) s9 fun v1 => bkF o false v1 (convA Pq o 5 21 s0 fun v2 => c 139 [v2] h fun v3 h => pk k v3 h <| pickF o v1 (.b true) v3 fun v4 => k v4 h) (pickF o v1 (.b true) (.tup []) fun v5 => k v5 h)
theorem f140_3_ok : Q Pq o c (cO (cA (cB b140))) (f140_2K o c n k w) 7 = fun t _ h => f140_3 o c n k (t 0) (t 6) (t 9) h := (q_seg 7 9 (by kernel_rfl) (q_guard 9 12 (8, false) (by kernel_rfl) (by kernel_rfl) (by kernel_rfl) rfl)).tk
noncomputable def f140_1 (s0 : AV) (h : Heap) : α :=
  convA Pq o 5 21 s0 fun v6 => c 155 [v6] h fun v7 h => pk k v7 h <| bkF o false v7 (convA Pq o 5 21 s0 fun v8 => c 154 [v8] h fun v9 h => pk k v9 h <| f140_3 o c n k s0 v7 v9 h) (f140_3 o c n k s0 v7 (.tup []) h)
theorem f140_1_ok : R Pq o c n (cB b140) (kend Pq o c n w rs140 k) = fun t _ h => f140_1 o c n k (t 0) h := (kseq rfl (r_start 4 (by kernel_rfl) (q_guard 4 7 (3, false) (by kernel_rfl) (by kernel_rfl) (by kernel_rfl) (f140_3_ok o c n k w)))).tk
noncomputable def f140 (a0 : AV) (h : Heap) : α :=
  f140_1 o c n k a0 h
theorem f140_ok : R Pq o c n b140 (kend Pq o c n w rs140 k) = fun t _ h => f140 o c n k (t 0) h := (kseq (f140_1_ok o c n k w) rfl).tk
theorem f140_good : Good Pq (cfg mm) 140 (entF Pq (cfg mm) 140 1 fun α => f140) := entG b140 rs140 16 fun _ => f140_ok
end Go.Zev.Is
