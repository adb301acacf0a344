/-
  Printed by zgen.py: clean forms.
-/
import Derived.Test.YtaidendlmkpajaaGreatDoorG0
set_option linter.unusedVariables false
set_option maxRecDepth 20000
namespace Go.Zev.Su
open Go Go.Zev Go.Proofs
variable {mm : FuncId → Option (List AV → Option AV)}
noncomputable def b125 := bdy Tryz.f125
noncomputable def rs125 := Tryz.f125.results.toList
variable {α : Type} (o : α) (c : Call' α) (n : Nat) (k : AV → Heap → α) (w : FuncId → Nat)
noncomputable def f125_3K : Ex → K α := (nxK (R Pq o c n (cB (cB (cB b125))) (kend Pq o c n w rs125 k)) (kend Pq o c n w rs125 k))
noncomputable def f125_5 {α : Type} (o : α) (c : Call' α) (n : Nat) (k : AV → Heap → α) (m : Nat) : AVs (Heap → α) 3 :=
  Nat.rec (motive := fun _ => AVs (Heap → α) 3) (fun _ _ _ _ => o) (fun _ lp0 s0 s3 s4 h => lenF o s0 fun v1 => lssF Pq o 3 s4 v1 fun v2 => ifF o v2 (ixF o 8 s0 s4 fun v3 => loadNF o h 8 v3 fun v4 => c 183 [v4] h fun v5 h => pk k v5 h <| addF Pq o 3 s3 v5 fun v6 => addF Pq o 3 s4 (.i .i64 1) fun v7 => lp0 s0 v6 v7 h) (k s3 h)) m
theorem f125_5_ok : R Pq o c n (cA (cB (cA (cB (cB b125))))) (blockK (cI (cB (cA (cB (cB b125))))) (f125_3K o c n k w)) = fun t _ h => f125_5 o c n k n (t 0) (t 3) (t 4) h :=
  c_loop (F := fun m t _ h => f125_5 o c n k m (t 0) (t 3) (t 4) h) (by kernel_rfl) (by kernel_rfl) fun m => by kernel_rfl
noncomputable def f125_4 (s0 s3 s4 : AV) (h : Heap) : α :=
  f125_5 o c n k n s0 s3 s4 h
theorem f125_4_ok : R Pq o c n (cB (cA (cB (cB b125)))) (f125_3K o c n k w) = fun t _ h => f125_4 o c n k (t 0) (t 3) (t 4) h := (kblk (f125_5_ok o c n k w)).tk
noncomputable def f125_2 (s0 s3 : AV) (h : Heap) : α :=
  f125_4 o c n k s0 s3 (.i .i64 0) h
theorem f125_2_ok : R Pq o c n (cB (cB b125)) (kend Pq o c n w rs125 k) = fun t _ h => f125_2 o c n k (t 0) (t 3) h := (kseq rfl (kseq (f125_4_ok o c n k w) rfl)).tk
noncomputable def f125_1 (s0 : AV) (h : Heap) : α :=
  f125_2 o c n k s0 (.i .i64 0) h
theorem f125_1_ok : R Pq o c n (cB b125) (kend Pq o c n w rs125 k) = fun t _ h => f125_1 o c n k (t 0) h := (kseq (f125_2_ok o c n k w) rfl).tk
noncomputable def f125 (a0 : AV) (h : Heap) : α :=
  f125_1 o c n k a0 h
theorem f125_ok : R Pq o c n b125 (kend Pq o c n w rs125 k) = fun t _ h => f125 o c n k (t 0) h := (kseq (f125_1_ok o c n k w) rfl).tk
theorem f125_good : Good Pq (cfg mm) 125 (entF Pq (cfg mm) 125 1 fun α => f125) := entG b125 rs125 19 fun _ => f125_ok
noncomputable def b126 := bdy Tryz.f126
noncomputable def rs126 := Tryz.f126.results.toList
noncomputable def f126_3K : Ex → K α := (nxK (R Pq o c n (cB (cB (cB b126))) (kend Pq o c n w rs126 k)) (kend Pq o c n w rs126 k))
noncomputable def f126_6K (lp0 : AVs (Heap → α) 3) : Ex → K α := (nxK (fun t _ h => lp0 (t 0) (t 3) (t 4) h) (blockK (cI (cB (cA (cB (cB b126))))) (f126_3K o c n k w)))
noncomputable def f126_8K (lp0 : AVs (Heap → α) 3) : Ex → K α := (nxK (R Pq o c n (cB (cB (cA (cA (cB (cA (cB (cB b126)))))))) (f126_6K o c n k w lp0)) (f126_6K o c n k w lp0))
noncomputable def f126_12 {α : Type} (o : α) (c : Call' α) (n : Nat) (k : AV → Heap → α) (lp0 : AVs (Heap → α) 3) (base : Nat) (s0 s4 s33 s39 : AV) (h : Heap) : α :=
  addF Pq o 3 s33 s39 fun v1 => hb h.shut fun h => addF Pq o 3 s4 (.i .i64 1) fun v2 => lp0 s0 v1 v2 h
theorem f126_12_ok (lp0 : AVs (Heap → α) 3) (base : Nat) : QD Pq o c (cO (cA (cA (cB (cA (cA (cB (cA (cB (cB b126)))))))))) base ((blockK (cI (cA (cB (cA (cA (cB (cA (cB (cB b126))))))))) (f126_8K o c n k w lp0))) 29 = fun t _ h => f126_12 o c n k lp0 base (t 0) (t 4) (t 33) (t 39) h := by kernel_rfl
noncomputable def f126_11 (lp0 : AVs (Heap → α) 3) (base : Nat) (s0 s4 s26 s32 : AV) (h : Heap) : α :=
  addF Pq o 3 s26 s32 fun v3 => ixF o 9 s0 s4 fun v4 => faF o 7 v4 fun v5 => rootF o v5 s0 <| load1F o (h.look 125829120) v5 fun v6 => callD o c [] 126 [v6] (h.look 0) fun v7 h => pnF v7 (fun x => hb h.shut fun hd => k x.pn hd) <| f126_12 o c n k lp0 base s0 s4 v3 v7 h
theorem f126_11_ok (lp0 : AVs (Heap → α) 3) (base : Nat) : QD Pq o c (cO (cA (cA (cB (cA (cA (cB (cA (cB (cB b126)))))))))) base ((blockK (cI (cA (cB (cA (cA (cB (cA (cB (cB b126))))))))) (f126_8K o c n k w lp0))) 22 = fun t _ h => f126_11 o c n k lp0 base (t 0) (t 4) (t 26) (t 32) h := (qd_seg 22 29 (by kernel_rfl) (f126_12_ok o c n k w lp0 base)).tk
noncomputable def f126_10 (lp0 : AVs (Heap → α) 3) (base : Nat) (s0 s4 s19 s25 : AV) (h : Heap) : α :=
  addF Pq o 3 s19 s25 fun v8 => ixF o 9 s0 s4 fun v9 => faF o 6 v9 fun v10 => rootF o v10 s0 <| load1F o (h.look 983040) v10 fun v11 => callD o c (hidD false [(.fn (.func 126) [] []), v11] [] (sBlk s0 [])) 126 [v11] (h.look 0) fun v12 h => pnF v12 (fun x => hb h.shut fun hd => ixF o 9 s0 s4 fun v13 => faF o 7 v13 fun v14 => rootF o v14 s0 <| load1F o (h.look 125829120) v14 fun v15 => k x.pn hd) <| f126_11 o c n k lp0 base s0 s4 v8 v12 h
theorem f126_10_ok (lp0 : AVs (Heap → α) 3) (base : Nat) : QD Pq o c (cO (cA (cA (cB (cA (cA (cB (cA (cB (cB b126)))))))))) base ((blockK (cI (cA (cB (cA (cA (cB (cA (cB (cB b126))))))))) (f126_8K o c n k w lp0))) 15 = fun t _ h => f126_10 o c n k lp0 base (t 0) (t 4) (t 19) (t 25) h := (qd_seg 15 22 (by kernel_rfl) (f126_11_ok o c n k w lp0 base)).tk
noncomputable def f126_9 (lp0 : AVs (Heap → α) 3) (base : Nat) (s0 s4 s12 s18 : AV) (h : Heap) : α :=
  addF Pq o 3 s12 s18 fun v16 => ixF o 9 s0 s4 fun v17 => faF o 5 v17 fun v18 => rootF o v18 s0 <| load1F o (h.look 7680) v18 fun v19 => callD o c (hidD false [(.fn (.func 126) [] []), v19] [] (sBlk s0 (sBlk s0 []))) 126 [v19] (h.look 0) fun v20 h => pnF v20 (fun x => hb h.shut fun hd => ixF o 9 s0 s4 fun v21 => faF o 6 v21 fun v22 => rootF o v22 s0 <| load1F o (h.look 983040) v22 fun v23 => ixF o 9 s0 s4 fun v24 => faF o 7 v24 fun v25 => rootF o v25 s0 <| load1F o (h.look 125829120) v25 fun v26 => k x.pn hd) <| f126_10 o c n k lp0 base s0 s4 v16 v20 h
theorem f126_9_ok (lp0 : AVs (Heap → α) 3) (base : Nat) : QD Pq o c (cO (cA (cA (cB (cA (cA (cB (cA (cB (cB b126)))))))))) base ((blockK (cI (cA (cB (cA (cA (cB (cA (cB (cB b126))))))))) (f126_8K o c n k w lp0))) 8 = fun t _ h => f126_9 o c n k lp0 base (t 0) (t 4) (t 12) (t 18) h := (qd_seg 8 15 (by kernel_rfl) (f126_10_ok o c n k w lp0 base)).tk
noncomputable def f126_7 (lp0 : AVs (Heap → α) 3) (s0 s3 s4 : AV) (h : Heap) : α :=
  dreg o h 31 fun base h => addF Pq o 3 s3 (.i .i64 1) fun v27 => ixF o 9 s0 s4 fun v28 => faF o 4 v28 fun v29 => rootF o v29 s0 <| load1F o (h.look 60) v29 fun v30 => callD o c (hidD false [(.fn (.func 125) [] []), v30] [] (sBlk s0 (sBlk s0 (sBlk s0 [])))) 125 [v30] (h.look 0) fun v31 h => pnF v31 (fun x => hb h.shut fun hd => ixF o 9 s0 s4 fun v32 => faF o 5 v32 fun v33 => rootF o v33 s0 <| load1F o (h.look 7680) v33 fun v34 => ixF o 9 s0 s4 fun v35 => faF o 6 v35 fun v36 => rootF o v36 s0 <| load1F o (h.look 983040) v36 fun v37 => ixF o 9 s0 s4 fun v38 => faF o 7 v38 fun v39 => rootF o v39 s0 <| load1F o (h.look 125829120) v39 fun v40 => k x.pn hd) <| f126_9 o c n k lp0 base s0 s4 v27 v31 h
theorem f126_7_ok (lp0 : AVs (Heap → α) 3) : R Pq o c n (cB (cA (cA (cB (cA (cB (cB b126))))))) (f126_6K o c n k w lp0) = fun t _ h => f126_7 o c n k lp0 (t 0) (t 3) (t 4) h := (kseq rfl (kblk (r_startD 8 (by kernel_rfl) (by kernel_rfl) (X := fun base => fun t _ h => f126_9 o c n k lp0 base (t 0) (t 4) (t 12) (t 18) h) (fun base => f126_9_ok o c n k w lp0 base)))).tk
noncomputable def f126_5 (m : Nat) : AVs (Heap → α) 3 :=
  Nat.rec (motive := fun _ => AVs (Heap → α) 3) (fun _ _ _ _ => o) (fun _ lp0 s0 s3 s4 h => lenF o s0 fun v41 => lssF Pq o 3 s4 v41 fun v42 => ifF o v42 (f126_7 o c n k lp0 s0 s3 s4 h) (k s3 h)) m
theorem f126_5_ok : R Pq o c n (cA (cB (cA (cB (cB b126))))) (blockK (cI (cB (cA (cB (cB b126))))) (f126_3K o c n k w)) = fun t _ h => f126_5 o c n k n (t 0) (t 3) (t 4) h :=
  c_loop (F := fun m t _ h => f126_5 o c n k m (t 0) (t 3) (t 4) h) (by kernel_rfl) (by kernel_rfl) fun m => (kseq (f126_7_ok o c n k w (f126_5 o c n k m)) rfl).tk
noncomputable def f126_4 (s0 s3 s4 : AV) (h : Heap) : α :=
  f126_5 o c n k n s0 s3 s4 h
theorem f126_4_ok : R Pq o c n (cB (cA (cB (cB b126)))) (f126_3K o c n k w) = fun t _ h => f126_4 o c n k (t 0) (t 3) (t 4) h := (kblk (f126_5_ok o c n k w)).tk
noncomputable def f126_2 (s0 s3 : AV) (h : Heap) : α :=
  f126_4 o c n k s0 s3 (.i .i64 0) h
theorem f126_2_ok : R Pq o c n (cB (cB b126)) (kend Pq o c n w rs126 k) = fun t _ h => f126_2 o c n k (t 0) (t 3) h := (kseq rfl (kseq (f126_4_ok o c n k w) rfl)).tk
noncomputable def f126_1 (s0 : AV) (h : Heap) : α :=
  f126_2 o c n k s0 (.i .i64 0) h
theorem f126_1_ok : R Pq o c n (cB b126) (kend Pq o c n w rs126 k) = fun t _ h => f126_1 o c n k (t 0) h := (kseq (f126_2_ok o c n k w) rfl).tk
noncomputable def f126 (a0 : AV) (h : Heap) : α :=
  f126_1 o c n k a0 h
theorem f126_ok : R Pq o c n b126 (kend Pq o c n w rs126 k) = fun t _ h => f126 o c n k (t 0) h := (kseq (f126_1_ok o c n k w) rfl).tk
theorem f126_good : Good Pq (cfg mm) 126 (entF Pq (cfg mm) 126 1 fun α => f126) := entG b126 rs126 42 fun _ => f126_ok
noncomputable def b127 := bdy Tryz.f127
noncomputable def rs127 := Tryz.f127.results.toList
noncomputable def f127_3K : Ex → K α := (nxK (R Pq o c n (cB (cB (cB b127))) (kend Pq o c n w rs127 k)) (kend Pq o c n w rs127 k))
noncomputable def f127_2 {α : Type} (o : α) (c : Call' α) (n : Nat) (k : AV → Heap → α) (s0 s1 : AV) (h : Heap) : α :=
  lensF o s0 fun v1 => geqF Pq o 3 v1 (.i .i64 1) fun v2 => bkF o true v2 (lensF o s0 fun v3 => leqF Pq o 3 v3 s1 fun v4 => pickF o v2 v4 (.b false) fun v5 => k v5 h) (pickF o v2 (.tup []) (.b false) fun v6 => k v6 h)
theorem f127_2_ok : R Pq o c n (cB (cB b127)) (kend Pq o c n w rs127 k) = fun t _ h => f127_2 o c n k (t 0) (t 1) h := (kseq rfl (r_start 4 (by kernel_rfl) (q_guard 4 8 (3, true) (by kernel_rfl) (by kernel_rfl) (by kernel_rfl) rfl))).tk
noncomputable def f127_4K : Ex → K α := (nxK (fun t _ h => f127_2 o c n k (t 0) (t 1) h) (kend Pq o c n w rs127 k))
noncomputable def f127_7K (lp0 : AVs (Heap → α) 3) : Ex → K α := (nxK (fun t _ h => lp0 (t 0) (t 1) (t 5) h) (blockK (cI (cB (cA (cB b127)))) (f127_4K o c n k w)))
noncomputable def f127_9 {α : Type} (o : α) (c : Call' α) (n : Nat) (k : AV → Heap → α) (lp0 : AVs (Heap → α) 3) (s0 s1 s5 : AV) (h : Heap) : α :=
  addF Pq o 3 s5 (.i .i64 1) fun v7 => lp0 s0 s1 v7 h
theorem f127_9_ok (lp0 : AVs (Heap → α) 3) : R Pq o c n (cB (cB (cA (cA (cB (cA (cB b127))))))) (f127_7K o c n k w lp0) = fun t _ h => f127_9 o c n k lp0 (t 0) (t 1) (t 5) h := by kernel_rfl
noncomputable def f127_10K (lp0 : AVs (Heap → α) 3) : Ex → K α := (nxK (fun t _ h => f127_9 o c n k lp0 (t 0) (t 1) (t 5) h) (f127_7K o c n k w lp0))
noncomputable def f127_12 (lp0 : AVs (Heap → α) 3) (s0 s1 s5 s29 : AV) (h : Heap) : α :=
  ifF o s29 (k (.b false) h) (f127_9 o c n k lp0 s0 s1 s5 h)
theorem f127_12_ok (lp0 : AVs (Heap → α) 3) : R Pq o c n (cB (cB (cA (cA (cB (cA (cA (cB (cA (cB b127)))))))))) (blockK (cI (cA (cB (cA (cA (cB (cA (cB b127)))))))) (f127_10K o c n k w lp0)) = fun t _ h => f127_12 o c n k lp0 (t 0) (t 1) (t 5) (t 29) h := by kernel_rfl
noncomputable def f127_13K (lp0 : AVs (Heap → α) 3) : Ex → K α := (nxK (fun t _ h => f127_12 o c n k lp0 (t 0) (t 1) (t 5) (t 29) h) (blockK (cI (cA (cB (cA (cA (cB (cA (cB b127)))))))) (f127_10K o c n k w lp0)))
noncomputable def f127_14 (lp0 : AVs (Heap → α) 3) (s0 s1 s5 s6 s20 s23 : AV) (h : Heap) : α :=
  pickF o s20 s23 (.b false) fun v8 => bkF o true v8 (c 113 [s6] h fun v9 h => pk k v9 h <| notF o v9 fun v10 => pickF o v8 v10 (.b false) fun v11 => f127_12 o c n k lp0 s0 s1 s5 v11 h) (pickF o v8 (.tup []) (.b false) fun v12 => f127_12 o c n k lp0 s0 s1 s5 v12 h)
theorem f127_14_ok (lp0 : AVs (Heap → α) 3) : Q Pq o c (cO (cA (cB (cA (cA (cB (cA (cA (cB (cA (cB b127))))))))))) (f127_13K o c n k w lp0) 7 = fun t _ h => f127_14 o c n k lp0 (t 0) (t 1) (t 5) (t 6) (t 20) (t 23) h := (q_seg 7 9 (by kernel_rfl) (q_guard 9 12 (8, true) (by kernel_rfl) (by kernel_rfl) (by kernel_rfl) rfl)).tk
noncomputable def f127_11 (lp0 : AVs (Heap → α) 3) (s0 s1 s5 s6 : AV) (h : Heap) : α :=
  c 129 [s6] h fun v13 h => pk k v13 h <| notF o v13 fun v14 => bkF o true v14 (c 128 [s6] h fun v15 h => pk k v15 h <| notF o v15 fun v16 => f127_14 o c n k lp0 s0 s1 s5 s6 v14 v16 h) (f127_14 o c n k lp0 s0 s1 s5 s6 v14 (.tup []) h)
theorem f127_11_ok (lp0 : AVs (Heap → α) 3) : R Pq o c n (cB (cA (cA (cB (cA (cA (cB (cA (cB b127))))))))) (blockK (cI (cA (cB (cA (cA (cB (cA (cB b127)))))))) (f127_10K o c n k w lp0)) = fun t _ h => f127_11 o c n k lp0 (t 0) (t 1) (t 5) (t 6) h := (kseq (f127_12_ok o c n k w lp0) (r_start 4 (by kernel_rfl) (q_guard 4 7 (3, true) (by kernel_rfl) (by kernel_rfl) (by kernel_rfl) (f127_14_ok o c n k w lp0)))).tk
noncomputable def f127_8 (lp0 : AVs (Heap → α) 3) (s0 s1 s5 : AV) (h : Heap) : α :=
  sxF o s0 s5 fun v17 => convA Pq o 5 21 v17 fun v18 => f127_11 o c n k lp0 s0 s1 s5 v18 h
theorem f127_8_ok (lp0 : AVs (Heap → α) 3) : R Pq o c n (cB (cA (cA (cB (cA (cB b127)))))) (f127_7K o c n k w lp0) = fun t _ h => f127_8 o c n k lp0 (t 0) (t 1) (t 5) h := (kseq (f127_9_ok o c n k w lp0) (kblk (kseq (f127_11_ok o c n k w lp0) rfl))).tk
noncomputable def f127_6 (m : Nat) : AVs (Heap → α) 3 :=
  Nat.rec (motive := fun _ => AVs (Heap → α) 3) (fun _ _ _ _ => o) (fun _ lp0 s0 s1 s5 h => lensF o s0 fun v19 => lssF Pq o 3 s5 v19 fun v20 => ifF o v20 (f127_8 o c n k lp0 s0 s1 s5 h) (f127_2 o c n k s0 s1 h)) m
theorem f127_6_ok : R Pq o c n (cA (cB (cA (cB b127)))) (blockK (cI (cB (cA (cB b127)))) (f127_4K o c n k w)) = fun t _ h => f127_6 o c n k n (t 0) (t 1) (t 5) h :=
  c_loop (F := fun m t _ h => f127_6 o c n k m (t 0) (t 1) (t 5) h) (by kernel_rfl) (by kernel_rfl) fun m => (kseq (f127_8_ok o c n k w (f127_6 o c n k m)) rfl).tk
noncomputable def f127_5 (s0 s1 s5 : AV) (h : Heap) : α :=
  f127_6 o c n k n s0 s1 s5 h
theorem f127_5_ok : R Pq o c n (cB (cA (cB b127))) (f127_4K o c n k w) = fun t _ h => f127_5 o c n k (t 0) (t 1) (t 5) h := (kblk (f127_6_ok o c n k w)).tk
noncomputable def f127_1 (s0 s1 : AV) (h : Heap) : α :=
  f127_5 o c n k s0 s1 (.i .i64 0) h
theorem f127_1_ok : R Pq o c n (cB b127) (kend Pq o c n w rs127 k) = fun t _ h => f127_1 o c n k (t 0) (t 1) h := (kseq (f127_2_ok o c n k w) (kseq (f127_5_ok o c n k w) rfl)).tk
noncomputable def f127 (a0 a1 : AV) (h : Heap) : α :=
  f127_1 o c n k a0 a1 h
theorem f127_ok : R Pq o c n b127 (kend Pq o c n w rs127 k) = fun t _ h => f127 o c n k (t 0) (t 1) h := (kseq (f127_1_ok o c n k w) rfl).tk
theorem f127_good : Good Pq (cfg mm) 127 (entF Pq (cfg mm) 127 2 fun α => f127) := entG b127 rs127 39 fun _ => f127_ok
noncomputable def b128 := bdy Tryz.f128
noncomputable def rs128 := Tryz.f128.results.toList
noncomputable def f128_2K : Ex → K α := (nxK (R Pq o c n (cB (cB b128)) (kend Pq o c n w rs128 k)) (kend Pq o c n w rs128 k))
noncomputable def f128_1 {α : Type} (o : α) (c : Call' α) (n : Nat) (k : AV → Heap → α) (s0 : AV) (h : Heap) : α :=
  geqF Pq o 21 s0 (.i .i32 65) fun v1 => bkF o true v1 (leqF Pq o 21 s0 (.i .i32 90) fun v2 => pickF o v1 v2 (.b false) fun v3 => k v3 h) (pickF o v1 (.tup []) (.b false) fun v4 => k v4 h)
theorem f128_1_ok : R Pq o c n (cB b128) (kend Pq o c n w rs128 k) = fun t _ h => f128_1 o c n k (t 0) h := (kseq rfl (r_start 3 (by kernel_rfl) (q_guard 3 5 (2, true) (by kernel_rfl) (by kernel_rfl) (by kernel_rfl) rfl))).tk
noncomputable def f128 (a0 : AV) (h : Heap) : α :=
  f128_1 o c n k a0 h
theorem f128_ok : R Pq o c n b128 (kend Pq o c n w rs128 k) = fun t _ h => f128 o c n k (t 0) h := (kseq (f128_1_ok o c n k w) rfl).tk
theorem f128_good : Good Pq (cfg mm) 128 (entF Pq (cfg mm) 128 1 fun α => f128) := entG b128 rs128 9 fun _ => f128_ok
noncomputable def b129 := bdy Tryz.f129
noncomputable def rs129 := Tryz.f129.results.toList
noncomputable def f129_2K : Ex → K α := (nxK (R Pq o c n (cB (cB b129)) (kend Pq o c n w rs129 k)) (kend Pq o c n w rs129 k))
noncomputable def f129_1 {α : Type} (o : α) (c : Call' α) (n : Nat) (k : AV → Heap → α) (s0 : AV) (h : Heap) : α :=
  geqF Pq o 21 s0 (.i .i32 97) fun v1 => bkF o true v1 (leqF Pq o 21 s0 (.i .i32 122) fun v2 => pickF o v1 v2 (.b false) fun v3 => k v3 h) (pickF o v1 (.tup []) (.b false) fun v4 => k v4 h)
theorem f129_1_ok : R Pq o c n (cB b129) (kend Pq o c n w rs129 k) = fun t _ h => f129_1 o c n k (t 0) h := (kseq rfl (r_start 3 (by kernel_rfl) (q_guard 3 5 (2, true) (by kernel_rfl) (by kernel_rfl) (by kernel_rfl) rfl))).tk
noncomputable def f129 (a0 : AV) (h : Heap) : α :=
  f129_1 o c n k a0 h
theorem f129_ok : R Pq o c n b129 (kend Pq o c n w rs129 k) = fun t _ h => f129 o c n k (t 0) h := (kseq (f129_1_ok o c n k w) rfl).tk
theorem f129_good : Good Pq (cfg mm) 129 (entF Pq (cfg mm) 129 1 fun α => f129) := entG b129 rs129 9 fun _ => f129_ok
noncomputable def b130 := bdy Tryz.f130
noncomputable def rs130 := Tryz.f130.results.toList
noncomputable def f130 {α : Type} (o : α) (c : Call' α) (n : Nat) (k : AV → Heap → α) (a0 : AV) (h : Heap) : α :=
  fil1 o 1 24 0 (.s 7 31069335677005666) (lrep [(.s 0 0)] 24) fun v1 => fil1 o 1 24 1 (.s 3 7630441) v1 fun v2 => fil1 o 1 24 2 (.s 4 1684631414) v2 fun v3 => fil1 o 1 24 3 (.s 5 495857003619) v3 fun v4 => fil1 o 1 24 4 (.s 7 32480047633037413) v4 fun v5 => fil1 o 1 24 5 (.s 6 109304575259763) v5 fun v6 => fil1 o 1 24 6 (.s 3 7824750) v6 fun v7 => fil1 o 1 24 7 (.s 4 1936287860) v7 fun v8 => fil1 o 1 24 8 (.s 5 491328140659) v8 fun v9 => fil1 o 1 24 9 (.s 4 1819047278) v9 fun v10 => fil1 o 1 24 10 (.s 4 1702195828) v10 fun v11 => fil1 o 1 24 11 (.s 5 435728179558) v11 fun v12 => fil1 o 1 24 12 (.s 2 26217) v12 fun v13 => fil1 o 1 24 13 (.s 4 1702063205) v13 fun v14 => fil1 o 1 24 14 (.s 5 435610544247) v14 fun v15 => fil1 o 1 24 15 (.s 6 121437875889522) v15 fun v16 => fil1 o 1 24 16 (.s 5 500068610672) v16 fun v17 => fil1 o 1 24 17 (.s 6 128034677158753) v17 fun v18 => fil1 o 1 24 18 (.s 5 512970877044) v18 fun v19 => fil1 o 1 24 19 (.s 3 7959156) v19 fun v20 => fil1 o 1 24 20 (.s 5 448345170275) v20 fun v21 => fil1 o 1 24 21 (.s 7 34177684928883046) v21 fun v22 => fil1 o 1 24 22 (.s 2 29537) v22 fun v23 => fil1 o 1 24 23 (.s 2 29545) v23 fun v24 => newEF h h.next 1 24 v24 fun v25 h => c 117 [v25, a0] h fun v26 h => pk k v26 h <| k v26 h
theorem f130_ok : R Pq o c n b130 (kend Pq o c n w rs130 k) = fun t _ h => f130 o c n k (t 0) h := by kernel_rfl
theorem f130_good : Good Pq (cfg mm) 130 (entF Pq (cfg mm) 130 1 fun α => f130) := entG b130 rs130 6 fun _ => f130_ok
noncomputable def b134 := bdy Tryz.f134
noncomputable def rs134 := Tryz.f134.results.toList
noncomputable def f134_2K : Ex → K α := (nxK (R Pq o c n (cB (cB b134)) (kend Pq o c n w rs134 k)) (kend Pq o c n w rs134 k))
noncomputable def f134_5 {α : Type} (o : α) (c : Call' α) (n : Nat) (k : AV → Heap → α) (s0 s13 s15 : AV) (h : Heap) : α :=
  pickF o s13 (.b true) s15 fun v1 => bkF o false v1 (eqiF Pq o 3 s0 (.i .i64 16) fun v2 => pickF o v1 (.b true) v2 fun v3 => k v3 h) (pickF o v1 (.b true) (.tup []) fun v4 => k v4 h)
theorem f134_5_ok : Q Pq o c (cO (cA (cB b134))) (f134_2K o c n k w) 13 = fun t _ h => f134_5 o c n k (t 0) (t 13) (t 15) h := (q_seg 13 15 (by kernel_rfl) (q_guard 15 17 (14, false) (by kernel_rfl) (by kernel_rfl) (by kernel_rfl) rfl)).tk
noncomputable def f134_4 (s0 s9 s11 : AV) (h : Heap) : α :=
  pickF o s9 (.b true) s11 fun v5 => bkF o false v5 (eqiF Pq o 3 s0 (.i .i64 15) fun v6 => f134_5 o c n k s0 v5 v6 h) (f134_5 o c n k s0 v5 (.tup []) h)
theorem f134_4_ok : Q Pq o c (cO (cA (cB b134))) (f134_2K o c n k w) 9 = fun t _ h => f134_4 o c n k (t 0) (t 9) (t 11) h := (q_seg 9 11 (by kernel_rfl) (q_guard 11 13 (10, false) (by kernel_rfl) (by kernel_rfl) (by kernel_rfl) (f134_5_ok o c n k w))).tk
noncomputable def f134_3 (s0 s5 s7 : AV) (h : Heap) : α :=
  pickF o s5 (.b true) s7 fun v7 => bkF o false v7 (eqiF Pq o 3 s0 (.i .i64 14) fun v8 => f134_4 o c n k s0 v7 v8 h) (f134_4 o c n k s0 v7 (.tup []) h)
theorem f134_3_ok : Q Pq o c (cO (cA (cB b134))) (f134_2K o c n k w) 5 = fun t _ h => f134_3 o c n k (t 0) (t 5) (t 7) h := (q_seg 5 7 (by kernel_rfl) (q_guard 7 9 (6, false) (by kernel_rfl) (by kernel_rfl) (by kernel_rfl) (f134_4_ok o c n k w))).tk
noncomputable def f134_1 (s0 : AV) (h : Heap) : α :=
  eqiF Pq o 3 s0 (.i .i64 9) fun v9 => bkF o false v9 (eqiF Pq o 3 s0 (.i .i64 13) fun v10 => f134_3 o c n k s0 v9 v10 h) (f134_3 o c n k s0 v9 (.tup []) h)
theorem f134_1_ok : R Pq o c n (cB b134) (kend Pq o c n w rs134 k) = fun t _ h => f134_1 o c n k (t 0) h := (kseq rfl (r_start 3 (by kernel_rfl) (q_guard 3 5 (2, false) (by kernel_rfl) (by kernel_rfl) (by kernel_rfl) (f134_3_ok o c n k w)))).tk
noncomputable def f134 (a0 : AV) (h : Heap) : α :=
  f134_1 o c n k a0 h
theorem f134_ok : R Pq o c n b134 (kend Pq o c n w rs134 k) = fun t _ h => f134 o c n k (t 0) h := (kseq (f134_1_ok o c n k w) rfl).tk
theorem f134_good : Good Pq (cfg mm) 134 (entF Pq (cfg mm) 134 1 fun α => f134) := entG b134 rs134 21 fun _ => f134_ok
noncomputable def b136 := bdy Tryz.f136
noncomputable def rs136 := Tryz.f136.results.toList
noncomputable def f136 {α : Type} (o : α) (c : Call' α) (n : Nat) (k : AV → Heap → α) (a0 : AV) (h : Heap) : α :=
  fil1 o 1 5 0 (.s 9 2037169923944901474373) (lrep [(.s 0 0)] 5) fun v1 => fil1 o 1 5 1 (.s 9 2147637572233774003534) v1 fun v2 => fil1 o 1 5 2 (.s 9 2147637572233908674883) v2 fun v3 => fil1 o 1 5 3 (.s 9 2147637572233824724314) v3 fun v4 => fil1 o 1 5 4 (.s 10 549795218491815995793746) v4 fun v5 => newEF h h.next 1 5 v5 fun v6 h => c 117 [v6, a0] h fun v7 h => pk k v7 h <| k v7 h
theorem f136_ok : R Pq o c n b136 (kend Pq o c n w rs136 k) = fun t _ h => f136 o c n k (t 0) h := by kernel_rfl
theorem f136_good : Good Pq (cfg mm) 136 (entF Pq (cfg mm) 136 1 fun α => f136) := entG b136 rs136 6 fun _ => f136_ok
noncomputable def b137 := bdy Tryz.f137
noncomputable def rs137 := Tryz.f137.results.toList
noncomputable def f137_2K : Ex → K α := (nxK (R Pq o c n (cB (cB b137)) (kend Pq o c n w rs137 k)) (kend Pq o c n w rs137 k))
noncomputable def f137_4 {α : Type} (o : α) (c : Call' α) (n : Nat) (k : AV → Heap → α) (m : Nat) : AVs (Heap → α) 3 :=
  Nat.rec (motive := fun _ => AVs (Heap → α) 3) (fun _ _ _ _ => o) (fun _ lp0 s1 s2 s5 h => faF o 0 s2 fun v1 => load1F o h v1 fun v2 => lenF o v2 fun v3 => lssF Pq o 3 s5 v3 fun v4 => ifF o v4 (faF o 0 s2 fun v5 => load1F o h v5 fun v6 => ixF o 4 v6 s5 fun v7 => faF o 0 v7 fun v8 => load1F o h v8 fun v9 => eqsF Pq o 9 v9 s1 fun v10 => ifF o v10 (k s5 h) (addF Pq o 3 s5 (.i .i64 1) fun v11 => lp0 s1 s2 v11 h)) (k (.i .i64 (-1)) h)) m
theorem f137_4_ok : R Pq o c n (cA (cB (cA (cB b137)))) (blockK (cI (cB (cA (cB b137)))) (f137_2K o c n k w)) = fun t _ h => f137_4 o c n k n (t 1) (t 2) (t 5) h :=
  c_loop (F := fun m t _ h => f137_4 o c n k m (t 1) (t 2) (t 5) h) (by kernel_rfl) (by kernel_rfl) fun m => by kernel_rfl
noncomputable def f137_3 (s1 s2 s5 : AV) (h : Heap) : α :=
  f137_4 o c n k n s1 s2 s5 h
theorem f137_3_ok : R Pq o c n (cB (cA (cB b137))) (f137_2K o c n k w) = fun t _ h => f137_3 o c n k (t 1) (t 2) (t 5) h := (kblk (f137_4_ok o c n k w)).tk
noncomputable def f137_1 (s1 s2 : AV) (h : Heap) : α :=
  f137_3 o c n k s1 s2 (.i .i64 0) h
theorem f137_1_ok : R Pq o c n (cB b137) (kend Pq o c n w rs137 k) = fun t _ h => f137_1 o c n k (t 1) (t 2) h := (kseq rfl (kseq (f137_3_ok o c n k w) rfl)).tk
noncomputable def f137 (a0 a1 : AV) (h : Heap) : α :=
  boxF o a0 h h.next fun v12 h => f137_1 o c n k a1 v12 h
theorem f137_ok : R Pq o c n b137 (kend Pq o c n w rs137 k) = fun t _ h => f137 o c n k (t 0) (t 1) h := (kseq (f137_1_ok o c n k w) rfl).tk
theorem f137_good : Good Pq (cfg mm) 137 (entF Pq (cfg mm) 137 2 fun α => f137) := entG b137 rs137 22 fun _ => f137_ok
noncomputable def b138 := bdy Tryz.f138
noncomputable def rs138 := Tryz.f138.results.toList
noncomputable def f138_2K : Ex → K α := (nxK (R Pq o c n (cB (cB b138)) (kend Pq o c n w rs138 k)) (kend Pq o c n w rs138 k))
noncomputable def f138_1 {α : Type} (o : α) (c : Call' α) (n : Nat) (k : AV → Heap → α) (s1 s2 : AV) (h : Heap) : α :=
  c 136 [s1] h fun v1 h => pk k v1 h <| bkF o false v1 (loadNF o h 1 s2 fun v2 => c 137 [v2, s1] h fun v3 h => pk k v3 h <| geqF Pq o 3 v3 (.i .i64 0) fun v4 => pickF o v1 (.b true) v4 fun v5 => k v5 h) (pickF o v1 (.b true) (.tup []) fun v6 => k v6 h)
theorem f138_1_ok : R Pq o c n (cB b138) (kend Pq o c n w rs138 k) = fun t _ h => f138_1 o c n k (t 1) (t 2) h := (kseq rfl (r_start 3 (by kernel_rfl) (q_guard 3 7 (2, false) (by kernel_rfl) (by kernel_rfl) (by kernel_rfl) rfl))).tk
noncomputable def f138 (a0 a1 : AV) (h : Heap) : α :=
  boxF o a0 h h.next fun v7 h => f138_1 o c n k a1 v7 h
theorem f138_ok : R Pq o c n b138 (kend Pq o c n w rs138 k) = fun t _ h => f138 o c n k (t 0) (t 1) h := (kseq (f138_1_ok o c n k w) rfl).tk
theorem f138_good : Good Pq (cfg mm) 138 (entF Pq (cfg mm) 138 2 fun α => f138) := entG b138 rs138 13 fun _ => f138_ok
noncomputable def b140 := bdy Tryz.f140
noncomputable def rs140 := Tryz.f140.results.toList
noncomputable def f140 {α : Type} (o : α) (c : Call' α) (n : Nat) (k : AV → Heap → α) (a0 a1 : AV) (h : Heap) : α :=
  boxF o a0 h h.next fun v1 h => c 136 [a1] h fun v2 h => pk k v2 h <| ifF o v2 (eqsF Pq o 9 a1 (.s 9 2037169923944901474373) fun v3 => ifF o v3 (k (.s 0 0) h) (k (.s 9 2037169923944901474373) h)) (loadNF o h 1 v1 fun v4 => c 137 [v4, a1] h fun v5 h => pk k v5 h <| geqF Pq o 3 v5 (.i .i64 0) fun v6 => ifF o v6 (faF o 0 v1 fun v7 => load1F o h v7 fun v8 => ixF o 4 v8 v5 fun v9 => faF o 1 v9 fun v10 => load1F o h v10 fun v11 => k v11 h) (k (.s 0 0) h))
theorem f140_ok : R Pq o c n b140 (kend Pq o c n w rs140 k) = fun t _ h => f140 o c n k (t 0) (t 1) h := by kernel_rfl
theorem f140_good : Good Pq (cfg mm) 140 (entF Pq (cfg mm) 140 2 fun α => f140) := entG b140 rs140 21 fun _ => f140_ok
noncomputable def b143 := bdy Tryz.f143
noncomputable def rs143 := Tryz.f143.results.toList
noncomputable def f143_2K : Ex → K α := (nxK (R Pq o c n (cB (cB b143)) (kend Pq o c n w rs143 k)) (kend Pq o c n w rs143 k))
noncomputable def f143_4 {α : Type} (o : α) (c : Call' α) (n : Nat) (k : AV → Heap → α) (s1 s2 s11 s13 : AV) (h : Heap) : α :=
  pickF o s11 (.b true) s13 fun v1 => bkF o false v1 (loadNF o h 1 s2 fun v2 => c 138 [v2, s1] h fun v3 h => pk k v3 h <| pickF o v1 (.b true) v3 fun v4 => k v4 h) (pickF o v1 (.b true) (.tup []) fun v5 => k v5 h)
theorem f143_4_ok : Q Pq o c (cO (cA (cB b143))) (f143_2K o c n k w) 9 = fun t _ h => f143_4 o c n k (t 1) (t 2) (t 11) (t 13) h := (q_seg 9 11 (by kernel_rfl) (q_guard 11 14 (10, false) (by kernel_rfl) (by kernel_rfl) (by kernel_rfl) rfl)).tk
noncomputable def f143_3 (s1 s2 s7 s9 : AV) (h : Heap) : α :=
  pickF o s7 (.b true) s9 fun v6 => bkF o false v6 (eqsF Pq o 9 s1 (.s 6 113723913172051) fun v7 => f143_4 o c n k s1 s2 v6 v7 h) (f143_4 o c n k s1 s2 v6 (.tup []) h)
theorem f143_3_ok : Q Pq o c (cO (cA (cB b143))) (f143_2K o c n k w) 5 = fun t _ h => f143_3 o c n k (t 1) (t 2) (t 7) (t 9) h := (q_seg 5 7 (by kernel_rfl) (q_guard 7 9 (6, false) (by kernel_rfl) (by kernel_rfl) (by kernel_rfl) (f143_4_ok o c n k w))).tk
noncomputable def f143_1 (s1 s2 : AV) (h : Heap) : α :=
  eqsF Pq o 9 s1 (.s 3 7630441) fun v8 => bkF o false v8 (eqsF Pq o 9 s1 (.s 7 31069335677005666) fun v9 => f143_3 o c n k s1 s2 v8 v9 h) (f143_3 o c n k s1 s2 v8 (.tup []) h)
theorem f143_1_ok : R Pq o c n (cB b143) (kend Pq o c n w rs143 k) = fun t _ h => f143_1 o c n k (t 1) (t 2) h := (kseq rfl (r_start 3 (by kernel_rfl) (q_guard 3 5 (2, false) (by kernel_rfl) (by kernel_rfl) (by kernel_rfl) (f143_3_ok o c n k w)))).tk
noncomputable def f143 (a0 a1 : AV) (h : Heap) : α :=
  boxF o a0 h h.next fun v10 h => f143_1 o c n k a1 v10 h
theorem f143_ok : R Pq o c n b143 (kend Pq o c n w rs143 k) = fun t _ h => f143 o c n k (t 0) (t 1) h := (kseq (f143_1_ok o c n k w) rfl).tk
theorem f143_good : Good Pq (cfg mm) 143 (entF Pq (cfg mm) 143 2 fun α => f143) := entG b143 rs143 20 fun _ => f143_ok
noncomputable def b155 := bdy Tryz.f155
noncomputable def rs155 := Tryz.f155.results.toList
noncomputable def f155 {α : Type} (o : α) (c : Call' α) (n : Nat) (k : AV → Heap → α) (a0 : AV) (h : Heap) : α :=
  fil1 o 1 5 0 (.s 9 2037169923944901474373) (lrep [(.s 0 0)] 5) fun v1 => fil1 o 1 5 1 (.s 9 2147637572233774003534) v1 fun v2 => fil1 o 1 5 2 (.s 9 2147637572233908674883) v2 fun v3 => fil1 o 1 5 3 (.s 9 2147637572233824724314) v3 fun v4 => fil1 o 1 5 4 (.s 10 549795218491815995793746) v4 fun v5 => newEF h h.next 1 5 v5 fun v6 h => c 70 [v6, a0] h fun v7 h => pk k v7 h <| k v7 h
theorem f155_ok : R Pq o c n b155 (kend Pq o c n w rs155 k) = fun t _ h => f155 o c n k (t 0) h := by kernel_rfl
theorem f155_good : Good Pq (cfg mm) 155 (entF Pq (cfg mm) 155 1 fun α => f155) := entG b155 rs155 6 fun _ => f155_ok
noncomputable def b156 := bdy Tryz.f156
noncomputable def rs156 := Tryz.f156.results.toList
noncomputable def f156 {α : Type} (o : α) (c : Call' α) (n : Nat) (k : AV → Heap → α) (a0 a1 : AV) (h : Heap) : α :=
  boxF o a0 h h.next fun v1 h => boxF o a1 h h.next fun v2 h => faF o 0 v1 fun v3 => load1F o h v3 fun v4 => c 202 [v4, (.fn (.func 203) [] [v2])] h fun v5 h => pk k v5 h <| k v5 h
theorem f156_ok : R Pq o c n b156 (kend Pq o c n w rs156 k) = fun t _ h => f156 o c n k (t 0) (t 1) h := by kernel_rfl
theorem f156_good : Good Pq (cfg mm) 156 (entF Pq (cfg mm) 156 2 fun α => f156) := entG b156 rs156 9 fun _ => f156_ok
noncomputable def b158 := bdy Tryz.f158
noncomputable def rs158 := Tryz.f158.results.toList
noncomputable def f158_2K : Ex → K α := (nxK (R Pq o c n (cB (cB b158)) (kend Pq o c n w rs158 k)) (kend Pq o c n w rs158 k))
noncomputable def f158_1 {α : Type} (o : α) (c : Call' α) (n : Nat) (k : AV → Heap → α) (s1 s2 : AV) (h : Heap) : α :=
  c 155 [s1] h fun v1 h => pk k v1 h <| bkF o false v1 (loadNF o h 1 s2 fun v2 => c 156 [v2, s1] h fun v3 h => pk k v3 h <| geqF Pq o 3 v3 (.i .i64 0) fun v4 => pickF o v1 (.b true) v4 fun v5 => k v5 h) (pickF o v1 (.b true) (.tup []) fun v6 => k v6 h)
theorem f158_1_ok : R Pq o c n (cB b158) (kend Pq o c n w rs158 k) = fun t _ h => f158_1 o c n k (t 1) (t 2) h := (kseq rfl (r_start 3 (by kernel_rfl) (q_guard 3 7 (2, false) (by kernel_rfl) (by kernel_rfl) (by kernel_rfl) rfl))).tk
noncomputable def f158 (a0 a1 : AV) (h : Heap) : α :=
  boxF o a0 h h.next fun v7 h => f158_1 o c n k a1 v7 h
theorem f158_ok : R Pq o c n b158 (kend Pq o c n w rs158 k) = fun t _ h => f158 o c n k (t 0) (t 1) h := (kseq (f158_1_ok o c n k w) rfl).tk
theorem f158_good : Good Pq (cfg mm) 158 (entF Pq (cfg mm) 158 2 fun α => f158) := entG b158 rs158 13 fun _ => f158_ok
noncomputable def b160 := bdy Tryz.f160
noncomputable def rs160 := Tryz.f160.results.toList
noncomputable def f160 {α : Type} (o : α) (c : Call' α) (n : Nat) (k : AV → Heap → α) (a0 a1 : AV) (h : Heap) : α :=
  boxF o a0 h h.next fun v1 h => c 155 [a1] h fun v2 h => pk k v2 h <| ifF o v2 (eqsF Pq o 9 a1 (.s 9 2037169923944901474373) fun v3 => ifF o v3 (k (.s 0 0) h) (k (.s 9 2037169923944901474373) h)) (loadNF o h 1 v1 fun v4 => c 156 [v4, a1] h fun v5 h => pk k v5 h <| lssF Pq o 3 v5 (.i .i64 0) fun v6 => ifF o v6 (k (.s 0 0) h) (faF o 0 v1 fun v7 => load1F o h v7 fun v8 => ixF o 4 v8 v5 fun v9 => faF o 1 v9 fun v10 => load1F o h v10 fun v11 => k v11 h))
theorem f160_ok : R Pq o c n b160 (kend Pq o c n w rs160 k) = fun t _ h => f160 o c n k (t 0) (t 1) h := by kernel_rfl
theorem f160_good : Good Pq (cfg mm) 160 (entF Pq (cfg mm) 160 2 fun α => f160) := entG b160 rs160 21 fun _ => f160_ok
noncomputable def b163 := bdy Tryz.f163
noncomputable def rs163 := Tryz.f163.results.toList
noncomputable def f163_2K : Ex → K α := (nxK (R Pq o c n (cB (cB b163)) (kend Pq o c n w rs163 k)) (kend Pq o c n w rs163 k))
noncomputable def f163_4 {α : Type} (o : α) (c : Call' α) (n : Nat) (k : AV → Heap → α) (s1 s2 s11 s13 : AV) (h : Heap) : α :=
  pickF o s11 (.b true) s13 fun v1 => bkF o false v1 (loadNF o h 1 s2 fun v2 => c 158 [v2, s1] h fun v3 h => pk k v3 h <| pickF o v1 (.b true) v3 fun v4 => k v4 h) (pickF o v1 (.b true) (.tup []) fun v5 => k v5 h)
theorem f163_4_ok : Q Pq o c (cO (cA (cB b163))) (f163_2K o c n k w) 9 = fun t _ h => f163_4 o c n k (t 1) (t 2) (t 11) (t 13) h := (q_seg 9 11 (by kernel_rfl) (q_guard 11 14 (10, false) (by kernel_rfl) (by kernel_rfl) (by kernel_rfl) rfl)).tk
noncomputable def f163_3 (s1 s2 s7 s9 : AV) (h : Heap) : α :=
  pickF o s7 (.b true) s9 fun v6 => bkF o false v6 (eqsF Pq o 9 s1 (.s 6 113723913172051) fun v7 => f163_4 o c n k s1 s2 v6 v7 h) (f163_4 o c n k s1 s2 v6 (.tup []) h)
theorem f163_3_ok : Q Pq o c (cO (cA (cB b163))) (f163_2K o c n k w) 5 = fun t _ h => f163_3 o c n k (t 1) (t 2) (t 7) (t 9) h := (q_seg 5 7 (by kernel_rfl) (q_guard 7 9 (6, false) (by kernel_rfl) (by kernel_rfl) (by kernel_rfl) (f163_4_ok o c n k w))).tk
noncomputable def f163_1 (s1 s2 : AV) (h : Heap) : α :=
  eqsF Pq o 9 s1 (.s 3 7630441) fun v8 => bkF o false v8 (eqsF Pq o 9 s1 (.s 7 31069335677005666) fun v9 => f163_3 o c n k s1 s2 v8 v9 h) (f163_3 o c n k s1 s2 v8 (.tup []) h)
theorem f163_1_ok : R Pq o c n (cB b163) (kend Pq o c n w rs163 k) = fun t _ h => f163_1 o c n k (t 1) (t 2) h := (kseq rfl (r_start 3 (by kernel_rfl) (q_guard 3 5 (2, false) (by kernel_rfl) (by kernel_rfl) (by kernel_rfl) (f163_3_ok o c n k w)))).tk
noncomputable def f163 (a0 a1 : AV) (h : Heap) : α :=
  boxF o a0 h h.next fun v10 h => f163_1 o c n k a1 v10 h
theorem f163_ok : R Pq o c n b163 (kend Pq o c n w rs163 k) = fun t _ h => f163 o c n k (t 0) (t 1) h := (kseq (f163_1_ok o c n k w) rfl).tk
theorem f163_good : Good Pq (cfg mm) 163 (entF Pq (cfg mm) 163 2 fun α => f163) := entG b163 rs163 20 fun _ => f163_ok
noncomputable def b167 := bdy Tryz.f167
noncomputable def rs167 := Tryz.f167.results.toList
noncomputable def f167 {α : Type} (o : α) (c : Call' α) (n : Nat) (k : AV → Heap → α) (a0 : AV) (h : Heap) : α :=
  eqiF Pq o 123 a0 .nsl fun v1 => ifF o v1 (k .nsl h) (newEF h h.next 8 0 [] fun v2 h => appX Pq o h h.next 123 123 v2 a0 fun v3 h => k v3 h)
theorem f167_ok : R Pq o c n b167 (kend Pq o c n w rs167 k) = fun t _ h => f167 o c n k (t 0) h := by kernel_rfl
theorem f167_good : Good Pq (cfg mm) 167 (entF Pq (cfg mm) 167 1 fun α => f167) := entG b167 rs167 8 fun _ => f167_ok
noncomputable def b168 := bdy Tryz.f168
noncomputable def rs168 := Tryz.f168.results.toList
noncomputable def f168_2K : Ex → K α := (nxK (R Pq o c n (cB (cB b168)) (kend Pq o c n w rs168 k)) (kend Pq o c n w rs168 k))
noncomputable def f168_3 {α : Type} (o : α) (c : Call' α) (n : Nat) (k : AV → Heap → α) (base : Nat) (s4 s19 : AV) (h : Heap) : α :=
  exF o s19 0 fun v1 => exF o s19 1 fun v2 => exF o s19 2 fun v3 => newF (h.look 0) (Nat.add base 14) 8 [(.i .i64 0), (.i .i32 0), (.s 0 0), (.s 0 0), (.s 0 0), .nsl, (.s 0 0), (.i .i64 0)] fun v4 h => storeF o (h.look 20479) 8 v4 v1 fun h => hb h.shut fun h => eqiF Pq o 3 v3 (.i .i64 0) fun v5 => c 216 [v5, v3] h fun v6 h => pk k v6 h <| loadNF o h 8 v4 fun v7 => storeF o h 8 s4 v7 fun h => on o (resV Pq h [(s4, some 127), (v2, none)]) fun v => k v h
theorem f168_3_ok (base : Nat) : QD Pq o c (cO (cA (cB b168))) base ((f168_2K o c n k w)) 10 = fun t _ h => f168_3 o c n k base (t 4) (t 19) h := by kernel_rfl
noncomputable def f168_1 (s0 s3 s4 : AV) (h : Heap) : α :=
  dreg o h 18 fun base h => nilChk o s0 fun v8 => faF o 0 v8 fun v9 => rootF o v9 s0 <| loadNF o (h.look 7) 1 v9 fun v10 => nilChk o s0 fun v11 => faF o 1 v11 fun v12 => rootF o v12 s0 <| loadNF o (h.look 112) 3 v12 fun v13 => loadNF o (h.look 0) 8 s3 fun v14 => callD o c (lapp (lapp [Nat.add base 14] []) []) 215 [v10, v13, v14] (h.look 0) fun v15 h => pnF v15 (fun x => o) <| f168_3 o c n k base s4 v15 h
theorem f168_1_ok : R Pq o c n (cB b168) (kend Pq o c n w rs168 k) = fun t _ h => f168_1 o c n k (t 0) (t 3) (t 4) h := (kseq rfl (r_startD 10 (by kernel_rfl) (by kernel_rfl) (X := fun base => fun t _ h => f168_3 o c n k base (t 4) (t 19) h) (fun base => f168_3_ok o c n k w base))).tk
noncomputable def f168 (a0 a1 : AV) (h : Heap) : α :=
  boxF o a1 h h.next fun v16 h => newF h h.next 8 [(.i .i64 0), (.i .i32 0), (.s 0 0), (.s 0 0), (.s 0 0), .nsl, (.s 0 0), (.i .i64 0)] fun v17 h => f168_1 o c n k a0 v16 v17 h
theorem f168_ok : R Pq o c n b168 (kend Pq o c n w rs168 k) = fun t _ h => f168 o c n k (t 0) (t 1) h := (kseq (f168_1_ok o c n k w) rfl).tk
theorem f168_good : Good Pq (cfg mm) 168 (entF Pq (cfg mm) 168 2 fun α => f168) := entG b168 rs168 29 fun _ => f168_ok
noncomputable def b180 := bdy Tryz.f180
noncomputable def rs180 := Tryz.f180.results.toList
noncomputable def f180_2K : Ex → K α := (nxK (R Pq o c n (cB (cB b180)) (kend Pq o c n w rs180 k)) (kend Pq o c n w rs180 k))
noncomputable def f180_3 {α : Type} (o : α) (c : Call' α) (n : Nat) (k : AV → Heap → α) (s0 s5 s9 : AV) (h : Heap) : α :=
  pickF o s5 s9 (.b false) fun v1 => bkF o true v1 (c 130 [s0] h fun v2 h => pk k v2 h <| notF o v2 fun v3 => pickF o v1 v3 (.b false) fun v4 => k v4 h) (pickF o v1 (.tup []) (.b false) fun v5 => k v5 h)
theorem f180_3_ok : Q Pq o c (cO (cA (cB b180))) (f180_2K o c n k w) 7 = fun t _ h => f180_3 o c n k (t 0) (t 5) (t 9) h := (q_seg 7 9 (by kernel_rfl) (q_guard 9 12 (8, true) (by kernel_rfl) (by kernel_rfl) (by kernel_rfl) rfl)).tk
noncomputable def f180_1 (s0 : AV) (h : Heap) : α :=
  nesF Pq o 9 s0 (.s 0 0) fun v6 => bkF o true v6 (sxF o s0 (.i .i64 0) fun v7 => convA Pq o 5 21 v7 fun v8 => c 129 [v8] h fun v9 h => pk k v9 h <| f180_3 o c n k s0 v6 v9 h) (f180_3 o c n k s0 v6 (.tup []) h)
theorem f180_1_ok : R Pq o c n (cB b180) (kend Pq o c n w rs180 k) = fun t _ h => f180_1 o c n k (t 0) h := (kseq rfl (r_start 3 (by kernel_rfl) (q_guard 3 7 (2, true) (by kernel_rfl) (by kernel_rfl) (by kernel_rfl) (f180_3_ok o c n k w)))).tk
noncomputable def f180 (a0 : AV) (h : Heap) : α :=
  f180_1 o c n k a0 h
theorem f180_ok : R Pq o c n b180 (kend Pq o c n w rs180 k) = fun t _ h => f180 o c n k (t 0) h := (kseq (f180_1_ok o c n k w) rfl).tk
theorem f180_good : Good Pq (cfg mm) 180 (entF Pq (cfg mm) 180 1 fun α => f180) := entG b180 rs180 16 fun _ => f180_ok
noncomputable def b182 := bdy Tryz.f182
noncomputable def rs182 := Tryz.f182.results.toList
noncomputable def f182_2K : Ex → K α := (nxK (R Pq o c n (cB (cB b182)) (kend Pq o c n w rs182 k)) (kend Pq o c n w rs182 k))
noncomputable def f182_9 {α : Type} (o : α) (c : Call' α) (n : Nat) (k : AV → Heap → α) (s17 : AV) (h : Heap) : α :=
  ifF o s17 (k (.i .i64 6) h) (k (.i .i64 0) h)
theorem f182_9_ok : R Pq o c n (cB (cB (cB (cB (cB (cB (cB (cB (cB (cB (cB (cA (cB (cA (cB b182))))))))))))))) (blockK (cI (cB (cA (cB b182)))) (f182_2K o c n k w)) = fun t _ h => f182_9 o c n k (t 17) h := by kernel_rfl
noncomputable def f182_8 (s3 s14 : AV) (h : Heap) : α :=
  ifF o s14 (k (.i .i64 5) h) (eqsF Pq o 9 s3 (.s 1 42) fun v1 => ifF o v1 (f182_9 o c n k v1 h) (eqsF Pq o 9 s3 (.s 1 47) fun v2 => ifF o v2 (f182_9 o c n k v2 h) (eqsF Pq o 9 s3 (.s 1 37) fun v3 => ifF o v3 (f182_9 o c n k v3 h) (eqsF Pq o 9 s3 (.s 1 64) fun v4 => f182_9 o c n k v4 h))))
theorem f182_8_ok : R Pq o c n (cB (cB (cB (cB (cB (cB (cB (cB (cB (cA (cB (cA (cB b182))))))))))))) (blockK (cI (cB (cA (cB b182)))) (f182_2K o c n k w)) = fun t _ h => f182_8 o c n k (t 3) (t 14) h := (c_cond (by kernel_rfl) rfl (kseq (f182_9_ok o c n k w) rfl)).tk
noncomputable def f182_7 (s3 s11 : AV) (h : Heap) : α :=
  ifF o s11 (k (.i .i64 4) h) (eqsF Pq o 9 s3 (.s 1 43) fun v5 => ifF o v5 (f182_8 o c n k s3 v5 h) (eqsF Pq o 9 s3 (.s 1 45) fun v6 => f182_8 o c n k s3 v6 h))
theorem f182_7_ok : R Pq o c n (cB (cB (cB (cB (cB (cB (cB (cA (cB (cA (cB b182))))))))))) (blockK (cI (cB (cA (cB b182)))) (f182_2K o c n k w)) = fun t _ h => f182_7 o c n k (t 3) (t 11) h := (c_cond (by kernel_rfl) rfl (kseq (f182_8_ok o c n k w) rfl)).tk
noncomputable def f182_6 (s3 s8 : AV) (h : Heap) : α :=
  ifF o s8 (k (.i .i64 3) h) (eqsF Pq o 9 s3 (.s 1 60) fun v7 => ifF o v7 (f182_7 o c n k s3 v7 h) (eqsF Pq o 9 s3 (.s 2 15676) fun v8 => f182_7 o c n k s3 v8 h))
theorem f182_6_ok : R Pq o c n (cB (cB (cB (cB (cB (cA (cB (cA (cB b182))))))))) (blockK (cI (cB (cA (cB b182)))) (f182_2K o c n k w)) = fun t _ h => f182_6 o c n k (t 3) (t 8) h := (c_cond (by kernel_rfl) rfl (kseq (f182_7_ok o c n k w) rfl)).tk
noncomputable def f182_5 (s3 s6 : AV) (h : Heap) : α :=
  ifF o s6 (k (.i .i64 2) h) (eqsF Pq o 9 s3 (.s 2 15677) fun v9 => ifF o v9 (f182_6 o c n k s3 v9 h) (eqsF Pq o 9 s3 (.s 2 15649) fun v10 => f182_6 o c n k s3 v10 h))
theorem f182_5_ok : R Pq o c n (cB (cB (cB (cA (cB (cA (cB b182))))))) (blockK (cI (cB (cA (cB b182)))) (f182_2K o c n k w)) = fun t _ h => f182_5 o c n k (t 3) (t 6) h := (c_cond (by kernel_rfl) rfl (kseq (f182_6_ok o c n k w) rfl)).tk
noncomputable def f182_4 (s3 s4 : AV) (h : Heap) : α :=
  ifF o s4 (k (.i .i64 1) h) (eqsF Pq o 9 s3 (.s 2 9766) fun v11 => f182_5 o c n k s3 v11 h)
theorem f182_4_ok : R Pq o c n (cB (cA (cB (cA (cB b182))))) (blockK (cI (cB (cA (cB b182)))) (f182_2K o c n k w)) = fun t _ h => f182_4 o c n k (t 3) (t 4) h := (c_cond (by kernel_rfl) rfl (kseq (f182_5_ok o c n k w) rfl)).tk
noncomputable def f182_3 (s3 : AV) (h : Heap) : α :=
  eqsF Pq o 9 s3 (.s 2 31868) fun v12 => f182_4 o c n k s3 v12 h
theorem f182_3_ok : R Pq o c n (cB (cA (cB b182))) (f182_2K o c n k w) = fun t _ h => f182_3 o c n k (t 3) h := (kblk (kseq (f182_4_ok o c n k w) rfl)).tk
noncomputable def f182_1 (s0 : AV) (h : Heap) : α :=
  f182_3 o c n k s0 h
theorem f182_1_ok : R Pq o c n (cB b182) (kend Pq o c n w rs182 k) = fun t _ h => f182_1 o c n k (t 0) h := (kseq rfl (kseq (f182_3_ok o c n k w) rfl)).tk
noncomputable def f182 (a0 : AV) (h : Heap) : α :=
  f182_1 o c n k a0 h
theorem f182_ok : R Pq o c n b182 (kend Pq o c n w rs182 k) = fun t _ h => f182 o c n k (t 0) h := (kseq (f182_1_ok o c n k w) rfl).tk
theorem f182_good : Good Pq (cfg mm) 182 (entF Pq (cfg mm) 182 1 fun α => f182) := entG b182 rs182 22 fun _ => f182_ok
noncomputable def b183 := bdy Tryz.f183
noncomputable def rs183 := Tryz.f183.results.toList
noncomputable def f183 {α : Type} (o : α) (c : Call' α) (n : Nat) (k : AV → Heap → α) (a0 : AV) (h : Heap) : α :=
  boxF o a0 h h.next fun v1 h => faF o 5 v1 fun v2 => load1F o h v2 fun v3 => c 125 [v3] h fun v4 h => pk k v4 h <| addF Pq o 3 (.i .i64 1) v4 fun v5 => k v5 h
theorem f183_ok : R Pq o c n b183 (kend Pq o c n w rs183 k) = fun t _ h => f183 o c n k (t 0) h := by kernel_rfl
theorem f183_good : Good Pq (cfg mm) 183 (entF Pq (cfg mm) 183 1 fun α => f183) := entG b183 rs183 7 fun _ => f183_ok
noncomputable def b185 := bdy Tryz.f185
noncomputable def rs185 := Tryz.f185.results.toList
noncomputable def f185 {α : Type} (o : α) (c : Call' α) (n : Nat) (k : AV → Heap → α) (a0 a1 : AV) (h : Heap) : α :=
  boxF o a0 h h.next fun v1 h => newF h h.next 4 [(.s 0 0), (.s 0 0), .nsl, .nsl] fun v2 h => loadNF o h 1 v1 fun v3 => c 137 [v3, a1] h fun v4 h => pk k v4 h <| geqF Pq o 3 v4 (.i .i64 0) fun v5 => ifF o v5 (faF o 0 v1 fun v6 => load1F o h v6 fun v7 => ixF o 4 v7 v4 fun v8 => loadNF o h 4 v8 fun v9 => storeF o h 4 v2 v9 fun h => on o (resV Pq h [(v2, some 96)]) fun v => k v h) (storeF o h 4 v2 (.agg [(.s 0 0), (.s 0 0), .nsl, .nsl]) fun h => on o (resV Pq h [(v2, some 96)]) fun v => k v h)
theorem f185_ok : R Pq o c n b185 (kend Pq o c n w rs185 k) = fun t _ h => f185 o c n k (t 0) (t 1) h := by kernel_rfl
theorem f185_good : Good Pq (cfg mm) 185 (entF Pq (cfg mm) 185 2 fun α => f185) := entG b185 rs185 17 fun _ => f185_ok
noncomputable def b188 := bdy Tryz.f188
noncomputable def rs188 := Tryz.f188.results.toList
noncomputable def f188_3 {α : Type} (o : α) (c : Call' α) (n : Nat) (k : AV → Heap → α) (s3 s4 s6 : AV) (h : Heap) : α :=
  faF o 3 s6 fun v1 => load1F o h v1 fun v2 => faF o 1 s3 fun v3 => load1F o h v3 fun v4 => ixF o 6 v2 v4 fun v5 => loadNF o h 6 v5 fun v6 => storeF o h 6 s4 v6 fun h => on o (resV Pq h [(s4, some 114), ((.b true), none)]) fun v => k v h
theorem f188_3_ok : R Pq o c n (cB (cB (cB b188))) (kend Pq o c n w rs188 k) = fun t _ h => f188_3 o c n k (t 3) (t 4) (t 6) h := by kernel_rfl
noncomputable def f188_4K : Ex → K α := (nxK (fun t _ h => f188_3 o c n k (t 3) (t 4) (t 6) h) (kend Pq o c n w rs188 k))
noncomputable def f188_5 (s3 s4 s6 s21 : AV) (h : Heap) : α :=
  ifF o s21 (storeF o h 6 s4 (.agg [(.b false), (.b false), (.s 0 0), (.s 0 0), .nsl, .nsl]) fun h => on o (resV Pq h [(s4, some 114), ((.b false), none)]) fun v => k v h) (f188_3 o c n k s3 s4 s6 h)
theorem f188_5_ok : R Pq o c n (cB (cA (cB (cB b188)))) (f188_4K o c n k w) = fun t _ h => f188_5 o c n k (t 3) (t 4) (t 6) (t 21) h := by kernel_rfl
noncomputable def f188_6K : Ex → K α := (nxK (fun t _ h => f188_5 o c n k (t 3) (t 4) (t 6) (t 21) h) (f188_4K o c n k w))
noncomputable def f188_2 (s3 s4 s6 : AV) (h : Heap) : α :=
  faF o 1 s3 fun v7 => load1F o h v7 fun v8 => lssF Pq o 3 v8 (.i .i64 0) fun v9 => bkF o false v9 (faF o 1 s3 fun v10 => load1F o h v10 fun v11 => faF o 3 s6 fun v12 => load1F o h v12 fun v13 => lenF o v13 fun v14 => geqF Pq o 3 v11 v14 fun v15 => pickF o v9 (.b true) v15 fun v16 => f188_5 o c n k s3 s4 s6 v16 h) (pickF o v9 (.b true) (.tup []) fun v17 => f188_5 o c n k s3 s4 s6 v17 h)
theorem f188_2_ok : R Pq o c n (cB (cB b188)) (kend Pq o c n w rs188 k) = fun t _ h => f188_2 o c n k (t 3) (t 4) (t 6) h := (kseq (f188_3_ok o c n k w) (kseq (f188_5_ok o c n k w) (r_start 4 (by kernel_rfl) (q_guard 4 10 (3, false) (by kernel_rfl) (by kernel_rfl) (by kernel_rfl) rfl)))).tk
noncomputable def f188_1 (s2 s3 s4 : AV) (h : Heap) : α :=
  loadNF o h 1 s2 fun v18 => faF o 0 s3 fun v19 => load1F o h v19 fun v20 => c 185 [v18, v20] h fun v21 h => pk k v21 h <| newF h h.next 4 [(.s 0 0), (.s 0 0), .nsl, .nsl] fun v22 h => storeF o h 4 v22 v21 fun h => f188_2 o c n k s3 s4 v22 h
theorem f188_1_ok : R Pq o c n (cB b188) (kend Pq o c n w rs188 k) = fun t _ h => f188_1 o c n k (t 2) (t 3) (t 4) h := (kseq (f188_2_ok o c n k w) rfl).tk
noncomputable def f188 (a0 a1 : AV) (h : Heap) : α :=
  boxF o a0 h h.next fun v23 h => boxF o a1 h h.next fun v24 h => newF h h.next 6 [(.b false), (.b false), (.s 0 0), (.s 0 0), .nsl, .nsl] fun v25 h => f188_1 o c n k v23 v24 v25 h
theorem f188_ok : R Pq o c n b188 (kend Pq o c n w rs188 k) = fun t _ h => f188 o c n k (t 0) (t 1) h := (kseq (f188_1_ok o c n k w) rfl).tk
theorem f188_good : Good Pq (cfg mm) 188 (entF Pq (cfg mm) 188 2 fun α => f188) := entG b188 rs188 29 fun _ => f188_ok
noncomputable def b194 := bdy Tryz.f194
noncomputable def rs194 := Tryz.f194.results.toList
noncomputable def f194_4K : Ex → K α := (nxK (R Pq o c n (cB (cB (cB (cB b194)))) (kend Pq o c n w rs194 k)) (kend Pq o c n w rs194 k))
noncomputable def f194_6 {α : Type} (o : α) (c : Call' α) (n : Nat) (k : AV → Heap → α) (m : Nat) : AVs (Heap → α) 5 :=
  Nat.rec (motive := fun _ => AVs (Heap → α) 5) (fun _ _ _ _ _ _ => o) (fun _ lp0 s0 s1 s6 s7 s8 h => lenF o s1 fun v1 => lssF Pq o 3 s8 v1 fun v2 => ifF o v2 (ixF o 9 s1 s8 fun v3 => loadNF o h 9 v3 fun v4 => c 233 [s0, v4] h fun v5 h => pk k v5 h <| exF o v5 0 fun v6 => exF o v5 1 fun v7 => newF h h.next 9 [(.i .i64 0), (.i .i32 0), (.s 0 0), (.s 0 0), .nsl, .nsl, .nsl, .nsl, (.i .i64 0)] fun v8 h => storeF o h 9 v8 v6 fun h => neiF Pq o 3 v7 (.i .i64 0) fun v9 => ifF o v9 (k (.tup [.nsl, v7]) h) (loadNF o h 9 v8 fun v10 => fil1 o 9 1 0 v10 [[(.i .i64 0), (.i .i32 0), (.s 0 0), (.s 0 0), .nsl, .nsl, .nsl, .nsl, (.i .i64 0)]] fun v11 => newEF h h.next 9 1 v11 fun v12 h => appX Pq o h h.next 112 112 s7 v12 fun v13 h => addF Pq o 3 s8 (.i .i64 1) fun v14 => lp0 s0 s1 s6 v13 v14 h)) (nilChk o s0 fun v15 => faF o 7 v15 fun v16 => faF o 2 v16 fun v17 => load1F o h v17 fun v18 => sliceA Pq o 111 (rho2 .un s6 s6) v18 none (some (.tmp 1)) (some (.tmp 2)) fun v19 => nilChk o s0 fun v20 => faF o 7 v20 fun v21 => faF o 2 v21 fun v22 => storeF o h 1 v22 v19 fun h => k (.tup [s7, (.i .i64 0)]) h)) m
theorem f194_6_ok : R Pq o c n (cA (cB (cA (cB (cB (cB b194)))))) (blockK (cI (cB (cA (cB (cB (cB b194)))))) (f194_4K o c n k w)) = fun t _ h => f194_6 o c n k n (t 0) (t 1) (t 6) (t 7) (t 8) h :=
  c_loop (F := fun m t _ h => f194_6 o c n k m (t 0) (t 1) (t 6) (t 7) (t 8) h) (by kernel_rfl) (by kernel_rfl) fun m => by kernel_rfl
noncomputable def f194_5 (s0 s1 s6 s7 s8 : AV) (h : Heap) : α :=
  f194_6 o c n k n s0 s1 s6 s7 s8 h
theorem f194_5_ok : R Pq o c n (cB (cA (cB (cB (cB b194))))) (f194_4K o c n k w) = fun t _ h => f194_5 o c n k (t 0) (t 1) (t 6) (t 7) (t 8) h := (kblk (f194_6_ok o c n k w)).tk
noncomputable def f194_3 (s0 s1 s6 s7 : AV) (h : Heap) : α :=
  f194_5 o c n k s0 s1 s6 s7 (.i .i64 0) h
theorem f194_3_ok : R Pq o c n (cB (cB (cB b194))) (kend Pq o c n w rs194 k) = fun t _ h => f194_3 o c n k (t 0) (t 1) (t 6) (t 7) h := (kseq rfl (kseq (f194_5_ok o c n k w) rfl)).tk
noncomputable def f194_2 (s0 s1 s6 : AV) (h : Heap) : α :=
  f194_3 o c n k s0 s1 s6 .nsl h
theorem f194_2_ok : R Pq o c n (cB (cB b194)) (kend Pq o c n w rs194 k) = fun t _ h => f194_2 o c n k (t 0) (t 1) (t 6) h := (kseq (f194_3_ok o c n k w) rfl).tk
noncomputable def f194_1 (s0 s1 : AV) (h : Heap) : α :=
  nilChk o s0 fun v23 => faF o 7 v23 fun v24 => faF o 2 v24 fun v25 => load1F o h v25 fun v26 => lenF o v26 fun v27 => f194_2 o c n k s0 s1 v27 h
theorem f194_1_ok : R Pq o c n (cB b194) (kend Pq o c n w rs194 k) = fun t _ h => f194_1 o c n k (t 0) (t 1) h := (kseq (f194_2_ok o c n k w) rfl).tk
noncomputable def f194 (a0 a1 : AV) (h : Heap) : α :=
  f194_1 o c n k a0 a1 h
theorem f194_ok : R Pq o c n b194 (kend Pq o c n w rs194 k) = fun t _ h => f194 o c n k (t 0) (t 1) h := (kseq (f194_1_ok o c n k w) rfl).tk
theorem f194_good : Good Pq (cfg mm) 194 (entF Pq (cfg mm) 194 2 fun α => f194) := entG b194 rs194 52 fun _ => f194_ok
noncomputable def b202 := bdy Tryz.f202
noncomputable def rs202 := Tryz.f202.results.toList
noncomputable def f202_2K : Ex → K α := (nxK (R Pq o c n (cB (cB b202)) (kend Pq o c n w rs202 k)) (kend Pq o c n w rs202 k))
noncomputable def f202_4 {α : Type} (o : α) (c : Call' α) (n : Nat) (k : AV → Heap → α) (m : Nat) : AVs (Heap → α) 4 :=
  Nat.rec (motive := fun _ => AVs (Heap → α) 4) (fun _ _ _ _ _ => o) (fun _ lp0 s0 s1 s7 s8 h => lssF Pq o 3 s8 s7 fun v1 => ifF o v1 (ixF o 4 s0 s8 fun v2 => loadNF o h 4 v2 fun v3 => cfF o s1 [v3] c h fun v4 h => pk k v4 h <| ifF o v4 (k s8 h) (addF Pq o 3 s8 (.i .i64 1) fun v5 => lp0 s0 s1 s7 v5 h)) (k (.i .i64 (-1)) h)) m
theorem f202_4_ok : R Pq o c n (cA (cB (cA (cB b202)))) (blockK (cI (cB (cA (cB b202)))) (f202_2K o c n k w)) = fun t _ h => f202_4 o c n k n (t 0) (t 1) (t 7) (t 8) h :=
  c_loop (F := fun m t _ h => f202_4 o c n k m (t 0) (t 1) (t 7) (t 8) h) (by kernel_rfl) (by kernel_rfl) fun m => by kernel_rfl
noncomputable def f202_3 (s0 s1 s7 s8 : AV) (h : Heap) : α :=
  f202_4 o c n k n s0 s1 s7 s8 h
theorem f202_3_ok : R Pq o c n (cB (cA (cB b202))) (f202_2K o c n k w) = fun t _ h => f202_3 o c n k (t 0) (t 1) (t 7) (t 8) h := (kblk (f202_4_ok o c n k w)).tk
noncomputable def f202_1 (s0 s1 : AV) (h : Heap) : α :=
  lenF o s0 fun v6 => f202_3 o c n k s0 s1 v6 (.i .i64 0) h
theorem f202_1_ok : R Pq o c n (cB b202) (kend Pq o c n w rs202 k) = fun t _ h => f202_1 o c n k (t 0) (t 1) h := (kseq rfl (kseq (f202_3_ok o c n k w) rfl)).tk
noncomputable def f202 (a0 a1 : AV) (h : Heap) : α :=
  f202_1 o c n k a0 a1 h
theorem f202_ok : R Pq o c n b202 (kend Pq o c n w rs202 k) = fun t _ h => f202 o c n k (t 0) (t 1) h := (kseq (f202_1_ok o c n k w) rfl).tk
theorem f202_good : Good Pq (cfg mm) 202 (entF Pq (cfg mm) 202 2 fun α => f202) := entG b202 rs202 19 fun _ => f202_ok
noncomputable def b203 := bdy Tryz.f203
noncomputable def rs203 := Tryz.f203.results.toList
noncomputable def f203 {α : Type} (o : α) (c : Call' α) (n : Nat) (k : AV → Heap → α) (a0 a1 : AV) (h : Heap) : α :=
  boxF o a0 h h.next fun v1 h => faF o 0 v1 fun v2 => load1F o h v2 fun v3 => load1F o h a1 fun v4 => eqsF Pq o 9 v3 v4 fun v5 => k v5 h
theorem f203_ok : R Pq o c n b203 (kend Pq o c n w rs203 k) = fun t _ h => f203 o c n k (t 0) (t 1) h := by kernel_rfl
theorem f203_good : Good Pq (cfg mm) 203 (entF Pq (cfg mm) 203 2 fun α => f203) := entG b203 rs203 8 fun _ => f203_ok
noncomputable def b205 := bdy Tryz.f205
noncomputable def rs205 := Tryz.f205.results.toList
noncomputable def f205 {α : Type} (o : α) (c : Call' α) (n : Nat) (k : AV → Heap → α) (a0 a1 : AV) (h : Heap) : α :=
  boxF o a0 h h.next fun v1 h => loadNF o h 1 v1 fun v2 => c 244 [v2, a1] h fun v3 h => pk k v3 h <| assertA Pq o v3 96 true fun v4 => exF o v4 0 fun v5 => exF o v4 1 fun v6 => newF h h.next 4 [(.s 0 0), (.s 0 0), .nsl, .nsl] fun v7 h => storeF o h 4 v7 v5 fun h => notF o v6 fun v8 => ifF o v8 (k .nsl h) (faF o 2 v7 fun v9 => load1F o h v9 fun v10 => k v10 h)
theorem f205_ok : R Pq o c n b205 (kend Pq o c n w rs205 k) = fun t _ h => f205 o c n k (t 0) (t 1) h := by kernel_rfl
theorem f205_good : Good Pq (cfg mm) 205 (entF Pq (cfg mm) 205 2 fun α => f205) := entG b205 rs205 18 fun _ => f205_ok
noncomputable def b206 := bdy Tryz.f206
noncomputable def rs206 := Tryz.f206.results.toList
noncomputable def f206 {α : Type} (o : α) (c : Call' α) (n : Nat) (k : AV → Heap → α) (a0 a1 : AV) (h : Heap) : α :=
  boxF o a0 h h.next fun v1 h => faF o 2 v1 fun v2 => load1F o h v2 fun v3 => load1F o h a1 fun v4 => eqsF Pq o 9 v3 v4 fun v5 => k v5 h
theorem f206_ok : R Pq o c n b206 (kend Pq o c n w rs206 k) = fun t _ h => f206 o c n k (t 0) (t 1) h := by kernel_rfl
theorem f206_good : Good Pq (cfg mm) 206 (entF Pq (cfg mm) 206 2 fun α => f206) := entG b206 rs206 8 fun _ => f206_ok
noncomputable def b211 := bdy Tryz.f211
noncomputable def rs211 := Tryz.f211.results.toList
noncomputable def f211 {α : Type} (o : α) (c : Call' α) (n : Nat) (k : AV → Heap → α) (a0 a1 : AV) (h : Heap) : α :=
  c 208 [a0, a1] h fun v1 h => pk k v1 h <| geqF Pq o 3 v1 (.i .i64 0) fun v2 => k v2 h
theorem f211_ok : R Pq o c n b211 (kend Pq o c n w rs211 k) = fun t _ h => f211 o c n k (t 0) (t 1) h := by kernel_rfl
theorem f211_good : Good Pq (cfg mm) 211 (entF Pq (cfg mm) 211 2 fun α => f211) := entG b211 rs211 9 fun _ => f211_ok
noncomputable def b215 := bdy Tryz.f215
noncomputable def rs215 := Tryz.f215.results.toList
noncomputable def f215_6 {α : Type} (o : α) (c : Call' α) (n : Nat) (k : AV → Heap → α) (s5 s6 s9 s13 : AV) (h : Heap) : α :=
  dreg o h 13 fun base h => faF o 1 s13 fun v1 => faF o 0 v1 fun v2 => rootF o v2 s13 <| load1F o (h.look 6) v2 fun v3 => faF o 1 s13 fun v4 => faF o 1 v4 fun v5 => rootF o v5 s13 <| load1F o (h.look 48) v5 fun v6 => faF o 5 s5 fun v7 => lb (sBlk v2 (sBlk v5 [])) fun ids => rootF o v7 s5 <| storeF o (hide ids (h.look 129)) 1 v7 s9 fun g => hb (back h ids g) fun h => faF o 6 s5 fun v8 => lb (sBlk v5 []) fun ids => rootF o v8 s5 <| storeF o (hide ids (h.look 911)) 1 v8 v3 fun g => hb (back h ids g) fun h => faF o 7 s5 fun v9 => rootF o v9 s5 <| storeF o (h.look 4095) 1 v9 v6 fun h => hb h.shut fun h => dreg o h 6 fun base h => loadNF o (h.look 0) 8 s5 fun v10 => faF o 0 s13 fun v11 => rootF o v11 s13 <| load1F o (h.look 2) v11 fun v12 => lb (sBlk v11 []) fun ids => storeF o (hide ids (h.look 1)) 8 s6 v10 fun g => hb (back h ids g) fun h => hb h.shut fun h => on o (resV Pq h [(s6, some 127), (v12, none), ((.i .i64 0), none)]) fun v => k v h
theorem f215_6_ok : R Pq o c n (cB (cB (cB (cB (cB (cB b215)))))) (kend Pq o c n w rs215 k) = fun t _ h => f215_6 o c n k (t 5) (t 6) (t 9) (t 13) h := by kernel_rfl
noncomputable def f215_7K : Ex → K α := (nxK (fun t _ h => f215_6 o c n k (t 5) (t 6) (t 9) (t 13) h) (kend Pq o c n w rs215 k))
noncomputable def f215_8 (s5 s6 s9 s13 s45 : AV) (h : Heap) : α :=
  ifF o s45 (dreg o h 6 fun base h => faF o 3 s13 fun v13 => rootF o v13 s13 <| load1F o (h.look 2) v13 fun v14 => lb (sBlk v13 []) fun ids => storeF o (hide ids (h.look 1)) 8 s6 (.agg [(.i .i64 0), (.i .i32 0), (.s 0 0), (.s 0 0), (.s 0 0), .nsl, (.s 0 0), (.i .i64 0)]) fun g => hb (back h ids g) fun h => hb h.shut fun h => on o (resV Pq h [(s6, some 127), ((.s 0 0), none), (v14, none)]) fun v => k v h) (f215_6 o c n k s5 s6 s9 s13 h)
theorem f215_8_ok : R Pq o c n (cB (cA (cB (cB (cB (cB (cB b215))))))) (f215_7K o c n k w) = fun t _ h => f215_8 o c n k (t 5) (t 6) (t 9) (t 13) (t 45) h := by kernel_rfl
noncomputable def f215_9K : Ex → K α := (nxK (fun t _ h => f215_8 o c n k (t 5) (t 6) (t 9) (t 13) (t 45) h) (f215_7K o c n k w))
noncomputable def f215_5 (s5 s6 s9 s13 s14 : AV) (h : Heap) : α :=
  notF o s14 fun v15 => bkF o false v15 (faF o 3 s13 fun v16 => load1F o h v16 fun v17 => neiF Pq o 3 v17 (.i .i64 0) fun v18 => pickF o v15 (.b true) v18 fun v19 => f215_8 o c n k s5 s6 s9 s13 v19 h) (pickF o v15 (.b true) (.tup []) fun v20 => f215_8 o c n k s5 s6 s9 s13 v20 h)
theorem f215_5_ok : R Pq o c n (cB (cB (cB (cB (cB b215))))) (kend Pq o c n w rs215 k) = fun t _ h => f215_5 o c n k (t 5) (t 6) (t 9) (t 13) (t 14) h := (kseq (f215_6_ok o c n k w) (kseq (f215_8_ok o c n k w) (r_start 3 (by kernel_rfl) (q_guard 3 6 (2, false) (by kernel_rfl) (by kernel_rfl) (by kernel_rfl) rfl)))).tk
noncomputable def f215_4 (s5 s6 s9 s12 : AV) (h : Heap) : α :=
  loadNF o h 13 s12 fun v21 => c 249 [v21] h fun v22 h => pk k v22 h <| assertA Pq o v22 263 true fun v23 => exF o v23 0 fun v24 => exF o v23 1 fun v25 => newF h h.next 4 [(.s 0 0), (.s 0 0), (.i .i64 0), (.i .i64 0)] fun v26 h => storeF o h 4 v26 v24 fun h => f215_5 o c n k s5 s6 s9 v26 v25 h
theorem f215_4_ok : R Pq o c n (cB (cB (cB (cB b215)))) (kend Pq o c n w rs215 k) = fun t _ h => f215_4 o c n k (t 5) (t 6) (t 9) (t 12) h := (kseq (f215_5_ok o c n k w) rfl).tk
noncomputable def f215_3 (s3 s4 s5 s6 s9 s10 : AV) (h : Heap) : α :=
  loadNF o h 1 s3 fun v27 => loadNF o h 3 s4 fun v28 => loadNF o h 8 s5 fun v29 => layF o 0 v27 [.nsl, (.s 0 0), (.b false), .nsl, (.i .i64 0), (.i .i32 0), (.s 0 0), (.s 0 0), (.s 0 0), .nsl, (.s 0 0), (.i .i64 0), .nsl] fun v30 => lay1 o 1 3 v28 v30 fun v31 => lay1 o 4 8 v29 v31 fun v32 => layF o 12 s10 v32 fun v33 => newF h h.next 13 [.nsl, (.s 0 0), (.b false), .nsl, (.i .i64 0), (.i .i32 0), (.s 0 0), (.s 0 0), (.s 0 0), .nsl, (.s 0 0), (.i .i64 0), .nsl] fun v34 h => storeF o h 13 v34 (.agg v33) fun h => f215_4 o c n k s5 s6 s9 v34 h
theorem f215_3_ok : R Pq o c n (cB (cB (cB b215))) (kend Pq o c n w rs215 k) = fun t _ h => f215_3 o c n k (t 3) (t 4) (t 5) (t 6) (t 9) (t 10) h := (kseq (f215_4_ok o c n k w) rfl).tk
noncomputable def f215_2 (s3 s4 s5 s6 s9 s10 s11 : AV) (h : Heap) : α :=
  neiF Pq o 3 s11 (.i .i64 0) fun v35 => ifF o v35 (storeF o h 8 s6 (.agg [(.i .i64 0), (.i .i32 0), (.s 0 0), (.s 0 0), (.s 0 0), .nsl, (.s 0 0), (.i .i64 0)]) fun h => on o (resV Pq h [(s6, some 127), ((.s 0 0), none), (s11, none)]) fun v => k v h) (f215_3 o c n k s3 s4 s5 s6 s9 s10 h)
theorem f215_2_ok : R Pq o c n (cB (cB b215)) (kend Pq o c n w rs215 k) = fun t _ h => f215_2 o c n k (t 3) (t 4) (t 5) (t 6) (t 9) (t 10) (t 11) h := (kseq (f215_3_ok o c n k w) rfl).tk
noncomputable def f215_1 (s3 s4 s5 s6 : AV) (h : Heap) : α :=
  loadNF o h 1 s3 fun v36 => loadNF o h 3 s4 fun v37 => faF o 5 s5 fun v38 => load1F o h v38 fun v39 => c 248 [v36, v37, v39] h fun v40 h => pk k v40 h <| exF o v40 0 fun v41 => exF o v40 1 fun v42 => exF o v40 2 fun v43 => f215_2 o c n k s3 s4 s5 s6 v41 v42 v43 h
theorem f215_1_ok : R Pq o c n (cB b215) (kend Pq o c n w rs215 k) = fun t _ h => f215_1 o c n k (t 3) (t 4) (t 5) (t 6) h := (kseq (f215_2_ok o c n k w) rfl).tk
noncomputable def f215 (a0 a1 a2 : AV) (h : Heap) : α :=
  boxF o a0 h h.next fun v44 h => boxF o a1 h h.next fun v45 h => boxF o a2 h h.next fun v46 h => newF h h.next 8 [(.i .i64 0), (.i .i32 0), (.s 0 0), (.s 0 0), (.s 0 0), .nsl, (.s 0 0), (.i .i64 0)] fun v47 h => f215_1 o c n k v44 v45 v46 v47 h
theorem f215_ok : R Pq o c n b215 (kend Pq o c n w rs215 k) = fun t _ h => f215 o c n k (t 0) (t 1) (t 2) h := (kseq (f215_1_ok o c n k w) rfl).tk
theorem f215_good : Good Pq (cfg mm) 215 (entF Pq (cfg mm) 215 3 fun α => f215) := entG b215 rs215 62 fun _ => f215_ok
noncomputable def b216 := bdy Tryz.f216
noncomputable def rs216 := Tryz.f216.results.toList
noncomputable def f216 {α : Type} (o : α) (c : Call' α) (n : Nat) (k : AV → Heap → α) (a0 a1 : AV) (h : Heap) : α :=
  notF o a0 fun v1 => ifF o v1 (c 103 [a1] h fun v2 h => pk k v2 h <| k (.tup []) h) (k (.tup []) h)
theorem f216_ok : R Pq o c n b216 (kend Pq o c n w rs216 k) = fun t _ h => f216 o c n k (t 0) (t 1) h := by kernel_rfl
theorem f216_good : Good Pq (cfg mm) 216 (entF Pq (cfg mm) 216 2 fun α => f216) := entG b216 rs216 8 fun _ => f216_ok
noncomputable def b220 := bdy Tryz.f220
noncomputable def rs220 := Tryz.f220.results.toList
noncomputable def f220_5K : Ex → K α := (nxK (R Pq o c n (cB (cB (cB (cB (cB b220))))) (kend Pq o c n w rs220 k)) (kend Pq o c n w rs220 k))
noncomputable def f220_7 {α : Type} (o : α) (c : Call' α) (n : Nat) (k : AV → Heap → α) (m : Nat) : AVs (Heap → α) 6 :=
  Nat.rec (motive := fun _ => AVs (Heap → α) 6) (fun _ _ _ _ _ _ _ => o) (fun _ lp0 s0 s7 s8 s24 s25 s26 h => lssF Pq o 3 s26 s25 fun v1 => ifF o v1 (ixF o 9 s24 s26 fun v2 => loadNF o h 9 v2 fun v3 => newF h h.next 9 [(.i .i64 0), (.i .i32 0), (.s 0 0), (.s 0 0), .nsl, .nsl, .nsl, .nsl, (.i .i64 0)] fun v4 h => storeF o h 9 v4 v3 fun h => loadNF o h 9 v4 fun v5 => c 251 [s0, v5] h fun v6 h => pk k v6 h <| fil1 o 9 1 0 v6 [[(.i .i64 0), (.i .i32 0), (.s 0 0), (.s 0 0), .nsl, .nsl, .nsl, .nsl, (.i .i64 0)]] fun v7 => newEF h h.next 9 1 v7 fun v8 h => appX Pq o h h.next 112 112 s8 v8 fun v9 h => addF Pq o 3 s26 (.i .i64 1) fun v10 => lp0 s0 s7 v9 s24 s25 v10 h) (nilChk o s0 fun v11 => faF o 1 v11 fun v12 => faF o 2 v12 fun v13 => storeF o h 1 v13 s7 fun h => k s8 h)) m
theorem f220_7_ok : R Pq o c n (cA (cB (cA (cB (cB (cB (cB b220))))))) (blockK (cI (cB (cA (cB (cB (cB (cB b220))))))) (f220_5K o c n k w)) = fun t _ h => f220_7 o c n k n (t 0) (t 7) (t 8) (t 24) (t 25) (t 26) h :=
  c_loop (F := fun m t _ h => f220_7 o c n k m (t 0) (t 7) (t 8) (t 24) (t 25) (t 26) h) (by kernel_rfl) (by kernel_rfl) fun m => by kernel_rfl
noncomputable def f220_6 (s0 s7 s8 s24 s25 s26 : AV) (h : Heap) : α :=
  f220_7 o c n k n s0 s7 s8 s24 s25 s26 h
theorem f220_6_ok : R Pq o c n (cB (cA (cB (cB (cB (cB b220)))))) (f220_5K o c n k w) = fun t _ h => f220_6 o c n k (t 0) (t 7) (t 8) (t 24) (t 25) (t 26) h := (kblk (f220_7_ok o c n k w)).tk
noncomputable def f220_4 (s0 s1 s7 s8 : AV) (h : Heap) : α :=
  lenF o s1 fun v14 => f220_6 o c n k s0 s7 s8 s1 v14 (.i .i64 0) h
theorem f220_4_ok : R Pq o c n (cB (cB (cB (cB b220)))) (kend Pq o c n w rs220 k) = fun t _ h => f220_4 o c n k (t 0) (t 1) (t 7) (t 8) h := (kseq rfl (kseq (f220_6_ok o c n k w) rfl)).tk
noncomputable def f220_3 (s0 s1 s7 : AV) (h : Heap) : α :=
  f220_4 o c n k s0 s1 s7 .nsl h
theorem f220_3_ok : R Pq o c n (cB (cB (cB b220))) (kend Pq o c n w rs220 k) = fun t _ h => f220_3 o c n k (t 0) (t 1) (t 7) h := (kseq (f220_4_ok o c n k w) rfl).tk
noncomputable def f220_2 (s0 s1 s2 s7 : AV) (h : Heap) : α :=
  fil1 o 1 2 0 s7 [[.nsl], [.nsl]] fun v15 => fil1 o 1 2 1 s2 v15 fun v16 => newEF h h.next 1 2 v16 fun v17 h => c 250 [v17] h fun v18 h => pk k v18 h <| nilChk o s0 fun v19 => faF o 1 v19 fun v20 => faF o 2 v20 fun v21 => storeF o h 1 v21 v18 fun h => f220_3 o c n k s0 s1 s7 h
theorem f220_2_ok : R Pq o c n (cB (cB b220)) (kend Pq o c n w rs220 k) = fun t _ h => f220_2 o c n k (t 0) (t 1) (t 2) (t 7) h := (kseq (f220_3_ok o c n k w) rfl).tk
noncomputable def f220_1 (s0 s1 s2 : AV) (h : Heap) : α :=
  nilChk o s0 fun v22 => faF o 1 v22 fun v23 => faF o 2 v23 fun v24 => load1F o h v24 fun v25 => f220_2 o c n k s0 s1 s2 v25 h
theorem f220_1_ok : R Pq o c n (cB b220) (kend Pq o c n w rs220 k) = fun t _ h => f220_1 o c n k (t 0) (t 1) (t 2) h := (kseq (f220_2_ok o c n k w) rfl).tk
noncomputable def f220 (a0 a1 a2 : AV) (h : Heap) : α :=
  f220_1 o c n k a0 a1 a2 h
theorem f220_ok : R Pq o c n b220 (kend Pq o c n w rs220 k) = fun t _ h => f220 o c n k (t 0) (t 1) (t 2) h := (kseq (f220_1_ok o c n k w) rfl).tk
theorem f220_good : Good Pq (cfg mm) 220 (entF Pq (cfg mm) 220 3 fun α => f220) := entG b220 rs220 43 fun _ => f220_ok
noncomputable def b238 := bdy Tryz.f238
noncomputable def rs238 := Tryz.f238.results.toList
noncomputable def f238 {α : Type} (o : α) (c : Call' α) (n : Nat) (k : AV → Heap → α) (a0 a1 : AV) (h : Heap) : α :=
  c 262 [a0, a1] h fun v1 h => pk k v1 h <| geqF Pq o 3 v1 (.i .i64 0) fun v2 => k v2 h
theorem f238_ok : R Pq o c n b238 (kend Pq o c n w rs238 k) = fun t _ h => f238 o c n k (t 0) (t 1) h := by kernel_rfl
theorem f238_good : Good Pq (cfg mm) 238 (entF Pq (cfg mm) 238 2 fun α => f238) := entG b238 rs238 9 fun _ => f238_ok
noncomputable def b240 := bdy Tryz.f240
noncomputable def rs240 := Tryz.f240.results.toList
noncomputable def f240_4 {α : Type} (o : α) (c : Call' α) (n : Nat) (k : AV → Heap → α) (s2 s3 : AV) (h : Heap) : α :=
  faF o 5 s2 fun v1 => load1F o h v1 fun v2 => c 238 [v2, (.fn (.func 267) [] [s3])] h fun v3 h => pk k v3 h <| notF o v3 fun v4 => k v4 h
theorem f240_4_ok : R Pq o c n (cB (cB (cB (cB b240)))) (kend Pq o c n w rs240 k) = fun t _ h => f240_4 o c n k (t 2) (t 3) h := by kernel_rfl
noncomputable def f240_5K : Ex → K α := (nxK (fun t _ h => f240_4 o c n k (t 2) (t 3) h) (kend Pq o c n w rs240 k))
noncomputable def f240_6 (s2 s3 s35 : AV) (h : Heap) : α :=
  ifF o s35 (k (.b false) h) (f240_4 o c n k s2 s3 h)
theorem f240_6_ok : R Pq o c n (cB (cA (cA (cB (cB (cB b240)))))) (blockK (cI (cA (cB (cB (cB b240))))) (f240_5K o c n k w)) = fun t _ h => f240_6 o c n k (t 2) (t 3) (t 35) h := by kernel_rfl
noncomputable def f240_7K : Ex → K α := (nxK (fun t _ h => f240_6 o c n k (t 2) (t 3) (t 35) h) (blockK (cI (cA (cB (cB (cB b240))))) (f240_5K o c n k w)))
noncomputable def f240_10 (s2 s3 s5 s35 : AV) (h : Heap) : α :=
  ifF o s35 (f240_6 o c n k s2 s3 s35 h) (faF o 3 s5 fun v5 => load1F o h v5 fun v6 => bkF o true v6 (faF o 4 s2 fun v7 => load1F o h v7 fun v8 => c 27 [v8] h fun v9 h => pk k v9 h <| notF o v9 fun v10 => pickF o v6 v10 (.b false) fun v11 => f240_6 o c n k s2 s3 v11 h) (pickF o v6 (.tup []) (.b false) fun v12 => f240_6 o c n k s2 s3 v12 h))
theorem f240_10_ok : R Pq o c n (cB (cB (cB (cB (cB (cA (cA (cA (cB (cB (cB b240))))))))))) (f240_7K o c n k w) = fun t _ h => f240_10 o c n k (t 2) (t 3) (t 5) (t 35) h := (c_cond (by kernel_rfl) rfl (r_start 3 (by kernel_rfl) (q_guard 3 7 (2, true) (by kernel_rfl) (by kernel_rfl) (by kernel_rfl) rfl))).tk
noncomputable def f240_11K : Ex → K α := (nxK (fun t _ h => f240_10 o c n k (t 2) (t 3) (t 5) (t 35) h) (f240_7K o c n k w))
noncomputable def f240_9 (s2 s3 s5 s35 : AV) (h : Heap) : α :=
  ifF o s35 (f240_6 o c n k s2 s3 s35 h) (faF o 2 s5 fun v13 => load1F o h v13 fun v14 => bkF o true v14 (faF o 0 s2 fun v15 => load1F o h v15 fun v16 => faF o 3 s2 fun v17 => load1F o h v17 fun v18 => c 266 [v16, v18] h fun v19 h => pk k v19 h <| notF o v19 fun v20 => pickF o v14 v20 (.b false) fun v21 => f240_10 o c n k s2 s3 s5 v21 h) (pickF o v14 (.tup []) (.b false) fun v22 => f240_10 o c n k s2 s3 s5 v22 h))
theorem f240_9_ok : R Pq o c n (cB (cB (cB (cA (cA (cA (cB (cB (cB b240))))))))) (f240_7K o c n k w) = fun t _ h => f240_9 o c n k (t 2) (t 3) (t 5) (t 35) h := (c_cond (by kernel_rfl) rfl (kseq (f240_10_ok o c n k w) (r_start 3 (by kernel_rfl) (q_guard 3 9 (2, true) (by kernel_rfl) (by kernel_rfl) (by kernel_rfl) rfl)))).tk
noncomputable def f240_12K : Ex → K α := (nxK (fun t _ h => f240_9 o c n k (t 2) (t 3) (t 5) (t 35) h) (f240_7K o c n k w))
noncomputable def f240_14 (s2 s3 s5 s51 s56 s60 : AV) (h : Heap) : α :=
  bkF o true s51 (pickF o s56 (.b true) s60 fun v23 => pickF o s51 v23 (.b false) fun v24 => f240_9 o c n k s2 s3 s5 v24 h) (pickF o s51 (.tup []) (.b false) fun v25 => f240_9 o c n k s2 s3 s5 v25 h)
theorem f240_14_ok : Q Pq o c (cO (cA (cB (cB (cA (cA (cA (cB (cB (cB b240)))))))))) (f240_12K o c n k w) 12 = fun t _ h => f240_14 o c n k (t 2) (t 3) (t 5) (t 51) (t 56) (t 60) h := (q_seg 12 12 (by kernel_rfl) (q_guard 12 13 (2, true) (by kernel_rfl) (by kernel_rfl) (by kernel_rfl) rfl)).tk
noncomputable def f240_13 (s2 s3 s5 s51 s56 : AV) (h : Heap) : α :=
  bkF o false s56 (faF o 2 s2 fun v26 => load1F o h v26 fun v27 => lensF o v27 fun v28 => gtrF Pq o 3 v28 (.i .i64 1000) fun v29 => f240_14 o c n k s2 s3 s5 s51 s56 v29 h) (f240_14 o c n k s2 s3 s5 s51 s56 (.tup []) h)
theorem f240_13_ok : Q Pq o c (cO (cA (cB (cB (cA (cA (cA (cB (cB (cB b240)))))))))) (f240_12K o c n k w) 8 = fun t _ h => f240_13 o c n k (t 2) (t 3) (t 5) (t 51) (t 56) h := (q_seg 8 8 (by kernel_rfl) (q_guard 8 12 (7, false) (by kernel_rfl) (by kernel_rfl) (by kernel_rfl) (f240_14_ok o c n k w))).tk
noncomputable def f240_8 (s2 s3 s5 s35 : AV) (h : Heap) : α :=
  ifF o s35 (f240_6 o c n k s2 s3 s35 h) (faF o 1 s5 fun v30 => load1F o h v30 fun v31 => bkF o true v31 (faF o 2 s2 fun v32 => load1F o h v32 fun v33 => c 265 [v33] h fun v34 h => pk k v34 h <| notF o v34 fun v35 => f240_13 o c n k s2 s3 s5 v31 v35 h) (f240_13 o c n k s2 s3 s5 v31 (.tup []) h))
theorem f240_8_ok : R Pq o c n (cB (cA (cA (cA (cB (cB (cB b240))))))) (f240_7K o c n k w) = fun t _ h => f240_8 o c n k (t 2) (t 3) (t 5) (t 35) h := (c_cond (by kernel_rfl) rfl (kseq (f240_9_ok o c n k w) (r_start 3 (by kernel_rfl) (q_guard 3 8 (2, true) (by kernel_rfl) (by kernel_rfl) (by kernel_rfl) (f240_13_ok o c n k w))))).tk
noncomputable def f240_15K : Ex → K α := (nxK (fun t _ h => f240_8 o c n k (t 2) (t 3) (t 5) (t 35) h) (f240_7K o c n k w))
noncomputable def f240_17 (s2 s3 s5 s39 s43 s46 : AV) (h : Heap) : α :=
  bkF o false s39 (pickF o s43 s46 (.b false) fun v36 => pickF o s39 (.b true) v36 fun v37 => f240_8 o c n k s2 s3 s5 v37 h) (pickF o s39 (.b true) (.tup []) fun v38 => f240_8 o c n k s2 s3 s5 v38 h)
theorem f240_17_ok : Q Pq o c (cO (cA (cA (cA (cA (cB (cB (cB b240)))))))) (f240_15K o c n k w) 11 = fun t _ h => f240_17 o c n k (t 2) (t 3) (t 5) (t 39) (t 43) (t 46) h := (q_seg 11 11 (by kernel_rfl) (q_guard 11 12 (3, false) (by kernel_rfl) (by kernel_rfl) (by kernel_rfl) rfl)).tk
noncomputable def f240_16 (s2 s3 s5 s39 s43 : AV) (h : Heap) : α :=
  bkF o true s43 (faF o 1 s2 fun v39 => load1F o h v39 fun v40 => gtrF Pq o 21 v40 (.i .i32 1) fun v41 => f240_17 o c n k s2 s3 s5 s39 s43 v41 h) (f240_17 o c n k s2 s3 s5 s39 s43 (.tup []) h)
theorem f240_16_ok : Q Pq o c (cO (cA (cA (cA (cA (cB (cB (cB b240)))))))) (f240_15K o c n k w) 8 = fun t _ h => f240_16 o c n k (t 2) (t 3) (t 5) (t 39) (t 43) h := (q_seg 8 8 (by kernel_rfl) (q_guard 8 11 (7, true) (by kernel_rfl) (by kernel_rfl) (by kernel_rfl) (f240_17_ok o c n k w))).tk
noncomputable def f240_3 (s2 s3 s5 : AV) (h : Heap) : α :=
  faF o 1 s2 fun v42 => load1F o h v42 fun v43 => lssF Pq o 21 v43 (.i .i32 0) fun v44 => bkF o false v44 (faF o 0 s2 fun v45 => load1F o h v45 fun v46 => eqiF Pq o 3 v46 (.i .i64 2) fun v47 => f240_16 o c n k s2 s3 s5 v44 v47 h) (f240_16 o c n k s2 s3 s5 v44 (.tup []) h)
theorem f240_3_ok : R Pq o c n (cB (cB (cB b240))) (kend Pq o c n w rs240 k) = fun t _ h => f240_3 o c n k (t 2) (t 3) (t 5) h := (kseq (f240_4_ok o c n k w) (kblk (kseq (f240_6_ok o c n k w) (kseq (f240_8_ok o c n k w) (r_start 4 (by kernel_rfl) (q_guard 4 8 (3, false) (by kernel_rfl) (by kernel_rfl) (by kernel_rfl) (f240_16_ok o c n k w))))))).tk
noncomputable def f240_18K : Ex → K α := (nxK (fun t _ h => f240_3 o c n k (t 2) (t 3) (t 5) h) (kend Pq o c n w rs240 k))
noncomputable def f240_19 (s2 s3 s5 s34 : AV) (h : Heap) : α :=
  ifF o s34 (k (.b false) h) (f240_3 o c n k s2 s3 s5 h)
theorem f240_19_ok : R Pq o c n (cB (cA (cB (cB b240)))) (f240_18K o c n k w) = fun t _ h => f240_19 o c n k (t 2) (t 3) (t 5) (t 34) h := by kernel_rfl
noncomputable def f240_20K : Ex → K α := (nxK (fun t _ h => f240_19 o c n k (t 2) (t 3) (t 5) (t 34) h) (f240_18K o c n k w))
noncomputable def f240_21 (s2 s3 s5 s15 s17 : AV) (h : Heap) : α :=
  pickF o s15 (.b true) s17 fun v48 => bkF o false v48 (loadNF o h 7 s5 fun v49 => faF o 1 s2 fun v50 => load1F o h v50 fun v51 => faF o 2 s2 fun v52 => load1F o h v52 fun v53 => faF o 3 s2 fun v54 => load1F o h v54 fun v55 => faF o 4 s2 fun v56 => load1F o h v56 fun v57 => faF o 5 s2 fun v58 => load1F o h v58 fun v59 => lenF o v59 fun v60 => c 264 [v49, v51, v53, v55, v57, v60] h fun v61 h => pk k v61 h <| notF o v61 fun v62 => pickF o v48 (.b true) v62 fun v63 => f240_19 o c n k s2 s3 s5 v63 h) (pickF o v48 (.b true) (.tup []) fun v64 => f240_19 o c n k s2 s3 s5 v64 h)
theorem f240_21_ok : Q Pq o c (cO (cA (cA (cB (cB b240))))) (f240_20K o c n k w) 5 = fun t _ h => f240_21 o c n k (t 2) (t 3) (t 5) (t 15) (t 17) h := (q_seg 5 7 (by kernel_rfl) (q_guard 7 21 (6, false) (by kernel_rfl) (by kernel_rfl) (by kernel_rfl) rfl)).tk
noncomputable def f240_2 (s2 s3 s5 s6 : AV) (h : Heap) : α :=
  notF o s6 fun v65 => bkF o false v65 (load1F o h s3 fun v66 => gtrF Pq o 3 v66 (.i .i64 40) fun v67 => f240_21 o c n k s2 s3 s5 v65 v67 h) (f240_21 o c n k s2 s3 s5 v65 (.tup []) h)
theorem f240_2_ok : R Pq o c n (cB (cB b240)) (kend Pq o c n w rs240 k) = fun t _ h => f240_2 o c n k (t 2) (t 3) (t 5) (t 6) h := (kseq (f240_3_ok o c n k w) (kseq (f240_19_ok o c n k w) (r_start 3 (by kernel_rfl) (q_guard 3 5 (2, false) (by kernel_rfl) (by kernel_rfl) (by kernel_rfl) (f240_21_ok o c n k w))))).tk
noncomputable def f240_1 (s2 s3 : AV) (h : Heap) : α :=
  faF o 0 s2 fun v68 => load1F o h v68 fun v69 => c 263 [v69] h fun v70 h => pk k v70 h <| exF o v70 0 fun v71 => exF o v70 1 fun v72 => newF h h.next 7 [(.b false), (.b false), (.b false), (.b false), (.i .i64 0), (.i .i64 0), (.i .i64 0)] fun v73 h => storeF o h 7 v73 v71 fun h => f240_2 o c n k s2 s3 v73 v72 h
theorem f240_1_ok : R Pq o c n (cB b240) (kend Pq o c n w rs240 k) = fun t _ h => f240_1 o c n k (t 2) (t 3) h := (kseq (f240_2_ok o c n k w) rfl).tk
noncomputable def f240 (a0 a1 : AV) (h : Heap) : α :=
  boxF o a0 h h.next fun v74 h => boxF o a1 h h.next fun v75 h => f240_1 o c n k v74 v75 h
theorem f240_ok : R Pq o c n b240 (kend Pq o c n w rs240 k) = fun t _ h => f240 o c n k (t 0) (t 1) h := (kseq (f240_1_ok o c n k w) rfl).tk
theorem f240_good : Good Pq (cfg mm) 240 (entF Pq (cfg mm) 240 2 fun α => f240) := entG b240 rs240 86 fun _ => f240_ok
noncomputable def b244 := bdy Tryz.f244
noncomputable def rs244 := Tryz.f244.results.toList
noncomputable def f244 {α : Type} (o : α) (c : Call' α) (n : Nat) (k : AV → Heap → α) (a0 a1 : AV) (h : Heap) : α :=
  boxF o a0 h h.next fun v1 h => loadNF o h 1 v1 fun v2 => c 156 [v2, a1] h fun v3 h => pk k v3 h <| geqF Pq o 3 v3 (.i .i64 0) fun v4 => ifF o v4 (faF o 0 v1 fun v5 => load1F o h v5 fun v6 => ixF o 4 v6 v3 fun v7 => loadNF o h 4 v7 fun v8 => k (.ifc 96 v8) h) (k .nifc h)
theorem f244_ok : R Pq o c n b244 (kend Pq o c n w rs244 k) = fun t _ h => f244 o c n k (t 0) (t 1) h := by kernel_rfl
theorem f244_good : Good Pq (cfg mm) 244 (entF Pq (cfg mm) 244 2 fun α => f244) := entG b244 rs244 17 fun _ => f244_ok
noncomputable def b246 := bdy Tryz.f246
noncomputable def rs246 := Tryz.f246.results.toList
noncomputable def f246 {α : Type} (o : α) (c : Call' α) (n : Nat) (k : AV → Heap → α) (a0 a1 : AV) (h : Heap) : α :=
  boxF o a0 h h.next fun v1 h => loadNF o h 1 v1 fun v2 => c 271 [v2, a1] h fun v3 h => pk k v3 h <| assertA Pq o v3 96 true fun v4 => exF o v4 0 fun v5 => exF o v4 1 fun v6 => newF h h.next 4 [(.s 0 0), (.s 0 0), .nsl, .nsl] fun v7 h => storeF o h 4 v7 v5 fun h => notF o v6 fun v8 => ifF o v8 (k .nsl h) (faF o 3 v7 fun v9 => load1F o h v9 fun v10 => k v10 h)
theorem f246_ok : R Pq o c n b246 (kend Pq o c n w rs246 k) = fun t _ h => f246 o c n k (t 0) (t 1) h := by kernel_rfl
theorem f246_good : Good Pq (cfg mm) 246 (entF Pq (cfg mm) 246 2 fun α => f246) := entG b246 rs246 18 fun _ => f246_ok
noncomputable def b248 := bdy Tryz.f248
noncomputable def rs248 := Tryz.f248.results.toList
noncomputable def f248_4K : Ex → K α := (nxK (R Pq o c n (cB (cB (cB (cB b248)))) (kend Pq o c n w rs248 k)) (kend Pq o c n w rs248 k))
noncomputable def f248_6 {α : Type} (o : α) (c : Call' α) (n : Nat) (k : AV → Heap → α) (m : Nat) : AVs (Heap → α) 7 :=
  Nat.rec (motive := fun _ => AVs (Heap → α) 7) (fun _ _ _ _ _ _ _ _ => o) (fun _ lp0 s3 s4 s9 s10 s16 s17 s18 h => lssF Pq o 3 s18 s17 fun v1 => ifF o v1 (ixF o 8 s16 s18 fun v2 => loadNF o h 8 v2 fun v3 => newF h h.next 8 [(.i .i64 0), (.i .i32 0), (.s 0 0), (.s 0 0), (.s 0 0), .nsl, (.s 0 0), (.i .i64 0)] fun v4 h => storeF o h 8 v4 v3 fun h => loadNF o h 1 s3 fun v5 => loadNF o h 3 s4 fun v6 => loadNF o h 8 v4 fun v7 => c 215 [v5, v6, v7] h fun v8 h => pk k v8 h <| exF o v8 0 fun v9 => exF o v8 1 fun v10 => exF o v8 2 fun v11 => newF h h.next 8 [(.i .i64 0), (.i .i32 0), (.s 0 0), (.s 0 0), (.s 0 0), .nsl, (.s 0 0), (.i .i64 0)] fun v12 h => storeF o h 8 v12 v9 fun h => neiF Pq o 3 v11 (.i .i64 0) fun v13 => ifF o v13 (k (.tup [.nsl, .nsl, v11]) h) (loadNF o h 8 v12 fun v14 => fil1 o 8 1 0 v14 [[(.i .i64 0), (.i .i32 0), (.s 0 0), (.s 0 0), (.s 0 0), .nsl, (.s 0 0), (.i .i64 0)]] fun v15 => newEF h h.next 8 1 v15 fun v16 h => appX Pq o h h.next 123 123 s9 v16 fun v17 h => fil1 o 1 1 0 v10 [[(.s 0 0)]] fun v18 => newEF h h.next 1 1 v18 fun v19 h => appX Pq o h h.next 25 25 s10 v19 fun v20 h => addF Pq o 3 s18 (.i .i64 1) fun v21 => lp0 s3 s4 v17 v20 s16 s17 v21 h)) (k (.tup [s9, s10, (.i .i64 0)]) h)) m
theorem f248_6_ok : R Pq o c n (cA (cB (cA (cB (cB (cB b248)))))) (blockK (cI (cB (cA (cB (cB (cB b248)))))) (f248_4K o c n k w)) = fun t _ h => f248_6 o c n k n (t 3) (t 4) (t 9) (t 10) (t 16) (t 17) (t 18) h :=
  c_loop (F := fun m t _ h => f248_6 o c n k m (t 3) (t 4) (t 9) (t 10) (t 16) (t 17) (t 18) h) (by kernel_rfl) (by kernel_rfl) fun m => by kernel_rfl
noncomputable def f248_5 (s3 s4 s9 s10 s16 s17 s18 : AV) (h : Heap) : α :=
  f248_6 o c n k n s3 s4 s9 s10 s16 s17 s18 h
theorem f248_5_ok : R Pq o c n (cB (cA (cB (cB (cB b248))))) (f248_4K o c n k w) = fun t _ h => f248_5 o c n k (t 3) (t 4) (t 9) (t 10) (t 16) (t 17) (t 18) h := (kblk (f248_6_ok o c n k w)).tk
noncomputable def f248_3 (s2 s3 s4 s9 s10 : AV) (h : Heap) : α :=
  lenF o s2 fun v22 => f248_5 o c n k s3 s4 s9 s10 s2 v22 (.i .i64 0) h
theorem f248_3_ok : R Pq o c n (cB (cB (cB b248))) (kend Pq o c n w rs248 k) = fun t _ h => f248_3 o c n k (t 2) (t 3) (t 4) (t 9) (t 10) h := (kseq rfl (kseq (f248_5_ok o c n k w) rfl)).tk
noncomputable def f248_2 (s2 s3 s4 s9 : AV) (h : Heap) : α :=
  f248_3 o c n k s2 s3 s4 s9 .nsl h
theorem f248_2_ok : R Pq o c n (cB (cB b248)) (kend Pq o c n w rs248 k) = fun t _ h => f248_2 o c n k (t 2) (t 3) (t 4) (t 9) h := (kseq (f248_3_ok o c n k w) rfl).tk
noncomputable def f248_1 (s2 s3 s4 : AV) (h : Heap) : α :=
  f248_2 o c n k s2 s3 s4 .nsl h
theorem f248_1_ok : R Pq o c n (cB b248) (kend Pq o c n w rs248 k) = fun t _ h => f248_1 o c n k (t 2) (t 3) (t 4) h := (kseq (f248_2_ok o c n k w) rfl).tk
noncomputable def f248 (a0 a1 a2 : AV) (h : Heap) : α :=
  boxF o a0 h h.next fun v23 h => boxF o a1 h h.next fun v24 h => f248_1 o c n k a2 v23 v24 h
theorem f248_ok : R Pq o c n b248 (kend Pq o c n w rs248 k) = fun t _ h => f248 o c n k (t 0) (t 1) (t 2) h := (kseq (f248_1_ok o c n k w) rfl).tk
theorem f248_good : Good Pq (cfg mm) 248 (entF Pq (cfg mm) 248 3 fun α => f248) := entG b248 rs248 44 fun _ => f248_ok
noncomputable def b250 := bdy Tryz.f250
noncomputable def rs250 := Tryz.f250.results.toList
noncomputable def f250_5K : Ex → K α := (nxK (R Pq o c n (cB (cB (cB (cB (cB b250))))) (kend Pq o c n w rs250 k)) (kend Pq o c n w rs250 k))
noncomputable def f250_7 {α : Type} (o : α) (c : Call' α) (n : Nat) (k : AV → Heap → α) (m : Nat) : AVs (Heap → α) 4 :=
  Nat.rec (motive := fun _ => AVs (Heap → α) 4) (fun _ _ _ _ _ => o) (fun _ lp0 s6 s25 s26 s27 h => lssF Pq o 3 s27 s26 fun v1 => ifF o v1 (ixF o 1 s25 s27 fun v2 => load1F o h v2 fun v3 => appX Pq o h h.next 111 111 s6 v3 fun v4 h => addF Pq o 3 s27 (.i .i64 1) fun v5 => lp0 v4 s25 s26 v5 h) (k s6 h)) m
theorem f250_7_ok : R Pq o c n (cA (cB (cA (cB (cB (cB (cB b250))))))) (blockK (cI (cB (cA (cB (cB (cB (cB b250))))))) (f250_5K o c n k w)) = fun t _ h => f250_7 o c n k n (t 6) (t 25) (t 26) (t 27) h :=
  c_loop (F := fun m t _ h => f250_7 o c n k m (t 6) (t 25) (t 26) (t 27) h) (by kernel_rfl) (by kernel_rfl) fun m => by kernel_rfl
noncomputable def f250_6 (s6 s25 s26 s27 : AV) (h : Heap) : α :=
  f250_7 o c n k n s6 s25 s26 s27 h
theorem f250_6_ok : R Pq o c n (cB (cA (cB (cB (cB (cB b250)))))) (f250_5K o c n k w) = fun t _ h => f250_6 o c n k (t 6) (t 25) (t 26) (t 27) h := (kblk (f250_7_ok o c n k w)).tk
noncomputable def f250_4 (s0 s6 : AV) (h : Heap) : α :=
  lenF o s0 fun v6 => f250_6 o c n k s6 s0 v6 (.i .i64 0) h
theorem f250_4_ok : R Pq o c n (cB (cB (cB (cB b250)))) (kend Pq o c n w rs250 k) = fun t _ h => f250_4 o c n k (t 0) (t 6) h := (kseq rfl (kseq (f250_6_ok o c n k w) rfl)).tk
noncomputable def f250_3 (s0 s3 : AV) (h : Heap) : α :=
  c 280 [.nsl, s3] h fun v7 h => pk k v7 h <| f250_4 o c n k s0 v7 h
theorem f250_3_ok : R Pq o c n (cB (cB (cB b250))) (kend Pq o c n w rs250 k) = fun t _ h => f250_3 o c n k (t 0) (t 3) h := (kseq (f250_4_ok o c n k w) rfl).tk
noncomputable def f250_8K : Ex → K α := (nxK (fun t _ h => f250_3 o c n k (t 0) (t 3) h) (kend Pq o c n w rs250 k))
noncomputable def f250_10 (m : Nat) : AVs (Heap → α) 5 :=
  Nat.rec (motive := fun _ => AVs (Heap → α) 5) (fun _ _ _ _ _ _ => o) (fun _ lp0 s0 s3 s9 s10 s11 h => lssF Pq o 3 s11 s10 fun v8 => ifF o v8 (ixF o 1 s9 s11 fun v9 => load1F o h v9 fun v10 => lenF o v10 fun v11 => addF Pq o 3 s3 v11 fun v12 => lssF Pq o 3 v12 (.i .i64 0) fun v13 => ifF o v13 (panicA o (.ifc 9 (.s 16 134789072936214216453580009062074836332)) fun x => k x.pn h) (addF Pq o 3 s11 (.i .i64 1) fun v14 => lp0 s0 v12 s9 s10 v14 h)) (f250_3 o c n k s0 s3 h)) m
theorem f250_10_ok : R Pq o c n (cA (cB (cA (cB (cB b250))))) (blockK (cI (cB (cA (cB (cB b250))))) (f250_8K o c n k w)) = fun t _ h => f250_10 o c n k n (t 0) (t 3) (t 9) (t 10) (t 11) h :=
  c_loop (F := fun m t _ h => f250_10 o c n k m (t 0) (t 3) (t 9) (t 10) (t 11) h) (by kernel_rfl) (by kernel_rfl) fun m => by kernel_rfl
noncomputable def f250_9 (s0 s3 s9 s10 s11 : AV) (h : Heap) : α :=
  f250_10 o c n k n s0 s3 s9 s10 s11 h
theorem f250_9_ok : R Pq o c n (cB (cA (cB (cB b250)))) (f250_8K o c n k w) = fun t _ h => f250_9 o c n k (t 0) (t 3) (t 9) (t 10) (t 11) h := (kblk (f250_10_ok o c n k w)).tk
noncomputable def f250_2 (s0 s3 : AV) (h : Heap) : α :=
  lenF o s0 fun v15 => f250_9 o c n k s0 s3 s0 v15 (.i .i64 0) h
theorem f250_2_ok : R Pq o c n (cB (cB b250)) (kend Pq o c n w rs250 k) = fun t _ h => f250_2 o c n k (t 0) (t 3) h := (kseq (f250_3_ok o c n k w) (kseq (f250_9_ok o c n k w) rfl)).tk
noncomputable def f250_1 (s0 : AV) (h : Heap) : α :=
  f250_2 o c n k s0 (.i .i64 0) h
theorem f250_1_ok : R Pq o c n (cB b250) (kend Pq o c n w rs250 k) = fun t _ h => f250_1 o c n k (t 0) h := (kseq (f250_2_ok o c n k w) rfl).tk
noncomputable def f250 (a0 : AV) (h : Heap) : α :=
  f250_1 o c n k a0 h
theorem f250_ok : R Pq o c n b250 (kend Pq o c n w rs250 k) = fun t _ h => f250 o c n k (t 0) h := (kseq (f250_1_ok o c n k w) rfl).tk
theorem f250_good : Good Pq (cfg mm) 250 (entF Pq (cfg mm) 250 1 fun α => f250) := entG b250 rs250 36 fun _ => f250_ok
noncomputable def b257 := bdy Tryz.f257
noncomputable def rs257 := Tryz.f257.results.toList
noncomputable def f257 {α : Type} (o : α) (c : Call' α) (n : Nat) (k : AV → Heap → α) (a0 a1 : AV) (h : Heap) : α :=
  boxF o a1 h h.next fun v1 h => newF h h.next 8 [(.i .i64 0), (.i .i32 0), (.s 0 0), (.s 0 0), (.s 0 0), .nsl, (.s 0 0), (.i .i64 0)] fun v2 h => dreg o h 16 fun base h => nilChk o a0 fun v3 => faF o 0 v3 fun v4 => rootF o v4 a0 <| loadNF o (h.look 7) 1 v4 fun v5 => nilChk o a0 fun v6 => faF o 7 v6 fun v7 => rootF o v7 a0 <| loadNF o (h.look 112) 3 v7 fun v8 => loadNF o (h.look 0) 8 v1 fun v9 => callD o c [] 145 [v5, v8, v9] (h.look 0) fun v10 h => pnF v10 (fun x => hb h.shut fun hd => k x.pn hd) <| exF o v10 0 fun v11 => exF o v10 1 fun v12 => exF o v10 2 fun v13 => storeF o (h.look 8191) 8 v2 v11 fun h => hb h.shut fun h => on o (resV Pq h [(v2, some 127), (v12, none), (v13, none)]) fun v => k v h
theorem f257_ok : R Pq o c n b257 (kend Pq o c n w rs257 k) = fun t _ h => f257 o c n k (t 0) (t 1) h := by kernel_rfl
theorem f257_good : Good Pq (cfg mm) 257 (entF Pq (cfg mm) 257 2 fun α => f257) := entG b257 rs257 20 fun _ => f257_ok
noncomputable def b262 := bdy Tryz.f262
noncomputable def rs262 := Tryz.f262.results.toList
noncomputable def f262_2K : Ex → K α := (nxK (R Pq o c n (cB (cB b262)) (kend Pq o c n w rs262 k)) (kend Pq o c n w rs262 k))
noncomputable def f262_4 {α : Type} (o : α) (c : Call' α) (n : Nat) (k : AV → Heap → α) (m : Nat) : AVs (Heap → α) 4 :=
  Nat.rec (motive := fun _ => AVs (Heap → α) 4) (fun _ _ _ _ _ => o) (fun _ lp0 s0 s1 s7 s8 h => lssF Pq o 3 s8 s7 fun v1 => ifF o v1 (ixF o 8 s0 s8 fun v2 => loadNF o h 8 v2 fun v3 => cfF o s1 [v3] c h fun v4 h => pk k v4 h <| ifF o v4 (k s8 h) (addF Pq o 3 s8 (.i .i64 1) fun v5 => lp0 s0 s1 s7 v5 h)) (k (.i .i64 (-1)) h)) m
theorem f262_4_ok : R Pq o c n (cA (cB (cA (cB b262)))) (blockK (cI (cB (cA (cB b262)))) (f262_2K o c n k w)) = fun t _ h => f262_4 o c n k n (t 0) (t 1) (t 7) (t 8) h :=
  c_loop (F := fun m t _ h => f262_4 o c n k m (t 0) (t 1) (t 7) (t 8) h) (by kernel_rfl) (by kernel_rfl) fun m => by kernel_rfl
noncomputable def f262_3 (s0 s1 s7 s8 : AV) (h : Heap) : α :=
  f262_4 o c n k n s0 s1 s7 s8 h
theorem f262_3_ok : R Pq o c n (cB (cA (cB b262))) (f262_2K o c n k w) = fun t _ h => f262_3 o c n k (t 0) (t 1) (t 7) (t 8) h := (kblk (f262_4_ok o c n k w)).tk
noncomputable def f262_1 (s0 s1 : AV) (h : Heap) : α :=
  lenF o s0 fun v6 => f262_3 o c n k s0 s1 v6 (.i .i64 0) h
theorem f262_1_ok : R Pq o c n (cB b262) (kend Pq o c n w rs262 k) = fun t _ h => f262_1 o c n k (t 0) (t 1) h := (kseq rfl (kseq (f262_3_ok o c n k w) rfl)).tk
noncomputable def f262 (a0 a1 : AV) (h : Heap) : α :=
  f262_1 o c n k a0 a1 h
theorem f262_ok : R Pq o c n b262 (kend Pq o c n w rs262 k) = fun t _ h => f262 o c n k (t 0) (t 1) h := (kseq (f262_1_ok o c n k w) rfl).tk
theorem f262_good : Good Pq (cfg mm) 262 (entF Pq (cfg mm) 262 2 fun α => f262) := entG b262 rs262 19 fun _ => f262_ok
noncomputable def b263 := bdy Tryz.f263
noncomputable def rs263 := Tryz.f263.results.toList
noncomputable def f263 {α : Type} (o : α) (c : Call' α) (n : Nat) (k : AV → Heap → α) (a0 : AV) (h : Heap) : α :=
  newF h h.next 7 [(.b false), (.b false), (.b false), (.b false), (.i .i64 0), (.i .i64 0), (.i .i64 0)] fun v1 h => mapA h h.next fun v2 h => layF o 0 (.b true) [(.b false), (.b false), (.b false), (.b false), (.i .i64 0), (.i .i64 0), (.i .i64 0)] fun v3 => insertN o h .i64 v2 (.i .i64 1) (.agg v3) fun h => layF o 0 (.b true) [(.b false), (.b false), (.b false), (.b false), (.i .i64 0), (.i .i64 0), (.i .i64 0)] fun v4 => insertN o h .i64 v2 (.i .i64 2) (.agg v4) fun h => layF o 1 (.b true) [(.b false), (.b false), (.b false), (.b false), (.i .i64 0), (.i .i64 0), (.i .i64 0)] fun v5 => insertN o h .i64 v2 (.i .i64 3) (.agg v5) fun h => insertN o h .i64 v2 (.i .i64 4) (.agg [(.b false), (.b false), (.b false), (.b false), (.i .i64 0), (.i .i64 0), (.i .i64 0)]) fun h => insertN o h .i64 v2 (.i .i64 5) (.agg [(.b false), (.b false), (.b false), (.b false), (.i .i64 0), (.i .i64 0), (.i .i64 0)]) fun h => layF o 2 (.b true) [(.b false), (.b false), (.b false), (.b false), (.i .i64 0), (.i .i64 0), (.i .i64 0)] fun v6 => insertN o h .i64 v2 (.i .i64 6) (.agg v6) fun h => layF o 2 (.b true) [(.b false), (.b false), (.b false), (.b false), (.i .i64 0), (.i .i64 0), (.i .i64 0)] fun v7 => layF o 4 (.i .i64 1) v7 fun v8 => layF o 5 (.i .i64 1) v8 fun v9 => insertN o h .i64 v2 (.i .i64 7) (.agg v9) fun h => layF o 2 (.b true) [(.b false), (.b false), (.b false), (.b false), (.i .i64 0), (.i .i64 0), (.i .i64 0)] fun v10 => insertN o h .i64 v2 (.i .i64 8) (.agg v10) fun h => layF o 2 (.b true) [(.b false), (.b false), (.b false), (.b false), (.i .i64 0), (.i .i64 0), (.i .i64 0)] fun v11 => layF o 3 (.b true) v11 fun v12 => insertN o h .i64 v2 (.i .i64 9) (.agg v12) fun h => layF o 2 (.b true) [(.b false), (.b false), (.b false), (.b false), (.i .i64 0), (.i .i64 0), (.i .i64 0)] fun v13 => layF o 4 (.i .i64 1) v13 fun v14 => layF o 5 (.i .i64 3000) v14 fun v15 => insertN o h .i64 v2 (.i .i64 10) (.agg v15) fun h => layF o 2 (.b true) [(.b false), (.b false), (.b false), (.b false), (.i .i64 0), (.i .i64 0), (.i .i64 0)] fun v16 => layF o 5 (.i .i64 3000) v16 fun v17 => insertN o h .i64 v2 (.i .i64 11) (.agg v17) fun h => layF o 2 (.b true) [(.b false), (.b false), (.b false), (.b false), (.i .i64 0), (.i .i64 0), (.i .i64 0)] fun v18 => layF o 5 (.i .i64 3000) v18 fun v19 => insertN o h .i64 v2 (.i .i64 12) (.agg v19) fun h => layF o 2 (.b true) [(.b false), (.b false), (.b false), (.b false), (.i .i64 0), (.i .i64 0), (.i .i64 0)] fun v20 => layF o 3 (.b true) v20 fun v21 => layF o 5 (.i .i64 3000) v21 fun v22 => insertN o h .i64 v2 (.i .i64 13) (.agg v22) fun h => layF o 3 (.b true) [(.b false), (.b false), (.b false), (.b false), (.i .i64 0), (.i .i64 0), (.i .i64 0)] fun v23 => layF o 5 (.i .i64 3000) v23 fun v24 => insertN o h .i64 v2 (.i .i64 14) (.agg v24) fun h => layF o 3 (.b true) [(.b false), (.b false), (.b false), (.b false), (.i .i64 0), (.i .i64 0), (.i .i64 0)] fun v25 => layF o 4 (.i .i64 1) v25 fun v26 => layF o 5 (.i .i64 1) v26 fun v27 => insertN o h .i64 v2 (.i .i64 15) (.agg v27) fun h => layF o 3 (.b true) [(.b false), (.b false), (.b false), (.b false), (.i .i64 0), (.i .i64 0), (.i .i64 0)] fun v28 => layF o 4 (.i .i64 1) v28 fun v29 => layF o 5 (.i .i64 1) v29 fun v30 => insertN o h .i64 v2 (.i .i64 16) (.agg v30) fun h => layF o 2 (.b true) [(.b false), (.b false), (.b false), (.b false), (.i .i64 0), (.i .i64 0), (.i .i64 0)] fun v31 => layF o 4 (.i .i64 2) v31 fun v32 => layF o 5 (.i .i64 2) v32 fun v33 => insertN o h .i64 v2 (.i .i64 17) (.agg v33) fun h => layF o 2 (.b true) [(.b false), (.b false), (.b false), (.b false), (.i .i64 0), (.i .i64 0), (.i .i64 0)] fun v34 => layF o 4 (.i .i64 1) v34 fun v35 => layF o 5 (.i .i64 1) v35 fun v36 => insertN o h .i64 v2 (.i .i64 18) (.agg v36) fun h => lookupN o h .i64 (some (.agg [(.b false), (.b false), (.b false), (.b false), (.i .i64 0), (.i .i64 0), (.i .i64 0)])) v2 a0 true fun v37 => exF o v37 0 fun v38 => exF o v37 1 fun v39 => newF h h.next 7 [(.b false), (.b false), (.b false), (.b false), (.i .i64 0), (.i .i64 0), (.i .i64 0)] fun v40 h => storeF o h 7 v40 v38 fun h => loadNF o h 7 v40 fun v41 => storeF o h 7 v1 v41 fun h => on o (resV Pq h [(v1, some 274), (v39, none)]) fun v => k v h
theorem f263_ok : R Pq o c n b263 (kend Pq o c n w rs263 k) = fun t _ h => f263 o c n k (t 0) h := by kernel_rfl
theorem f263_good : Good Pq (cfg mm) 263 (entF Pq (cfg mm) 263 1 fun α => f263) := entG b263 rs263 35 fun _ => f263_ok
noncomputable def b264 := bdy Tryz.f264
noncomputable def rs264 := Tryz.f264.results.toList
noncomputable def f264_2K : Ex → K α := (nxK (R Pq o c n (cB (cB b264)) (kend Pq o c n w rs264 k)) (kend Pq o c n w rs264 k))
noncomputable def f264_9 {α : Type} (o : α) (c : Call' α) (n : Nat) (k : AV → Heap → α) (s5 s6 s41 s45 : AV) (h : Heap) : α :=
  pickF o s41 s45 (.b false) fun v1 => bkF o true v1 (faF o 5 s6 fun v2 => load1F o h v2 fun v3 => leqF Pq o 3 s5 v3 fun v4 => pickF o v1 v4 (.b false) fun v5 => k v5 h) (pickF o v1 (.tup []) (.b false) fun v6 => k v6 h)
theorem f264_9_ok : Q Pq o c (cO (cA (cB b264))) (f264_2K o c n k w) 33 = fun t _ h => f264_9 o c n k (t 5) (t 6) (t 41) (t 45) h := (q_seg 33 35 (by kernel_rfl) (q_guard 35 39 (34, true) (by kernel_rfl) (by kernel_rfl) (by kernel_rfl) rfl)).tk
noncomputable def f264_8 (s5 s6 s34 s39 : AV) (h : Heap) : α :=
  pickF o s34 s39 (.b false) fun v7 => bkF o true v7 (faF o 4 s6 fun v8 => load1F o h v8 fun v9 => geqF Pq o 3 s5 v9 fun v10 => f264_9 o c n k s5 s6 v7 v10 h) (f264_9 o c n k s5 s6 v7 (.tup []) h)
theorem f264_8_ok : Q Pq o c (cO (cA (cB b264))) (f264_2K o c n k w) 27 = fun t _ h => f264_8 o c n k (t 5) (t 6) (t 34) (t 39) h := (q_seg 27 29 (by kernel_rfl) (q_guard 29 33 (28, true) (by kernel_rfl) (by kernel_rfl) (by kernel_rfl) (f264_9_ok o c n k w))).tk
noncomputable def f264_7 (s4 s5 s6 s27 s32 : AV) (h : Heap) : α :=
  pickF o s27 s32 (.b false) fun v11 => bkF o true v11 (faF o 3 s6 fun v12 => load1F o h v12 fun v13 => nesF Pq o 9 s4 (.s 0 0) fun v14 => eqiF Pq o 4 v13 v14 fun v15 => f264_8 o c n k s5 s6 v11 v15 h) (f264_8 o c n k s5 s6 v11 (.tup []) h)
theorem f264_7_ok : Q Pq o c (cO (cA (cB b264))) (f264_2K o c n k w) 20 = fun t _ h => f264_7 o c n k (t 4) (t 5) (t 6) (t 27) (t 32) h := (q_seg 20 22 (by kernel_rfl) (q_guard 22 27 (21, true) (by kernel_rfl) (by kernel_rfl) (by kernel_rfl) (f264_8_ok o c n k w))).tk
noncomputable def f264_6 (s3 s4 s5 s6 s19 s25 : AV) (h : Heap) : α :=
  pickF o s19 s25 (.b false) fun v16 => bkF o true v16 (faF o 2 s6 fun v17 => load1F o h v17 fun v18 => nesF Pq o 9 s3 (.s 0 0) fun v19 => eqiF Pq o 4 v18 v19 fun v20 => f264_7 o c n k s4 s5 s6 v16 v20 h) (f264_7 o c n k s4 s5 s6 v16 (.tup []) h)
theorem f264_6_ok : Q Pq o c (cO (cA (cB b264))) (f264_2K o c n k w) 13 = fun t _ h => f264_6 o c n k (t 3) (t 4) (t 5) (t 6) (t 19) (t 25) h := (q_seg 13 15 (by kernel_rfl) (q_guard 15 20 (14, true) (by kernel_rfl) (by kernel_rfl) (by kernel_rfl) (f264_7_ok o c n k w))).tk
noncomputable def f264_5 (s3 s4 s5 s6 s19 s22 s24 : AV) (h : Heap) : α :=
  bkF o true s19 (pickF o s22 (.b true) s24 fun v21 => f264_6 o c n k s3 s4 s5 s6 s19 v21 h) (f264_6 o c n k s3 s4 s5 s6 s19 (.tup []) h)
theorem f264_5_ok : Q Pq o c (cO (cA (cB b264))) (f264_2K o c n k w) 12 = fun t _ h => f264_5 o c n k (t 3) (t 4) (t 5) (t 6) (t 19) (t 22) (t 24) h := (q_seg 12 12 (by kernel_rfl) (q_guard 12 13 (6, true) (by kernel_rfl) (by kernel_rfl) (by kernel_rfl) (f264_6_ok o c n k w))).tk
noncomputable def f264_4 (s2 s3 s4 s5 s6 s19 s22 : AV) (h : Heap) : α :=
  bkF o false s22 (eqsF Pq o 9 s2 (.s 0 0) fun v22 => f264_5 o c n k s3 s4 s5 s6 s19 s22 v22 h) (f264_5 o c n k s3 s4 s5 s6 s19 s22 (.tup []) h)
theorem f264_4_ok : Q Pq o c (cO (cA (cB b264))) (f264_2K o c n k w) 10 = fun t _ h => f264_4 o c n k (t 2) (t 3) (t 4) (t 5) (t 6) (t 19) (t 22) h := (q_seg 10 10 (by kernel_rfl) (q_guard 10 12 (9, false) (by kernel_rfl) (by kernel_rfl) (by kernel_rfl) (f264_5_ok o c n k w))).tk
noncomputable def f264_3 (s2 s3 s4 s5 s6 s15 s17 : AV) (h : Heap) : α :=
  pickF o s15 (.b true) s17 fun v23 => bkF o true v23 (faF o 1 s6 fun v24 => load1F o h v24 fun v25 => f264_4 o c n k s2 s3 s4 s5 s6 v23 v25 h) (f264_4 o c n k s2 s3 s4 s5 s6 v23 (.tup []) h)
theorem f264_3_ok : Q Pq o c (cO (cA (cB b264))) (f264_2K o c n k w) 5 = fun t _ h => f264_3 o c n k (t 2) (t 3) (t 4) (t 5) (t 6) (t 15) (t 17) h := (q_seg 5 7 (by kernel_rfl) (q_guard 7 10 (6, true) (by kernel_rfl) (by kernel_rfl) (by kernel_rfl) (f264_4_ok o c n k w))).tk
noncomputable def f264_1 (s1 s2 s3 s4 s5 s6 : AV) (h : Heap) : α :=
  faF o 0 s6 fun v26 => load1F o h v26 fun v27 => bkF o false v27 (eqiF Pq o 21 s1 (.i .i32 0) fun v28 => f264_3 o c n k s2 s3 s4 s5 s6 v27 v28 h) (f264_3 o c n k s2 s3 s4 s5 s6 v27 (.tup []) h)
theorem f264_1_ok : R Pq o c n (cB b264) (kend Pq o c n w rs264 k) = fun t _ h => f264_1 o c n k (t 1) (t 2) (t 3) (t 4) (t 5) (t 6) h := (kseq rfl (r_start 3 (by kernel_rfl) (q_guard 3 5 (2, false) (by kernel_rfl) (by kernel_rfl) (by kernel_rfl) (f264_3_ok o c n k w)))).tk
noncomputable def f264 (a0 a1 a2 a3 a4 a5 : AV) (h : Heap) : α :=
  boxF o a0 h h.next fun v29 h => f264_1 o c n k a1 a2 a3 a4 a5 v29 h
theorem f264_ok : R Pq o c n b264 (kend Pq o c n w rs264 k) = fun t _ h => f264 o c n k (t 0) (t 1) (t 2) (t 3) (t 4) (t 5) h := (kseq (f264_1_ok o c n k w) rfl).tk
theorem f264_good : Good Pq (cfg mm) 264 (entF Pq (cfg mm) 264 6 fun α => f264) := entG b264 rs264 53 fun _ => f264_ok
noncomputable def b266 := bdy Tryz.f266
noncomputable def rs266 := Tryz.f266.results.toList
noncomputable def f266 {α : Type} (o : α) (c : Call' α) (n : Nat) (k : AV → Heap → α) (a0 a1 : AV) (h : Heap) : α :=
  eqiF Pq o 3 a0 (.i .i64 17) fun v1 => ifF o v1 (c 293 [a1] h fun v2 h => pk k v2 h <| k v2 h) (eqiF Pq o 3 a0 (.i .i64 18) fun v3 => ifF o v3 (c 294 [a1] h fun v4 h => pk k v4 h <| k v4 h) (c 28 [a1] h fun v5 h => pk k v5 h <| k v5 h))
theorem f266_ok : R Pq o c n b266 (kend Pq o c n w rs266 k) = fun t _ h => f266 o c n k (t 0) (t 1) h := by kernel_rfl
theorem f266_good : Good Pq (cfg mm) 266 (entF Pq (cfg mm) 266 2 fun α => f266) := entG b266 rs266 16 fun _ => f266_ok
noncomputable def b271 := bdy Tryz.f271
noncomputable def rs271 := Tryz.f271.results.toList
noncomputable def f271 {α : Type} (o : α) (c : Call' α) (n : Nat) (k : AV → Heap → α) (a0 a1 : AV) (h : Heap) : α :=
  boxF o a0 h h.next fun v1 h => loadNF o h 1 v1 fun v2 => c 156 [v2, a1] h fun v3 h => pk k v3 h <| geqF Pq o 3 v3 (.i .i64 0) fun v4 => ifF o v4 (faF o 0 v1 fun v5 => load1F o h v5 fun v6 => ixF o 4 v6 v3 fun v7 => loadNF o h 4 v7 fun v8 => k (.ifc 96 v8) h) (k .nifc h)
theorem f271_ok : R Pq o c n b271 (kend Pq o c n w rs271 k) = fun t _ h => f271 o c n k (t 0) (t 1) h := by kernel_rfl
theorem f271_good : Good Pq (cfg mm) 271 (entF Pq (cfg mm) 271 2 fun α => f271) := entG b271 rs271 17 fun _ => f271_ok
noncomputable def b272 := bdy Tryz.f272
noncomputable def rs272 := Tryz.f272.results.toList
noncomputable def f272 {α : Type} (o : α) (c : Call' α) (n : Nat) (k : AV → Heap → α) (a0 : AV) (h : Heap) : α :=
  layF o 0 a0 [(.s 0 0), (.s 0 0), (.i .i64 0), (.i .i64 0)] fun v1 => k (.ifc 263 (.agg v1)) h
theorem f272_ok : R Pq o c n b272 (kend Pq o c n w rs272 k) = fun t _ h => f272 o c n k (t 0) h := by kernel_rfl
theorem f272_good : Good Pq (cfg mm) 272 (entF Pq (cfg mm) 272 1 fun α => f272) := entG b272 rs272 6 fun _ => f272_ok
noncomputable def b280 := bdy Tryz.f280
noncomputable def rs280 := Tryz.f280.results.toList
noncomputable def f280_3 {α : Type} (o : α) (c : Call' α) (n : Nat) (k : AV → Heap → α) (s0 : AV) (h : Heap) : α :=
  k s0 h
theorem f280_3_ok : R Pq o c n (cB (cB (cB b280))) (kend Pq o c n w rs280 k) = fun t _ h => f280_3 o c n k (t 0) h := by kernel_rfl
noncomputable def f280_2 (s0 s1 : AV) (h : Heap) : α :=
  capN o s0 fun v1 => lenF o s0 fun v2 => binA Pq o .sub 3 v1 v2 fun v3 => binA Pq o .sub 3 s1 v3 fun v4 => gtrF Pq o 3 v4 (.i .i64 0) fun v5 => ifF o v5 (capN o s0 fun v6 => slF Pq o 111 s0 none (some v6) fun v7 => appX Pq o h h.next 111 3 v7 v4 fun v8 h => lenF o s0 fun v9 => slF Pq o 111 v8 none (some v9) fun v10 => f280_3 o c n k v10 h) (f280_3 o c n k s0 h)
theorem f280_2_ok : R Pq o c n (cB (cB b280)) (kend Pq o c n w rs280 k) = fun t _ h => f280_2 o c n k (t 0) (t 1) h := (kseq (f280_3_ok o c n k w) rfl).tk
noncomputable def f280_1 (s0 s1 : AV) (h : Heap) : α :=
  lssF Pq o 3 s1 (.i .i64 0) fun v11 => ifF o v11 (panicA o (.ifc 9 (.s 18 8838634371626034279618351153450530198413667)) fun x => k x.pn h) (f280_2 o c n k s0 s1 h)
theorem f280_1_ok : R Pq o c n (cB b280) (kend Pq o c n w rs280 k) = fun t _ h => f280_1 o c n k (t 0) (t 1) h := (kseq (f280_2_ok o c n k w) rfl).tk
noncomputable def f280 (a0 a1 : AV) (h : Heap) : α :=
  f280_1 o c n k a0 a1 h
theorem f280_ok : R Pq o c n b280 (kend Pq o c n w rs280 k) = fun t _ h => f280 o c n k (t 0) (t 1) h := (kseq (f280_1_ok o c n k w) rfl).tk
theorem f280_good : Good Pq (cfg mm) 280 (entF Pq (cfg mm) 280 2 fun α => f280) := entG b280 rs280 27 fun _ => f280_ok
noncomputable def b295 := bdy Tryz.f295
noncomputable def rs295 := Tryz.f295.results.toList
noncomputable def f295 {α : Type} (o : α) (c : Call' α) (n : Nat) (k : AV → Heap → α) (a0 : AV) (h : Heap) : α :=
  newF h h.next 7 [(.b false), (.b false), (.b false), (.b false), (.i .i64 0), (.i .i64 0), (.i .i64 0)] fun v1 h => mapA h h.next fun v2 h => layF o 3 (.b true) [(.b false), (.b false), (.b false), (.b false), (.i .i64 0), (.i .i64 0), (.i .i64 0)] fun v3 => layF o 2 (.b true) v3 fun v4 => layF o 4 (.i .i64 1) v4 fun v5 => layF o 5 (.i .i64 1) v5 fun v6 => insertN o h .i64 v2 (.i .i64 1) (.agg v6) fun h => layF o 4 (.i .i64 2) [(.b false), (.b false), (.b false), (.b false), (.i .i64 0), (.i .i64 0), (.i .i64 0)] fun v7 => layF o 5 (.i .i64 2) v7 fun v8 => insertN o h .i64 v2 (.i .i64 2) (.agg v8) fun h => layF o 4 (.i .i64 1) [(.b false), (.b false), (.b false), (.b false), (.i .i64 0), (.i .i64 0), (.i .i64 0)] fun v9 => layF o 5 (.i .i64 1) v9 fun v10 => insertN o h .i64 v2 (.i .i64 3) (.agg v10) fun h => layF o 4 (.i .i64 1) [(.b false), (.b false), (.b false), (.b false), (.i .i64 0), (.i .i64 0), (.i .i64 0)] fun v11 => layF o 5 (.i .i64 1) v11 fun v12 => layF o 6 (.i .i64 2) v12 fun v13 => insertN o h .i64 v2 (.i .i64 4) (.agg v13) fun h => layF o 4 (.i .i64 1) [(.b false), (.b false), (.b false), (.b false), (.i .i64 0), (.i .i64 0), (.i .i64 0)] fun v14 => layF o 5 (.i .i64 1) v14 fun v15 => layF o 6 (.i .i64 1) v15 fun v16 => insertN o h .i64 v2 (.i .i64 5) (.agg v16) fun h => layF o 5 (.i .i64 1) [(.b false), (.b false), (.b false), (.b false), (.i .i64 0), (.i .i64 0), (.i .i64 0)] fun v17 => insertN o h .i64 v2 (.i .i64 6) (.agg v17) fun h => layF o 4 (.i .i64 1) [(.b false), (.b false), (.b false), (.b false), (.i .i64 0), (.i .i64 0), (.i .i64 0)] fun v18 => layF o 5 (.i .i64 1) v18 fun v19 => insertN o h .i64 v2 (.i .i64 7) (.agg v19) fun h => layF o 0 (.b true) [(.b false), (.b false), (.b false), (.b false), (.i .i64 0), (.i .i64 0), (.i .i64 0)] fun v20 => layF o 4 (.i .i64 1) v20 fun v21 => layF o 5 (.i .i64 1) v21 fun v22 => insertN o h .i64 v2 (.i .i64 8) (.agg v22) fun h => layF o 4 (.i .i64 1) [(.b false), (.b false), (.b false), (.b false), (.i .i64 0), (.i .i64 0), (.i .i64 0)] fun v23 => layF o 5 (.i .i64 1) v23 fun v24 => insertN o h .i64 v2 (.i .i64 9) (.agg v24) fun h => layF o 3 (.b true) [(.b false), (.b false), (.b false), (.b false), (.i .i64 0), (.i .i64 0), (.i .i64 0)] fun v25 => layF o 2 (.b true) v25 fun v26 => layF o 6 (.i .i64 3) v26 fun v27 => insertN o h .i64 v2 (.i .i64 10) (.agg v27) fun h => layF o 5 (.i .i64 3000) [(.b false), (.b false), (.b false), (.b false), (.i .i64 0), (.i .i64 0), (.i .i64 0)] fun v28 => insertN o h .i64 v2 (.i .i64 11) (.agg v28) fun h => lookupN o h .i64 (some (.agg [(.b false), (.b false), (.b false), (.b false), (.i .i64 0), (.i .i64 0), (.i .i64 0)])) v2 a0 true fun v29 => exF o v29 0 fun v30 => exF o v29 1 fun v31 => newF h h.next 7 [(.b false), (.b false), (.b false), (.b false), (.i .i64 0), (.i .i64 0), (.i .i64 0)] fun v32 h => storeF o h 7 v32 v30 fun h => loadNF o h 7 v32 fun v33 => storeF o h 7 v1 v33 fun h => on o (resV Pq h [(v1, some 274), (v31, none)]) fun v => k v h
theorem f295_ok : R Pq o c n b295 (kend Pq o c n w rs295 k) = fun t _ h => f295 o c n k (t 0) h := by kernel_rfl
theorem f295_good : Good Pq (cfg mm) 295 (entF Pq (cfg mm) 295 1 fun α => f295) := entG b295 rs295 28 fun _ => f295_ok
end Go.Zev.Su
