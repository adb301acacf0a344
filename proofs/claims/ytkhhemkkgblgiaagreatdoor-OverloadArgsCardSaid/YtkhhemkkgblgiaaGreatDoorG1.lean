/-
  Printed by zgen.py: clean forms.
-/
import Derived.Test.YtkhhemkkgblgiaaGreatDoorG0
set_option linter.unusedVariables false
set_option maxRecDepth 20000
namespace Go.Zev.Po
open Go Go.Zev Go.Proofs
variable {mm : FuncId → Option (List AV → Option AV)}
noncomputable def b144 := bdy Tryz.f144
noncomputable def rs144 := Tryz.f144.results.toList
variable {α : Type} (o : α) (c : Call' α) (n : Nat) (k : AV → Heap → α) (w : FuncId → Nat)
noncomputable def f144_4K : Ex → K α := (nxK (R Pq o c n (cB (cB (cB (cB b144)))) (kend Pq o c n w rs144 k)) (kend Pq o c n w rs144 k))
noncomputable def f144_6K (lp0 : AVs (Heap → α) 4) : Ex → K α := (nxK (fun t _ h => lp0 (t 0) (t 1) (t 4) (t 5) h) (blockK (cI (cA (cB (cB (cB b144))))) (f144_4K o c n k w)))
noncomputable def f144_7K (lp0 : AVs (Heap → α) 4) : Ex → K α := (nxK (R Pq o c n (cB (cA (cA (cA (cB (cB (cB b144))))))) (f144_6K o c n k w lp0)) (f144_6K o c n k w lp0))
noncomputable def f144_8K (lp0 : AVs (Heap → α) 4) : Ex → K α := (nxK (R Pq o c n (cB (cA (cA (cA (cA (cB (cB (cB b144)))))))) (f144_7K o c n k w lp0)) (f144_7K o c n k w lp0))
noncomputable def f144_23 {α : Type} (o : α) (c : Call' α) (n : Nat) (k : AV → Heap → α) (lp0 : AVs (Heap → α) 4) (base : Nat) (s0 s1 s4 s5 s18 s32 : AV) (h : Heap) : α :=
  pickF o s18 s32 (.b false) fun v1 => hb h.shut fun h => ifF o v1 (dreg o h 12 fun base h => nilChk o s0 fun v2 => faF o 0 v2 fun v3 => rootF o v3 s0 <| load1F o (h.look 7) v3 fun v4 => nilChk o s0 fun v5 => faF o 2 v5 fun v6 => rootF o v6 s0 <| load1F o (h.look 112) v6 fun v7 => ixF o 3 v4 v7 fun v8 => faF o 1 v8 fun v9 => load1F o (h.look 1023) v9 fun v10 => hb h.shut fun h => nilChk o s0 fun v11 => faF o 2 v11 fun v12 => load1F o h v12 fun v13 => addF Pq o 3 v13 (.i .i64 1) fun v14 => nilChk o s0 fun v15 => faF o 2 v15 fun v16 => storeF o h 1 v16 v14 fun h => addF Pq o 3 s1 (.i .i64 1) fun v17 => c 144 [s0, v17] h fun v18 h => pk k v18 h <| newF h h.next 8 [(.i .i64 0), (.i .i32 0), (.s 0 0), (.s 0 0), (.s 0 0), .nsl, (.s 0 0), (.i .i64 0)] fun v19 h => storeF o h 8 v19 v18 fun h => loadNF o h 8 s5 fun v20 => loadNF o h 8 v19 fun v21 => fil1 o 8 2 0 v20 [[(.i .i64 0), (.i .i32 0), (.s 0 0), (.s 0 0), (.s 0 0), .nsl, (.s 0 0), (.i .i64 0)], [(.i .i64 0), (.i .i32 0), (.s 0 0), (.s 0 0), (.s 0 0), .nsl, (.s 0 0), (.i .i64 0)]] fun v22 => fil1 o 8 2 1 v21 v22 fun v23 => newEF h h.next 8 2 v23 fun v24 h => layF o 0 (.i .i64 17) [(.i .i64 0), (.i .i32 0), (.s 0 0), (.s 0 0), (.s 0 0), .nsl, (.s 0 0), (.i .i64 0)] fun v25 => layF o 3 v10 v25 fun v26 => layF o 5 v24 v26 fun v27 => storeF o h 8 s5 (.agg v27) fun h => lp0 s0 s1 s4 s5 h) (loadNF o h 8 s5 fun v28 => storeF o h 8 s4 v28 fun h => on o (resV Pq h [(s4, some 57)]) fun v => k v h)
theorem f144_23_ok (lp0 : AVs (Heap → α) 4) (base : Nat) : QD Pq o c (cO (cA (cA (cA (cA (cA (cB (cB (cB b144))))))))) base ((f144_8K o c n k w lp0)) 17 = fun t _ h => f144_23 o c n k lp0 base (t 0) (t 1) (t 4) (t 5) (t 18) (t 32) h := by kernel_rfl
noncomputable def f144_22 (lp0 : AVs (Heap → α) 4) (base : Nat) (s0 s1 s4 s5 s18 s30 s31 : AV) (h : Heap) : α :=
  bkF o true s18 (eqiF Pq o 3 s30 s31 fun v29 => f144_23 o c n k lp0 base s0 s1 s4 s5 s18 v29 (h.look 0)) (f144_23 o c n k lp0 base s0 s1 s4 s5 s18 (.tup []) (h.look 0))
theorem f144_22_ok (lp0 : AVs (Heap → α) 4) (base : Nat) : QD Pq o c (cO (cA (cA (cA (cA (cA (cB (cB (cB b144))))))))) base ((f144_8K o c n k w lp0)) 16 = fun t _ h => f144_22 o c n k lp0 base (t 0) (t 1) (t 4) (t 5) (t 18) (t 30) (t 31) h := (qd_seg 16 17 (by kernel_rfl) (f144_23_ok o c n k w lp0 base)).tk
noncomputable def f144_21 (lp0 : AVs (Heap → α) 4) (base : Nat) (s0 s1 s4 s5 s18 s30 : AV) (h : Heap) : α :=
  bkF o true s18 (f144_22 o c n k lp0 base s0 s1 s4 s5 s18 s30 s1 (h.look 0)) (f144_22 o c n k lp0 base s0 s1 s4 s5 s18 s30 (.tup []) (h.look 0))
theorem f144_21_ok (lp0 : AVs (Heap → α) 4) (base : Nat) : QD Pq o c (cO (cA (cA (cA (cA (cA (cB (cB (cB b144))))))))) base ((f144_8K o c n k w lp0)) 15 = fun t _ h => f144_21 o c n k lp0 base (t 0) (t 1) (t 4) (t 5) (t 18) (t 30) h := (qd_seg 15 16 (by kernel_rfl) (f144_22_ok o c n k w lp0 base)).tk
noncomputable def f144_20 (lp0 : AVs (Heap → α) 4) (base : Nat) (s0 s1 s4 s5 s18 s29 : AV) (h : Heap) : α :=
  bkF o true s18 (callD o c [] 206 [s29] h fun v30 h => pnF v30 (fun x => hb h.shut fun hd => bkF o true s18 (k x.pn hd) (k x.pn hd)) <| f144_21 o c n k lp0 base s0 s1 s4 s5 s18 v30 h) (f144_21 o c n k lp0 base s0 s1 s4 s5 s18 (.tup []) h)
theorem f144_20_ok (lp0 : AVs (Heap → α) 4) (base : Nat) : QD Pq o c (cO (cA (cA (cA (cA (cA (cB (cB (cB b144))))))))) base ((f144_8K o c n k w lp0)) 14 = fun t _ h => f144_20 o c n k lp0 base (t 0) (t 1) (t 4) (t 5) (t 18) (t 29) h := (qd_seg 14 15 (by kernel_rfl) (f144_21_ok o c n k w lp0 base)).tk
noncomputable def f144_19 (lp0 : AVs (Heap → α) 4) (base : Nat) (s0 s1 s4 s5 s18 s28 : AV) (h : Heap) : α :=
  bkF o true s18 (load1F o (h.look 8191) s28 fun v31 => f144_20 o c n k lp0 base s0 s1 s4 s5 s18 v31 (h.look 0)) (f144_20 o c n k lp0 base s0 s1 s4 s5 s18 (.tup []) (h.look 0))
theorem f144_19_ok (lp0 : AVs (Heap → α) 4) (base : Nat) : QD Pq o c (cO (cA (cA (cA (cA (cA (cB (cB (cB b144))))))))) base ((f144_8K o c n k w lp0)) 13 = fun t _ h => f144_19 o c n k lp0 base (t 0) (t 1) (t 4) (t 5) (t 18) (t 28) h := (qd_seg 13 14 (by kernel_rfl) (f144_20_ok o c n k w lp0 base)).tk
noncomputable def f144_18 (lp0 : AVs (Heap → α) 4) (base : Nat) (s0 s1 s4 s5 s18 s27 : AV) (h : Heap) : α :=
  bkF o true s18 (faF o 1 s27 fun v32 => f144_19 o c n k lp0 base s0 s1 s4 s5 s18 v32 (h.look 0)) (f144_19 o c n k lp0 base s0 s1 s4 s5 s18 (.tup []) (h.look 0))
theorem f144_18_ok (lp0 : AVs (Heap → α) 4) (base : Nat) : QD Pq o c (cO (cA (cA (cA (cA (cA (cB (cB (cB b144))))))))) base ((f144_8K o c n k w lp0)) 12 = fun t _ h => f144_18 o c n k lp0 base (t 0) (t 1) (t 4) (t 5) (t 18) (t 27) h := (qd_seg 12 13 (by kernel_rfl) (f144_19_ok o c n k w lp0 base)).tk
noncomputable def f144_17 (lp0 : AVs (Heap → α) 4) (base : Nat) (s0 s1 s4 s5 s18 s22 s26 : AV) (h : Heap) : α :=
  bkF o true s18 (ixF o 3 s22 s26 fun v33 => f144_18 o c n k lp0 base s0 s1 s4 s5 s18 v33 (h.look 0)) (f144_18 o c n k lp0 base s0 s1 s4 s5 s18 (.tup []) (h.look 0))
theorem f144_17_ok (lp0 : AVs (Heap → α) 4) (base : Nat) : QD Pq o c (cO (cA (cA (cA (cA (cA (cB (cB (cB b144))))))))) base ((f144_8K o c n k w lp0)) 11 = fun t _ h => f144_17 o c n k lp0 base (t 0) (t 1) (t 4) (t 5) (t 18) (t 22) (t 26) h := (qd_seg 11 12 (by kernel_rfl) (f144_18_ok o c n k w lp0 base)).tk
noncomputable def f144_16 (lp0 : AVs (Heap → α) 4) (base : Nat) (s0 s1 s4 s5 s18 s22 s25 : AV) (h : Heap) : α :=
  rootF o s25 s0 <| bkF o true s18 (load1F o (h.look 903) s25 fun v34 => f144_17 o c n k lp0 base s0 s1 s4 s5 s18 s22 v34 (h.look 0)) (f144_17 o c n k lp0 base s0 s1 s4 s5 s18 s22 (.tup []) (h.look 0))
theorem f144_16_ok (lp0 : AVs (Heap → α) 4) (base : Nat) : QD Pq o c (cO (cA (cA (cA (cA (cA (cB (cB (cB b144))))))))) base ((f144_8K o c n k w lp0)) 10 = fun t _ h => f144_16 o c n k lp0 base (t 0) (t 1) (t 4) (t 5) (t 18) (t 22) (t 25) h := (qd_seg 10 11 (by kernel_rfl) (f144_17_ok o c n k w lp0 base)).tk
noncomputable def f144_15 (lp0 : AVs (Heap → α) 4) (base : Nat) (s0 s1 s4 s5 s18 s22 s24 : AV) (h : Heap) : α :=
  bkF o true s18 (faF o 2 s24 fun v35 => f144_16 o c n k lp0 base s0 s1 s4 s5 s18 s22 v35 (h.look 0)) (f144_16 o c n k lp0 base s0 s1 s4 s5 s18 s22 (.tup []) (h.look 0))
theorem f144_15_ok (lp0 : AVs (Heap → α) 4) (base : Nat) : QD Pq o c (cO (cA (cA (cA (cA (cA (cB (cB (cB b144))))))))) base ((f144_8K o c n k w lp0)) 9 = fun t _ h => f144_15 o c n k lp0 base (t 0) (t 1) (t 4) (t 5) (t 18) (t 22) (t 24) h := (qd_seg 9 10 (by kernel_rfl) (f144_16_ok o c n k w lp0 base)).tk
noncomputable def f144_14 (lp0 : AVs (Heap → α) 4) (base : Nat) (s0 s1 s4 s5 s18 s22 s23 : AV) (h : Heap) : α :=
  bkF o true s18 (nilChk o s23 fun v36 => f144_15 o c n k lp0 base s0 s1 s4 s5 s18 s22 v36 (h.look 0)) (f144_15 o c n k lp0 base s0 s1 s4 s5 s18 s22 (.tup []) (h.look 0))
theorem f144_14_ok (lp0 : AVs (Heap → α) 4) (base : Nat) : QD Pq o c (cO (cA (cA (cA (cA (cA (cB (cB (cB b144))))))))) base ((f144_8K o c n k w lp0)) 8 = fun t _ h => f144_14 o c n k lp0 base (t 0) (t 1) (t 4) (t 5) (t 18) (t 22) (t 23) h := (qd_seg 8 9 (by kernel_rfl) (f144_15_ok o c n k w lp0 base)).tk
noncomputable def f144_13 (lp0 : AVs (Heap → α) 4) (base : Nat) (s0 s1 s4 s5 s18 s22 : AV) (h : Heap) : α :=
  bkF o true s18 (f144_14 o c n k lp0 base s0 s1 s4 s5 s18 s22 s0 (h.look 0)) (f144_14 o c n k lp0 base s0 s1 s4 s5 s18 s22 (.tup []) (h.look 0))
theorem f144_13_ok (lp0 : AVs (Heap → α) 4) (base : Nat) : QD Pq o c (cO (cA (cA (cA (cA (cA (cB (cB (cB b144))))))))) base ((f144_8K o c n k w lp0)) 7 = fun t _ h => f144_13 o c n k lp0 base (t 0) (t 1) (t 4) (t 5) (t 18) (t 22) h := (qd_seg 7 8 (by kernel_rfl) (f144_14_ok o c n k w lp0 base)).tk
noncomputable def f144_12 (lp0 : AVs (Heap → α) 4) (base : Nat) (s0 s1 s4 s5 s18 s21 : AV) (h : Heap) : α :=
  rootF o s21 s0 <| bkF o true s18 (load1F o (h.look 63) s21 fun v37 => f144_13 o c n k lp0 base s0 s1 s4 s5 s18 v37 (h.look 0)) (f144_13 o c n k lp0 base s0 s1 s4 s5 s18 (.tup []) (h.look 0))
theorem f144_12_ok (lp0 : AVs (Heap → α) 4) (base : Nat) : QD Pq o c (cO (cA (cA (cA (cA (cA (cB (cB (cB b144))))))))) base ((f144_8K o c n k w lp0)) 6 = fun t _ h => f144_12 o c n k lp0 base (t 0) (t 1) (t 4) (t 5) (t 18) (t 21) h := (qd_seg 6 7 (by kernel_rfl) (f144_13_ok o c n k w lp0 base)).tk
noncomputable def f144_11 (lp0 : AVs (Heap → α) 4) (base : Nat) (s0 s1 s4 s5 s18 s20 : AV) (h : Heap) : α :=
  bkF o true s18 (faF o 0 s20 fun v38 => f144_12 o c n k lp0 base s0 s1 s4 s5 s18 v38 (h.look 0)) (f144_12 o c n k lp0 base s0 s1 s4 s5 s18 (.tup []) (h.look 0))
theorem f144_11_ok (lp0 : AVs (Heap → α) 4) (base : Nat) : QD Pq o c (cO (cA (cA (cA (cA (cA (cB (cB (cB b144))))))))) base ((f144_8K o c n k w lp0)) 5 = fun t _ h => f144_11 o c n k lp0 base (t 0) (t 1) (t 4) (t 5) (t 18) (t 20) h := (qd_seg 5 6 (by kernel_rfl) (f144_12_ok o c n k w lp0 base)).tk
noncomputable def f144_10 (lp0 : AVs (Heap → α) 4) (base : Nat) (s0 s1 s4 s5 s18 s19 : AV) (h : Heap) : α :=
  bkF o true s18 (nilChk o s19 fun v39 => f144_11 o c n k lp0 base s0 s1 s4 s5 s18 v39 (h.look 0)) (f144_11 o c n k lp0 base s0 s1 s4 s5 s18 (.tup []) (h.look 0))
theorem f144_10_ok (lp0 : AVs (Heap → α) 4) (base : Nat) : QD Pq o c (cO (cA (cA (cA (cA (cA (cB (cB (cB b144))))))))) base ((f144_8K o c n k w lp0)) 4 = fun t _ h => f144_10 o c n k lp0 base (t 0) (t 1) (t 4) (t 5) (t 18) (t 19) h := (qd_seg 4 5 (by kernel_rfl) (f144_11_ok o c n k w lp0 base)).tk
noncomputable def f144_9 (lp0 : AVs (Heap → α) 4) (base : Nat) (s0 s1 s4 s5 s17 : AV) (h : Heap) : α :=
  bkF o true s17 (f144_10 o c n k lp0 base s0 s1 s4 s5 s17 s0 (h.look 0)) (f144_10 o c n k lp0 base s0 s1 s4 s5 s17 (.tup []) (h.look 0))
theorem f144_9_ok (lp0 : AVs (Heap → α) 4) (base : Nat) : QD Pq o c (cO (cA (cA (cA (cA (cA (cB (cB (cB b144))))))))) base ((f144_8K o c n k w lp0)) 2 = fun t _ h => f144_9 o c n k lp0 base (t 0) (t 1) (t 4) (t 5) (t 17) h := (qd_seg 2 4 (by kernel_rfl) (f144_10_ok o c n k w lp0 base)).tk
noncomputable def f144_5 (m : Nat) : AVs (Heap → α) 4 :=
  Nat.rec (motive := fun _ => AVs (Heap → α) 4) (fun _ _ _ _ _ => o) (fun _ lp0 s0 s1 s4 s5 h => dreg o h 18 fun base h => callD o c [] 82 [s0, (.i .i64 0), (.i .i64 4), (.s 0 0)] (h.look 0) fun v40 h => pnF v40 (fun x => hb h.shut fun hd => k x.pn hd) <| f144_9 o c n k lp0 base s0 s1 s4 s5 v40 h) m
theorem f144_5_ok : R Pq o c n (cA (cA (cB (cB (cB b144))))) (blockK (cI (cA (cB (cB (cB b144))))) (f144_4K o c n k w)) = fun t _ h => f144_5 o c n k n (t 0) (t 1) (t 4) (t 5) h :=
  c_loop (F := fun m t _ h => f144_5 o c n k m (t 0) (t 1) (t 4) (t 5) h) (by kernel_rfl) (by kernel_rfl) fun m => (kseq rfl (kseq rfl (r_startD 2 (by kernel_rfl) (by kernel_rfl) (X := fun base => fun t _ h => f144_9 o c n k (f144_5 o c n k m) base (t 0) (t 1) (t 4) (t 5) (t 17) h) (fun base => f144_9_ok o c n k w (f144_5 o c n k m) base)))).tk
noncomputable def f144_3 (s0 s1 s4 s5 : AV) (h : Heap) : α :=
  f144_5 o c n k n s0 s1 s4 s5 h
theorem f144_3_ok : R Pq o c n (cB (cB (cB b144))) (kend Pq o c n w rs144 k) = fun t _ h => f144_3 o c n k (t 0) (t 1) (t 4) (t 5) h := (kseq rfl (kblk (f144_5_ok o c n k w))).tk
noncomputable def f144_2 (s0 s1 s4 : AV) (h : Heap) : α :=
  addF Pq o 3 s1 (.i .i64 1) fun v41 => c 144 [s0, v41] h fun v42 h => pk k v42 h <| newF h h.next 8 [(.i .i64 0), (.i .i32 0), (.s 0 0), (.s 0 0), (.s 0 0), .nsl, (.s 0 0), (.i .i64 0)] fun v43 h => storeF o h 8 v43 v42 fun h => f144_3 o c n k s0 s1 s4 v43 h
theorem f144_2_ok : R Pq o c n (cB (cB b144)) (kend Pq o c n w rs144 k) = fun t _ h => f144_2 o c n k (t 0) (t 1) (t 4) h := (kseq (f144_3_ok o c n k w) rfl).tk
noncomputable def f144_1 (s0 s1 s4 : AV) (h : Heap) : α :=
  gtrF Pq o 3 s1 (.i .i64 6) fun v44 => ifF o v44 (c 205 [s0] h fun v45 h => pk k v45 h <| storeF o h 8 s4 v45 fun h => on o (resV Pq h [(s4, some 57)]) fun v => k v h) (f144_2 o c n k s0 s1 s4 h)
theorem f144_1_ok : R Pq o c n (cB b144) (kend Pq o c n w rs144 k) = fun t _ h => f144_1 o c n k (t 0) (t 1) (t 4) h := (kseq (f144_2_ok o c n k w) rfl).tk
noncomputable def f144 (a0 a1 : AV) (h : Heap) : α :=
  newF h h.next 8 [(.i .i64 0), (.i .i32 0), (.s 0 0), (.s 0 0), (.s 0 0), .nsl, (.s 0 0), (.i .i64 0)] fun v46 h => f144_1 o c n k a0 a1 v46 h
theorem f144_ok : R Pq o c n b144 (kend Pq o c n w rs144 k) = fun t _ h => f144 o c n k (t 0) (t 1) h := (kseq (f144_1_ok o c n k w) rfl).tk
theorem f144_good : Good Pq (cfg mm) 144 (entF Pq (cfg mm) 144 2 fun α => f144) := entG b144 rs144 62 fun _ => f144_ok
noncomputable def b145 := bdy Tryz.f145
noncomputable def rs145 := Tryz.f145.results.toList
noncomputable def f145_3K : Ex → K α := (nxK (R Pq o c n (cB (cB (cB b145))) (kend Pq o c n w rs145 k)) (kend Pq o c n w rs145 k))
noncomputable def f145_5 {α : Type} (o : α) (c : Call' α) (n : Nat) (k : AV → Heap → α) (m : Nat) : AVs (Heap → α) 3 :=
  Nat.rec (motive := fun _ => AVs (Heap → α) 3) (fun _ _ _ _ => o) (fun _ lp0 s0 s3 s4 h => lenF o s0 fun v1 => lssF Pq o 3 s4 v1 fun v2 => ifF o v2 (ixF o 8 s0 s4 fun v3 => loadNF o h 8 v3 fun v4 => c 207 [v4] h fun v5 h => pk k v5 h <| addF Pq o 3 s3 v5 fun v6 => addF Pq o 3 s4 (.i .i64 1) fun v7 => lp0 s0 v6 v7 h) (k s3 h)) m
theorem f145_5_ok : R Pq o c n (cA (cB (cA (cB (cB b145))))) (blockK (cI (cB (cA (cB (cB b145))))) (f145_3K o c n k w)) = fun t _ h => f145_5 o c n k n (t 0) (t 3) (t 4) h :=
  c_loop (F := fun m t _ h => f145_5 o c n k m (t 0) (t 3) (t 4) h) (by kernel_rfl) (by kernel_rfl) fun m => by kernel_rfl
noncomputable def f145_4 (s0 s3 s4 : AV) (h : Heap) : α :=
  f145_5 o c n k n s0 s3 s4 h
theorem f145_4_ok : R Pq o c n (cB (cA (cB (cB b145)))) (f145_3K o c n k w) = fun t _ h => f145_4 o c n k (t 0) (t 3) (t 4) h := (kblk (f145_5_ok o c n k w)).tk
noncomputable def f145_2 (s0 s3 : AV) (h : Heap) : α :=
  f145_4 o c n k s0 s3 (.i .i64 0) h
theorem f145_2_ok : R Pq o c n (cB (cB b145)) (kend Pq o c n w rs145 k) = fun t _ h => f145_2 o c n k (t 0) (t 3) h := (kseq rfl (kseq (f145_4_ok o c n k w) rfl)).tk
noncomputable def f145_1 (s0 : AV) (h : Heap) : α :=
  f145_2 o c n k s0 (.i .i64 0) h
theorem f145_1_ok : R Pq o c n (cB b145) (kend Pq o c n w rs145 k) = fun t _ h => f145_1 o c n k (t 0) h := (kseq (f145_2_ok o c n k w) rfl).tk
noncomputable def f145 (a0 : AV) (h : Heap) : α :=
  f145_1 o c n k a0 h
theorem f145_ok : R Pq o c n b145 (kend Pq o c n w rs145 k) = fun t _ h => f145 o c n k (t 0) h := (kseq (f145_1_ok o c n k w) rfl).tk
theorem f145_good : Good Pq (cfg mm) 145 (entF Pq (cfg mm) 145 1 fun α => f145) := entG b145 rs145 19 fun _ => f145_ok
noncomputable def b146 := bdy Tryz.f146
noncomputable def rs146 := Tryz.f146.results.toList
noncomputable def f146_3K : Ex → K α := (nxK (R Pq o c n (cB (cB (cB b146))) (kend Pq o c n w rs146 k)) (kend Pq o c n w rs146 k))
noncomputable def f146_6K (lp0 : AVs (Heap → α) 3) : Ex → K α := (nxK (fun t _ h => lp0 (t 0) (t 3) (t 4) h) (blockK (cI (cB (cA (cB (cB b146))))) (f146_3K o c n k w)))
noncomputable def f146_8K (lp0 : AVs (Heap → α) 3) : Ex → K α := (nxK (R Pq o c n (cB (cB (cA (cA (cB (cA (cB (cB b146)))))))) (f146_6K o c n k w lp0)) (f146_6K o c n k w lp0))
noncomputable def f146_12 {α : Type} (o : α) (c : Call' α) (n : Nat) (k : AV → Heap → α) (lp0 : AVs (Heap → α) 3) (base : Nat) (s0 s4 s33 s39 : AV) (h : Heap) : α :=
  addF Pq o 3 s33 s39 fun v1 => hb h.shut fun h => addF Pq o 3 s4 (.i .i64 1) fun v2 => lp0 s0 v1 v2 h
theorem f146_12_ok (lp0 : AVs (Heap → α) 3) (base : Nat) : QD Pq o c (cO (cA (cA (cB (cA (cA (cB (cA (cB (cB b146)))))))))) base ((blockK (cI (cA (cB (cA (cA (cB (cA (cB (cB b146))))))))) (f146_8K o c n k w lp0))) 29 = fun t _ h => f146_12 o c n k lp0 base (t 0) (t 4) (t 33) (t 39) h := by kernel_rfl
noncomputable def f146_11 (lp0 : AVs (Heap → α) 3) (base : Nat) (s0 s4 s26 s32 : AV) (h : Heap) : α :=
  addF Pq o 3 s26 s32 fun v3 => ixF o 9 s0 s4 fun v4 => faF o 7 v4 fun v5 => rootF o v5 s0 <| load1F o (h.look 125829120) v5 fun v6 => callD o c [] 146 [v6] (h.look 0) fun v7 h => pnF v7 (fun x => hb h.shut fun hd => k x.pn hd) <| f146_12 o c n k lp0 base s0 s4 v3 v7 h
theorem f146_11_ok (lp0 : AVs (Heap → α) 3) (base : Nat) : QD Pq o c (cO (cA (cA (cB (cA (cA (cB (cA (cB (cB b146)))))))))) base ((blockK (cI (cA (cB (cA (cA (cB (cA (cB (cB b146))))))))) (f146_8K o c n k w lp0))) 22 = fun t _ h => f146_11 o c n k lp0 base (t 0) (t 4) (t 26) (t 32) h := (qd_seg 22 29 (by kernel_rfl) (f146_12_ok o c n k w lp0 base)).tk
noncomputable def f146_10 (lp0 : AVs (Heap → α) 3) (base : Nat) (s0 s4 s19 s25 : AV) (h : Heap) : α :=
  addF Pq o 3 s19 s25 fun v8 => ixF o 9 s0 s4 fun v9 => faF o 6 v9 fun v10 => rootF o v10 s0 <| load1F o (h.look 983040) v10 fun v11 => callD o c (hidD false [(.fn (.func 146) [] []), v11] [] (sBlk s0 [])) 146 [v11] (h.look 0) fun v12 h => pnF v12 (fun x => hb h.shut fun hd => ixF o 9 s0 s4 fun v13 => faF o 7 v13 fun v14 => rootF o v14 s0 <| load1F o (h.look 125829120) v14 fun v15 => k x.pn hd) <| f146_11 o c n k lp0 base s0 s4 v8 v12 h
theorem f146_10_ok (lp0 : AVs (Heap → α) 3) (base : Nat) : QD Pq o c (cO (cA (cA (cB (cA (cA (cB (cA (cB (cB b146)))))))))) base ((blockK (cI (cA (cB (cA (cA (cB (cA (cB (cB b146))))))))) (f146_8K o c n k w lp0))) 15 = fun t _ h => f146_10 o c n k lp0 base (t 0) (t 4) (t 19) (t 25) h := (qd_seg 15 22 (by kernel_rfl) (f146_11_ok o c n k w lp0 base)).tk
noncomputable def f146_9 (lp0 : AVs (Heap → α) 3) (base : Nat) (s0 s4 s12 s18 : AV) (h : Heap) : α :=
  addF Pq o 3 s12 s18 fun v16 => ixF o 9 s0 s4 fun v17 => faF o 5 v17 fun v18 => rootF o v18 s0 <| load1F o (h.look 7680) v18 fun v19 => callD o c (hidD false [(.fn (.func 146) [] []), v19] [] (sBlk s0 (sBlk s0 []))) 146 [v19] (h.look 0) fun v20 h => pnF v20 (fun x => hb h.shut fun hd => ixF o 9 s0 s4 fun v21 => faF o 6 v21 fun v22 => rootF o v22 s0 <| load1F o (h.look 983040) v22 fun v23 => ixF o 9 s0 s4 fun v24 => faF o 7 v24 fun v25 => rootF o v25 s0 <| load1F o (h.look 125829120) v25 fun v26 => k x.pn hd) <| f146_10 o c n k lp0 base s0 s4 v16 v20 h
theorem f146_9_ok (lp0 : AVs (Heap → α) 3) (base : Nat) : QD Pq o c (cO (cA (cA (cB (cA (cA (cB (cA (cB (cB b146)))))))))) base ((blockK (cI (cA (cB (cA (cA (cB (cA (cB (cB b146))))))))) (f146_8K o c n k w lp0))) 8 = fun t _ h => f146_9 o c n k lp0 base (t 0) (t 4) (t 12) (t 18) h := (qd_seg 8 15 (by kernel_rfl) (f146_10_ok o c n k w lp0 base)).tk
noncomputable def f146_7 (lp0 : AVs (Heap → α) 3) (s0 s3 s4 : AV) (h : Heap) : α :=
  dreg o h 31 fun base h => addF Pq o 3 s3 (.i .i64 1) fun v27 => ixF o 9 s0 s4 fun v28 => faF o 4 v28 fun v29 => rootF o v29 s0 <| load1F o (h.look 60) v29 fun v30 => callD o c (hidD false [(.fn (.func 145) [] []), v30] [] (sBlk s0 (sBlk s0 (sBlk s0 [])))) 145 [v30] (h.look 0) fun v31 h => pnF v31 (fun x => hb h.shut fun hd => ixF o 9 s0 s4 fun v32 => faF o 5 v32 fun v33 => rootF o v33 s0 <| load1F o (h.look 7680) v33 fun v34 => ixF o 9 s0 s4 fun v35 => faF o 6 v35 fun v36 => rootF o v36 s0 <| load1F o (h.look 983040) v36 fun v37 => ixF o 9 s0 s4 fun v38 => faF o 7 v38 fun v39 => rootF o v39 s0 <| load1F o (h.look 125829120) v39 fun v40 => k x.pn hd) <| f146_9 o c n k lp0 base s0 s4 v27 v31 h
theorem f146_7_ok (lp0 : AVs (Heap → α) 3) : R Pq o c n (cB (cA (cA (cB (cA (cB (cB b146))))))) (f146_6K o c n k w lp0) = fun t _ h => f146_7 o c n k lp0 (t 0) (t 3) (t 4) h := (kseq rfl (kblk (r_startD 8 (by kernel_rfl) (by kernel_rfl) (X := fun base => fun t _ h => f146_9 o c n k lp0 base (t 0) (t 4) (t 12) (t 18) h) (fun base => f146_9_ok o c n k w lp0 base)))).tk
noncomputable def f146_5 (m : Nat) : AVs (Heap → α) 3 :=
  Nat.rec (motive := fun _ => AVs (Heap → α) 3) (fun _ _ _ _ => o) (fun _ lp0 s0 s3 s4 h => lenF o s0 fun v41 => lssF Pq o 3 s4 v41 fun v42 => ifF o v42 (f146_7 o c n k lp0 s0 s3 s4 h) (k s3 h)) m
theorem f146_5_ok : R Pq o c n (cA (cB (cA (cB (cB b146))))) (blockK (cI (cB (cA (cB (cB b146))))) (f146_3K o c n k w)) = fun t _ h => f146_5 o c n k n (t 0) (t 3) (t 4) h :=
  c_loop (F := fun m t _ h => f146_5 o c n k m (t 0) (t 3) (t 4) h) (by kernel_rfl) (by kernel_rfl) fun m => (kseq (f146_7_ok o c n k w (f146_5 o c n k m)) rfl).tk
noncomputable def f146_4 (s0 s3 s4 : AV) (h : Heap) : α :=
  f146_5 o c n k n s0 s3 s4 h
theorem f146_4_ok : R Pq o c n (cB (cA (cB (cB b146)))) (f146_3K o c n k w) = fun t _ h => f146_4 o c n k (t 0) (t 3) (t 4) h := (kblk (f146_5_ok o c n k w)).tk
noncomputable def f146_2 (s0 s3 : AV) (h : Heap) : α :=
  f146_4 o c n k s0 s3 (.i .i64 0) h
theorem f146_2_ok : R Pq o c n (cB (cB b146)) (kend Pq o c n w rs146 k) = fun t _ h => f146_2 o c n k (t 0) (t 3) h := (kseq rfl (kseq (f146_4_ok o c n k w) rfl)).tk
noncomputable def f146_1 (s0 : AV) (h : Heap) : α :=
  f146_2 o c n k s0 (.i .i64 0) h
theorem f146_1_ok : R Pq o c n (cB b146) (kend Pq o c n w rs146 k) = fun t _ h => f146_1 o c n k (t 0) h := (kseq (f146_2_ok o c n k w) rfl).tk
noncomputable def f146 (a0 : AV) (h : Heap) : α :=
  f146_1 o c n k a0 h
theorem f146_ok : R Pq o c n b146 (kend Pq o c n w rs146 k) = fun t _ h => f146 o c n k (t 0) h := (kseq (f146_1_ok o c n k w) rfl).tk
theorem f146_good : Good Pq (cfg mm) 146 (entF Pq (cfg mm) 146 1 fun α => f146) := entG b146 rs146 42 fun _ => f146_ok
noncomputable def b147 := bdy Tryz.f147
noncomputable def rs147 := Tryz.f147.results.toList
noncomputable def f147_3K : Ex → K α := (nxK (R Pq o c n (cB (cB (cB b147))) (kend Pq o c n w rs147 k)) (kend Pq o c n w rs147 k))
noncomputable def f147_2 {α : Type} (o : α) (c : Call' α) (n : Nat) (k : AV → Heap → α) (s0 s1 : AV) (h : Heap) : α :=
  lensF o s0 fun v1 => geqF Pq o 3 v1 (.i .i64 1) fun v2 => bkF o true v2 (lensF o s0 fun v3 => leqF Pq o 3 v3 s1 fun v4 => pickF o v2 v4 (.b false) fun v5 => k v5 h) (pickF o v2 (.tup []) (.b false) fun v6 => k v6 h)
theorem f147_2_ok : R Pq o c n (cB (cB b147)) (kend Pq o c n w rs147 k) = fun t _ h => f147_2 o c n k (t 0) (t 1) h := (kseq rfl (r_start 4 (by kernel_rfl) (q_guard 4 8 (3, true) (by kernel_rfl) (by kernel_rfl) (by kernel_rfl) rfl))).tk
noncomputable def f147_4K : Ex → K α := (nxK (fun t _ h => f147_2 o c n k (t 0) (t 1) h) (kend Pq o c n w rs147 k))
noncomputable def f147_7K (lp0 : AVs (Heap → α) 3) : Ex → K α := (nxK (fun t _ h => lp0 (t 0) (t 1) (t 5) h) (blockK (cI (cB (cA (cB b147)))) (f147_4K o c n k w)))
noncomputable def f147_9 {α : Type} (o : α) (c : Call' α) (n : Nat) (k : AV → Heap → α) (lp0 : AVs (Heap → α) 3) (s0 s1 s5 : AV) (h : Heap) : α :=
  addF Pq o 3 s5 (.i .i64 1) fun v7 => lp0 s0 s1 v7 h
theorem f147_9_ok (lp0 : AVs (Heap → α) 3) : R Pq o c n (cB (cB (cA (cA (cB (cA (cB b147))))))) (f147_7K o c n k w lp0) = fun t _ h => f147_9 o c n k lp0 (t 0) (t 1) (t 5) h := by kernel_rfl
noncomputable def f147_10K (lp0 : AVs (Heap → α) 3) : Ex → K α := (nxK (fun t _ h => f147_9 o c n k lp0 (t 0) (t 1) (t 5) h) (f147_7K o c n k w lp0))
noncomputable def f147_12 (lp0 : AVs (Heap → α) 3) (s0 s1 s5 s29 : AV) (h : Heap) : α :=
  ifF o s29 (k (.b false) h) (f147_9 o c n k lp0 s0 s1 s5 h)
theorem f147_12_ok (lp0 : AVs (Heap → α) 3) : R Pq o c n (cB (cB (cA (cA (cB (cA (cA (cB (cA (cB b147)))))))))) (blockK (cI (cA (cB (cA (cA (cB (cA (cB b147)))))))) (f147_10K o c n k w lp0)) = fun t _ h => f147_12 o c n k lp0 (t 0) (t 1) (t 5) (t 29) h := by kernel_rfl
noncomputable def f147_13K (lp0 : AVs (Heap → α) 3) : Ex → K α := (nxK (fun t _ h => f147_12 o c n k lp0 (t 0) (t 1) (t 5) (t 29) h) (blockK (cI (cA (cB (cA (cA (cB (cA (cB b147)))))))) (f147_10K o c n k w lp0)))
noncomputable def f147_14 (lp0 : AVs (Heap → α) 3) (s0 s1 s5 s6 s20 s23 : AV) (h : Heap) : α :=
  pickF o s20 s23 (.b false) fun v8 => bkF o true v8 (c 133 [s6] h fun v9 h => pk k v9 h <| notF o v9 fun v10 => pickF o v8 v10 (.b false) fun v11 => f147_12 o c n k lp0 s0 s1 s5 v11 h) (pickF o v8 (.tup []) (.b false) fun v12 => f147_12 o c n k lp0 s0 s1 s5 v12 h)
theorem f147_14_ok (lp0 : AVs (Heap → α) 3) : Q Pq o c (cO (cA (cB (cA (cA (cB (cA (cA (cB (cA (cB b147))))))))))) (f147_13K o c n k w lp0) 7 = fun t _ h => f147_14 o c n k lp0 (t 0) (t 1) (t 5) (t 6) (t 20) (t 23) h := (q_seg 7 9 (by kernel_rfl) (q_guard 9 12 (8, true) (by kernel_rfl) (by kernel_rfl) (by kernel_rfl) rfl)).tk
noncomputable def f147_11 (lp0 : AVs (Heap → α) 3) (s0 s1 s5 s6 : AV) (h : Heap) : α :=
  c 149 [s6] h fun v13 h => pk k v13 h <| notF o v13 fun v14 => bkF o true v14 (c 148 [s6] h fun v15 h => pk k v15 h <| notF o v15 fun v16 => f147_14 o c n k lp0 s0 s1 s5 s6 v14 v16 h) (f147_14 o c n k lp0 s0 s1 s5 s6 v14 (.tup []) h)
theorem f147_11_ok (lp0 : AVs (Heap → α) 3) : R Pq o c n (cB (cA (cA (cB (cA (cA (cB (cA (cB b147))))))))) (blockK (cI (cA (cB (cA (cA (cB (cA (cB b147)))))))) (f147_10K o c n k w lp0)) = fun t _ h => f147_11 o c n k lp0 (t 0) (t 1) (t 5) (t 6) h := (kseq (f147_12_ok o c n k w lp0) (r_start 4 (by kernel_rfl) (q_guard 4 7 (3, true) (by kernel_rfl) (by kernel_rfl) (by kernel_rfl) (f147_14_ok o c n k w lp0)))).tk
noncomputable def f147_8 (lp0 : AVs (Heap → α) 3) (s0 s1 s5 : AV) (h : Heap) : α :=
  sxF o s0 s5 fun v17 => convA Pq o 5 21 v17 fun v18 => f147_11 o c n k lp0 s0 s1 s5 v18 h
theorem f147_8_ok (lp0 : AVs (Heap → α) 3) : R Pq o c n (cB (cA (cA (cB (cA (cB b147)))))) (f147_7K o c n k w lp0) = fun t _ h => f147_8 o c n k lp0 (t 0) (t 1) (t 5) h := (kseq (f147_9_ok o c n k w lp0) (kblk (kseq (f147_11_ok o c n k w lp0) rfl))).tk
noncomputable def f147_6 (m : Nat) : AVs (Heap → α) 3 :=
  Nat.rec (motive := fun _ => AVs (Heap → α) 3) (fun _ _ _ _ => o) (fun _ lp0 s0 s1 s5 h => lensF o s0 fun v19 => lssF Pq o 3 s5 v19 fun v20 => ifF o v20 (f147_8 o c n k lp0 s0 s1 s5 h) (f147_2 o c n k s0 s1 h)) m
theorem f147_6_ok : R Pq o c n (cA (cB (cA (cB b147)))) (blockK (cI (cB (cA (cB b147)))) (f147_4K o c n k w)) = fun t _ h => f147_6 o c n k n (t 0) (t 1) (t 5) h :=
  c_loop (F := fun m t _ h => f147_6 o c n k m (t 0) (t 1) (t 5) h) (by kernel_rfl) (by kernel_rfl) fun m => (kseq (f147_8_ok o c n k w (f147_6 o c n k m)) rfl).tk
noncomputable def f147_5 (s0 s1 s5 : AV) (h : Heap) : α :=
  f147_6 o c n k n s0 s1 s5 h
theorem f147_5_ok : R Pq o c n (cB (cA (cB b147))) (f147_4K o c n k w) = fun t _ h => f147_5 o c n k (t 0) (t 1) (t 5) h := (kblk (f147_6_ok o c n k w)).tk
noncomputable def f147_1 (s0 s1 : AV) (h : Heap) : α :=
  f147_5 o c n k s0 s1 (.i .i64 0) h
theorem f147_1_ok : R Pq o c n (cB b147) (kend Pq o c n w rs147 k) = fun t _ h => f147_1 o c n k (t 0) (t 1) h := (kseq (f147_2_ok o c n k w) (kseq (f147_5_ok o c n k w) rfl)).tk
noncomputable def f147 (a0 a1 : AV) (h : Heap) : α :=
  f147_1 o c n k a0 a1 h
theorem f147_ok : R Pq o c n b147 (kend Pq o c n w rs147 k) = fun t _ h => f147 o c n k (t 0) (t 1) h := (kseq (f147_1_ok o c n k w) rfl).tk
theorem f147_good : Good Pq (cfg mm) 147 (entF Pq (cfg mm) 147 2 fun α => f147) := entG b147 rs147 39 fun _ => f147_ok
noncomputable def b148 := bdy Tryz.f148
noncomputable def rs148 := Tryz.f148.results.toList
noncomputable def f148_2K : Ex → K α := (nxK (R Pq o c n (cB (cB b148)) (kend Pq o c n w rs148 k)) (kend Pq o c n w rs148 k))
noncomputable def f148_1 {α : Type} (o : α) (c : Call' α) (n : Nat) (k : AV → Heap → α) (s0 : AV) (h : Heap) : α :=
  geqF Pq o 21 s0 (.i .i32 65) fun v1 => bkF o true v1 (leqF Pq o 21 s0 (.i .i32 90) fun v2 => pickF o v1 v2 (.b false) fun v3 => k v3 h) (pickF o v1 (.tup []) (.b false) fun v4 => k v4 h)
theorem f148_1_ok : R Pq o c n (cB b148) (kend Pq o c n w rs148 k) = fun t _ h => f148_1 o c n k (t 0) h := (kseq rfl (r_start 3 (by kernel_rfl) (q_guard 3 5 (2, true) (by kernel_rfl) (by kernel_rfl) (by kernel_rfl) rfl))).tk
noncomputable def f148 (a0 : AV) (h : Heap) : α :=
  f148_1 o c n k a0 h
theorem f148_ok : R Pq o c n b148 (kend Pq o c n w rs148 k) = fun t _ h => f148 o c n k (t 0) h := (kseq (f148_1_ok o c n k w) rfl).tk
theorem f148_good : Good Pq (cfg mm) 148 (entF Pq (cfg mm) 148 1 fun α => f148) := entG b148 rs148 9 fun _ => f148_ok
noncomputable def b149 := bdy Tryz.f149
noncomputable def rs149 := Tryz.f149.results.toList
noncomputable def f149_2K : Ex → K α := (nxK (R Pq o c n (cB (cB b149)) (kend Pq o c n w rs149 k)) (kend Pq o c n w rs149 k))
noncomputable def f149_1 {α : Type} (o : α) (c : Call' α) (n : Nat) (k : AV → Heap → α) (s0 : AV) (h : Heap) : α :=
  geqF Pq o 21 s0 (.i .i32 97) fun v1 => bkF o true v1 (leqF Pq o 21 s0 (.i .i32 122) fun v2 => pickF o v1 v2 (.b false) fun v3 => k v3 h) (pickF o v1 (.tup []) (.b false) fun v4 => k v4 h)
theorem f149_1_ok : R Pq o c n (cB b149) (kend Pq o c n w rs149 k) = fun t _ h => f149_1 o c n k (t 0) h := (kseq rfl (r_start 3 (by kernel_rfl) (q_guard 3 5 (2, true) (by kernel_rfl) (by kernel_rfl) (by kernel_rfl) rfl))).tk
noncomputable def f149 (a0 : AV) (h : Heap) : α :=
  f149_1 o c n k a0 h
theorem f149_ok : R Pq o c n b149 (kend Pq o c n w rs149 k) = fun t _ h => f149 o c n k (t 0) h := (kseq (f149_1_ok o c n k w) rfl).tk
theorem f149_good : Good Pq (cfg mm) 149 (entF Pq (cfg mm) 149 1 fun α => f149) := entG b149 rs149 9 fun _ => f149_ok
noncomputable def b150 := bdy Tryz.f150
noncomputable def rs150 := Tryz.f150.results.toList
noncomputable def f150 {α : Type} (o : α) (c : Call' α) (n : Nat) (k : AV → Heap → α) (a0 : AV) (h : Heap) : α :=
  fil1 o 1 24 0 (.s 7 31069335677005666) (lrep [(.s 0 0)] 24) fun v1 => fil1 o 1 24 1 (.s 3 7630441) v1 fun v2 => fil1 o 1 24 2 (.s 4 1684631414) v2 fun v3 => fil1 o 1 24 3 (.s 5 495857003619) v3 fun v4 => fil1 o 1 24 4 (.s 7 32480047633037413) v4 fun v5 => fil1 o 1 24 5 (.s 6 109304575259763) v5 fun v6 => fil1 o 1 24 6 (.s 3 7824750) v6 fun v7 => fil1 o 1 24 7 (.s 4 1936287860) v7 fun v8 => fil1 o 1 24 8 (.s 5 491328140659) v8 fun v9 => fil1 o 1 24 9 (.s 4 1819047278) v9 fun v10 => fil1 o 1 24 10 (.s 4 1702195828) v10 fun v11 => fil1 o 1 24 11 (.s 5 435728179558) v11 fun v12 => fil1 o 1 24 12 (.s 2 26217) v12 fun v13 => fil1 o 1 24 13 (.s 4 1702063205) v13 fun v14 => fil1 o 1 24 14 (.s 5 435610544247) v14 fun v15 => fil1 o 1 24 15 (.s 6 121437875889522) v15 fun v16 => fil1 o 1 24 16 (.s 5 500068610672) v16 fun v17 => fil1 o 1 24 17 (.s 6 128034677158753) v17 fun v18 => fil1 o 1 24 18 (.s 5 512970877044) v18 fun v19 => fil1 o 1 24 19 (.s 3 7959156) v19 fun v20 => fil1 o 1 24 20 (.s 5 448345170275) v20 fun v21 => fil1 o 1 24 21 (.s 7 34177684928883046) v21 fun v22 => fil1 o 1 24 22 (.s 2 29537) v22 fun v23 => fil1 o 1 24 23 (.s 2 29545) v23 fun v24 => newEF h h.next 1 24 v24 fun v25 h => c 137 [v25, a0] h fun v26 h => pk k v26 h <| k v26 h
theorem f150_ok : R Pq o c n b150 (kend Pq o c n w rs150 k) = fun t _ h => f150 o c n k (t 0) h := by kernel_rfl
theorem f150_good : Good Pq (cfg mm) 150 (entF Pq (cfg mm) 150 1 fun α => f150) := entG b150 rs150 6 fun _ => f150_ok
noncomputable def b154 := bdy Tryz.f154
noncomputable def rs154 := Tryz.f154.results.toList
noncomputable def f154_2K : Ex → K α := (nxK (R Pq o c n (cB (cB b154)) (kend Pq o c n w rs154 k)) (kend Pq o c n w rs154 k))
noncomputable def f154_5 {α : Type} (o : α) (c : Call' α) (n : Nat) (k : AV → Heap → α) (s0 s13 s15 : AV) (h : Heap) : α :=
  pickF o s13 (.b true) s15 fun v1 => bkF o false v1 (eqiF Pq o 3 s0 (.i .i64 16) fun v2 => pickF o v1 (.b true) v2 fun v3 => k v3 h) (pickF o v1 (.b true) (.tup []) fun v4 => k v4 h)
theorem f154_5_ok : Q Pq o c (cO (cA (cB b154))) (f154_2K o c n k w) 13 = fun t _ h => f154_5 o c n k (t 0) (t 13) (t 15) h := (q_seg 13 15 (by kernel_rfl) (q_guard 15 17 (14, false) (by kernel_rfl) (by kernel_rfl) (by kernel_rfl) rfl)).tk
noncomputable def f154_4 (s0 s9 s11 : AV) (h : Heap) : α :=
  pickF o s9 (.b true) s11 fun v5 => bkF o false v5 (eqiF Pq o 3 s0 (.i .i64 15) fun v6 => f154_5 o c n k s0 v5 v6 h) (f154_5 o c n k s0 v5 (.tup []) h)
theorem f154_4_ok : Q Pq o c (cO (cA (cB b154))) (f154_2K o c n k w) 9 = fun t _ h => f154_4 o c n k (t 0) (t 9) (t 11) h := (q_seg 9 11 (by kernel_rfl) (q_guard 11 13 (10, false) (by kernel_rfl) (by kernel_rfl) (by kernel_rfl) (f154_5_ok o c n k w))).tk
noncomputable def f154_3 (s0 s5 s7 : AV) (h : Heap) : α :=
  pickF o s5 (.b true) s7 fun v7 => bkF o false v7 (eqiF Pq o 3 s0 (.i .i64 14) fun v8 => f154_4 o c n k s0 v7 v8 h) (f154_4 o c n k s0 v7 (.tup []) h)
theorem f154_3_ok : Q Pq o c (cO (cA (cB b154))) (f154_2K o c n k w) 5 = fun t _ h => f154_3 o c n k (t 0) (t 5) (t 7) h := (q_seg 5 7 (by kernel_rfl) (q_guard 7 9 (6, false) (by kernel_rfl) (by kernel_rfl) (by kernel_rfl) (f154_4_ok o c n k w))).tk
noncomputable def f154_1 (s0 : AV) (h : Heap) : α :=
  eqiF Pq o 3 s0 (.i .i64 9) fun v9 => bkF o false v9 (eqiF Pq o 3 s0 (.i .i64 13) fun v10 => f154_3 o c n k s0 v9 v10 h) (f154_3 o c n k s0 v9 (.tup []) h)
theorem f154_1_ok : R Pq o c n (cB b154) (kend Pq o c n w rs154 k) = fun t _ h => f154_1 o c n k (t 0) h := (kseq rfl (r_start 3 (by kernel_rfl) (q_guard 3 5 (2, false) (by kernel_rfl) (by kernel_rfl) (by kernel_rfl) (f154_3_ok o c n k w)))).tk
noncomputable def f154 (a0 : AV) (h : Heap) : α :=
  f154_1 o c n k a0 h
theorem f154_ok : R Pq o c n b154 (kend Pq o c n w rs154 k) = fun t _ h => f154 o c n k (t 0) h := (kseq (f154_1_ok o c n k w) rfl).tk
theorem f154_good : Good Pq (cfg mm) 154 (entF Pq (cfg mm) 154 1 fun α => f154) := entG b154 rs154 21 fun _ => f154_ok
noncomputable def b158 := bdy Tryz.f158
noncomputable def rs158 := Tryz.f158.results.toList
noncomputable def f158_2K : Ex → K α := (nxK (R Pq o c n (cB (cB b158)) (kend Pq o c n w rs158 k)) (kend Pq o c n w rs158 k))
noncomputable def f158_4 {α : Type} (o : α) (c : Call' α) (n : Nat) (k : AV → Heap → α) (m : Nat) : AVs (Heap → α) 4 :=
  Nat.rec (motive := fun _ => AVs (Heap → α) 4) (fun _ _ _ _ _ => o) (fun _ lp0 s1 s9 s10 s11 h => lssF Pq o 3 s11 s10 fun v1 => ifF o v1 (ixF o 4 s9 s11 fun v2 => loadNF o h 4 v2 fun v3 => newF h h.next 4 [(.s 0 0), (.s 0 0), .nsl, .nsl] fun v4 h => storeF o h 4 v4 v3 fun h => loadNF o h 4 v4 fun v5 => cfF o s1 [s11, v5] c h fun v6 h => pk k v6 h <| neiF Pq o 3 v6 (.i .i64 0) fun v7 => ifF o v7 (layF o 0 v6 [(.i .i64 0), (.i .i64 0)] fun v8 => layF o 1 s11 v8 fun v9 => k (.ifc 187 (.agg v9)) h) (addF Pq o 3 s11 (.i .i64 1) fun v10 => lp0 s1 s9 s10 v10 h)) (k .nifc h)) m
theorem f158_4_ok : R Pq o c n (cA (cB (cA (cB b158)))) (blockK (cI (cB (cA (cB b158)))) (f158_2K o c n k w)) = fun t _ h => f158_4 o c n k n (t 1) (t 9) (t 10) (t 11) h :=
  c_loop (F := fun m t _ h => f158_4 o c n k m (t 1) (t 9) (t 10) (t 11) h) (by kernel_rfl) (by kernel_rfl) fun m => by kernel_rfl
noncomputable def f158_3 (s1 s9 s10 s11 : AV) (h : Heap) : α :=
  f158_4 o c n k n s1 s9 s10 s11 h
theorem f158_3_ok : R Pq o c n (cB (cA (cB b158))) (f158_2K o c n k w) = fun t _ h => f158_3 o c n k (t 1) (t 9) (t 10) (t 11) h := (kblk (f158_4_ok o c n k w)).tk
noncomputable def f158_1 (s1 s2 : AV) (h : Heap) : α :=
  faF o 0 s2 fun v11 => load1F o h v11 fun v12 => lenF o v12 fun v13 => f158_3 o c n k s1 v12 v13 (.i .i64 0) h
theorem f158_1_ok : R Pq o c n (cB b158) (kend Pq o c n w rs158 k) = fun t _ h => f158_1 o c n k (t 1) (t 2) h := (kseq rfl (kseq (f158_3_ok o c n k w) rfl)).tk
noncomputable def f158 (a0 a1 : AV) (h : Heap) : α :=
  boxF o a0 h h.next fun v14 h => f158_1 o c n k a1 v14 h
theorem f158_ok : R Pq o c n b158 (kend Pq o c n w rs158 k) = fun t _ h => f158 o c n k (t 0) (t 1) h := (kseq (f158_1_ok o c n k w) rfl).tk
theorem f158_good : Good Pq (cfg mm) 158 (entF Pq (cfg mm) 158 2 fun α => f158) := entG b158 rs158 27 fun _ => f158_ok
noncomputable def b163 := bdy Tryz.f163
noncomputable def rs163 := Tryz.f163.results.toList
noncomputable def f163_2K : Ex → K α := (nxK (R Pq o c n (cB (cB b163)) (kend Pq o c n w rs163 k)) (kend Pq o c n w rs163 k))
noncomputable def f163_4 {α : Type} (o : α) (c : Call' α) (n : Nat) (k : AV → Heap → α) (s1 s2 s11 s13 : AV) (h : Heap) : α :=
  pickF o s11 (.b true) s13 fun v1 => bkF o false v1 (loadNF o h 1 s2 fun v2 => c 69 [v2, s1] h fun v3 h => pk k v3 h <| pickF o v1 (.b true) v3 fun v4 => k v4 h) (pickF o v1 (.b true) (.tup []) fun v5 => k v5 h)
theorem f163_4_ok : Q Pq o c (cO (cA (cB b163))) (f163_2K o c n k w) 9 = fun t _ h => f163_4 o c n k (t 1) (t 2) (t 11) (t 13) h := (q_seg 9 11 (by kernel_rfl) (q_guard 11 14 (10, false) (by kernel_rfl) (by kernel_rfl) (by kernel_rfl) rfl)).tk
noncomputable def f163_3 (s1 s2 s7 s9 : AV) (h : Heap) : α :=
  pickF o s7 (.b true) s9 fun v6 => bkF o false v6 (eqsF Pq o 9 s1 (.s 6 113723913172051) fun v7 => f163_4 o c n k s1 s2 v6 v7 h) (f163_4 o c n k s1 s2 v6 (.tup []) h)
theorem f163_3_ok : Q Pq o c (cO (cA (cB b163))) (f163_2K o c n k w) 5 = fun t _ h => f163_3 o c n k (t 1) (t 2) (t 7) (t 9) h := (q_seg 5 7 (by kernel_rfl) (q_guard 7 9 (6, false) (by kernel_rfl) (by kernel_rfl) (by kernel_rfl) (f163_4_ok o c n k w))).tk
noncomputable def f163_1 (s1 s2 : AV) (h : Heap) : α :=
  eqsF Pq o 9 s1 (.s 3 7630441) fun v8 => bkF o false v8 (eqsF Pq o 9 s1 (.s 7 31069335677005666) fun v9 => f163_3 o c n k s1 s2 v8 v9 h) (f163_3 o c n k s1 s2 v8 (.tup []) h)
theorem f163_1_ok : R Pq o c n (cB b163) (kend Pq o c n w rs163 k) = fun t _ h => f163_1 o c n k (t 1) (t 2) h := (kseq rfl (r_start 3 (by kernel_rfl) (q_guard 3 5 (2, false) (by kernel_rfl) (by kernel_rfl) (by kernel_rfl) (f163_3_ok o c n k w)))).tk
noncomputable def f163 (a0 a1 : AV) (h : Heap) : α :=
  boxF o a0 h h.next fun v10 h => f163_1 o c n k a1 v10 h
theorem f163_ok : R Pq o c n b163 (kend Pq o c n w rs163 k) = fun t _ h => f163 o c n k (t 0) (t 1) h := (kseq (f163_1_ok o c n k w) rfl).tk
theorem f163_good : Good Pq (cfg mm) 163 (entF Pq (cfg mm) 163 2 fun α => f163) := entG b163 rs163 20 fun _ => f163_ok
noncomputable def b167 := bdy Tryz.f167
noncomputable def rs167 := Tryz.f167.results.toList
noncomputable def f167_2K : Ex → K α := (nxK (R Pq o c n (cB (cB b167)) (kend Pq o c n w rs167 k)) (kend Pq o c n w rs167 k))
noncomputable def f167_3 {α : Type} (o : α) (c : Call' α) (n : Nat) (k : AV → Heap → α) (base : Nat) (s4 s19 : AV) (h : Heap) : α :=
  exF o s19 0 fun v1 => exF o s19 1 fun v2 => exF o s19 2 fun v3 => newF (h.look 0) (Nat.add base 14) 8 [(.i .i64 0), (.i .i32 0), (.s 0 0), (.s 0 0), (.s 0 0), .nsl, (.s 0 0), (.i .i64 0)] fun v4 h => storeF o (h.look 20479) 8 v4 v1 fun h => hb h.shut fun h => eqiF Pq o 3 v3 (.i .i64 0) fun v5 => c 226 [v5, v3] h fun v6 h => pk k v6 h <| loadNF o h 8 v4 fun v7 => storeF o h 8 s4 v7 fun h => on o (resV Pq h [(s4, some 57), (v2, none)]) fun v => k v h
theorem f167_3_ok (base : Nat) : QD Pq o c (cO (cA (cB b167))) base ((f167_2K o c n k w)) 10 = fun t _ h => f167_3 o c n k base (t 4) (t 19) h := by kernel_rfl
noncomputable def f167_1 (s0 s3 s4 : AV) (h : Heap) : α :=
  dreg o h 18 fun base h => nilChk o s0 fun v8 => faF o 0 v8 fun v9 => rootF o v9 s0 <| loadNF o (h.look 7) 1 v9 fun v10 => nilChk o s0 fun v11 => faF o 1 v11 fun v12 => rootF o v12 s0 <| loadNF o (h.look 112) 3 v12 fun v13 => loadNF o (h.look 0) 8 s3 fun v14 => callD o c (lapp (lapp [Nat.add base 14] []) []) 225 [v10, v13, v14] (h.look 0) fun v15 h => pnF v15 (fun x => o) <| f167_3 o c n k base s4 v15 h
theorem f167_1_ok : R Pq o c n (cB b167) (kend Pq o c n w rs167 k) = fun t _ h => f167_1 o c n k (t 0) (t 3) (t 4) h := (kseq rfl (r_startD 10 (by kernel_rfl) (by kernel_rfl) (X := fun base => fun t _ h => f167_3 o c n k base (t 4) (t 19) h) (fun base => f167_3_ok o c n k w base))).tk
noncomputable def f167 (a0 a1 : AV) (h : Heap) : α :=
  boxF o a1 h h.next fun v16 h => newF h h.next 8 [(.i .i64 0), (.i .i32 0), (.s 0 0), (.s 0 0), (.s 0 0), .nsl, (.s 0 0), (.i .i64 0)] fun v17 h => f167_1 o c n k a0 v16 v17 h
theorem f167_ok : R Pq o c n b167 (kend Pq o c n w rs167 k) = fun t _ h => f167 o c n k (t 0) (t 1) h := (kseq (f167_1_ok o c n k w) rfl).tk
theorem f167_good : Good Pq (cfg mm) 167 (entF Pq (cfg mm) 167 2 fun α => f167) := entG b167 rs167 29 fun _ => f167_ok
noncomputable def b169 := bdy Tryz.f169
noncomputable def rs169 := Tryz.f169.results.toList
noncomputable def f169_3 {α : Type} (o : α) (c : Call' α) (n : Nat) (k : AV → Heap → α) (s5 s6 s7 : AV) (h : Heap) : α :=
  faF o 5 s5 fun v1 => load1F o h v1 fun v2 => c 229 [s7, v2, .nsl] h fun v3 h => pk k v3 h <| faF o 5 s5 fun v4 => storeF o h 1 v4 v3 fun h => loadNF o h 6 s5 fun v5 => c 230 [v5] h fun v6 h => pk k v6 h <| c 226 [v6, (.i .i64 15)] h fun v7 h => pk k v7 h <| loadNF o h 6 s5 fun v8 => storeF o h 6 s6 v8 fun h => on o (resV Pq h [(s6, some 63)]) fun v => k v h
theorem f169_3_ok : R Pq o c n (cB (cB (cB b169))) (kend Pq o c n w rs169 k) = fun t _ h => f169_3 o c n k (t 5) (t 6) (t 7) h := by kernel_rfl
noncomputable def f169_4K : Ex → K α := (nxK (fun t _ h => f169_3 o c n k (t 5) (t 6) (t 7) h) (kend Pq o c n w rs169 k))
noncomputable def f169_5 (s1 s3 s5 s6 s7 s26 : AV) (h : Heap) : α :=
  ifF o s26 (loadNF o h 1 s3 fun v9 => c 172 [v9, s1] h fun v10 h => pk k v10 h <| f169_3 o c n k s5 s6 s7 h) (f169_3 o c n k s5 s6 s7 h)
theorem f169_5_ok : R Pq o c n (cB (cA (cB (cB b169)))) (f169_4K o c n k w) = fun t _ h => f169_5 o c n k (t 1) (t 3) (t 5) (t 6) (t 7) (t 26) h := by kernel_rfl
noncomputable def f169_6K : Ex → K α := (nxK (fun t _ h => f169_5 o c n k (t 1) (t 3) (t 5) (t 6) (t 7) (t 26) h) (f169_4K o c n k w))
noncomputable def f169_2 (s1 s3 s5 s6 s7 : AV) (h : Heap) : α :=
  faF o 1 s5 fun v11 => load1F o h v11 fun v12 => bkF o true v12 (faF o 5 s5 fun v13 => load1F o h v13 fun v14 => c 228 [v14] h fun v15 h => pk k v15 h <| notF o v15 fun v16 => pickF o v12 v16 (.b false) fun v17 => f169_5 o c n k s1 s3 s5 s6 s7 v17 h) (pickF o v12 (.tup []) (.b false) fun v18 => f169_5 o c n k s1 s3 s5 s6 s7 v18 h)
theorem f169_2_ok : R Pq o c n (cB (cB b169)) (kend Pq o c n w rs169 k) = fun t _ h => f169_2 o c n k (t 1) (t 3) (t 5) (t 6) (t 7) h := (kseq (f169_3_ok o c n k w) (kseq (f169_5_ok o c n k w) (r_start 3 (by kernel_rfl) (q_guard 3 7 (2, true) (by kernel_rfl) (by kernel_rfl) (by kernel_rfl) rfl)))).tk
noncomputable def f169_1 (s1 s3 s5 s6 : AV) (h : Heap) : α :=
  dreg o h 12 fun base h => loadNF o (h.look 0) 1 s3 fun v19 => faF o 0 s5 fun v20 => rootF o v20 s5 <| load1F o (h.look 4) v20 fun v21 => faF o 4 s5 fun v22 => rootF o v22 s5 <| load1F o (h.look 16) v22 fun v23 => callD o c (hidD false [(.fn (.func 67) [] []), v23] [] (sBlk s3 (sBlk s5 (sBlk s5 [])))) 67 [v23] (h.look 0) fun v24 h => pnF v24 (fun x => hb h.shut fun hd => loadNF o (h.look 0) 6 s5 fun v25 => k x.pn hd) <| layF o 0 s1 [(.s 0 0), (.b false), .nsl] fun v26 => layF o 1 v21 v26 fun v27 => layF o 2 v24 v27 fun v28 => loadNF o (h.look 0) 6 s5 fun v29 => layF o 0 v19 [.nsl, (.s 0 0), (.b false), .nsl, (.b false), (.b false), (.s 0 0), (.s 0 0), .nsl, .nsl] fun v30 => lay1 o 1 3 (.agg v28) v30 fun v31 => lay1 o 4 6 v29 v31 fun v32 => boxF o (.agg v32) (h.look 1023) (Nat.add base 10) fun v33 h => hb h.shut fun h => f169_2 o c n k s1 s3 s5 s6 v33 h
theorem f169_1_ok : R Pq o c n (cB b169) (kend Pq o c n w rs169 k) = fun t _ h => f169_1 o c n k (t 1) (t 3) (t 5) (t 6) h := (kseq (f169_2_ok o c n k w) rfl).tk
noncomputable def f169 (a0 a1 a2 : AV) (h : Heap) : α :=
  boxF o a0 h h.next fun v34 h => boxF o a2 h h.next fun v35 h => newF h h.next 6 [(.b false), (.b false), (.s 0 0), (.s 0 0), .nsl, .nsl] fun v36 h => f169_1 o c n k a1 v34 v35 v36 h
theorem f169_ok : R Pq o c n b169 (kend Pq o c n w rs169 k) = fun t _ h => f169 o c n k (t 0) (t 1) (t 2) h := (kseq (f169_1_ok o c n k w) rfl).tk
theorem f169_good : Good Pq (cfg mm) 169 (entF Pq (cfg mm) 169 3 fun α => f169) := entG b169 rs169 39 fun _ => f169_ok
noncomputable def b170 := bdy Tryz.f170
noncomputable def rs170 := Tryz.f170.results.toList
noncomputable def f170 {α : Type} (o : α) (c : Call' α) (n : Nat) (k : AV → Heap → α) (a0 a1 : AV) (h : Heap) : α :=
  c 231 [a0, a1] h fun v1 h => pk k v1 h <| geqF Pq o 3 v1 (.i .i64 0) fun v2 => k v2 h
theorem f170_ok : R Pq o c n b170 (kend Pq o c n w rs170 k) = fun t _ h => f170 o c n k (t 0) (t 1) h := by kernel_rfl
theorem f170_good : Good Pq (cfg mm) 170 (entF Pq (cfg mm) 170 2 fun α => f170) := entG b170 rs170 9 fun _ => f170_ok
noncomputable def b171 := bdy Tryz.f171
noncomputable def rs171 := Tryz.f171.results.toList
noncomputable def f171 {α : Type} (o : α) (c : Call' α) (n : Nat) (k : AV → Heap → α) (a0 : AV) (h : Heap) : α :=
  boxF o a0 h h.next fun v1 h => faF o 1 v1 fun v2 => load1F o h v2 fun v3 => k v3 h
theorem f171_ok : R Pq o c n b171 (kend Pq o c n w rs171 k) = fun t _ h => f171 o c n k (t 0) h := by kernel_rfl
theorem f171_good : Good Pq (cfg mm) 171 (entF Pq (cfg mm) 171 1 fun α => f171) := entG b171 rs171 5 fun _ => f171_ok
noncomputable def b173 := bdy Tryz.f173
noncomputable def rs173 := Tryz.f173.results.toList
noncomputable def f173_3K : Ex → K α := (nxK (R Pq o c n (cB (cB (cB b173))) (kend Pq o c n w rs173 k)) (kend Pq o c n w rs173 k))
noncomputable def f173_6K (lp0 : AVs (Heap → α) 7) : Ex → K α := (nxK (fun t _ h => lp0 (t 1) (t 2) (t 6) (t 7) (t 15) (t 16) (t 17) h) (blockK (cI (cB (cA (cB (cB b173))))) (f173_3K o c n k w)))
noncomputable def f173_9K (lp0 : AVs (Heap → α) 7) : Ex → K α := (nxK (R Pq o c n (cB (cB (cB (cA (cA (cB (cA (cB (cB b173))))))))) (f173_6K o c n k w lp0)) (f173_6K o c n k w lp0))
noncomputable def f173_14K (lp0 : AVs (Heap → α) 7) : Ex → K α := (nxK (R Pq o c n (cB (cB (cB (cB (cB (cA (cA (cB (cB (cA (cA (cB (cA (cB (cB b173))))))))))))))) (blockK (cI (cA (cB (cB (cA (cA (cB (cA (cB (cB b173)))))))))) (f173_9K o c n k w lp0))) (blockK (cI (cA (cB (cB (cA (cA (cB (cA (cB (cB b173)))))))))) (f173_9K o c n k w lp0)))
noncomputable def f173_16 {α : Type} (o : α) (c : Call' α) (n : Nat) (k : AV → Heap → α) (lp0 : AVs (Heap → α) 7) (m : Nat) : AVs (Heap → α) 12 :=
  Nat.rec (motive := fun _ => AVs (Heap → α) 12) (fun _ _ _ _ _ _ _ _ _ _ _ _ _ => o) (fun _ lp1 s1 s2 s6 s7 s9 s10 s12 s15 s16 s17 s45 s46 h => lssF Pq o 3 s46 s45 fun v1 => ifF o v1 (ixF o 6 s12 s46 fun v2 => faF o 4 v2 fun v3 => load1F o h v3 fun v4 => c 67 [v4] h fun v5 h => pk k v5 h <| ixF o 6 s12 s46 fun v6 => faF o 4 v6 fun v7 => storeF o h 1 v7 v5 fun h => ixF o 6 s12 s46 fun v8 => faF o 5 v8 fun v9 => load1F o h v9 fun v10 => c 234 [v10, s1, s2] h fun v11 h => pk k v11 h <| ixF o 6 s12 s46 fun v12 => faF o 5 v12 fun v13 => storeF o h 1 v13 v11 fun h => addF Pq o 3 s46 (.i .i64 1) fun v14 => lp1 s1 s2 s6 s7 s9 s10 s12 s15 s16 s17 s45 v14 h) (faF o 2 s9 fun v15 => storeF o h 1 v15 s10 fun h => faF o 3 s9 fun v16 => storeF o h 1 v16 s12 fun h => faF o 0 s7 fun v17 => load1F o h v17 fun v18 => loadNF o h 4 s9 fun v19 => fil1 o 4 1 0 v19 [[(.s 0 0), (.s 0 0), .nsl, .nsl]] fun v20 => newEF h h.next 4 1 v20 fun v21 h => appX Pq o h h.next 24 24 v18 v21 fun v22 h => faF o 0 s7 fun v23 => storeF o h 1 v23 v22 fun h => addF Pq o 3 s17 (.i .i64 1) fun v24 => lp0 s1 s2 s6 s7 s15 s16 v24 h)) m
theorem f173_16_ok (lp0 : AVs (Heap → α) 7) : R Pq o c n (cA (cB (cA (cB (cB (cB (cB (cA (cA (cB (cB (cA (cA (cB (cA (cB (cB b173))))))))))))))))) (blockK (cI (cB (cA (cB (cB (cB (cB (cA (cA (cB (cB (cA (cA (cB (cA (cB (cB b173))))))))))))))))) (f173_14K o c n k w lp0)) = fun t _ h => f173_16 o c n k lp0 n (t 1) (t 2) (t 6) (t 7) (t 9) (t 10) (t 12) (t 15) (t 16) (t 17) (t 45) (t 46) h :=
  c_loop (F := fun m t _ h => f173_16 o c n k lp0 m (t 1) (t 2) (t 6) (t 7) (t 9) (t 10) (t 12) (t 15) (t 16) (t 17) (t 45) (t 46) h) (by kernel_rfl) (by kernel_rfl) fun m => by kernel_rfl
noncomputable def f173_15 (lp0 : AVs (Heap → α) 7) (s1 s2 s6 s7 s9 s10 s12 s15 s16 s17 s45 s46 : AV) (h : Heap) : α :=
  f173_16 o c n k lp0 n s1 s2 s6 s7 s9 s10 s12 s15 s16 s17 s45 s46 h
theorem f173_15_ok (lp0 : AVs (Heap → α) 7) : R Pq o c n (cB (cA (cB (cB (cB (cB (cA (cA (cB (cB (cA (cA (cB (cA (cB (cB b173)))))))))))))))) (f173_14K o c n k w lp0) = fun t _ h => f173_15 o c n k lp0 (t 1) (t 2) (t 6) (t 7) (t 9) (t 10) (t 12) (t 15) (t 16) (t 17) (t 45) (t 46) h := (kblk (f173_16_ok o c n k w lp0)).tk
noncomputable def f173_13 (lp0 : AVs (Heap → α) 7) (s1 s2 s6 s7 s9 s10 s12 s15 s16 s17 : AV) (h : Heap) : α :=
  lenF o s12 fun v25 => f173_15 o c n k lp0 s1 s2 s6 s7 s9 s10 s12 s15 s16 s17 v25 (.i .i64 0) h
theorem f173_13_ok (lp0 : AVs (Heap → α) 7) : R Pq o c n (cB (cB (cB (cB (cA (cA (cB (cB (cA (cA (cB (cA (cB (cB b173)))))))))))))) (blockK (cI (cA (cB (cB (cA (cA (cB (cA (cB (cB b173)))))))))) (f173_9K o c n k w lp0)) = fun t _ h => f173_13 o c n k lp0 (t 1) (t 2) (t 6) (t 7) (t 9) (t 10) (t 12) (t 15) (t 16) (t 17) h := (kseq rfl (kseq (f173_15_ok o c n k w lp0) rfl)).tk
noncomputable def f173_12 (lp0 : AVs (Heap → α) 7) (s1 s2 s6 s7 s9 s10 s15 s16 s17 : AV) (h : Heap) : α :=
  faF o 3 s9 fun v26 => load1F o h v26 fun v27 => c 50 [v27] h fun v28 h => pk k v28 h <| f173_13 o c n k lp0 s1 s2 s6 s7 s9 s10 v28 s15 s16 s17 h
theorem f173_12_ok (lp0 : AVs (Heap → α) 7) : R Pq o c n (cB (cB (cB (cA (cA (cB (cB (cA (cA (cB (cA (cB (cB b173))))))))))))) (blockK (cI (cA (cB (cB (cA (cA (cB (cA (cB (cB b173)))))))))) (f173_9K o c n k w lp0)) = fun t _ h => f173_12 o c n k lp0 (t 1) (t 2) (t 6) (t 7) (t 9) (t 10) (t 15) (t 16) (t 17) h := (kseq (f173_13_ok o c n k w lp0) rfl).tk
noncomputable def f173_17K (lp0 : AVs (Heap → α) 7) : Ex → K α := (nxK (fun t _ h => f173_12 o c n k lp0 (t 1) (t 2) (t 6) (t 7) (t 9) (t 10) (t 15) (t 16) (t 17) h) (blockK (cI (cA (cB (cB (cA (cA (cB (cA (cB (cB b173)))))))))) (f173_9K o c n k w lp0)))
noncomputable def f173_19 (lp0 : AVs (Heap → α) 7) (m : Nat) : AVs (Heap → α) 11 :=
  Nat.rec (motive := fun _ => AVs (Heap → α) 11) (fun _ _ _ _ _ _ _ _ _ _ _ _ => o) (fun _ lp1 s1 s2 s6 s7 s9 s10 s15 s16 s17 s25 s26 h => lssF Pq o 3 s26 s25 fun v29 => ifF o v29 (ixF o 4 s10 s26 fun v30 => faF o 3 v30 fun v31 => load1F o h v31 fun v32 => c 233 [v32, s1] h fun v33 h => pk k v33 h <| ixF o 4 s10 s26 fun v34 => faF o 3 v34 fun v35 => storeF o h 1 v35 v33 fun h => addF Pq o 3 s26 (.i .i64 1) fun v36 => lp1 s1 s2 s6 s7 s9 s10 s15 s16 s17 s25 v36 h) (f173_12 o c n k lp0 s1 s2 s6 s7 s9 s10 s15 s16 s17 h)) m
theorem f173_19_ok (lp0 : AVs (Heap → α) 7) : R Pq o c n (cA (cB (cA (cB (cB (cA (cA (cB (cB (cA (cA (cB (cA (cB (cB b173))))))))))))))) (blockK (cI (cB (cA (cB (cB (cA (cA (cB (cB (cA (cA (cB (cA (cB (cB b173))))))))))))))) (f173_17K o c n k w lp0)) = fun t _ h => f173_19 o c n k lp0 n (t 1) (t 2) (t 6) (t 7) (t 9) (t 10) (t 15) (t 16) (t 17) (t 25) (t 26) h :=
  c_loop (F := fun m t _ h => f173_19 o c n k lp0 m (t 1) (t 2) (t 6) (t 7) (t 9) (t 10) (t 15) (t 16) (t 17) (t 25) (t 26) h) (by kernel_rfl) (by kernel_rfl) fun m => by kernel_rfl
noncomputable def f173_18 (lp0 : AVs (Heap → α) 7) (s1 s2 s6 s7 s9 s10 s15 s16 s17 s25 s26 : AV) (h : Heap) : α :=
  f173_19 o c n k lp0 n s1 s2 s6 s7 s9 s10 s15 s16 s17 s25 s26 h
theorem f173_18_ok (lp0 : AVs (Heap → α) 7) : R Pq o c n (cB (cA (cB (cB (cA (cA (cB (cB (cA (cA (cB (cA (cB (cB b173)))))))))))))) (f173_17K o c n k w lp0) = fun t _ h => f173_18 o c n k lp0 (t 1) (t 2) (t 6) (t 7) (t 9) (t 10) (t 15) (t 16) (t 17) (t 25) (t 26) h := (kblk (f173_19_ok o c n k w lp0)).tk
noncomputable def f173_11 (lp0 : AVs (Heap → α) 7) (s1 s2 s6 s7 s9 s10 s15 s16 s17 : AV) (h : Heap) : α :=
  lenF o s10 fun v37 => f173_18 o c n k lp0 s1 s2 s6 s7 s9 s10 s15 s16 s17 v37 (.i .i64 0) h
theorem f173_11_ok (lp0 : AVs (Heap → α) 7) : R Pq o c n (cB (cB (cA (cA (cB (cB (cA (cA (cB (cA (cB (cB b173)))))))))))) (blockK (cI (cA (cB (cB (cA (cA (cB (cA (cB (cB b173)))))))))) (f173_9K o c n k w lp0)) = fun t _ h => f173_11 o c n k lp0 (t 1) (t 2) (t 6) (t 7) (t 9) (t 10) (t 15) (t 16) (t 17) h := (kseq (f173_12_ok o c n k w lp0) (kseq (f173_18_ok o c n k w lp0) rfl)).tk
noncomputable def f173_10 (lp0 : AVs (Heap → α) 7) (s1 s2 s6 s7 s9 s15 s16 s17 : AV) (h : Heap) : α :=
  faF o 2 s9 fun v38 => load1F o h v38 fun v39 => c 65 [v39] h fun v40 h => pk k v40 h <| f173_11 o c n k lp0 s1 s2 s6 s7 s9 v40 s15 s16 s17 h
theorem f173_10_ok (lp0 : AVs (Heap → α) 7) : R Pq o c n (cB (cA (cA (cB (cB (cA (cA (cB (cA (cB (cB b173))))))))))) (blockK (cI (cA (cB (cB (cA (cA (cB (cA (cB (cB b173)))))))))) (f173_9K o c n k w lp0)) = fun t _ h => f173_10 o c n k lp0 (t 1) (t 2) (t 6) (t 7) (t 9) (t 15) (t 16) (t 17) h := (kseq (f173_11_ok o c n k w lp0) rfl).tk
noncomputable def f173_8 (lp0 : AVs (Heap → α) 7) (s1 s2 s6 s7 s15 s16 s17 : AV) (h : Heap) : α :=
  ixF o 4 s15 s17 fun v41 => loadNF o h 4 v41 fun v42 => newF h h.next 4 [(.s 0 0), (.s 0 0), .nsl, .nsl] fun v43 h => storeF o h 4 v43 v42 fun h => f173_10 o c n k lp0 s1 s2 s6 s7 v43 s15 s16 s17 h
theorem f173_8_ok (lp0 : AVs (Heap → α) 7) : R Pq o c n (cB (cB (cA (cA (cB (cA (cB (cB b173)))))))) (f173_6K o c n k w lp0) = fun t _ h => f173_8 o c n k lp0 (t 1) (t 2) (t 6) (t 7) (t 15) (t 16) (t 17) h := (kseq rfl (kblk (kseq (f173_10_ok o c n k w lp0) rfl))).tk
noncomputable def f173_7 (lp0 : AVs (Heap → α) 7) (s1 s2 s6 s7 s15 s16 s17 s18 : AV) (h : Heap) : α :=
  ifF o s18 (f173_8 o c n k lp0 s1 s2 s6 s7 s15 s16 s17 h) (loadNF o h 1 s7 fun v44 => storeF o h 1 s6 v44 fun h => on o (resV Pq h [(s6, some 26)]) fun v => k v h)
theorem f173_7_ok (lp0 : AVs (Heap → α) 7) : R Pq o c n (cB (cA (cA (cB (cA (cB (cB b173))))))) (f173_6K o c n k w lp0) = fun t _ h => f173_7 o c n k lp0 (t 1) (t 2) (t 6) (t 7) (t 15) (t 16) (t 17) (t 18) h := (kseq (f173_8_ok o c n k w lp0) rfl).tk
noncomputable def f173_5 (m : Nat) : AVs (Heap → α) 7 :=
  Nat.rec (motive := fun _ => AVs (Heap → α) 7) (fun _ _ _ _ _ _ _ _ => o) (fun _ lp0 s1 s2 s6 s7 s15 s16 s17 h => lssF Pq o 3 s17 s16 fun v45 => f173_7 o c n k lp0 s1 s2 s6 s7 s15 s16 s17 v45 h) m
theorem f173_5_ok : R Pq o c n (cA (cB (cA (cB (cB b173))))) (blockK (cI (cB (cA (cB (cB b173))))) (f173_3K o c n k w)) = fun t _ h => f173_5 o c n k n (t 1) (t 2) (t 6) (t 7) (t 15) (t 16) (t 17) h :=
  c_loop (F := fun m t _ h => f173_5 o c n k m (t 1) (t 2) (t 6) (t 7) (t 15) (t 16) (t 17) h) (by kernel_rfl) (by kernel_rfl) fun m => (kseq (f173_7_ok o c n k w (f173_5 o c n k m)) rfl).tk
noncomputable def f173_4 (s1 s2 s6 s7 s15 s16 s17 : AV) (h : Heap) : α :=
  f173_5 o c n k n s1 s2 s6 s7 s15 s16 s17 h
theorem f173_4_ok : R Pq o c n (cB (cA (cB (cB b173)))) (f173_3K o c n k w) = fun t _ h => f173_4 o c n k (t 1) (t 2) (t 6) (t 7) (t 15) (t 16) (t 17) h := (kblk (f173_5_ok o c n k w)).tk
noncomputable def f173_2 (s1 s2 s3 s6 s7 : AV) (h : Heap) : α :=
  faF o 0 s3 fun v46 => load1F o h v46 fun v47 => lenF o v47 fun v48 => f173_4 o c n k s1 s2 s6 s7 v47 v48 (.i .i64 0) h
theorem f173_2_ok : R Pq o c n (cB (cB b173)) (kend Pq o c n w rs173 k) = fun t _ h => f173_2 o c n k (t 1) (t 2) (t 3) (t 6) (t 7) h := (kseq rfl (kseq (f173_4_ok o c n k w) rfl)).tk
noncomputable def f173_1 (s1 s2 s3 s6 : AV) (h : Heap) : α :=
  newF h h.next 1 [.nsl] fun v49 h => f173_2 o c n k s1 s2 s3 s6 v49 h
theorem f173_1_ok : R Pq o c n (cB b173) (kend Pq o c n w rs173 k) = fun t _ h => f173_1 o c n k (t 1) (t 2) (t 3) (t 6) h := (kseq (f173_2_ok o c n k w) rfl).tk
noncomputable def f173 (a0 a1 a2 : AV) (h : Heap) : α :=
  boxF o a0 h h.next fun v50 h => newF h h.next 1 [.nsl] fun v51 h => f173_1 o c n k a1 a2 v50 v51 h
theorem f173_ok : R Pq o c n b173 (kend Pq o c n w rs173 k) = fun t _ h => f173 o c n k (t 0) (t 1) (t 2) h := (kseq (f173_1_ok o c n k w) rfl).tk
theorem f173_good : Good Pq (cfg mm) 173 (entF Pq (cfg mm) 173 3 fun α => f173) := entG b173 rs173 84 fun _ => f173_ok
noncomputable def b174 := bdy Tryz.f174
noncomputable def rs174 := Tryz.f174.results.toList
noncomputable def f174_4 {α : Type} (o : α) (c : Call' α) (n : Nat) (k : AV → Heap → α) (m : Nat) : AVs (Heap → α) 4 :=
  Nat.rec (motive := fun _ => AVs (Heap → α) 4) (fun _ _ _ _ _ => o) (fun _ lp0 s1 s10 s11 s12 h => lssF Pq o 3 s12 s11 fun v1 => ifF o v1 (ixF o 8 s10 s12 fun v2 => loadNF o h 8 v2 fun v3 => newF h h.next 8 [(.i .i64 0), (.i .i32 0), (.s 0 0), (.s 0 0), (.s 0 0), .nsl, (.s 0 0), (.i .i64 0)] fun v4 h => storeF o h 8 v4 v3 fun h => loadNF o h 8 v4 fun v5 => c 174 [v5, s1] h fun v6 h => pk k v6 h <| addF Pq o 3 s12 (.i .i64 1) fun v7 => lp0 s1 s10 s11 v7 h) (k (.tup []) h)) m
theorem f174_4_ok : R Pq o c n (cA (cB (cB (cB b174)))) (blockK (cI (cB (cB (cB b174)))) (kend Pq o c n w rs174 k)) = fun t _ h => f174_4 o c n k n (t 1) (t 10) (t 11) (t 12) h :=
  c_loop (F := fun m t _ h => f174_4 o c n k m (t 1) (t 10) (t 11) (t 12) h) (by kernel_rfl) (by kernel_rfl) fun m => by kernel_rfl
noncomputable def f174_3 (s1 s10 s11 s12 : AV) (h : Heap) : α :=
  f174_4 o c n k n s1 s10 s11 s12 h
theorem f174_3_ok : R Pq o c n (cB (cB (cB b174))) (kend Pq o c n w rs174 k) = fun t _ h => f174_3 o c n k (t 1) (t 10) (t 11) (t 12) h := (kblk (f174_4_ok o c n k w)).tk
noncomputable def f174_2 (s1 s2 : AV) (h : Heap) : α :=
  faF o 5 s2 fun v8 => load1F o h v8 fun v9 => lenF o v9 fun v10 => f174_3 o c n k s1 v9 v10 (.i .i64 0) h
theorem f174_2_ok : R Pq o c n (cB (cB b174)) (kend Pq o c n w rs174 k) = fun t _ h => f174_2 o c n k (t 1) (t 2) h := (kseq (f174_3_ok o c n k w) rfl).tk
noncomputable def f174_1 (s1 s2 : AV) (h : Heap) : α :=
  loadNF o h 8 s2 fun v11 => cfF o s1 [v11] c h fun v12 h => pk k v12 h <| f174_2 o c n k s1 s2 h
theorem f174_1_ok : R Pq o c n (cB b174) (kend Pq o c n w rs174 k) = fun t _ h => f174_1 o c n k (t 1) (t 2) h := (kseq (f174_2_ok o c n k w) rfl).tk
noncomputable def f174 (a0 a1 : AV) (h : Heap) : α :=
  boxF o a0 h h.next fun v13 h => f174_1 o c n k a1 v13 h
theorem f174_ok : R Pq o c n b174 (kend Pq o c n w rs174 k) = fun t _ h => f174 o c n k (t 0) (t 1) h := (kseq (f174_1_ok o c n k w) rfl).tk
theorem f174_good : Good Pq (cfg mm) 174 (entF Pq (cfg mm) 174 2 fun α => f174) := entG b174 rs174 20 fun _ => f174_ok
noncomputable def b176 := bdy Tryz.f176
noncomputable def rs176 := Tryz.f176.results.toList
noncomputable def f176_3K : Ex → K α := (nxK (R Pq o c n (cB (cB (cB b176))) (kend Pq o c n w rs176 k)) (kend Pq o c n w rs176 k))
noncomputable def f176_5 {α : Type} (o : α) (c : Call' α) (n : Nat) (k : AV → Heap → α) (m : Nat) : AVs (Heap → α) 6 :=
  Nat.rec (motive := fun _ => AVs (Heap → α) 6) (fun _ _ _ _ _ _ _ => o) (fun _ lp0 s1 s2 s3 s7 s8 s9 h => lssF Pq o 3 s9 s8 fun v1 => ifF o v1 (ixF o 8 s7 s9 fun v2 => loadNF o h 8 v2 fun v3 => newF h h.next 8 [(.i .i64 0), (.i .i32 0), (.s 0 0), (.s 0 0), (.s 0 0), .nsl, (.s 0 0), (.i .i64 0)] fun v4 h => storeF o h 8 v4 v3 fun h => loadNF o h 8 v4 fun v5 => c 176 [v5] h fun v6 h => pk k v6 h <| fil1 o 8 1 0 v6 [[(.i .i64 0), (.i .i32 0), (.s 0 0), (.s 0 0), (.s 0 0), .nsl, (.s 0 0), (.i .i64 0)]] fun v7 => newEF h h.next 8 1 v7 fun v8 h => appX Pq o h h.next 55 55 s3 v8 fun v9 h => addF Pq o 3 s9 (.i .i64 1) fun v10 => lp0 s1 s2 v9 s7 s8 v10 h) (faF o 5 s1 fun v11 => storeF o h 1 v11 s3 fun h => loadNF o h 8 s1 fun v12 => storeF o h 8 s2 v12 fun h => on o (resV Pq h [(s2, some 57)]) fun v => k v h)) m
theorem f176_5_ok : R Pq o c n (cA (cB (cA (cB (cB b176))))) (blockK (cI (cB (cA (cB (cB b176))))) (f176_3K o c n k w)) = fun t _ h => f176_5 o c n k n (t 1) (t 2) (t 3) (t 7) (t 8) (t 9) h :=
  c_loop (F := fun m t _ h => f176_5 o c n k m (t 1) (t 2) (t 3) (t 7) (t 8) (t 9) h) (by kernel_rfl) (by kernel_rfl) fun m => by kernel_rfl
noncomputable def f176_4 (s1 s2 s3 s7 s8 s9 : AV) (h : Heap) : α :=
  f176_5 o c n k n s1 s2 s3 s7 s8 s9 h
theorem f176_4_ok : R Pq o c n (cB (cA (cB (cB b176)))) (f176_3K o c n k w) = fun t _ h => f176_4 o c n k (t 1) (t 2) (t 3) (t 7) (t 8) (t 9) h := (kblk (f176_5_ok o c n k w)).tk
noncomputable def f176_2 (s1 s2 s3 : AV) (h : Heap) : α :=
  faF o 5 s1 fun v13 => load1F o h v13 fun v14 => lenF o v14 fun v15 => f176_4 o c n k s1 s2 s3 v14 v15 (.i .i64 0) h
theorem f176_2_ok : R Pq o c n (cB (cB b176)) (kend Pq o c n w rs176 k) = fun t _ h => f176_2 o c n k (t 1) (t 2) (t 3) h := (kseq rfl (kseq (f176_4_ok o c n k w) rfl)).tk
noncomputable def f176_1 (s1 s2 : AV) (h : Heap) : α :=
  f176_2 o c n k s1 s2 .nsl h
theorem f176_1_ok : R Pq o c n (cB b176) (kend Pq o c n w rs176 k) = fun t _ h => f176_1 o c n k (t 1) (t 2) h := (kseq (f176_2_ok o c n k w) rfl).tk
noncomputable def f176 (a0 : AV) (h : Heap) : α :=
  boxF o a0 h h.next fun v16 h => newF h h.next 8 [(.i .i64 0), (.i .i32 0), (.s 0 0), (.s 0 0), (.s 0 0), .nsl, (.s 0 0), (.i .i64 0)] fun v17 h => f176_1 o c n k v16 v17 h
theorem f176_ok : R Pq o c n b176 (kend Pq o c n w rs176 k) = fun t _ h => f176 o c n k (t 0) h := (kseq (f176_1_ok o c n k w) rfl).tk
theorem f176_good : Good Pq (cfg mm) 176 (entF Pq (cfg mm) 176 1 fun α => f176) := entG b176 rs176 22 fun _ => f176_ok
noncomputable def b179 := bdy Tryz.f179
noncomputable def rs179 := Tryz.f179.results.toList
noncomputable def f179 {α : Type} (o : α) (c : Call' α) (n : Nat) (k : AV → Heap → α) (a0 a1 : AV) (h : Heap) : α :=
  boxF o a0 h h.next fun v1 h => dreg o h 9 fun base h => load1F o (h.look 0) a1 fun v2 => loadNF o (h.look 0) 8 v1 fun v3 => callD o c (hidD false [(.fn (.func 176) [] []), v3] (lapp [Nat.add base 4] []) (sBlk a1 [])) 176 [v3] (h.look 0) fun v4 h => pnF v4 (fun x => o) <| lenF o v2 fun v5 => fil1 o 8 1 0 (.agg [(.i .i64 0), (.i .i32 0), (.s 0 0), (.s 0 0), (.s 0 0), .nsl, (.s 0 0), (.i .i64 0)]) [[(.i .i64 0), (.i .i32 0), (.s 0 0), (.s 0 0), (.s 0 0), .nsl, (.s 0 0), (.i .i64 0)]] fun v6 => newEF (h.look 0) (Nat.add base 4) 8 1 v6 fun v7 h => lb [] fun ids => appD o ids (Nat.add base 5) <| appendY Pq o (hide ids (h.look 31)) (Nat.add base 5) 55 55 v2 v7 fun v8 g => hb (back h ids g) fun h => ixF o 8 v8 v5 fun v9 => storeF o (h.look 127) 8 v9 v4 fun h => lb (sBlk v9 []) fun ids => storeF o (hide ids (h.look 63)) 1 a1 v8 fun g => hb (back h ids g) fun h => hb h.shut fun h => k (.tup []) h
theorem f179_ok : R Pq o c n b179 (kend Pq o c n w rs179 k) = fun t _ h => f179 o c n k (t 0) (t 1) h := by kernel_rfl
theorem f179_good : Good Pq (cfg mm) 179 (entF Pq (cfg mm) 179 2 fun α => f179) := entG b179 rs179 10 fun _ => f179_ok
noncomputable def b183 := bdy Tryz.f183
noncomputable def rs183 := Tryz.f183.results.toList
noncomputable def f183_2K : Ex → K α := (nxK (R Pq o c n (cB (cB b183)) (kend Pq o c n w rs183 k)) (kend Pq o c n w rs183 k))
noncomputable def f183_4 {α : Type} (o : α) (c : Call' α) (n : Nat) (k : AV → Heap → α) (m : Nat) : AVs (Heap → α) 4 :=
  Nat.rec (motive := fun _ => AVs (Heap → α) 4) (fun _ _ _ _ _ => o) (fun _ lp0 s0 s1 s7 s8 h => lssF Pq o 3 s8 s7 fun v1 => ifF o v1 (ixF o 4 s0 s8 fun v2 => loadNF o h 4 v2 fun v3 => cfF o s1 [v3] c h fun v4 h => pk k v4 h <| ifF o v4 (k s8 h) (addF Pq o 3 s8 (.i .i64 1) fun v5 => lp0 s0 s1 s7 v5 h)) (k (.i .i64 (-1)) h)) m
theorem f183_4_ok : R Pq o c n (cA (cB (cA (cB b183)))) (blockK (cI (cB (cA (cB b183)))) (f183_2K o c n k w)) = fun t _ h => f183_4 o c n k n (t 0) (t 1) (t 7) (t 8) h :=
  c_loop (F := fun m t _ h => f183_4 o c n k m (t 0) (t 1) (t 7) (t 8) h) (by kernel_rfl) (by kernel_rfl) fun m => by kernel_rfl
noncomputable def f183_3 (s0 s1 s7 s8 : AV) (h : Heap) : α :=
  f183_4 o c n k n s0 s1 s7 s8 h
theorem f183_3_ok : R Pq o c n (cB (cA (cB b183))) (f183_2K o c n k w) = fun t _ h => f183_3 o c n k (t 0) (t 1) (t 7) (t 8) h := (kblk (f183_4_ok o c n k w)).tk
noncomputable def f183_1 (s0 s1 : AV) (h : Heap) : α :=
  lenF o s0 fun v6 => f183_3 o c n k s0 s1 v6 (.i .i64 0) h
theorem f183_1_ok : R Pq o c n (cB b183) (kend Pq o c n w rs183 k) = fun t _ h => f183_1 o c n k (t 0) (t 1) h := (kseq rfl (kseq (f183_3_ok o c n k w) rfl)).tk
noncomputable def f183 (a0 a1 : AV) (h : Heap) : α :=
  f183_1 o c n k a0 a1 h
theorem f183_ok : R Pq o c n b183 (kend Pq o c n w rs183 k) = fun t _ h => f183 o c n k (t 0) (t 1) h := (kseq (f183_1_ok o c n k w) rfl).tk
theorem f183_good : Good Pq (cfg mm) 183 (entF Pq (cfg mm) 183 2 fun α => f183) := entG b183 rs183 19 fun _ => f183_ok
noncomputable def b184 := bdy Tryz.f184
noncomputable def rs184 := Tryz.f184.results.toList
noncomputable def f184 {α : Type} (o : α) (c : Call' α) (n : Nat) (k : AV → Heap → α) (a0 a1 : AV) (h : Heap) : α :=
  boxF o a0 h h.next fun v1 h => faF o 0 v1 fun v2 => load1F o h v2 fun v3 => load1F o h a1 fun v4 => eqsF Pq o 9 v3 v4 fun v5 => k v5 h
theorem f184_ok : R Pq o c n b184 (kend Pq o c n w rs184 k) = fun t _ h => f184 o c n k (t 0) (t 1) h := by kernel_rfl
theorem f184_good : Good Pq (cfg mm) 184 (entF Pq (cfg mm) 184 2 fun α => f184) := entG b184 rs184 8 fun _ => f184_ok
noncomputable def b199 := bdy Tryz.f199
noncomputable def rs199 := Tryz.f199.results.toList
noncomputable def f199_5K : Ex → K α := (nxK (R Pq o c n (cB (cB (cB (cB (cB b199))))) (kend Pq o c n w rs199 k)) (kend Pq o c n w rs199 k))
noncomputable def f199_7 {α : Type} (o : α) (c : Call' α) (n : Nat) (k : AV → Heap → α) (m : Nat) : AVs (Heap → α) 5 :=
  Nat.rec (motive := fun _ => AVs (Heap → α) 5) (fun _ _ _ _ _ _ => o) (fun _ lp0 s0 s1 s5 s6 s7 h => lensF o s5 fun v1 => lssF Pq o 3 s7 v1 fun v2 => ifF o v2 (binA Pq o .mul 3 s6 (.i .i64 10) fun v3 => sxF o s5 s7 fun v4 => binA Pq o .sub 5 v4 (.i .u8 48) fun v5 => convA Pq o 5 3 v5 fun v6 => addF Pq o 3 v3 v6 fun v7 => minmax o false v7 (.i .i64 1099511627776) fun v8 => addF Pq o 3 s7 (.i .i64 1) fun v9 => lp0 s0 s1 s5 v8 v9 h) (gtrF Pq o 3 s6 s1 fun v10 => ifF o v10 (c 78 [s0, (.i .i64 5)] h fun v11 h => pk k v11 h <| k (.i .i32 0) h) (nilChk o s0 fun v12 => faF o 2 v12 fun v13 => load1F o h v13 fun v14 => addF Pq o 3 v14 (.i .i64 1) fun v15 => nilChk o s0 fun v16 => faF o 2 v16 fun v17 => storeF o h 1 v17 v15 fun h => convA Pq o 3 21 s6 fun v18 => k v18 h))) m
theorem f199_7_ok : R Pq o c n (cA (cB (cA (cB (cB (cB (cB b199))))))) (blockK (cI (cB (cA (cB (cB (cB (cB b199))))))) (f199_5K o c n k w)) = fun t _ h => f199_7 o c n k n (t 0) (t 1) (t 5) (t 6) (t 7) h :=
  c_loop (F := fun m t _ h => f199_7 o c n k m (t 0) (t 1) (t 5) (t 6) (t 7) h) (by kernel_rfl) (by kernel_rfl) fun m => by kernel_rfl
noncomputable def f199_6 (s0 s1 s5 s6 s7 : AV) (h : Heap) : α :=
  f199_7 o c n k n s0 s1 s5 s6 s7 h
theorem f199_6_ok : R Pq o c n (cB (cA (cB (cB (cB (cB b199)))))) (f199_5K o c n k w) = fun t _ h => f199_6 o c n k (t 0) (t 1) (t 5) (t 6) (t 7) h := (kblk (f199_7_ok o c n k w)).tk
noncomputable def f199_4 (s0 s1 s5 s6 : AV) (h : Heap) : α :=
  f199_6 o c n k s0 s1 s5 s6 (.i .i64 0) h
theorem f199_4_ok : R Pq o c n (cB (cB (cB (cB b199)))) (kend Pq o c n w rs199 k) = fun t _ h => f199_4 o c n k (t 0) (t 1) (t 5) (t 6) h := (kseq rfl (kseq (f199_6_ok o c n k w) rfl)).tk
noncomputable def f199_3 (s0 s1 s5 : AV) (h : Heap) : α :=
  f199_4 o c n k s0 s1 s5 (.i .i64 0) h
theorem f199_3_ok : R Pq o c n (cB (cB (cB b199))) (kend Pq o c n w rs199 k) = fun t _ h => f199_3 o c n k (t 0) (t 1) (t 5) h := (kseq (f199_4_ok o c n k w) rfl).tk
noncomputable def f199_2 (s0 s1 : AV) (h : Heap) : α :=
  dreg o h 12 fun base h => nilChk o s0 fun v19 => faF o 0 v19 fun v20 => rootF o v20 s0 <| load1F o (h.look 7) v20 fun v21 => nilChk o s0 fun v22 => faF o 2 v22 fun v23 => rootF o v23 s0 <| load1F o (h.look 112) v23 fun v24 => ixF o 3 v21 v24 fun v25 => faF o 1 v25 fun v26 => load1F o (h.look 1023) v26 fun v27 => hb h.shut fun h => f199_3 o c n k s0 s1 v27 h
theorem f199_2_ok : R Pq o c n (cB (cB b199)) (kend Pq o c n w rs199 k) = fun t _ h => f199_2 o c n k (t 0) (t 1) h := (kseq (f199_3_ok o c n k w) rfl).tk
noncomputable def f199_1 (s0 s1 : AV) (h : Heap) : α :=
  c 82 [s0, (.i .i64 0), (.i .i64 2), (.s 0 0)] h fun v28 h => pk k v28 h <| notF o v28 fun v29 => ifF o v29 (c 78 [s0, (.i .i64 3)] h fun v30 h => pk k v30 h <| k (.i .i32 0) h) (f199_2 o c n k s0 s1 h)
theorem f199_1_ok : R Pq o c n (cB b199) (kend Pq o c n w rs199 k) = fun t _ h => f199_1 o c n k (t 0) (t 1) h := (kseq (f199_2_ok o c n k w) rfl).tk
noncomputable def f199 (a0 a1 : AV) (h : Heap) : α :=
  f199_1 o c n k a0 a1 h
theorem f199_ok : R Pq o c n b199 (kend Pq o c n w rs199 k) = fun t _ h => f199 o c n k (t 0) (t 1) h := (kseq (f199_1_ok o c n k w) rfl).tk
theorem f199_good : Good Pq (cfg mm) 199 (entF Pq (cfg mm) 199 2 fun α => f199) := entG b199 rs199 53 fun _ => f199_ok
noncomputable def b204 := bdy Tryz.f204
noncomputable def rs204 := Tryz.f204.results.toList
noncomputable def f204_2K : Ex → K α := (nxK (R Pq o c n (cB (cB b204)) (kend Pq o c n w rs204 k)) (kend Pq o c n w rs204 k))
noncomputable def f204_3 {α : Type} (o : α) (c : Call' α) (n : Nat) (k : AV → Heap → α) (s0 s5 s9 : AV) (h : Heap) : α :=
  pickF o s5 s9 (.b false) fun v1 => bkF o true v1 (c 150 [s0] h fun v2 h => pk k v2 h <| notF o v2 fun v3 => pickF o v1 v3 (.b false) fun v4 => k v4 h) (pickF o v1 (.tup []) (.b false) fun v5 => k v5 h)
theorem f204_3_ok : Q Pq o c (cO (cA (cB b204))) (f204_2K o c n k w) 7 = fun t _ h => f204_3 o c n k (t 0) (t 5) (t 9) h := (q_seg 7 9 (by kernel_rfl) (q_guard 9 12 (8, true) (by kernel_rfl) (by kernel_rfl) (by kernel_rfl) rfl)).tk
noncomputable def f204_1 (s0 : AV) (h : Heap) : α :=
  nesF Pq o 9 s0 (.s 0 0) fun v6 => bkF o true v6 (sxF o s0 (.i .i64 0) fun v7 => convA Pq o 5 21 v7 fun v8 => c 149 [v8] h fun v9 h => pk k v9 h <| f204_3 o c n k s0 v6 v9 h) (f204_3 o c n k s0 v6 (.tup []) h)
theorem f204_1_ok : R Pq o c n (cB b204) (kend Pq o c n w rs204 k) = fun t _ h => f204_1 o c n k (t 0) h := (kseq rfl (r_start 3 (by kernel_rfl) (q_guard 3 7 (2, true) (by kernel_rfl) (by kernel_rfl) (by kernel_rfl) (f204_3_ok o c n k w)))).tk
noncomputable def f204 (a0 : AV) (h : Heap) : α :=
  f204_1 o c n k a0 h
theorem f204_ok : R Pq o c n b204 (kend Pq o c n w rs204 k) = fun t _ h => f204 o c n k (t 0) h := (kseq (f204_1_ok o c n k w) rfl).tk
theorem f204_good : Good Pq (cfg mm) 204 (entF Pq (cfg mm) 204 1 fun α => f204) := entG b204 rs204 16 fun _ => f204_ok
noncomputable def b205 := bdy Tryz.f205
noncomputable def rs205 := Tryz.f205.results.toList
noncomputable def f205_2 {α : Type} (o : α) (c : Call' α) (n : Nat) (k : AV → Heap → α) (s0 s2 : AV) (h : Heap) : α :=
  c 248 [s0] h fun v1 h => pk k v1 h <| c 247 [s0, v1] h fun v2 h => pk k v2 h <| storeF o h 8 s2 v2 fun h => on o (resV Pq h [(s2, some 57)]) fun v => k v h
theorem f205_2_ok : R Pq o c n (cB (cB b205)) (kend Pq o c n w rs205 k) = fun t _ h => f205_2 o c n k (t 0) (t 2) h := by kernel_rfl
noncomputable def f205_3K : Ex → K α := (nxK (fun t _ h => f205_2 o c n k (t 0) (t 2) h) (kend Pq o c n w rs205 k))
noncomputable def f205_4 (s0 s2 s14 : AV) (h : Heap) : α :=
  ifF o s14 (dreg o h 12 fun base h => nilChk o s0 fun v3 => faF o 0 v3 fun v4 => rootF o v4 s0 <| load1F o (h.look 7) v4 fun v5 => nilChk o s0 fun v6 => faF o 2 v6 fun v7 => rootF o v7 s0 <| load1F o (h.look 112) v7 fun v8 => ixF o 3 v5 v8 fun v9 => faF o 1 v9 fun v10 => load1F o (h.look 1023) v10 fun v11 => hb h.shut fun h => c 140 [s0] h fun v12 h => pk k v12 h <| notF o v12 fun v13 => ifF o v13 (storeF o h 8 s2 (.agg [(.i .i64 0), (.i .i32 0), (.s 0 0), (.s 0 0), (.s 0 0), .nsl, (.s 0 0), (.i .i64 0)]) fun h => on o (resV Pq h [(s2, some 57)]) fun v => k v h) (nilChk o s0 fun v14 => faF o 2 v14 fun v15 => load1F o h v15 fun v16 => addF Pq o 3 v16 (.i .i64 1) fun v17 => nilChk o s0 fun v18 => faF o 2 v18 fun v19 => storeF o h 1 v19 v17 fun h => c 205 [s0] h fun v20 h => pk k v20 h <| newF h h.next 8 [(.i .i64 0), (.i .i32 0), (.s 0 0), (.s 0 0), (.s 0 0), .nsl, (.s 0 0), (.i .i64 0)] fun v21 h => storeF o h 8 v21 v20 fun h => nilChk o s0 fun v22 => faF o 5 v22 fun v23 => load1F o h v23 fun v24 => binA Pq o .sub 3 v24 (.i .i64 1) fun v25 => nilChk o s0 fun v26 => faF o 5 v26 fun v27 => storeF o h 1 v27 v25 fun h => loadNF o h 8 v21 fun v28 => fil1 o 8 1 0 v28 [[(.i .i64 0), (.i .i32 0), (.s 0 0), (.s 0 0), (.s 0 0), .nsl, (.s 0 0), (.i .i64 0)]] fun v29 => newEF h h.next 8 1 v29 fun v30 h => layF o 0 (.i .i64 18) [(.i .i64 0), (.i .i32 0), (.s 0 0), (.s 0 0), (.s 0 0), .nsl, (.s 0 0), (.i .i64 0)] fun v31 => layF o 3 v11 v31 fun v32 => layF o 5 v30 v32 fun v33 => storeF o h 8 s2 (.agg v33) fun h => on o (resV Pq h [(s2, some 57)]) fun v => k v h)) (f205_2 o c n k s0 s2 h)
theorem f205_4_ok : R Pq o c n (cB (cA (cB b205))) (f205_3K o c n k w) = fun t _ h => f205_4 o c n k (t 0) (t 2) (t 14) h := by kernel_rfl
noncomputable def f205_5K : Ex → K α := (nxK (fun t _ h => f205_4 o c n k (t 0) (t 2) (t 14) h) (f205_3K o c n k w))
noncomputable def f205_6 (s0 s2 s7 s9 : AV) (h : Heap) : α :=
  pickF o s7 (.b true) s9 fun v34 => bkF o false v34 (c 40 [s0, (.s 1 35)] h fun v35 h => pk k v35 h <| pickF o v34 (.b true) v35 fun v36 => f205_4 o c n k s0 s2 v36 h) (pickF o v34 (.b true) (.tup []) fun v37 => f205_4 o c n k s0 s2 v37 h)
theorem f205_6_ok : Q Pq o c (cO (cA (cA (cB b205)))) (f205_5K o c n k w) 5 = fun t _ h => f205_6 o c n k (t 0) (t 2) (t 7) (t 9) h := (q_seg 5 7 (by kernel_rfl) (q_guard 7 9 (6, false) (by kernel_rfl) (by kernel_rfl) (by kernel_rfl) rfl)).tk
noncomputable def f205_1 (s0 s2 : AV) (h : Heap) : α :=
  c 40 [s0, (.s 1 45)] h fun v38 h => pk k v38 h <| bkF o false v38 (c 40 [s0, (.s 1 33)] h fun v39 h => pk k v39 h <| f205_6 o c n k s0 s2 v38 v39 h) (f205_6 o c n k s0 s2 v38 (.tup []) h)
theorem f205_1_ok : R Pq o c n (cB b205) (kend Pq o c n w rs205 k) = fun t _ h => f205_1 o c n k (t 0) (t 2) h := (kseq (f205_2_ok o c n k w) (kseq (f205_4_ok o c n k w) (r_start 3 (by kernel_rfl) (q_guard 3 5 (2, false) (by kernel_rfl) (by kernel_rfl) (by kernel_rfl) (f205_6_ok o c n k w))))).tk
noncomputable def f205 (a0 : AV) (h : Heap) : α :=
  newF h h.next 8 [(.i .i64 0), (.i .i32 0), (.s 0 0), (.s 0 0), (.s 0 0), .nsl, (.s 0 0), (.i .i64 0)] fun v40 h => f205_1 o c n k a0 v40 h
theorem f205_ok : R Pq o c n b205 (kend Pq o c n w rs205 k) = fun t _ h => f205 o c n k (t 0) h := (kseq (f205_1_ok o c n k w) rfl).tk
theorem f205_good : Good Pq (cfg mm) 205 (entF Pq (cfg mm) 205 1 fun α => f205) := entG b205 rs205 54 fun _ => f205_ok
noncomputable def b206 := bdy Tryz.f206
noncomputable def rs206 := Tryz.f206.results.toList
noncomputable def f206_2K : Ex → K α := (nxK (R Pq o c n (cB (cB b206)) (kend Pq o c n w rs206 k)) (kend Pq o c n w rs206 k))
noncomputable def f206_9 {α : Type} (o : α) (c : Call' α) (n : Nat) (k : AV → Heap → α) (s17 : AV) (h : Heap) : α :=
  ifF o s17 (k (.i .i64 6) h) (k (.i .i64 0) h)
theorem f206_9_ok : R Pq o c n (cB (cB (cB (cB (cB (cB (cB (cB (cB (cB (cB (cA (cB (cA (cB b206))))))))))))))) (blockK (cI (cB (cA (cB b206)))) (f206_2K o c n k w)) = fun t _ h => f206_9 o c n k (t 17) h := by kernel_rfl
noncomputable def f206_8 (s3 s14 : AV) (h : Heap) : α :=
  ifF o s14 (k (.i .i64 5) h) (eqsF Pq o 9 s3 (.s 1 42) fun v1 => ifF o v1 (f206_9 o c n k v1 h) (eqsF Pq o 9 s3 (.s 1 47) fun v2 => ifF o v2 (f206_9 o c n k v2 h) (eqsF Pq o 9 s3 (.s 1 37) fun v3 => ifF o v3 (f206_9 o c n k v3 h) (eqsF Pq o 9 s3 (.s 1 64) fun v4 => f206_9 o c n k v4 h))))
theorem f206_8_ok : R Pq o c n (cB (cB (cB (cB (cB (cB (cB (cB (cB (cA (cB (cA (cB b206))))))))))))) (blockK (cI (cB (cA (cB b206)))) (f206_2K o c n k w)) = fun t _ h => f206_8 o c n k (t 3) (t 14) h := (c_cond (by kernel_rfl) rfl (kseq (f206_9_ok o c n k w) rfl)).tk
noncomputable def f206_7 (s3 s11 : AV) (h : Heap) : α :=
  ifF o s11 (k (.i .i64 4) h) (eqsF Pq o 9 s3 (.s 1 43) fun v5 => ifF o v5 (f206_8 o c n k s3 v5 h) (eqsF Pq o 9 s3 (.s 1 45) fun v6 => f206_8 o c n k s3 v6 h))
theorem f206_7_ok : R Pq o c n (cB (cB (cB (cB (cB (cB (cB (cA (cB (cA (cB b206))))))))))) (blockK (cI (cB (cA (cB b206)))) (f206_2K o c n k w)) = fun t _ h => f206_7 o c n k (t 3) (t 11) h := (c_cond (by kernel_rfl) rfl (kseq (f206_8_ok o c n k w) rfl)).tk
noncomputable def f206_6 (s3 s8 : AV) (h : Heap) : α :=
  ifF o s8 (k (.i .i64 3) h) (eqsF Pq o 9 s3 (.s 1 60) fun v7 => ifF o v7 (f206_7 o c n k s3 v7 h) (eqsF Pq o 9 s3 (.s 2 15676) fun v8 => f206_7 o c n k s3 v8 h))
theorem f206_6_ok : R Pq o c n (cB (cB (cB (cB (cB (cA (cB (cA (cB b206))))))))) (blockK (cI (cB (cA (cB b206)))) (f206_2K o c n k w)) = fun t _ h => f206_6 o c n k (t 3) (t 8) h := (c_cond (by kernel_rfl) rfl (kseq (f206_7_ok o c n k w) rfl)).tk
noncomputable def f206_5 (s3 s6 : AV) (h : Heap) : α :=
  ifF o s6 (k (.i .i64 2) h) (eqsF Pq o 9 s3 (.s 2 15677) fun v9 => ifF o v9 (f206_6 o c n k s3 v9 h) (eqsF Pq o 9 s3 (.s 2 15649) fun v10 => f206_6 o c n k s3 v10 h))
theorem f206_5_ok : R Pq o c n (cB (cB (cB (cA (cB (cA (cB b206))))))) (blockK (cI (cB (cA (cB b206)))) (f206_2K o c n k w)) = fun t _ h => f206_5 o c n k (t 3) (t 6) h := (c_cond (by kernel_rfl) rfl (kseq (f206_6_ok o c n k w) rfl)).tk
noncomputable def f206_4 (s3 s4 : AV) (h : Heap) : α :=
  ifF o s4 (k (.i .i64 1) h) (eqsF Pq o 9 s3 (.s 2 9766) fun v11 => f206_5 o c n k s3 v11 h)
theorem f206_4_ok : R Pq o c n (cB (cA (cB (cA (cB b206))))) (blockK (cI (cB (cA (cB b206)))) (f206_2K o c n k w)) = fun t _ h => f206_4 o c n k (t 3) (t 4) h := (c_cond (by kernel_rfl) rfl (kseq (f206_5_ok o c n k w) rfl)).tk
noncomputable def f206_3 (s3 : AV) (h : Heap) : α :=
  eqsF Pq o 9 s3 (.s 2 31868) fun v12 => f206_4 o c n k s3 v12 h
theorem f206_3_ok : R Pq o c n (cB (cA (cB b206))) (f206_2K o c n k w) = fun t _ h => f206_3 o c n k (t 3) h := (kblk (kseq (f206_4_ok o c n k w) rfl)).tk
noncomputable def f206_1 (s0 : AV) (h : Heap) : α :=
  f206_3 o c n k s0 h
theorem f206_1_ok : R Pq o c n (cB b206) (kend Pq o c n w rs206 k) = fun t _ h => f206_1 o c n k (t 0) h := (kseq rfl (kseq (f206_3_ok o c n k w) rfl)).tk
noncomputable def f206 (a0 : AV) (h : Heap) : α :=
  f206_1 o c n k a0 h
theorem f206_ok : R Pq o c n b206 (kend Pq o c n w rs206 k) = fun t _ h => f206 o c n k (t 0) h := (kseq (f206_1_ok o c n k w) rfl).tk
theorem f206_good : Good Pq (cfg mm) 206 (entF Pq (cfg mm) 206 1 fun α => f206) := entG b206 rs206 22 fun _ => f206_ok
noncomputable def b207 := bdy Tryz.f207
noncomputable def rs207 := Tryz.f207.results.toList
noncomputable def f207 {α : Type} (o : α) (c : Call' α) (n : Nat) (k : AV → Heap → α) (a0 : AV) (h : Heap) : α :=
  boxF o a0 h h.next fun v1 h => faF o 5 v1 fun v2 => load1F o h v2 fun v3 => c 145 [v3] h fun v4 h => pk k v4 h <| addF Pq o 3 (.i .i64 1) v4 fun v5 => k v5 h
theorem f207_ok : R Pq o c n b207 (kend Pq o c n w rs207 k) = fun t _ h => f207 o c n k (t 0) h := by kernel_rfl
theorem f207_good : Good Pq (cfg mm) 207 (entF Pq (cfg mm) 207 1 fun α => f207) := entG b207 rs207 7 fun _ => f207_ok
noncomputable def b217 := bdy Tryz.f217
noncomputable def rs217 := Tryz.f217.results.toList
noncomputable def f217 {α : Type} (o : α) (c : Call' α) (n : Nat) (k : AV → Heap → α) (a0 a1 : AV) (h : Heap) : α :=
  boxF o a0 h h.next fun v1 h => dreg o h 7 fun base h => faF o 4 a1 fun v2 => rootF o v2 a1 <| load1F o (h.look 1) v2 fun v3 => callD o c (hidD false [(.fn (.func 218) [] []), v3, (.fn (.func 219) [] [a1, v1])] [] (sBlk v1 [])) 218 [v3, (.fn (.func 219) [] [a1, v1])] (h.look 0) fun v4 h => pnF v4 (fun x => hb h.shut fun hd => load1F o (h.look 0) v1 fun v5 => k x.pn hd) <| load1F o (h.look 0) v1 fun v6 => lssF Pq o 3 v4 v6 fun v7 => hb h.shut fun h => k v7 h
theorem f217_ok : R Pq o c n b217 (kend Pq o c n w rs217 k) = fun t _ h => f217 o c n k (t 0) (t 1) h := by kernel_rfl
theorem f217_good : Good Pq (cfg mm) 217 (entF Pq (cfg mm) 217 2 fun α => f217) := entG b217 rs217 10 fun _ => f217_ok
noncomputable def b218 := bdy Tryz.f218
noncomputable def rs218 := Tryz.f218.results.toList
noncomputable def f218_2K : Ex → K α := (nxK (R Pq o c n (cB (cB b218)) (kend Pq o c n w rs218 k)) (kend Pq o c n w rs218 k))
noncomputable def f218_4 {α : Type} (o : α) (c : Call' α) (n : Nat) (k : AV → Heap → α) (m : Nat) : AVs (Heap → α) 4 :=
  Nat.rec (motive := fun _ => AVs (Heap → α) 4) (fun _ _ _ _ _ => o) (fun _ lp0 s0 s1 s7 s8 h => lssF Pq o 3 s8 s7 fun v1 => ifF o v1 (ixF o 2 s0 s8 fun v2 => loadNF o h 2 v2 fun v3 => cfF o s1 [v3] c h fun v4 h => pk k v4 h <| ifF o v4 (k s8 h) (addF Pq o 3 s8 (.i .i64 1) fun v5 => lp0 s0 s1 s7 v5 h)) (k (.i .i64 (-1)) h)) m
theorem f218_4_ok : R Pq o c n (cA (cB (cA (cB b218)))) (blockK (cI (cB (cA (cB b218)))) (f218_2K o c n k w)) = fun t _ h => f218_4 o c n k n (t 0) (t 1) (t 7) (t 8) h :=
  c_loop (F := fun m t _ h => f218_4 o c n k m (t 0) (t 1) (t 7) (t 8) h) (by kernel_rfl) (by kernel_rfl) fun m => by kernel_rfl
noncomputable def f218_3 (s0 s1 s7 s8 : AV) (h : Heap) : α :=
  f218_4 o c n k n s0 s1 s7 s8 h
theorem f218_3_ok : R Pq o c n (cB (cA (cB b218))) (f218_2K o c n k w) = fun t _ h => f218_3 o c n k (t 0) (t 1) (t 7) (t 8) h := (kblk (f218_4_ok o c n k w)).tk
noncomputable def f218_1 (s0 s1 : AV) (h : Heap) : α :=
  lenF o s0 fun v6 => f218_3 o c n k s0 s1 v6 (.i .i64 0) h
theorem f218_1_ok : R Pq o c n (cB b218) (kend Pq o c n w rs218 k) = fun t _ h => f218_1 o c n k (t 0) (t 1) h := (kseq rfl (kseq (f218_3_ok o c n k w) rfl)).tk
noncomputable def f218 (a0 a1 : AV) (h : Heap) : α :=
  f218_1 o c n k a0 a1 h
theorem f218_ok : R Pq o c n b218 (kend Pq o c n w rs218 k) = fun t _ h => f218 o c n k (t 0) (t 1) h := (kseq (f218_1_ok o c n k w) rfl).tk
theorem f218_good : Good Pq (cfg mm) 218 (entF Pq (cfg mm) 218 2 fun α => f218) := entG b218 rs218 19 fun _ => f218_ok
noncomputable def b219 := bdy Tryz.f219
noncomputable def rs219 := Tryz.f219.results.toList
noncomputable def f219 {α : Type} (o : α) (c : Call' α) (n : Nat) (k : AV → Heap → α) (a0 a1 a2 : AV) (h : Heap) : α :=
  boxF o a0 h h.next fun v1 h => dreg o h 10 fun base h => faF o 1 v1 fun v2 => rootF o v2 v1 <| load1F o (h.look 1) v2 fun v3 => faF o 4 a1 fun v4 => rootF o v4 a1 <| load1F o (h.look 4) v4 fun v5 => load1F o (h.look 0) a2 fun v6 => ixF o 2 v5 v6 fun v7 => faF o 1 v7 fun v8 => load1F o (h.look 124) v8 fun v9 => eqsF Pq o 9 v3 v9 fun v10 => hb h.shut fun h => k v10 h
theorem f219_ok : R Pq o c n b219 (kend Pq o c n w rs219 k) = fun t _ h => f219 o c n k (t 0) (t 1) (t 2) h := by kernel_rfl
theorem f219_good : Good Pq (cfg mm) 219 (entF Pq (cfg mm) 219 3 fun α => f219) := entG b219 rs219 14 fun _ => f219_ok
noncomputable def b220 := bdy Tryz.f220
noncomputable def rs220 := Tryz.f220.results.toList
noncomputable def f220_2K : Ex → K α := (nxK (R Pq o c n (cB (cB b220)) (kend Pq o c n w rs220 k)) (kend Pq o c n w rs220 k))
noncomputable def f220_1 {α : Type} (o : α) (c : Call' α) (n : Nat) (k : AV → Heap → α) (s2 s3 : AV) (h : Heap) : α :=
  faF o 3 s2 fun v1 => load1F o h v1 fun v2 => faF o 3 s3 fun v3 => load1F o h v3 fun v4 => eqsF Pq o 9 v2 v4 fun v5 => bkF o true v5 (loadNF o h 6 s2 fun v6 => loadNF o h 6 s3 fun v7 => c 260 [v6, v7] h fun v8 h => pk k v8 h <| pickF o v5 v8 (.b false) fun v9 => k v9 h) (pickF o v5 (.tup []) (.b false) fun v10 => k v10 h)
theorem f220_1_ok : R Pq o c n (cB b220) (kend Pq o c n w rs220 k) = fun t _ h => f220_1 o c n k (t 2) (t 3) h := (kseq rfl (r_start 6 (by kernel_rfl) (q_guard 6 9 (5, true) (by kernel_rfl) (by kernel_rfl) (by kernel_rfl) rfl))).tk
noncomputable def f220 (a0 a1 : AV) (h : Heap) : α :=
  boxF o a0 h h.next fun v11 h => boxF o a1 h h.next fun v12 h => f220_1 o c n k v11 v12 h
theorem f220_ok : R Pq o c n b220 (kend Pq o c n w rs220 k) = fun t _ h => f220 o c n k (t 0) (t 1) h := (kseq (f220_1_ok o c n k w) rfl).tk
theorem f220_good : Good Pq (cfg mm) 220 (entF Pq (cfg mm) 220 2 fun α => f220) := entG b220 rs220 15 fun _ => f220_ok
noncomputable def b221 := bdy Tryz.f221
noncomputable def rs221 := Tryz.f221.results.toList
noncomputable def f221 {α : Type} (o : α) (c : Call' α) (n : Nat) (k : AV → Heap → α) (a0 a1 : AV) (h : Heap) : α :=
  c 218 [a0, a1] h fun v1 h => pk k v1 h <| geqF Pq o 3 v1 (.i .i64 0) fun v2 => k v2 h
theorem f221_ok : R Pq o c n b221 (kend Pq o c n w rs221 k) = fun t _ h => f221 o c n k (t 0) (t 1) h := by kernel_rfl
theorem f221_good : Good Pq (cfg mm) 221 (entF Pq (cfg mm) 221 2 fun α => f221) := entG b221 rs221 9 fun _ => f221_ok
noncomputable def b222 := bdy Tryz.f222
noncomputable def rs222 := Tryz.f222.results.toList
noncomputable def f222 {α : Type} (o : α) (c : Call' α) (n : Nat) (k : AV → Heap → α) (a0 a1 : AV) (h : Heap) : α :=
  boxF o a0 h h.next fun v1 h => loadNF o h 1 a1 fun v2 => faF o 0 v1 fun v3 => load1F o h v3 fun v4 => c 163 [v2, v4] h fun v5 h => pk k v5 h <| notF o v5 fun v6 => k v6 h
theorem f222_ok : R Pq o c n b222 (kend Pq o c n w rs222 k) = fun t _ h => f222 o c n k (t 0) (t 1) h := by kernel_rfl
theorem f222_good : Good Pq (cfg mm) 222 (entF Pq (cfg mm) 222 2 fun α => f222) := entG b222 rs222 9 fun _ => f222_ok
noncomputable def b224 := bdy Tryz.f224
noncomputable def rs224 := Tryz.f224.results.toList
noncomputable def f224_3 {α : Type} (o : α) (c : Call' α) (n : Nat) (k : AV → Heap → α) (s3 s4 s6 : AV) (h : Heap) : α :=
  faF o 1 s3 fun v1 => load1F o h v1 fun v2 => ixF o 6 s6 v2 fun v3 => loadNF o h 6 v3 fun v4 => storeF o h 6 s4 v4 fun h => on o (resV Pq h [(s4, some 63), ((.b true), none)]) fun v => k v h
theorem f224_3_ok : R Pq o c n (cB (cB (cB b224))) (kend Pq o c n w rs224 k) = fun t _ h => f224_3 o c n k (t 3) (t 4) (t 6) h := by kernel_rfl
noncomputable def f224_4K : Ex → K α := (nxK (fun t _ h => f224_3 o c n k (t 3) (t 4) (t 6) h) (kend Pq o c n w rs224 k))
noncomputable def f224_5 (s3 s4 s6 s20 : AV) (h : Heap) : α :=
  ifF o s20 (storeF o h 6 s4 (.agg [(.b false), (.b false), (.s 0 0), (.s 0 0), .nsl, .nsl]) fun h => on o (resV Pq h [(s4, some 63), ((.b false), none)]) fun v => k v h) (f224_3 o c n k s3 s4 s6 h)
theorem f224_5_ok : R Pq o c n (cB (cA (cB (cB b224)))) (f224_4K o c n k w) = fun t _ h => f224_5 o c n k (t 3) (t 4) (t 6) (t 20) h := by kernel_rfl
noncomputable def f224_6K : Ex → K α := (nxK (fun t _ h => f224_5 o c n k (t 3) (t 4) (t 6) (t 20) h) (f224_4K o c n k w))
noncomputable def f224_2 (s3 s4 s6 : AV) (h : Heap) : α :=
  faF o 1 s3 fun v5 => load1F o h v5 fun v6 => lssF Pq o 3 v6 (.i .i64 0) fun v7 => bkF o false v7 (faF o 1 s3 fun v8 => load1F o h v8 fun v9 => lenF o s6 fun v10 => geqF Pq o 3 v9 v10 fun v11 => pickF o v7 (.b true) v11 fun v12 => f224_5 o c n k s3 s4 s6 v12 h) (pickF o v7 (.b true) (.tup []) fun v13 => f224_5 o c n k s3 s4 s6 v13 h)
theorem f224_2_ok : R Pq o c n (cB (cB b224)) (kend Pq o c n w rs224 k) = fun t _ h => f224_2 o c n k (t 3) (t 4) (t 6) h := (kseq (f224_3_ok o c n k w) (kseq (f224_5_ok o c n k w) (r_start 4 (by kernel_rfl) (q_guard 4 9 (3, false) (by kernel_rfl) (by kernel_rfl) (by kernel_rfl) rfl)))).tk
noncomputable def f224_1 (s2 s3 s4 : AV) (h : Heap) : α :=
  loadNF o h 1 s2 fun v14 => faF o 0 s3 fun v15 => load1F o h v15 fun v16 => c 261 [v14, v16] h fun v17 h => pk k v17 h <| f224_2 o c n k s3 s4 v17 h
theorem f224_1_ok : R Pq o c n (cB b224) (kend Pq o c n w rs224 k) = fun t _ h => f224_1 o c n k (t 2) (t 3) (t 4) h := (kseq (f224_2_ok o c n k w) rfl).tk
noncomputable def f224 (a0 a1 : AV) (h : Heap) : α :=
  boxF o a0 h h.next fun v18 h => boxF o a1 h h.next fun v19 h => newF h h.next 6 [(.b false), (.b false), (.s 0 0), (.s 0 0), .nsl, .nsl] fun v20 h => f224_1 o c n k v18 v19 v20 h
theorem f224_ok : R Pq o c n b224 (kend Pq o c n w rs224 k) = fun t _ h => f224 o c n k (t 0) (t 1) h := (kseq (f224_1_ok o c n k w) rfl).tk
theorem f224_good : Good Pq (cfg mm) 224 (entF Pq (cfg mm) 224 2 fun α => f224) := entG b224 rs224 27 fun _ => f224_ok
noncomputable def b225 := bdy Tryz.f225
noncomputable def rs225 := Tryz.f225.results.toList
noncomputable def f225_6 {α : Type} (o : α) (c : Call' α) (n : Nat) (k : AV → Heap → α) (s5 s6 s9 s13 : AV) (h : Heap) : α :=
  dreg o h 13 fun base h => faF o 1 s13 fun v1 => faF o 0 v1 fun v2 => rootF o v2 s13 <| load1F o (h.look 6) v2 fun v3 => faF o 1 s13 fun v4 => faF o 1 v4 fun v5 => rootF o v5 s13 <| load1F o (h.look 48) v5 fun v6 => faF o 5 s5 fun v7 => lb (sBlk v2 (sBlk v5 [])) fun ids => rootF o v7 s5 <| storeF o (hide ids (h.look 129)) 1 v7 s9 fun g => hb (back h ids g) fun h => faF o 6 s5 fun v8 => lb (sBlk v5 []) fun ids => rootF o v8 s5 <| storeF o (hide ids (h.look 911)) 1 v8 v3 fun g => hb (back h ids g) fun h => faF o 7 s5 fun v9 => rootF o v9 s5 <| storeF o (h.look 4095) 1 v9 v6 fun h => hb h.shut fun h => dreg o h 6 fun base h => loadNF o (h.look 0) 8 s5 fun v10 => faF o 0 s13 fun v11 => rootF o v11 s13 <| load1F o (h.look 2) v11 fun v12 => lb (sBlk v11 []) fun ids => storeF o (hide ids (h.look 1)) 8 s6 v10 fun g => hb (back h ids g) fun h => hb h.shut fun h => on o (resV Pq h [(s6, some 57), (v12, none), ((.i .i64 0), none)]) fun v => k v h
theorem f225_6_ok : R Pq o c n (cB (cB (cB (cB (cB (cB b225)))))) (kend Pq o c n w rs225 k) = fun t _ h => f225_6 o c n k (t 5) (t 6) (t 9) (t 13) h := by kernel_rfl
noncomputable def f225_7K : Ex → K α := (nxK (fun t _ h => f225_6 o c n k (t 5) (t 6) (t 9) (t 13) h) (kend Pq o c n w rs225 k))
noncomputable def f225_8 (s5 s6 s9 s13 s45 : AV) (h : Heap) : α :=
  ifF o s45 (dreg o h 6 fun base h => faF o 3 s13 fun v13 => rootF o v13 s13 <| load1F o (h.look 2) v13 fun v14 => lb (sBlk v13 []) fun ids => storeF o (hide ids (h.look 1)) 8 s6 (.agg [(.i .i64 0), (.i .i32 0), (.s 0 0), (.s 0 0), (.s 0 0), .nsl, (.s 0 0), (.i .i64 0)]) fun g => hb (back h ids g) fun h => hb h.shut fun h => on o (resV Pq h [(s6, some 57), ((.s 0 0), none), (v14, none)]) fun v => k v h) (f225_6 o c n k s5 s6 s9 s13 h)
theorem f225_8_ok : R Pq o c n (cB (cA (cB (cB (cB (cB (cB b225))))))) (f225_7K o c n k w) = fun t _ h => f225_8 o c n k (t 5) (t 6) (t 9) (t 13) (t 45) h := by kernel_rfl
noncomputable def f225_9K : Ex → K α := (nxK (fun t _ h => f225_8 o c n k (t 5) (t 6) (t 9) (t 13) (t 45) h) (f225_7K o c n k w))
noncomputable def f225_5 (s5 s6 s9 s13 s14 : AV) (h : Heap) : α :=
  notF o s14 fun v15 => bkF o false v15 (faF o 3 s13 fun v16 => load1F o h v16 fun v17 => neiF Pq o 3 v17 (.i .i64 0) fun v18 => pickF o v15 (.b true) v18 fun v19 => f225_8 o c n k s5 s6 s9 s13 v19 h) (pickF o v15 (.b true) (.tup []) fun v20 => f225_8 o c n k s5 s6 s9 s13 v20 h)
theorem f225_5_ok : R Pq o c n (cB (cB (cB (cB (cB b225))))) (kend Pq o c n w rs225 k) = fun t _ h => f225_5 o c n k (t 5) (t 6) (t 9) (t 13) (t 14) h := (kseq (f225_6_ok o c n k w) (kseq (f225_8_ok o c n k w) (r_start 3 (by kernel_rfl) (q_guard 3 6 (2, false) (by kernel_rfl) (by kernel_rfl) (by kernel_rfl) rfl)))).tk
noncomputable def f225_4 (s5 s6 s9 s12 : AV) (h : Heap) : α :=
  loadNF o h 13 s12 fun v21 => c 264 [v21] h fun v22 h => pk k v22 h <| assertA Pq o v22 267 true fun v23 => exF o v23 0 fun v24 => exF o v23 1 fun v25 => newF h h.next 4 [(.s 0 0), (.s 0 0), (.i .i64 0), (.i .i64 0)] fun v26 h => storeF o h 4 v26 v24 fun h => f225_5 o c n k s5 s6 s9 v26 v25 h
theorem f225_4_ok : R Pq o c n (cB (cB (cB (cB b225)))) (kend Pq o c n w rs225 k) = fun t _ h => f225_4 o c n k (t 5) (t 6) (t 9) (t 12) h := (kseq (f225_5_ok o c n k w) rfl).tk
noncomputable def f225_3 (s3 s4 s5 s6 s9 s10 : AV) (h : Heap) : α :=
  loadNF o h 1 s3 fun v27 => loadNF o h 3 s4 fun v28 => loadNF o h 8 s5 fun v29 => layF o 0 v27 [.nsl, (.s 0 0), (.b false), .nsl, (.i .i64 0), (.i .i32 0), (.s 0 0), (.s 0 0), (.s 0 0), .nsl, (.s 0 0), (.i .i64 0), .nsl] fun v30 => lay1 o 1 3 v28 v30 fun v31 => lay1 o 4 8 v29 v31 fun v32 => layF o 12 s10 v32 fun v33 => newF h h.next 13 [.nsl, (.s 0 0), (.b false), .nsl, (.i .i64 0), (.i .i32 0), (.s 0 0), (.s 0 0), (.s 0 0), .nsl, (.s 0 0), (.i .i64 0), .nsl] fun v34 h => storeF o h 13 v34 (.agg v33) fun h => f225_4 o c n k s5 s6 s9 v34 h
theorem f225_3_ok : R Pq o c n (cB (cB (cB b225))) (kend Pq o c n w rs225 k) = fun t _ h => f225_3 o c n k (t 3) (t 4) (t 5) (t 6) (t 9) (t 10) h := (kseq (f225_4_ok o c n k w) rfl).tk
noncomputable def f225_2 (s3 s4 s5 s6 s9 s10 s11 : AV) (h : Heap) : α :=
  neiF Pq o 3 s11 (.i .i64 0) fun v35 => ifF o v35 (storeF o h 8 s6 (.agg [(.i .i64 0), (.i .i32 0), (.s 0 0), (.s 0 0), (.s 0 0), .nsl, (.s 0 0), (.i .i64 0)]) fun h => on o (resV Pq h [(s6, some 57), ((.s 0 0), none), (s11, none)]) fun v => k v h) (f225_3 o c n k s3 s4 s5 s6 s9 s10 h)
theorem f225_2_ok : R Pq o c n (cB (cB b225)) (kend Pq o c n w rs225 k) = fun t _ h => f225_2 o c n k (t 3) (t 4) (t 5) (t 6) (t 9) (t 10) (t 11) h := (kseq (f225_3_ok o c n k w) rfl).tk
noncomputable def f225_1 (s3 s4 s5 s6 : AV) (h : Heap) : α :=
  loadNF o h 1 s3 fun v36 => loadNF o h 3 s4 fun v37 => faF o 5 s5 fun v38 => load1F o h v38 fun v39 => c 263 [v36, v37, v39] h fun v40 h => pk k v40 h <| exF o v40 0 fun v41 => exF o v40 1 fun v42 => exF o v40 2 fun v43 => f225_2 o c n k s3 s4 s5 s6 v41 v42 v43 h
theorem f225_1_ok : R Pq o c n (cB b225) (kend Pq o c n w rs225 k) = fun t _ h => f225_1 o c n k (t 3) (t 4) (t 5) (t 6) h := (kseq (f225_2_ok o c n k w) rfl).tk
noncomputable def f225 (a0 a1 a2 : AV) (h : Heap) : α :=
  boxF o a0 h h.next fun v44 h => boxF o a1 h h.next fun v45 h => boxF o a2 h h.next fun v46 h => newF h h.next 8 [(.i .i64 0), (.i .i32 0), (.s 0 0), (.s 0 0), (.s 0 0), .nsl, (.s 0 0), (.i .i64 0)] fun v47 h => f225_1 o c n k v44 v45 v46 v47 h
theorem f225_ok : R Pq o c n b225 (kend Pq o c n w rs225 k) = fun t _ h => f225 o c n k (t 0) (t 1) (t 2) h := (kseq (f225_1_ok o c n k w) rfl).tk
theorem f225_good : Good Pq (cfg mm) 225 (entF Pq (cfg mm) 225 3 fun α => f225) := entG b225 rs225 62 fun _ => f225_ok
noncomputable def b226 := bdy Tryz.f226
noncomputable def rs226 := Tryz.f226.results.toList
noncomputable def f226 {α : Type} (o : α) (c : Call' α) (n : Nat) (k : AV → Heap → α) (a0 a1 : AV) (h : Heap) : α :=
  notF o a0 fun v1 => ifF o v1 (c 96 [a1] h fun v2 h => pk k v2 h <| k (.tup []) h) (k (.tup []) h)
theorem f226_ok : R Pq o c n b226 (kend Pq o c n w rs226 k) = fun t _ h => f226 o c n k (t 0) (t 1) h := by kernel_rfl
theorem f226_good : Good Pq (cfg mm) 226 (entF Pq (cfg mm) 226 2 fun α => f226) := entG b226 rs226 8 fun _ => f226_ok
noncomputable def b227 := bdy Tryz.f227
noncomputable def rs227 := Tryz.f227.results.toList
noncomputable def f227_3K : Ex → K α := (nxK (R Pq o c n (cB (cB (cB b227))) (kend Pq o c n w rs227 k)) (kend Pq o c n w rs227 k))
noncomputable def f227_2 {α : Type} (o : α) (c : Call' α) (n : Nat) (k : AV → Heap → α) (s1 s2 s3 : AV) (h : Heap) : α :=
  loadNF o h 1 s3 fun v1 => c 69 [v1, s1] h fun v2 h => pk k v2 h <| bkF o true v2 (loadNF o h 1 s3 fun v3 => c 115 [v3, s1] h fun v4 h => pk k v4 h <| c 17 [v4, s2] h fun v5 h => pk k v5 h <| pickF o v2 v5 (.b false) fun v6 => k v6 h) (pickF o v2 (.tup []) (.b false) fun v7 => k v7 h)
theorem f227_2_ok : R Pq o c n (cB (cB b227)) (kend Pq o c n w rs227 k) = fun t _ h => f227_2 o c n k (t 1) (t 2) (t 3) h := (kseq rfl (r_start 4 (by kernel_rfl) (q_guard 4 9 (3, true) (by kernel_rfl) (by kernel_rfl) (by kernel_rfl) rfl))).tk
noncomputable def f227_4K : Ex → K α := (nxK (fun t _ h => f227_2 o c n k (t 1) (t 2) (t 3) h) (kend Pq o c n w rs227 k))
noncomputable def f227_6K : Ex → K α := (nxK (R Pq o c n (cB (cA (cB (cA (cA (cB b227)))))) (blockK (cI (cA (cB b227))) (f227_4K o c n k w))) (blockK (cI (cA (cB b227))) (f227_4K o c n k w)))
noncomputable def f227_5 (s1 s2 s3 s7 : AV) (h : Heap) : α :=
  ifF o s7 (eqsF Pq o 9 s1 (.s 4 1819047278) fun v8 => bkF o false v8 (loadNF o h 1 s3 fun v9 => c 163 [v9, s1] h fun v10 h => pk k v10 h <| pickF o v8 (.b true) v10 fun v11 => k v11 h) (pickF o v8 (.b true) (.tup []) fun v12 => k v12 h)) (eqsF Pq o 9 s1 (.s 4 1819047278) fun v13 => ifF o v13 (loadNF o h 1 s3 fun v14 => c 69 [v14, s2] h fun v15 h => pk k v15 h <| k v15 h) (f227_2 o c n k s1 s2 s3 h))
theorem f227_5_ok : R Pq o c n (cB (cA (cA (cB b227)))) (blockK (cI (cA (cB b227))) (f227_4K o c n k w)) = fun t _ h => f227_5 o c n k (t 1) (t 2) (t 3) (t 7) h := (c_cond (by kernel_rfl) (kseq rfl (r_start 3 (by kernel_rfl) (q_guard 3 6 (2, false) (by kernel_rfl) (by kernel_rfl) (by kernel_rfl) rfl))) rfl).tk
noncomputable def f227_1 (s1 s2 s3 : AV) (h : Heap) : α :=
  eqsF Pq o 9 s1 s2 fun v16 => f227_5 o c n k s1 s2 s3 v16 h
theorem f227_1_ok : R Pq o c n (cB b227) (kend Pq o c n w rs227 k) = fun t _ h => f227_1 o c n k (t 1) (t 2) (t 3) h := (kseq (f227_2_ok o c n k w) (kblk (kseq (f227_5_ok o c n k w) rfl))).tk
noncomputable def f227 (a0 a1 a2 : AV) (h : Heap) : α :=
  boxF o a0 h h.next fun v17 h => f227_1 o c n k a1 a2 v17 h
theorem f227_ok : R Pq o c n b227 (kend Pq o c n w rs227 k) = fun t _ h => f227 o c n k (t 0) (t 1) (t 2) h := (kseq (f227_1_ok o c n k w) rfl).tk
theorem f227_good : Good Pq (cfg mm) 227 (entF Pq (cfg mm) 227 3 fun α => f227) := entG b227 rs227 34 fun _ => f227_ok
noncomputable def b229 := bdy Tryz.f229
noncomputable def rs229 := Tryz.f229.results.toList
noncomputable def f229_5K : Ex → K α := (nxK (R Pq o c n (cB (cB (cB (cB (cB b229))))) (kend Pq o c n w rs229 k)) (kend Pq o c n w rs229 k))
noncomputable def f229_7 {α : Type} (o : α) (c : Call' α) (n : Nat) (k : AV → Heap → α) (m : Nat) : AVs (Heap → α) 6 :=
  Nat.rec (motive := fun _ => AVs (Heap → α) 6) (fun _ _ _ _ _ _ _ => o) (fun _ lp0 s0 s7 s8 s24 s25 s26 h => lssF Pq o 3 s26 s25 fun v1 => ifF o v1 (ixF o 9 s24 s26 fun v2 => loadNF o h 9 v2 fun v3 => newF h h.next 9 [(.i .i64 0), (.i .i32 0), (.s 0 0), (.s 0 0), .nsl, .nsl, .nsl, .nsl, (.i .i64 0)] fun v4 h => storeF o h 9 v4 v3 fun h => loadNF o h 9 v4 fun v5 => c 266 [s0, v5] h fun v6 h => pk k v6 h <| fil1 o 9 1 0 v6 [[(.i .i64 0), (.i .i32 0), (.s 0 0), (.s 0 0), .nsl, .nsl, .nsl, .nsl, (.i .i64 0)]] fun v7 => newEF h h.next 9 1 v7 fun v8 h => appX Pq o h h.next 61 61 s8 v8 fun v9 h => addF Pq o 3 s26 (.i .i64 1) fun v10 => lp0 s0 s7 v9 s24 s25 v10 h) (nilChk o s0 fun v11 => faF o 1 v11 fun v12 => faF o 2 v12 fun v13 => storeF o h 1 v13 s7 fun h => k s8 h)) m
theorem f229_7_ok : R Pq o c n (cA (cB (cA (cB (cB (cB (cB b229))))))) (blockK (cI (cB (cA (cB (cB (cB (cB b229))))))) (f229_5K o c n k w)) = fun t _ h => f229_7 o c n k n (t 0) (t 7) (t 8) (t 24) (t 25) (t 26) h :=
  c_loop (F := fun m t _ h => f229_7 o c n k m (t 0) (t 7) (t 8) (t 24) (t 25) (t 26) h) (by kernel_rfl) (by kernel_rfl) fun m => by kernel_rfl
noncomputable def f229_6 (s0 s7 s8 s24 s25 s26 : AV) (h : Heap) : α :=
  f229_7 o c n k n s0 s7 s8 s24 s25 s26 h
theorem f229_6_ok : R Pq o c n (cB (cA (cB (cB (cB (cB b229)))))) (f229_5K o c n k w) = fun t _ h => f229_6 o c n k (t 0) (t 7) (t 8) (t 24) (t 25) (t 26) h := (kblk (f229_7_ok o c n k w)).tk
noncomputable def f229_4 (s0 s1 s7 s8 : AV) (h : Heap) : α :=
  lenF o s1 fun v14 => f229_6 o c n k s0 s7 s8 s1 v14 (.i .i64 0) h
theorem f229_4_ok : R Pq o c n (cB (cB (cB (cB b229)))) (kend Pq o c n w rs229 k) = fun t _ h => f229_4 o c n k (t 0) (t 1) (t 7) (t 8) h := (kseq rfl (kseq (f229_6_ok o c n k w) rfl)).tk
noncomputable def f229_3 (s0 s1 s7 : AV) (h : Heap) : α :=
  f229_4 o c n k s0 s1 s7 .nsl h
theorem f229_3_ok : R Pq o c n (cB (cB (cB b229))) (kend Pq o c n w rs229 k) = fun t _ h => f229_3 o c n k (t 0) (t 1) (t 7) h := (kseq (f229_4_ok o c n k w) rfl).tk
noncomputable def f229_2 (s0 s1 s2 s7 : AV) (h : Heap) : α :=
  fil1 o 1 2 0 s7 [[.nsl], [.nsl]] fun v15 => fil1 o 1 2 1 s2 v15 fun v16 => newEF h h.next 1 2 v16 fun v17 h => c 265 [v17] h fun v18 h => pk k v18 h <| nilChk o s0 fun v19 => faF o 1 v19 fun v20 => faF o 2 v20 fun v21 => storeF o h 1 v21 v18 fun h => f229_3 o c n k s0 s1 s7 h
theorem f229_2_ok : R Pq o c n (cB (cB b229)) (kend Pq o c n w rs229 k) = fun t _ h => f229_2 o c n k (t 0) (t 1) (t 2) (t 7) h := (kseq (f229_3_ok o c n k w) rfl).tk
noncomputable def f229_1 (s0 s1 s2 : AV) (h : Heap) : α :=
  nilChk o s0 fun v22 => faF o 1 v22 fun v23 => faF o 2 v23 fun v24 => load1F o h v24 fun v25 => f229_2 o c n k s0 s1 s2 v25 h
theorem f229_1_ok : R Pq o c n (cB b229) (kend Pq o c n w rs229 k) = fun t _ h => f229_1 o c n k (t 0) (t 1) (t 2) h := (kseq (f229_2_ok o c n k w) rfl).tk
noncomputable def f229 (a0 a1 a2 : AV) (h : Heap) : α :=
  f229_1 o c n k a0 a1 a2 h
theorem f229_ok : R Pq o c n b229 (kend Pq o c n w rs229 k) = fun t _ h => f229 o c n k (t 0) (t 1) (t 2) h := (kseq (f229_1_ok o c n k w) rfl).tk
theorem f229_good : Good Pq (cfg mm) 229 (entF Pq (cfg mm) 229 3 fun α => f229) := entG b229 rs229 43 fun _ => f229_ok
noncomputable def b230 := bdy Tryz.f230
noncomputable def rs230 := Tryz.f230.results.toList
noncomputable def f230_2K : Ex → K α := (nxK (R Pq o c n (cB (cB b230)) (kend Pq o c n w rs230 k)) (kend Pq o c n w rs230 k))
noncomputable def f230_3 {α : Type} (o : α) (c : Call' α) (n : Nat) (k : AV → Heap → α) (s1 s5 s8 : AV) (h : Heap) : α :=
  pickF o s5 (.b true) s8 fun v1 => bkF o false v1 (faF o 5 s1 fun v2 => load1F o h v2 fun v3 => c 267 [v3] h fun v4 h => pk k v4 h <| notF o v4 fun v5 => pickF o v1 (.b true) v5 fun v6 => k v6 h) (pickF o v1 (.b true) (.tup []) fun v7 => k v7 h)
theorem f230_3_ok : Q Pq o c (cO (cA (cB b230))) (f230_2K o c n k w) 6 = fun t _ h => f230_3 o c n k (t 1) (t 5) (t 8) h := (q_seg 6 8 (by kernel_rfl) (q_guard 8 12 (7, false) (by kernel_rfl) (by kernel_rfl) (by kernel_rfl) rfl)).tk
noncomputable def f230_1 (s1 : AV) (h : Heap) : α :=
  faF o 1 s1 fun v8 => load1F o h v8 fun v9 => bkF o false v9 (faF o 2 s1 fun v10 => load1F o h v10 fun v11 => eqsF Pq o 9 v11 (.s 4 1684631414) fun v12 => f230_3 o c n k s1 v9 v12 h) (f230_3 o c n k s1 v9 (.tup []) h)
theorem f230_1_ok : R Pq o c n (cB b230) (kend Pq o c n w rs230 k) = fun t _ h => f230_1 o c n k (t 1) h := (kseq rfl (r_start 3 (by kernel_rfl) (q_guard 3 6 (2, false) (by kernel_rfl) (by kernel_rfl) (by kernel_rfl) (f230_3_ok o c n k w)))).tk
noncomputable def f230 (a0 : AV) (h : Heap) : α :=
  boxF o a0 h h.next fun v13 h => f230_1 o c n k v13 h
theorem f230_ok : R Pq o c n b230 (kend Pq o c n w rs230 k) = fun t _ h => f230 o c n k (t 0) h := (kseq (f230_1_ok o c n k w) rfl).tk
theorem f230_good : Good Pq (cfg mm) 230 (entF Pq (cfg mm) 230 1 fun α => f230) := entG b230 rs230 16 fun _ => f230_ok
noncomputable def b231 := bdy Tryz.f231
noncomputable def rs231 := Tryz.f231.results.toList
noncomputable def f231_2K : Ex → K α := (nxK (R Pq o c n (cB (cB b231)) (kend Pq o c n w rs231 k)) (kend Pq o c n w rs231 k))
noncomputable def f231_4 {α : Type} (o : α) (c : Call' α) (n : Nat) (k : AV → Heap → α) (m : Nat) : AVs (Heap → α) 4 :=
  Nat.rec (motive := fun _ => AVs (Heap → α) 4) (fun _ _ _ _ _ => o) (fun _ lp0 s0 s1 s7 s8 h => lssF Pq o 3 s8 s7 fun v1 => ifF o v1 (ixF o 6 s0 s8 fun v2 => loadNF o h 6 v2 fun v3 => cfF o s1 [v3] c h fun v4 h => pk k v4 h <| ifF o v4 (k s8 h) (addF Pq o 3 s8 (.i .i64 1) fun v5 => lp0 s0 s1 s7 v5 h)) (k (.i .i64 (-1)) h)) m
theorem f231_4_ok : R Pq o c n (cA (cB (cA (cB b231)))) (blockK (cI (cB (cA (cB b231)))) (f231_2K o c n k w)) = fun t _ h => f231_4 o c n k n (t 0) (t 1) (t 7) (t 8) h :=
  c_loop (F := fun m t _ h => f231_4 o c n k m (t 0) (t 1) (t 7) (t 8) h) (by kernel_rfl) (by kernel_rfl) fun m => by kernel_rfl
noncomputable def f231_3 (s0 s1 s7 s8 : AV) (h : Heap) : α :=
  f231_4 o c n k n s0 s1 s7 s8 h
theorem f231_3_ok : R Pq o c n (cB (cA (cB b231))) (f231_2K o c n k w) = fun t _ h => f231_3 o c n k (t 0) (t 1) (t 7) (t 8) h := (kblk (f231_4_ok o c n k w)).tk
noncomputable def f231_1 (s0 s1 : AV) (h : Heap) : α :=
  lenF o s0 fun v6 => f231_3 o c n k s0 s1 v6 (.i .i64 0) h
theorem f231_1_ok : R Pq o c n (cB b231) (kend Pq o c n w rs231 k) = fun t _ h => f231_1 o c n k (t 0) (t 1) h := (kseq rfl (kseq (f231_3_ok o c n k w) rfl)).tk
noncomputable def f231 (a0 a1 : AV) (h : Heap) : α :=
  f231_1 o c n k a0 a1 h
theorem f231_ok : R Pq o c n b231 (kend Pq o c n w rs231 k) = fun t _ h => f231 o c n k (t 0) (t 1) h := (kseq (f231_1_ok o c n k w) rfl).tk
theorem f231_good : Good Pq (cfg mm) 231 (entF Pq (cfg mm) 231 2 fun α => f231) := entG b231 rs231 19 fun _ => f231_ok
noncomputable def b233 := bdy Tryz.f233
noncomputable def rs233 := Tryz.f233.results.toList
noncomputable def f233_3K : Ex → K α := (nxK (R Pq o c n (cB (cB (cB b233))) (kend Pq o c n w rs233 k)) (kend Pq o c n w rs233 k))
noncomputable def f233_6K (lp0 : AVs (Heap → α) 5) : Ex → K α := (nxK (fun t _ h => lp0 (t 1) (t 5) (t 8) (t 9) (t 10) h) (blockK (cI (cB (cA (cB (cB b233))))) (f233_3K o c n k w)))
noncomputable def f233_9K (lp0 : AVs (Heap → α) 5) : Ex → K α := (nxK (R Pq o c n (cB (cB (cB (cA (cA (cB (cA (cB (cB b233))))))))) (f233_6K o c n k w lp0)) (f233_6K o c n k w lp0))
noncomputable def f233_12 {α : Type} (o : α) (c : Call' α) (n : Nat) (k : AV → Heap → α) (lp0 : AVs (Heap → α) 5) (s1 s5 s7 s8 s9 s10 : AV) (h : Heap) : α :=
  loadNF o h 8 s7 fun v1 => fil1 o 8 1 0 v1 [[(.i .i64 0), (.i .i32 0), (.s 0 0), (.s 0 0), (.s 0 0), .nsl, (.s 0 0), (.i .i64 0)]] fun v2 => newEF h h.next 8 1 v2 fun v3 h => appX Pq o h h.next 55 55 s5 v3 fun v4 h => addF Pq o 3 s10 (.i .i64 1) fun v5 => lp0 s1 v4 s8 s9 v5 h
theorem f233_12_ok (lp0 : AVs (Heap → α) 5) : R Pq o c n (cB (cB (cB (cA (cA (cB (cB (cA (cA (cB (cA (cB (cB b233))))))))))))) (blockK (cI (cA (cB (cB (cA (cA (cB (cA (cB (cB b233)))))))))) (f233_9K o c n k w lp0)) = fun t _ h => f233_12 o c n k lp0 (t 1) (t 5) (t 7) (t 8) (t 9) (t 10) h := by kernel_rfl
noncomputable def f233_11 (lp0 : AVs (Heap → α) 5) (s1 s5 s7 s8 s9 s10 : AV) (h : Heap) : α :=
  neiF Pq o 201 s1 .nfn fun v6 => ifF o v6 (loadNF o h 8 s7 fun v7 => cfF o s1 [v7] c h fun v8 h => pk k v8 h <| storeF o h 8 s7 v8 fun h => f233_12 o c n k lp0 s1 s5 s7 s8 s9 s10 h) (f233_12 o c n k lp0 s1 s5 s7 s8 s9 s10 h)
theorem f233_11_ok (lp0 : AVs (Heap → α) 5) : R Pq o c n (cB (cB (cA (cA (cB (cB (cA (cA (cB (cA (cB (cB b233)))))))))))) (blockK (cI (cA (cB (cB (cA (cA (cB (cA (cB (cB b233)))))))))) (f233_9K o c n k w lp0)) = fun t _ h => f233_11 o c n k lp0 (t 1) (t 5) (t 7) (t 8) (t 9) (t 10) h := (kseq (f233_12_ok o c n k w lp0) rfl).tk
noncomputable def f233_10 (lp0 : AVs (Heap → α) 5) (s1 s5 s7 s8 s9 s10 : AV) (h : Heap) : α :=
  faF o 5 s7 fun v9 => load1F o h v9 fun v10 => c 233 [v10, s1] h fun v11 h => pk k v11 h <| faF o 5 s7 fun v12 => storeF o h 1 v12 v11 fun h => f233_11 o c n k lp0 s1 s5 s7 s8 s9 s10 h
theorem f233_10_ok (lp0 : AVs (Heap → α) 5) : R Pq o c n (cB (cA (cA (cB (cB (cA (cA (cB (cA (cB (cB b233))))))))))) (blockK (cI (cA (cB (cB (cA (cA (cB (cA (cB (cB b233)))))))))) (f233_9K o c n k w lp0)) = fun t _ h => f233_10 o c n k lp0 (t 1) (t 5) (t 7) (t 8) (t 9) (t 10) h := (kseq (f233_11_ok o c n k w lp0) rfl).tk
noncomputable def f233_8 (lp0 : AVs (Heap → α) 5) (s1 s5 s8 s9 s10 : AV) (h : Heap) : α :=
  ixF o 8 s8 s10 fun v13 => loadNF o h 8 v13 fun v14 => newF h h.next 8 [(.i .i64 0), (.i .i32 0), (.s 0 0), (.s 0 0), (.s 0 0), .nsl, (.s 0 0), (.i .i64 0)] fun v15 h => storeF o h 8 v15 v14 fun h => f233_10 o c n k lp0 s1 s5 v15 s8 s9 s10 h
theorem f233_8_ok (lp0 : AVs (Heap → α) 5) : R Pq o c n (cB (cB (cA (cA (cB (cA (cB (cB b233)))))))) (f233_6K o c n k w lp0) = fun t _ h => f233_8 o c n k lp0 (t 1) (t 5) (t 8) (t 9) (t 10) h := (kseq rfl (kblk (kseq (f233_10_ok o c n k w lp0) rfl))).tk
noncomputable def f233_7 (lp0 : AVs (Heap → α) 5) (s1 s5 s8 s9 s10 s11 : AV) (h : Heap) : α :=
  ifF o s11 (f233_8 o c n k lp0 s1 s5 s8 s9 s10 h) (k s5 h)
theorem f233_7_ok (lp0 : AVs (Heap → α) 5) : R Pq o c n (cB (cA (cA (cB (cA (cB (cB b233))))))) (f233_6K o c n k w lp0) = fun t _ h => f233_7 o c n k lp0 (t 1) (t 5) (t 8) (t 9) (t 10) (t 11) h := (kseq (f233_8_ok o c n k w lp0) rfl).tk
noncomputable def f233_5 (m : Nat) : AVs (Heap → α) 5 :=
  Nat.rec (motive := fun _ => AVs (Heap → α) 5) (fun _ _ _ _ _ _ => o) (fun _ lp0 s1 s5 s8 s9 s10 h => lssF Pq o 3 s10 s9 fun v16 => f233_7 o c n k lp0 s1 s5 s8 s9 s10 v16 h) m
theorem f233_5_ok : R Pq o c n (cA (cB (cA (cB (cB b233))))) (blockK (cI (cB (cA (cB (cB b233))))) (f233_3K o c n k w)) = fun t _ h => f233_5 o c n k n (t 1) (t 5) (t 8) (t 9) (t 10) h :=
  c_loop (F := fun m t _ h => f233_5 o c n k m (t 1) (t 5) (t 8) (t 9) (t 10) h) (by kernel_rfl) (by kernel_rfl) fun m => (kseq (f233_7_ok o c n k w (f233_5 o c n k m)) rfl).tk
noncomputable def f233_4 (s1 s5 s8 s9 s10 : AV) (h : Heap) : α :=
  f233_5 o c n k n s1 s5 s8 s9 s10 h
theorem f233_4_ok : R Pq o c n (cB (cA (cB (cB b233)))) (f233_3K o c n k w) = fun t _ h => f233_4 o c n k (t 1) (t 5) (t 8) (t 9) (t 10) h := (kblk (f233_5_ok o c n k w)).tk
noncomputable def f233_2 (s0 s1 s5 : AV) (h : Heap) : α :=
  lenF o s0 fun v17 => f233_4 o c n k s1 s5 s0 v17 (.i .i64 0) h
theorem f233_2_ok : R Pq o c n (cB (cB b233)) (kend Pq o c n w rs233 k) = fun t _ h => f233_2 o c n k (t 0) (t 1) (t 5) h := (kseq rfl (kseq (f233_4_ok o c n k w) rfl)).tk
noncomputable def f233_1 (s0 s1 : AV) (h : Heap) : α :=
  f233_2 o c n k s0 s1 .nsl h
theorem f233_1_ok : R Pq o c n (cB b233) (kend Pq o c n w rs233 k) = fun t _ h => f233_1 o c n k (t 0) (t 1) h := (kseq (f233_2_ok o c n k w) rfl).tk
noncomputable def f233 (a0 a1 : AV) (h : Heap) : α :=
  f233_1 o c n k a0 a1 h
theorem f233_ok : R Pq o c n b233 (kend Pq o c n w rs233 k) = fun t _ h => f233 o c n k (t 0) (t 1) h := (kseq (f233_1_ok o c n k w) rfl).tk
theorem f233_good : Good Pq (cfg mm) 233 (entF Pq (cfg mm) 233 2 fun α => f233) := entG b233 rs233 30 fun _ => f233_ok
noncomputable def b234 := bdy Tryz.f234
noncomputable def rs234 := Tryz.f234.results.toList
noncomputable def f234_3K : Ex → K α := (nxK (R Pq o c n (cB (cB (cB b234))) (kend Pq o c n w rs234 k)) (kend Pq o c n w rs234 k))
noncomputable def f234_6K (lp0 : AVs (Heap → α) 6) : Ex → K α := (nxK (fun t _ h => lp0 (t 1) (t 2) (t 7) (t 10) (t 11) (t 12) h) (blockK (cI (cB (cA (cB (cB b234))))) (f234_3K o c n k w)))
noncomputable def f234_9K (lp0 : AVs (Heap → α) 6) : Ex → K α := (nxK (R Pq o c n (cB (cB (cB (cA (cA (cB (cA (cB (cB b234))))))))) (f234_6K o c n k w lp0)) (f234_6K o c n k w lp0))
noncomputable def f234_13 {α : Type} (o : α) (c : Call' α) (n : Nat) (k : AV → Heap → α) (lp0 : AVs (Heap → α) 6) (s1 s2 s7 s9 s10 s11 s12 : AV) (h : Heap) : α :=
  loadNF o h 9 s9 fun v1 => fil1 o 9 1 0 v1 [[(.i .i64 0), (.i .i32 0), (.s 0 0), (.s 0 0), .nsl, .nsl, .nsl, .nsl, (.i .i64 0)]] fun v2 => newEF h h.next 9 1 v2 fun v3 h => appX Pq o h h.next 61 61 s7 v3 fun v4 h => addF Pq o 3 s12 (.i .i64 1) fun v5 => lp0 s1 s2 v4 s10 s11 v5 h
theorem f234_13_ok (lp0 : AVs (Heap → α) 6) : R Pq o c n (cB (cB (cB (cB (cA (cA (cB (cB (cA (cA (cB (cA (cB (cB b234)))))))))))))) (blockK (cI (cA (cB (cB (cA (cA (cB (cA (cB (cB b234)))))))))) (f234_9K o c n k w lp0)) = fun t _ h => f234_13 o c n k lp0 (t 1) (t 2) (t 7) (t 9) (t 10) (t 11) (t 12) h := by kernel_rfl
noncomputable def f234_12 (lp0 : AVs (Heap → α) 6) (s1 s2 s7 s9 s10 s11 s12 : AV) (h : Heap) : α :=
  neiF Pq o 119 s2 .nfn fun v6 => ifF o v6 (loadNF o h 9 s9 fun v7 => cfF o s2 [v7] c h fun v8 h => pk k v8 h <| storeF o h 9 s9 v8 fun h => f234_13 o c n k lp0 s1 s2 s7 s9 s10 s11 s12 h) (f234_13 o c n k lp0 s1 s2 s7 s9 s10 s11 s12 h)
theorem f234_12_ok (lp0 : AVs (Heap → α) 6) : R Pq o c n (cB (cB (cB (cA (cA (cB (cB (cA (cA (cB (cA (cB (cB b234))))))))))))) (blockK (cI (cA (cB (cB (cA (cA (cB (cA (cB (cB b234)))))))))) (f234_9K o c n k w lp0)) = fun t _ h => f234_12 o c n k lp0 (t 1) (t 2) (t 7) (t 9) (t 10) (t 11) (t 12) h := (kseq (f234_13_ok o c n k w lp0) rfl).tk
noncomputable def f234_14K (lp0 : AVs (Heap → α) 6) : Ex → K α := (nxK (fun t _ h => f234_12 o c n k lp0 (t 1) (t 2) (t 7) (t 9) (t 10) (t 11) (t 12) h) (blockK (cI (cA (cB (cB (cA (cA (cB (cA (cB (cB b234)))))))))) (f234_9K o c n k w lp0)))
noncomputable def f234_17 (lp0 : AVs (Heap → α) 6) (base : Nat) (s1 s2 s7 s9 s10 s11 s12 s25 s30 s35 : AV) (h : Heap) : α :=
  faF o 5 s9 fun v9 => rootF o v9 s9 <| storeF o (h.look 65535) 1 v9 s25 fun h => faF o 6 s9 fun v10 => rootF o v10 s9 <| storeF o (h.look 262143) 1 v10 s30 fun h => faF o 7 s9 fun v11 => rootF o v11 s9 <| storeF o (h.look 1048575) 1 v11 s35 fun h => hb h.shut fun h => f234_12 o c n k lp0 s1 s2 s7 s9 s10 s11 s12 h
theorem f234_17_ok (lp0 : AVs (Heap → α) 6) (base : Nat) : QD Pq o c (cO (cA (cB (cB (cA (cA (cB (cB (cA (cA (cB (cA (cB (cB b234)))))))))))))) base ((f234_14K o c n k w lp0)) 15 = fun t _ h => f234_17 o c n k lp0 base (t 1) (t 2) (t 7) (t 9) (t 10) (t 11) (t 12) (t 25) (t 30) (t 35) h := by kernel_rfl
noncomputable def f234_16 (lp0 : AVs (Heap → α) 6) (base : Nat) (s1 s2 s7 s9 s10 s11 s12 s25 s30 : AV) (h : Heap) : α :=
  faF o 7 s9 fun v12 => rootF o v12 s9 <| load1F o (h.look 1024) v12 fun v13 => callD o c [] 234 [v13, s1, s2] (h.look 0) fun v14 h => pnF v14 (fun x => hb h.shut fun hd => faF o 5 s9 fun v15 => k x.pn hd) <| f234_17 o c n k lp0 base s1 s2 s7 s9 s10 s11 s12 s25 s30 v14 h
theorem f234_16_ok (lp0 : AVs (Heap → α) 6) (base : Nat) : QD Pq o c (cO (cA (cB (cB (cA (cA (cB (cB (cA (cA (cB (cA (cB (cB b234)))))))))))))) base ((f234_14K o c n k w lp0)) 10 = fun t _ h => f234_16 o c n k lp0 base (t 1) (t 2) (t 7) (t 9) (t 10) (t 11) (t 12) (t 25) (t 30) h := (qd_seg 10 15 (by kernel_rfl) (f234_17_ok o c n k w lp0 base)).tk
noncomputable def f234_15 (lp0 : AVs (Heap → α) 6) (base : Nat) (s1 s2 s7 s9 s10 s11 s12 s25 : AV) (h : Heap) : α :=
  faF o 6 s9 fun v16 => rootF o v16 s9 <| load1F o (h.look 32) v16 fun v17 => callD o c (hidD false [(.fn (.func 234) [] []), v17, s1, s2] [] (sBlk s9 [])) 234 [v17, s1, s2] (h.look 0) fun v18 h => pnF v18 (fun x => hb h.shut fun hd => faF o 7 s9 fun v19 => rootF o v19 s9 <| load1F o (h.look 1024) v19 fun v20 => faF o 5 s9 fun v21 => k x.pn hd) <| f234_16 o c n k lp0 base s1 s2 s7 s9 s10 s11 s12 s25 v18 h
theorem f234_15_ok (lp0 : AVs (Heap → α) 6) (base : Nat) : QD Pq o c (cO (cA (cB (cB (cA (cA (cB (cB (cA (cA (cB (cA (cB (cB b234)))))))))))))) base ((f234_14K o c n k w lp0)) 5 = fun t _ h => f234_15 o c n k lp0 base (t 1) (t 2) (t 7) (t 9) (t 10) (t 11) (t 12) (t 25) h := (qd_seg 5 10 (by kernel_rfl) (f234_16_ok o c n k w lp0 base)).tk
noncomputable def f234_11 (lp0 : AVs (Heap → α) 6) (s1 s2 s7 s9 s10 s11 s12 : AV) (h : Heap) : α :=
  dreg o h 21 fun base h => faF o 5 s9 fun v22 => rootF o v22 s9 <| load1F o (h.look 1) v22 fun v23 => callD o c (hidD false [(.fn (.func 234) [] []), v23, s1, s2] [] (sBlk s9 (sBlk s9 []))) 234 [v23, s1, s2] (h.look 0) fun v24 h => pnF v24 (fun x => hb h.shut fun hd => faF o 6 s9 fun v25 => rootF o v25 s9 <| load1F o (h.look 32) v25 fun v26 => faF o 7 s9 fun v27 => rootF o v27 s9 <| load1F o (h.look 1024) v27 fun v28 => k x.pn hd) <| f234_15 o c n k lp0 base s1 s2 s7 s9 s10 s11 s12 v24 h
theorem f234_11_ok (lp0 : AVs (Heap → α) 6) : R Pq o c n (cB (cB (cA (cA (cB (cB (cA (cA (cB (cA (cB (cB b234)))))))))))) (blockK (cI (cA (cB (cB (cA (cA (cB (cA (cB (cB b234)))))))))) (f234_9K o c n k w lp0)) = fun t _ h => f234_11 o c n k lp0 (t 1) (t 2) (t 7) (t 9) (t 10) (t 11) (t 12) h := (kseq (f234_12_ok o c n k w lp0) (r_startD 5 (by kernel_rfl) (by kernel_rfl) (X := fun base => fun t _ h => f234_15 o c n k lp0 base (t 1) (t 2) (t 7) (t 9) (t 10) (t 11) (t 12) (t 25) h) (fun base => f234_15_ok o c n k w lp0 base))).tk
noncomputable def f234_10 (lp0 : AVs (Heap → α) 6) (s1 s2 s7 s9 s10 s11 s12 : AV) (h : Heap) : α :=
  faF o 4 s9 fun v29 => load1F o h v29 fun v30 => c 233 [v30, s1] h fun v31 h => pk k v31 h <| faF o 4 s9 fun v32 => storeF o h 1 v32 v31 fun h => f234_11 o c n k lp0 s1 s2 s7 s9 s10 s11 s12 h
theorem f234_10_ok (lp0 : AVs (Heap → α) 6) : R Pq o c n (cB (cA (cA (cB (cB (cA (cA (cB (cA (cB (cB b234))))))))))) (blockK (cI (cA (cB (cB (cA (cA (cB (cA (cB (cB b234)))))))))) (f234_9K o c n k w lp0)) = fun t _ h => f234_10 o c n k lp0 (t 1) (t 2) (t 7) (t 9) (t 10) (t 11) (t 12) h := (kseq (f234_11_ok o c n k w lp0) rfl).tk
noncomputable def f234_8 (lp0 : AVs (Heap → α) 6) (s1 s2 s7 s10 s11 s12 : AV) (h : Heap) : α :=
  ixF o 9 s10 s12 fun v33 => loadNF o h 9 v33 fun v34 => newF h h.next 9 [(.i .i64 0), (.i .i32 0), (.s 0 0), (.s 0 0), .nsl, .nsl, .nsl, .nsl, (.i .i64 0)] fun v35 h => storeF o h 9 v35 v34 fun h => f234_10 o c n k lp0 s1 s2 s7 v35 s10 s11 s12 h
theorem f234_8_ok (lp0 : AVs (Heap → α) 6) : R Pq o c n (cB (cB (cA (cA (cB (cA (cB (cB b234)))))))) (f234_6K o c n k w lp0) = fun t _ h => f234_8 o c n k lp0 (t 1) (t 2) (t 7) (t 10) (t 11) (t 12) h := (kseq rfl (kblk (kseq (f234_10_ok o c n k w lp0) rfl))).tk
noncomputable def f234_7 (lp0 : AVs (Heap → α) 6) (s1 s2 s7 s10 s11 s12 s13 : AV) (h : Heap) : α :=
  ifF o s13 (f234_8 o c n k lp0 s1 s2 s7 s10 s11 s12 h) (k s7 h)
theorem f234_7_ok (lp0 : AVs (Heap → α) 6) : R Pq o c n (cB (cA (cA (cB (cA (cB (cB b234))))))) (f234_6K o c n k w lp0) = fun t _ h => f234_7 o c n k lp0 (t 1) (t 2) (t 7) (t 10) (t 11) (t 12) (t 13) h := (kseq (f234_8_ok o c n k w lp0) rfl).tk
noncomputable def f234_5 (m : Nat) : AVs (Heap → α) 6 :=
  Nat.rec (motive := fun _ => AVs (Heap → α) 6) (fun _ _ _ _ _ _ _ => o) (fun _ lp0 s1 s2 s7 s10 s11 s12 h => lssF Pq o 3 s12 s11 fun v36 => f234_7 o c n k lp0 s1 s2 s7 s10 s11 s12 v36 h) m
theorem f234_5_ok : R Pq o c n (cA (cB (cA (cB (cB b234))))) (blockK (cI (cB (cA (cB (cB b234))))) (f234_3K o c n k w)) = fun t _ h => f234_5 o c n k n (t 1) (t 2) (t 7) (t 10) (t 11) (t 12) h :=
  c_loop (F := fun m t _ h => f234_5 o c n k m (t 1) (t 2) (t 7) (t 10) (t 11) (t 12) h) (by kernel_rfl) (by kernel_rfl) fun m => (kseq (f234_7_ok o c n k w (f234_5 o c n k m)) rfl).tk
noncomputable def f234_4 (s1 s2 s7 s10 s11 s12 : AV) (h : Heap) : α :=
  f234_5 o c n k n s1 s2 s7 s10 s11 s12 h
theorem f234_4_ok : R Pq o c n (cB (cA (cB (cB b234)))) (f234_3K o c n k w) = fun t _ h => f234_4 o c n k (t 1) (t 2) (t 7) (t 10) (t 11) (t 12) h := (kblk (f234_5_ok o c n k w)).tk
noncomputable def f234_2 (s0 s1 s2 s7 : AV) (h : Heap) : α :=
  lenF o s0 fun v37 => f234_4 o c n k s1 s2 s7 s0 v37 (.i .i64 0) h
theorem f234_2_ok : R Pq o c n (cB (cB b234)) (kend Pq o c n w rs234 k) = fun t _ h => f234_2 o c n k (t 0) (t 1) (t 2) (t 7) h := (kseq rfl (kseq (f234_4_ok o c n k w) rfl)).tk
noncomputable def f234_1 (s0 s1 s2 : AV) (h : Heap) : α :=
  f234_2 o c n k s0 s1 s2 .nsl h
theorem f234_1_ok : R Pq o c n (cB b234) (kend Pq o c n w rs234 k) = fun t _ h => f234_1 o c n k (t 0) (t 1) (t 2) h := (kseq (f234_2_ok o c n k w) rfl).tk
noncomputable def f234 (a0 a1 a2 : AV) (h : Heap) : α :=
  f234_1 o c n k a0 a1 a2 h
theorem f234_ok : R Pq o c n b234 (kend Pq o c n w rs234 k) = fun t _ h => f234 o c n k (t 0) (t 1) (t 2) h := (kseq (f234_1_ok o c n k w) rfl).tk
theorem f234_good : Good Pq (cfg mm) 234 (entF Pq (cfg mm) 234 3 fun α => f234) := entG b234 rs234 50 fun _ => f234_ok
noncomputable def b235 := bdy Tryz.f235
noncomputable def rs235 := Tryz.f235.results.toList
noncomputable def f235_4 {α : Type} (o : α) (c : Call' α) (n : Nat) (k : AV → Heap → α) (s3 : AV) (h : Heap) : α :=
  eqiF Pq o 3 s3 (.i .i64 0) fun v1 => k v1 h
theorem f235_4_ok : R Pq o c n (cB (cB (cB (cB b235)))) (kend Pq o c n w rs235 k) = fun t _ h => f235_4 o c n k (t 3) h := by kernel_rfl
noncomputable def f235_3 (s0 s3 : AV) (h : Heap) : α :=
  binA Pq o .sub 3 s3 (.i .i64 1) fun v2 => nilChk o s0 fun v3 => faF o 0 v3 fun v4 => storeF o h 1 v4 (.ifc 3 v2) fun h => eqiF Pq o 3 s3 (.i .i64 0) fun v5 => ifF o v5 (nilChk o s0 fun v6 => faF o 0 v6 fun v7 => storeF o h 1 v7 .nifc fun h => f235_4 o c n k s3 h) (f235_4 o c n k s3 h)
theorem f235_3_ok : R Pq o c n (cB (cB (cB b235))) (kend Pq o c n w rs235 k) = fun t _ h => f235_3 o c n k (t 0) (t 3) h := (kseq (f235_4_ok o c n k w) rfl).tk
noncomputable def f235_2 (s0 s3 s4 : AV) (h : Heap) : α :=
  notF o s4 fun v8 => ifF o v8 (k (.b false) h) (f235_3 o c n k s0 s3 h)
theorem f235_2_ok : R Pq o c n (cB (cB b235)) (kend Pq o c n w rs235 k) = fun t _ h => f235_2 o c n k (t 0) (t 3) (t 4) h := (kseq (f235_3_ok o c n k w) rfl).tk
noncomputable def f235_1 (s0 : AV) (h : Heap) : α :=
  nilChk o s0 fun v9 => faF o 0 v9 fun v10 => load1F o h v10 fun v11 => assertA Pq o v11 3 true fun v12 => exF o v12 0 fun v13 => exF o v12 1 fun v14 => f235_2 o c n k s0 v13 v14 h
theorem f235_1_ok : R Pq o c n (cB b235) (kend Pq o c n w rs235 k) = fun t _ h => f235_1 o c n k (t 0) h := (kseq (f235_2_ok o c n k w) rfl).tk
noncomputable def f235 (a0 : AV) (h : Heap) : α :=
  f235_1 o c n k a0 h
theorem f235_ok : R Pq o c n b235 (kend Pq o c n w rs235 k) = fun t _ h => f235 o c n k (t 0) h := (kseq (f235_1_ok o c n k w) rfl).tk
theorem f235_good : Good Pq (cfg mm) 235 (entF Pq (cfg mm) 235 1 fun α => f235) := entG b235 rs235 28 fun _ => f235_ok
noncomputable def b247 := bdy Tryz.f247
noncomputable def rs247 := Tryz.f247.results.toList
noncomputable def f247_2K : Ex → K α := (nxK (R Pq o c n (cB (cB b247)) (kend Pq o c n w rs247 k)) (kend Pq o c n w rs247 k))
noncomputable def f247_3 {α : Type} (o : α) (c : Call' α) (n : Nat) (k : AV → Heap → α) (m : Nat) : AVs (Heap → α) 3 :=
  Nat.rec (motive := fun _ => AVs (Heap → α) 3) (fun _ _ _ _ => o) (fun _ lp0 s0 s3 s4 h => nilChk o s0 fun v1 => faF o 3 v1 fun v2 => load1F o h v2 fun v3 => eqiF Pq o 3 v3 (.i .i64 0) fun v4 => ifF o v4 (c 39 [s0, (.s 1 46)] h fun v5 h => pk k v5 h <| ifF o v5 (c 85 [s0] h fun v6 h => pk k v6 h <| c 40 [s0, (.s 1 40)] h fun v7 h => pk k v7 h <| ifF o v7 (dreg o h 8 fun base h => loadNF o (h.look 0) 8 s3 fun v8 => fil1 o 8 1 0 v8 [[(.i .i64 0), (.i .i32 0), (.s 0 0), (.s 0 0), (.s 0 0), .nsl, (.s 0 0), (.i .i64 0)]] fun v9 => newEF (h.look 2) (Nat.add base 2) 8 1 v9 fun v10 h => callD o c (hidD false [(.fn (.func 200) [] []), s0] (lapp [Nat.add base 2] []) (sBlk s3 [])) 200 [s0] (h.look 0) fun v11 h => pnF v11 (fun x => o) <| lb [] fun ids => appD o ids (Nat.add base 5) <| appendY Pq o (hide ids (h.look 30)) (Nat.add base 5) 55 55 v10 v11 fun v12 g => hb (back h ids g) fun h => layF o 0 (.i .i64 10) [(.i .i64 0), (.i .i32 0), (.s 0 0), (.s 0 0), (.s 0 0), .nsl, (.s 0 0), (.i .i64 0)] fun v13 => layF o 3 v6 v13 fun v14 => layF o 5 v12 v14 fun v15 => storeF o (h.look 127) 8 s3 (.agg v15) fun h => hb h.shut fun h => lp0 s0 s3 s4 h) (loadNF o h 8 s3 fun v16 => fil1 o 8 1 0 v16 [[(.i .i64 0), (.i .i32 0), (.s 0 0), (.s 0 0), (.s 0 0), .nsl, (.s 0 0), (.i .i64 0)]] fun v17 => newEF h h.next 8 1 v17 fun v18 h => layF o 0 (.i .i64 7) [(.i .i64 0), (.i .i32 0), (.s 0 0), (.s 0 0), (.s 0 0), .nsl, (.s 0 0), (.i .i64 0)] fun v19 => layF o 3 v6 v19 fun v20 => layF o 5 v18 v20 fun v21 => storeF o h 8 s3 (.agg v21) fun h => lp0 s0 s3 s4 h)) (c 39 [s0, (.s 2 29537)] h fun v22 h => pk k v22 h <| ifF o v22 (dreg o h 6 fun base h => callD o c (hidD false [(.fn (.func 38) [] []), s0] (lapp [Nat.add base 3] []) (sBlk s3 [])) 38 [s0] (h.look 0) fun v23 h => pnF v23 (fun x => o) <| loadNF o (h.look 0) 8 s3 fun v24 => fil1 o 8 1 0 v24 [[(.i .i64 0), (.i .i32 0), (.s 0 0), (.s 0 0), (.s 0 0), .nsl, (.s 0 0), (.i .i64 0)]] fun v25 => newEF (h.look 4) (Nat.add base 3) 8 1 v25 fun v26 h => layF o 0 (.i .i64 15) [(.i .i64 0), (.i .i32 0), (.s 0 0), (.s 0 0), (.s 0 0), .nsl, (.s 0 0), (.i .i64 0)] fun v27 => layF o 4 v23 v27 fun v28 => layF o 5 v26 v28 fun v29 => storeF o (h.look 31) 8 s3 (.agg v29) fun h => hb h.shut fun h => lp0 s0 s3 s4 h) (c 39 [s0, (.s 2 29545)] h fun v30 h => pk k v30 h <| ifF o v30 (dreg o h 6 fun base h => callD o c (hidD false [(.fn (.func 38) [] []), s0] (lapp [Nat.add base 3] []) (sBlk s3 [])) 38 [s0] (h.look 0) fun v31 h => pnF v31 (fun x => o) <| loadNF o (h.look 0) 8 s3 fun v32 => fil1 o 8 1 0 v32 [[(.i .i64 0), (.i .i32 0), (.s 0 0), (.s 0 0), (.s 0 0), .nsl, (.s 0 0), (.i .i64 0)]] fun v33 => newEF (h.look 4) (Nat.add base 3) 8 1 v33 fun v34 h => layF o 0 (.i .i64 16) [(.i .i64 0), (.i .i32 0), (.s 0 0), (.s 0 0), (.s 0 0), .nsl, (.s 0 0), (.i .i64 0)] fun v35 => layF o 4 v31 v35 fun v36 => layF o 5 v34 v36 fun v37 => storeF o (h.look 31) 8 s3 (.agg v37) fun h => hb h.shut fun h => lp0 s0 s3 s4 h) (loadNF o h 8 s3 fun v38 => storeF o h 8 s4 v38 fun h => on o (resV Pq h [(s4, some 57)]) fun v => k v h)))) (loadNF o h 8 s3 fun v39 => storeF o h 8 s4 v39 fun h => on o (resV Pq h [(s4, some 57)]) fun v => k v h)) m
theorem f247_3_ok : R Pq o c n (cA (cA (cB b247))) (blockK (cI (cA (cB b247))) (f247_2K o c n k w)) = fun t _ h => f247_3 o c n k n (t 0) (t 3) (t 4) h :=
  c_loop (F := fun m t _ h => f247_3 o c n k m (t 0) (t 3) (t 4) h) (by kernel_rfl) (by kernel_rfl) fun m => by kernel_rfl
noncomputable def f247_1 (s0 s3 s4 : AV) (h : Heap) : α :=
  f247_3 o c n k n s0 s3 s4 h
theorem f247_1_ok : R Pq o c n (cB b247) (kend Pq o c n w rs247 k) = fun t _ h => f247_1 o c n k (t 0) (t 3) (t 4) h := (kseq rfl (kblk (f247_3_ok o c n k w))).tk
noncomputable def f247 (a0 a1 : AV) (h : Heap) : α :=
  boxF o a1 h h.next fun v40 h => newF h h.next 8 [(.i .i64 0), (.i .i32 0), (.s 0 0), (.s 0 0), (.s 0 0), .nsl, (.s 0 0), (.i .i64 0)] fun v41 h => f247_1 o c n k a0 v40 v41 h
theorem f247_ok : R Pq o c n b247 (kend Pq o c n w rs247 k) = fun t _ h => f247 o c n k (t 0) (t 1) h := (kseq (f247_1_ok o c n k w) rfl).tk
theorem f247_good : Good Pq (cfg mm) 247 (entF Pq (cfg mm) 247 2 fun α => f247) := entG b247 rs247 47 fun _ => f247_ok
noncomputable def b249 := bdy Tryz.f249
noncomputable def rs249 := Tryz.f249.results.toList
noncomputable def f249_2K : Ex → K α := (nxK (R Pq o c n (cB (cB b249)) (kend Pq o c n w rs249 k)) (kend Pq o c n w rs249 k))
noncomputable def f249_4 {α : Type} (o : α) (c : Call' α) (n : Nat) (k : AV → Heap → α) (s0 s9 s11 : AV) (h : Heap) : α :=
  pickF o s9 (.b true) s11 fun v1 => bkF o false v1 (c 211 [s0] h fun v2 h => pk k v2 h <| pickF o v1 (.b true) v2 fun v3 => k v3 h) (pickF o v1 (.b true) (.tup []) fun v4 => k v4 h)
theorem f249_4_ok : Q Pq o c (cO (cA (cB b249))) (f249_2K o c n k w) 9 = fun t _ h => f249_4 o c n k (t 0) (t 9) (t 11) h := (q_seg 9 11 (by kernel_rfl) (q_guard 11 13 (10, false) (by kernel_rfl) (by kernel_rfl) (by kernel_rfl) rfl)).tk
noncomputable def f249_3 (s0 s5 s7 : AV) (h : Heap) : α :=
  pickF o s5 (.b true) s7 fun v5 => bkF o false v5 (eqsF Pq o 9 s0 (.s 6 113723913172051) fun v6 => f249_4 o c n k s0 v5 v6 h) (f249_4 o c n k s0 v5 (.tup []) h)
theorem f249_3_ok : Q Pq o c (cO (cA (cB b249))) (f249_2K o c n k w) 5 = fun t _ h => f249_3 o c n k (t 0) (t 5) (t 7) h := (q_seg 5 7 (by kernel_rfl) (q_guard 7 9 (6, false) (by kernel_rfl) (by kernel_rfl) (by kernel_rfl) (f249_4_ok o c n k w))).tk
noncomputable def f249_1 (s0 : AV) (h : Heap) : α :=
  eqsF Pq o 9 s0 (.s 3 7630441) fun v7 => bkF o false v7 (eqsF Pq o 9 s0 (.s 7 31069335677005666) fun v8 => f249_3 o c n k s0 v7 v8 h) (f249_3 o c n k s0 v7 (.tup []) h)
theorem f249_1_ok : R Pq o c n (cB b249) (kend Pq o c n w rs249 k) = fun t _ h => f249_1 o c n k (t 0) h := (kseq rfl (r_start 3 (by kernel_rfl) (q_guard 3 5 (2, false) (by kernel_rfl) (by kernel_rfl) (by kernel_rfl) (f249_3_ok o c n k w)))).tk
noncomputable def f249 (a0 : AV) (h : Heap) : α :=
  f249_1 o c n k a0 h
theorem f249_ok : R Pq o c n b249 (kend Pq o c n w rs249 k) = fun t _ h => f249 o c n k (t 0) h := (kseq (f249_1_ok o c n k w) rfl).tk
theorem f249_good : Good Pq (cfg mm) 249 (entF Pq (cfg mm) 249 1 fun α => f249) := entG b249 rs249 17 fun _ => f249_ok
noncomputable def b250 := bdy Tryz.f250
noncomputable def rs250 := Tryz.f250.results.toList
noncomputable def f250_2K : Ex → K α := (nxK (R Pq o c n (cB (cB b250)) (kend Pq o c n w rs250 k)) (kend Pq o c n w rs250 k))
noncomputable def f250_1 {α : Type} (o : α) (c : Call' α) (n : Nat) (k : AV → Heap → α) (s0 : AV) (h : Heap) : α :=
  c 256 [s0, (.fn (.func 277) [] [])] h fun v1 h => pk k v1 h <| bkF o true v1 (c 278 [s0] h fun v2 h => pk k v2 h <| notF o v2 fun v3 => pickF o v1 v3 (.b false) fun v4 => k v4 h) (pickF o v1 (.tup []) (.b false) fun v5 => k v5 h)
theorem f250_1_ok : R Pq o c n (cB b250) (kend Pq o c n w rs250 k) = fun t _ h => f250_1 o c n k (t 0) h := (kseq rfl (r_start 3 (by kernel_rfl) (q_guard 3 6 (2, true) (by kernel_rfl) (by kernel_rfl) (by kernel_rfl) rfl))).tk
noncomputable def f250 (a0 : AV) (h : Heap) : α :=
  f250_1 o c n k a0 h
theorem f250_ok : R Pq o c n b250 (kend Pq o c n w rs250 k) = fun t _ h => f250 o c n k (t 0) h := (kseq (f250_1_ok o c n k w) rfl).tk
theorem f250_good : Good Pq (cfg mm) 250 (entF Pq (cfg mm) 250 1 fun α => f250) := entG b250 rs250 10 fun _ => f250_ok
noncomputable def b251 := bdy Tryz.f251
noncomputable def rs251 := Tryz.f251.results.toList
noncomputable def f251 {α : Type} (o : α) (c : Call' α) (n : Nat) (k : AV → Heap → α) (a0 a1 : AV) (h : Heap) : α :=
  c 279 [a0, a1] h fun v1 h => pk k v1 h <| geqF Pq o 3 v1 (.i .i64 0) fun v2 => k v2 h
theorem f251_ok : R Pq o c n b251 (kend Pq o c n w rs251 k) = fun t _ h => f251 o c n k (t 0) (t 1) h := by kernel_rfl
theorem f251_good : Good Pq (cfg mm) 251 (entF Pq (cfg mm) 251 2 fun α => f251) := entG b251 rs251 9 fun _ => f251_ok
noncomputable def b253 := bdy Tryz.f253
noncomputable def rs253 := Tryz.f253.results.toList
noncomputable def f253_4 {α : Type} (o : α) (c : Call' α) (n : Nat) (k : AV → Heap → α) (s2 s3 : AV) (h : Heap) : α :=
  faF o 5 s2 fun v1 => load1F o h v1 fun v2 => c 251 [v2, (.fn (.func 284) [] [s3])] h fun v3 h => pk k v3 h <| notF o v3 fun v4 => k v4 h
theorem f253_4_ok : R Pq o c n (cB (cB (cB (cB b253)))) (kend Pq o c n w rs253 k) = fun t _ h => f253_4 o c n k (t 2) (t 3) h := by kernel_rfl
noncomputable def f253_5K : Ex → K α := (nxK (fun t _ h => f253_4 o c n k (t 2) (t 3) h) (kend Pq o c n w rs253 k))
noncomputable def f253_6 (s2 s3 s35 : AV) (h : Heap) : α :=
  ifF o s35 (k (.b false) h) (f253_4 o c n k s2 s3 h)
theorem f253_6_ok : R Pq o c n (cB (cA (cA (cB (cB (cB b253)))))) (blockK (cI (cA (cB (cB (cB b253))))) (f253_5K o c n k w)) = fun t _ h => f253_6 o c n k (t 2) (t 3) (t 35) h := by kernel_rfl
noncomputable def f253_7K : Ex → K α := (nxK (fun t _ h => f253_6 o c n k (t 2) (t 3) (t 35) h) (blockK (cI (cA (cB (cB (cB b253))))) (f253_5K o c n k w)))
noncomputable def f253_10 (s2 s3 s5 s35 : AV) (h : Heap) : α :=
  ifF o s35 (f253_6 o c n k s2 s3 s35 h) (faF o 3 s5 fun v5 => load1F o h v5 fun v6 => bkF o true v6 (faF o 4 s2 fun v7 => load1F o h v7 fun v8 => c 211 [v8] h fun v9 h => pk k v9 h <| notF o v9 fun v10 => pickF o v6 v10 (.b false) fun v11 => f253_6 o c n k s2 s3 v11 h) (pickF o v6 (.tup []) (.b false) fun v12 => f253_6 o c n k s2 s3 v12 h))
theorem f253_10_ok : R Pq o c n (cB (cB (cB (cB (cB (cA (cA (cA (cB (cB (cB b253))))))))))) (f253_7K o c n k w) = fun t _ h => f253_10 o c n k (t 2) (t 3) (t 5) (t 35) h := (c_cond (by kernel_rfl) rfl (r_start 3 (by kernel_rfl) (q_guard 3 7 (2, true) (by kernel_rfl) (by kernel_rfl) (by kernel_rfl) rfl))).tk
noncomputable def f253_11K : Ex → K α := (nxK (fun t _ h => f253_10 o c n k (t 2) (t 3) (t 5) (t 35) h) (f253_7K o c n k w))
noncomputable def f253_9 (s2 s3 s5 s35 : AV) (h : Heap) : α :=
  ifF o s35 (f253_6 o c n k s2 s3 s35 h) (faF o 2 s5 fun v13 => load1F o h v13 fun v14 => bkF o true v14 (faF o 0 s2 fun v15 => load1F o h v15 fun v16 => faF o 3 s2 fun v17 => load1F o h v17 fun v18 => c 283 [v16, v18] h fun v19 h => pk k v19 h <| notF o v19 fun v20 => pickF o v14 v20 (.b false) fun v21 => f253_10 o c n k s2 s3 s5 v21 h) (pickF o v14 (.tup []) (.b false) fun v22 => f253_10 o c n k s2 s3 s5 v22 h))
theorem f253_9_ok : R Pq o c n (cB (cB (cB (cA (cA (cA (cB (cB (cB b253))))))))) (f253_7K o c n k w) = fun t _ h => f253_9 o c n k (t 2) (t 3) (t 5) (t 35) h := (c_cond (by kernel_rfl) rfl (kseq (f253_10_ok o c n k w) (r_start 3 (by kernel_rfl) (q_guard 3 9 (2, true) (by kernel_rfl) (by kernel_rfl) (by kernel_rfl) rfl)))).tk
noncomputable def f253_12K : Ex → K α := (nxK (fun t _ h => f253_9 o c n k (t 2) (t 3) (t 5) (t 35) h) (f253_7K o c n k w))
noncomputable def f253_14 (s2 s3 s5 s51 s56 s60 : AV) (h : Heap) : α :=
  bkF o true s51 (pickF o s56 (.b true) s60 fun v23 => pickF o s51 v23 (.b false) fun v24 => f253_9 o c n k s2 s3 s5 v24 h) (pickF o s51 (.tup []) (.b false) fun v25 => f253_9 o c n k s2 s3 s5 v25 h)
theorem f253_14_ok : Q Pq o c (cO (cA (cB (cB (cA (cA (cA (cB (cB (cB b253)))))))))) (f253_12K o c n k w) 12 = fun t _ h => f253_14 o c n k (t 2) (t 3) (t 5) (t 51) (t 56) (t 60) h := (q_seg 12 12 (by kernel_rfl) (q_guard 12 13 (2, true) (by kernel_rfl) (by kernel_rfl) (by kernel_rfl) rfl)).tk
noncomputable def f253_13 (s2 s3 s5 s51 s56 : AV) (h : Heap) : α :=
  bkF o false s56 (faF o 2 s2 fun v26 => load1F o h v26 fun v27 => lensF o v27 fun v28 => gtrF Pq o 3 v28 (.i .i64 1000) fun v29 => f253_14 o c n k s2 s3 s5 s51 s56 v29 h) (f253_14 o c n k s2 s3 s5 s51 s56 (.tup []) h)
theorem f253_13_ok : Q Pq o c (cO (cA (cB (cB (cA (cA (cA (cB (cB (cB b253)))))))))) (f253_12K o c n k w) 8 = fun t _ h => f253_13 o c n k (t 2) (t 3) (t 5) (t 51) (t 56) h := (q_seg 8 8 (by kernel_rfl) (q_guard 8 12 (7, false) (by kernel_rfl) (by kernel_rfl) (by kernel_rfl) (f253_14_ok o c n k w))).tk
noncomputable def f253_8 (s2 s3 s5 s35 : AV) (h : Heap) : α :=
  ifF o s35 (f253_6 o c n k s2 s3 s35 h) (faF o 1 s5 fun v30 => load1F o h v30 fun v31 => bkF o true v31 (faF o 2 s2 fun v32 => load1F o h v32 fun v33 => c 282 [v33] h fun v34 h => pk k v34 h <| notF o v34 fun v35 => f253_13 o c n k s2 s3 s5 v31 v35 h) (f253_13 o c n k s2 s3 s5 v31 (.tup []) h))
theorem f253_8_ok : R Pq o c n (cB (cA (cA (cA (cB (cB (cB b253))))))) (f253_7K o c n k w) = fun t _ h => f253_8 o c n k (t 2) (t 3) (t 5) (t 35) h := (c_cond (by kernel_rfl) rfl (kseq (f253_9_ok o c n k w) (r_start 3 (by kernel_rfl) (q_guard 3 8 (2, true) (by kernel_rfl) (by kernel_rfl) (by kernel_rfl) (f253_13_ok o c n k w))))).tk
noncomputable def f253_15K : Ex → K α := (nxK (fun t _ h => f253_8 o c n k (t 2) (t 3) (t 5) (t 35) h) (f253_7K o c n k w))
noncomputable def f253_17 (s2 s3 s5 s39 s43 s46 : AV) (h : Heap) : α :=
  bkF o false s39 (pickF o s43 s46 (.b false) fun v36 => pickF o s39 (.b true) v36 fun v37 => f253_8 o c n k s2 s3 s5 v37 h) (pickF o s39 (.b true) (.tup []) fun v38 => f253_8 o c n k s2 s3 s5 v38 h)
theorem f253_17_ok : Q Pq o c (cO (cA (cA (cA (cA (cB (cB (cB b253)))))))) (f253_15K o c n k w) 11 = fun t _ h => f253_17 o c n k (t 2) (t 3) (t 5) (t 39) (t 43) (t 46) h := (q_seg 11 11 (by kernel_rfl) (q_guard 11 12 (3, false) (by kernel_rfl) (by kernel_rfl) (by kernel_rfl) rfl)).tk
noncomputable def f253_16 (s2 s3 s5 s39 s43 : AV) (h : Heap) : α :=
  bkF o true s43 (faF o 1 s2 fun v39 => load1F o h v39 fun v40 => gtrF Pq o 21 v40 (.i .i32 1) fun v41 => f253_17 o c n k s2 s3 s5 s39 s43 v41 h) (f253_17 o c n k s2 s3 s5 s39 s43 (.tup []) h)
theorem f253_16_ok : Q Pq o c (cO (cA (cA (cA (cA (cB (cB (cB b253)))))))) (f253_15K o c n k w) 8 = fun t _ h => f253_16 o c n k (t 2) (t 3) (t 5) (t 39) (t 43) h := (q_seg 8 8 (by kernel_rfl) (q_guard 8 11 (7, true) (by kernel_rfl) (by kernel_rfl) (by kernel_rfl) (f253_17_ok o c n k w))).tk
noncomputable def f253_3 (s2 s3 s5 : AV) (h : Heap) : α :=
  faF o 1 s2 fun v42 => load1F o h v42 fun v43 => lssF Pq o 21 v43 (.i .i32 0) fun v44 => bkF o false v44 (faF o 0 s2 fun v45 => load1F o h v45 fun v46 => eqiF Pq o 3 v46 (.i .i64 2) fun v47 => f253_16 o c n k s2 s3 s5 v44 v47 h) (f253_16 o c n k s2 s3 s5 v44 (.tup []) h)
theorem f253_3_ok : R Pq o c n (cB (cB (cB b253))) (kend Pq o c n w rs253 k) = fun t _ h => f253_3 o c n k (t 2) (t 3) (t 5) h := (kseq (f253_4_ok o c n k w) (kblk (kseq (f253_6_ok o c n k w) (kseq (f253_8_ok o c n k w) (r_start 4 (by kernel_rfl) (q_guard 4 8 (3, false) (by kernel_rfl) (by kernel_rfl) (by kernel_rfl) (f253_16_ok o c n k w))))))).tk
noncomputable def f253_18K : Ex → K α := (nxK (fun t _ h => f253_3 o c n k (t 2) (t 3) (t 5) h) (kend Pq o c n w rs253 k))
noncomputable def f253_19 (s2 s3 s5 s34 : AV) (h : Heap) : α :=
  ifF o s34 (k (.b false) h) (f253_3 o c n k s2 s3 s5 h)
theorem f253_19_ok : R Pq o c n (cB (cA (cB (cB b253)))) (f253_18K o c n k w) = fun t _ h => f253_19 o c n k (t 2) (t 3) (t 5) (t 34) h := by kernel_rfl
noncomputable def f253_20K : Ex → K α := (nxK (fun t _ h => f253_19 o c n k (t 2) (t 3) (t 5) (t 34) h) (f253_18K o c n k w))
noncomputable def f253_21 (s2 s3 s5 s15 s17 : AV) (h : Heap) : α :=
  pickF o s15 (.b true) s17 fun v48 => bkF o false v48 (loadNF o h 7 s5 fun v49 => faF o 1 s2 fun v50 => load1F o h v50 fun v51 => faF o 2 s2 fun v52 => load1F o h v52 fun v53 => faF o 3 s2 fun v54 => load1F o h v54 fun v55 => faF o 4 s2 fun v56 => load1F o h v56 fun v57 => faF o 5 s2 fun v58 => load1F o h v58 fun v59 => lenF o v59 fun v60 => c 281 [v49, v51, v53, v55, v57, v60] h fun v61 h => pk k v61 h <| notF o v61 fun v62 => pickF o v48 (.b true) v62 fun v63 => f253_19 o c n k s2 s3 s5 v63 h) (pickF o v48 (.b true) (.tup []) fun v64 => f253_19 o c n k s2 s3 s5 v64 h)
theorem f253_21_ok : Q Pq o c (cO (cA (cA (cB (cB b253))))) (f253_20K o c n k w) 5 = fun t _ h => f253_21 o c n k (t 2) (t 3) (t 5) (t 15) (t 17) h := (q_seg 5 7 (by kernel_rfl) (q_guard 7 21 (6, false) (by kernel_rfl) (by kernel_rfl) (by kernel_rfl) rfl)).tk
noncomputable def f253_2 (s2 s3 s5 s6 : AV) (h : Heap) : α :=
  notF o s6 fun v65 => bkF o false v65 (load1F o h s3 fun v66 => gtrF Pq o 3 v66 (.i .i64 40) fun v67 => f253_21 o c n k s2 s3 s5 v65 v67 h) (f253_21 o c n k s2 s3 s5 v65 (.tup []) h)
theorem f253_2_ok : R Pq o c n (cB (cB b253)) (kend Pq o c n w rs253 k) = fun t _ h => f253_2 o c n k (t 2) (t 3) (t 5) (t 6) h := (kseq (f253_3_ok o c n k w) (kseq (f253_19_ok o c n k w) (r_start 3 (by kernel_rfl) (q_guard 3 5 (2, false) (by kernel_rfl) (by kernel_rfl) (by kernel_rfl) (f253_21_ok o c n k w))))).tk
noncomputable def f253_1 (s2 s3 : AV) (h : Heap) : α :=
  faF o 0 s2 fun v68 => load1F o h v68 fun v69 => c 280 [v69] h fun v70 h => pk k v70 h <| exF o v70 0 fun v71 => exF o v70 1 fun v72 => newF h h.next 7 [(.b false), (.b false), (.b false), (.b false), (.i .i64 0), (.i .i64 0), (.i .i64 0)] fun v73 h => storeF o h 7 v73 v71 fun h => f253_2 o c n k s2 s3 v73 v72 h
theorem f253_1_ok : R Pq o c n (cB b253) (kend Pq o c n w rs253 k) = fun t _ h => f253_1 o c n k (t 2) (t 3) h := (kseq (f253_2_ok o c n k w) rfl).tk
noncomputable def f253 (a0 a1 : AV) (h : Heap) : α :=
  boxF o a0 h h.next fun v74 h => boxF o a1 h h.next fun v75 h => f253_1 o c n k v74 v75 h
theorem f253_ok : R Pq o c n b253 (kend Pq o c n w rs253 k) = fun t _ h => f253 o c n k (t 0) (t 1) h := (kseq (f253_1_ok o c n k w) rfl).tk
theorem f253_good : Good Pq (cfg mm) 253 (entF Pq (cfg mm) 253 2 fun α => f253) := entG b253 rs253 86 fun _ => f253_ok
noncomputable def b254 := bdy Tryz.f254
noncomputable def rs254 := Tryz.f254.results.toList
noncomputable def f254_2K : Ex → K α := (nxK (R Pq o c n (cB (cB b254)) (kend Pq o c n w rs254 k)) (kend Pq o c n w rs254 k))
noncomputable def f254_1 {α : Type} (o : α) (c : Call' α) (n : Nat) (k : AV → Heap → α) (s1 : AV) (h : Heap) : α :=
  faF o 0 s1 fun v1 => load1F o h v1 fun v2 => c 249 [v2] h fun v3 h => pk k v3 h <| notF o v3 fun v4 => bkF o false v4 (faF o 1 s1 fun v5 => load1F o h v5 fun v6 => c 250 [v6] h fun v7 h => pk k v7 h <| notF o v7 fun v8 => pickF o v4 (.b true) v8 fun v9 => k v9 h) (pickF o v4 (.b true) (.tup []) fun v10 => k v10 h)
theorem f254_1_ok : R Pq o c n (cB b254) (kend Pq o c n w rs254 k) = fun t _ h => f254_1 o c n k (t 1) h := (kseq rfl (r_start 5 (by kernel_rfl) (q_guard 5 9 (4, false) (by kernel_rfl) (by kernel_rfl) (by kernel_rfl) rfl))).tk
noncomputable def f254 (a0 : AV) (h : Heap) : α :=
  boxF o a0 h h.next fun v11 h => f254_1 o c n k v11 h
theorem f254_ok : R Pq o c n b254 (kend Pq o c n w rs254 k) = fun t _ h => f254 o c n k (t 0) h := (kseq (f254_1_ok o c n k w) rfl).tk
theorem f254_good : Good Pq (cfg mm) 254 (entF Pq (cfg mm) 254 1 fun α => f254) := entG b254 rs254 13 fun _ => f254_ok
noncomputable def b256 := bdy Tryz.f256
noncomputable def rs256 := Tryz.f256.results.toList
noncomputable def f256_3K : Ex → K α := (nxK (R Pq o c n (cB (cB (cB b256))) (kend Pq o c n w rs256 k)) (kend Pq o c n w rs256 k))
noncomputable def f256_2 {α : Type} (o : α) (c : Call' α) (n : Nat) (k : AV → Heap → α) (s0 : AV) (h : Heap) : α :=
  nesF Pq o 9 s0 (.s 0 0) fun v1 => bkF o true v1 (lensF o s0 fun v2 => leqF Pq o 3 v2 (.i .i64 20) fun v3 => pickF o v1 v3 (.b false) fun v4 => k v4 h) (pickF o v1 (.tup []) (.b false) fun v5 => k v5 h)
theorem f256_2_ok : R Pq o c n (cB (cB b256)) (kend Pq o c n w rs256 k) = fun t _ h => f256_2 o c n k (t 0) h := (kseq rfl (r_start 3 (by kernel_rfl) (q_guard 3 6 (2, true) (by kernel_rfl) (by kernel_rfl) (by kernel_rfl) rfl))).tk
noncomputable def f256_4K : Ex → K α := (nxK (fun t _ h => f256_2 o c n k (t 0) h) (kend Pq o c n w rs256 k))
noncomputable def f256_7K (lp0 : AVs (Heap → α) 3) : Ex → K α := (nxK (fun t _ h => lp0 (t 0) (t 1) (t 8) h) (blockK (cI (cB (cA (cB b256)))) (f256_4K o c n k w)))
noncomputable def f256_11 {α : Type} (o : α) (c : Call' α) (n : Nat) (k : AV → Heap → α) (lp0 : AVs (Heap → α) 3) (s0 s1 s8 s35 : AV) (h : Heap) : α :=
  ifF o s35 (k (.b false) h) (lp0 s0 s1 s8 h)
theorem f256_11_ok (lp0 : AVs (Heap → α) 3) : R Pq o c n (cB (cB (cA (cB (cB (cA (cA (cB (cA (cB b256)))))))))) (blockK (cI (cB (cB (cA (cA (cB (cA (cB b256)))))))) (f256_7K o c n k w lp0)) = fun t _ h => f256_11 o c n k lp0 (t 0) (t 1) (t 8) (t 35) h := by kernel_rfl
noncomputable def f256_12K (lp0 : AVs (Heap → α) 3) : Ex → K α := (nxK (fun t _ h => f256_11 o c n k lp0 (t 0) (t 1) (t 8) (t 35) h) (blockK (cI (cB (cB (cA (cA (cB (cA (cB b256)))))))) (f256_7K o c n k w lp0)))
noncomputable def f256_17 (lp0 : AVs (Heap → α) 3) (s0 s1 s8 s21 s30 s33 : AV) (h : Heap) : α :=
  bkF o false s21 (pickF o s30 s33 (.b false) fun v6 => pickF o s21 (.b true) v6 fun v7 => f256_11 o c n k lp0 s0 s1 s8 v7 h) (pickF o s21 (.b true) (.tup []) fun v8 => f256_11 o c n k lp0 s0 s1 s8 v8 h)
theorem f256_17_ok (lp0 : AVs (Heap → α) 3) : Q Pq o c (cO (cA (cB (cA (cB (cB (cA (cA (cB (cA (cB b256))))))))))) (f256_12K o c n k w lp0) 21 = fun t _ h => f256_17 o c n k lp0 (t 0) (t 1) (t 8) (t 21) (t 30) (t 33) h := (q_seg 21 21 (by kernel_rfl) (q_guard 21 22 (8, false) (by kernel_rfl) (by kernel_rfl) (by kernel_rfl) rfl)).tk
noncomputable def f256_16 (lp0 : AVs (Heap → α) 3) (s0 s1 s6 s8 s21 s30 : AV) (h : Heap) : α :=
  bkF o true s30 (c 286 [s6] h fun v9 h => pk k v9 h <| notF o v9 fun v10 => f256_17 o c n k lp0 s0 s1 s8 s21 s30 v10 h) (f256_17 o c n k lp0 s0 s1 s8 s21 s30 (.tup []) h)
theorem f256_16_ok (lp0 : AVs (Heap → α) 3) : Q Pq o c (cO (cA (cB (cA (cB (cB (cA (cA (cB (cA (cB b256))))))))))) (f256_12K o c n k w lp0) 18 = fun t _ h => f256_16 o c n k lp0 (t 0) (t 1) (t 6) (t 8) (t 21) (t 30) h := (q_seg 18 18 (by kernel_rfl) (q_guard 18 21 (17, true) (by kernel_rfl) (by kernel_rfl) (by kernel_rfl) (f256_17_ok o c n k w lp0))).tk
noncomputable def f256_15 (lp0 : AVs (Heap → α) 3) (s0 s1 s6 s8 s21 s25 s28 : AV) (h : Heap) : α :=
  bkF o false s21 (pickF o s25 s28 (.b false) fun v11 => f256_16 o c n k lp0 s0 s1 s6 s8 s21 v11 h) (f256_16 o c n k lp0 s0 s1 s6 s8 s21 (.tup []) h)
theorem f256_15_ok (lp0 : AVs (Heap → α) 3) : Q Pq o c (cO (cA (cB (cA (cB (cB (cA (cA (cB (cA (cB b256))))))))))) (f256_12K o c n k w lp0) 16 = fun t _ h => f256_15 o c n k lp0 (t 0) (t 1) (t 6) (t 8) (t 21) (t 25) (t 28) h := (q_seg 16 16 (by kernel_rfl) (q_guard 16 18 (8, false) (by kernel_rfl) (by kernel_rfl) (by kernel_rfl) (f256_16_ok o c n k w lp0))).tk
noncomputable def f256_14 (lp0 : AVs (Heap → α) 3) (s0 s1 s6 s8 s21 s25 : AV) (h : Heap) : α :=
  bkF o true s25 (c 257 [s6] h fun v12 h => pk k v12 h <| notF o v12 fun v13 => f256_15 o c n k lp0 s0 s1 s6 s8 s21 s25 v13 h) (f256_15 o c n k lp0 s0 s1 s6 s8 s21 s25 (.tup []) h)
theorem f256_14_ok (lp0 : AVs (Heap → α) 3) : Q Pq o c (cO (cA (cB (cA (cB (cB (cA (cA (cB (cA (cB b256))))))))))) (f256_12K o c n k w lp0) 13 = fun t _ h => f256_14 o c n k lp0 (t 0) (t 1) (t 6) (t 8) (t 21) (t 25) h := (q_seg 13 13 (by kernel_rfl) (q_guard 13 16 (12, true) (by kernel_rfl) (by kernel_rfl) (by kernel_rfl) (f256_15_ok o c n k w lp0))).tk
noncomputable def f256_13 (lp0 : AVs (Heap → α) 3) (s0 s1 s6 s8 s15 s19 : AV) (h : Heap) : α :=
  pickF o s15 s19 (.b false) fun v14 => bkF o false v14 (c 277 [s6] h fun v15 h => pk k v15 h <| notF o v15 fun v16 => f256_14 o c n k lp0 s0 s1 s6 s8 v14 v16 h) (f256_14 o c n k lp0 s0 s1 s6 s8 v14 (.tup []) h)
theorem f256_13_ok (lp0 : AVs (Heap → α) 3) : Q Pq o c (cO (cA (cB (cA (cB (cB (cA (cA (cB (cA (cB b256))))))))))) (f256_12K o c n k w lp0) 7 = fun t _ h => f256_13 o c n k lp0 (t 0) (t 1) (t 6) (t 8) (t 15) (t 19) h := (q_seg 7 9 (by kernel_rfl) (q_guard 9 13 (8, false) (by kernel_rfl) (by kernel_rfl) (by kernel_rfl) (f256_14_ok o c n k w lp0))).tk
noncomputable def f256_10 (lp0 : AVs (Heap → α) 3) (s0 s1 s5 s6 s8 : AV) (h : Heap) : α :=
  eqiF Pq o 3 s5 (.i .i64 0) fun v17 => bkF o true v17 (cfF o s1 [s6] c h fun v18 h => pk k v18 h <| notF o v18 fun v19 => f256_13 o c n k lp0 s0 s1 s6 s8 v17 v19 h) (f256_13 o c n k lp0 s0 s1 s6 s8 v17 (.tup []) h)
theorem f256_10_ok (lp0 : AVs (Heap → α) 3) : R Pq o c n (cB (cA (cB (cB (cA (cA (cB (cA (cB b256))))))))) (blockK (cI (cB (cB (cA (cA (cB (cA (cB b256)))))))) (f256_7K o c n k w lp0)) = fun t _ h => f256_10 o c n k lp0 (t 0) (t 1) (t 5) (t 6) (t 8) h := (kseq (f256_11_ok o c n k w lp0) (r_start 3 (by kernel_rfl) (q_guard 3 7 (2, true) (by kernel_rfl) (by kernel_rfl) (by kernel_rfl) (f256_13_ok o c n k w lp0)))).tk
noncomputable def f256_9 (lp0 : AVs (Heap → α) 3) (s0 s1 s8 s9 : AV) (h : Heap) : α :=
  exF o s9 1 fun v20 => exF o s9 2 fun v21 => f256_10 o c n k lp0 s0 s1 v20 v21 s8 h
theorem f256_9_ok (lp0 : AVs (Heap → α) 3) : R Pq o c n (cB (cB (cA (cA (cB (cA (cB b256))))))) (f256_7K o c n k w lp0) = fun t _ h => f256_9 o c n k lp0 (t 0) (t 1) (t 8) (t 9) h := (kblk (kseq (f256_10_ok o c n k w lp0) rfl)).tk
noncomputable def f256_8 (lp0 : AVs (Heap → α) 3) (s0 s1 s8 s9 s10 : AV) (h : Heap) : α :=
  ifF o s10 (f256_9 o c n k lp0 s0 s1 s8 s9 h) (f256_2 o c n k s0 h)
theorem f256_8_ok (lp0 : AVs (Heap → α) 3) : R Pq o c n (cB (cA (cA (cB (cA (cB b256)))))) (f256_7K o c n k w lp0) = fun t _ h => f256_8 o c n k lp0 (t 0) (t 1) (t 8) (t 9) (t 10) h := (kseq (f256_9_ok o c n k w lp0) rfl).tk
noncomputable def f256_6 (m : Nat) : AVs (Heap → α) 3 :=
  Nat.rec (motive := fun _ => AVs (Heap → α) 3) (fun _ _ _ _ => o) (fun _ lp0 s0 s1 s8 h => nextN o h s8 fun v22 h => exF o v22 0 fun v23 => f256_8 o c n k lp0 s0 s1 s8 v22 v23 h) m
theorem f256_6_ok : R Pq o c n (cA (cB (cA (cB b256)))) (blockK (cI (cB (cA (cB b256)))) (f256_4K o c n k w)) = fun t _ h => f256_6 o c n k n (t 0) (t 1) (t 8) h :=
  c_loop (F := fun m t _ h => f256_6 o c n k m (t 0) (t 1) (t 8) h) (by kernel_rfl) (by kernel_rfl) fun m => (kseq (f256_8_ok o c n k w (f256_6 o c n k m)) rfl).tk
noncomputable def f256_5 (s0 s1 s8 : AV) (h : Heap) : α :=
  f256_6 o c n k n s0 s1 s8 h
theorem f256_5_ok : R Pq o c n (cB (cA (cB b256))) (f256_4K o c n k w) = fun t _ h => f256_5 o c n k (t 0) (t 1) (t 8) h := (kblk (f256_6_ok o c n k w)).tk
noncomputable def f256_1 (s0 s1 : AV) (h : Heap) : α :=
  iterA o h h.next s0 fun v24 h => f256_5 o c n k s0 s1 v24 h
theorem f256_1_ok : R Pq o c n (cB b256) (kend Pq o c n w rs256 k) = fun t _ h => f256_1 o c n k (t 0) (t 1) h := (kseq (f256_2_ok o c n k w) (kseq (f256_5_ok o c n k w) rfl)).tk
noncomputable def f256 (a0 a1 : AV) (h : Heap) : α :=
  f256_1 o c n k a0 a1 h
theorem f256_ok : R Pq o c n b256 (kend Pq o c n w rs256 k) = fun t _ h => f256 o c n k (t 0) (t 1) h := (kseq (f256_1_ok o c n k w) rfl).tk
theorem f256_good : Good Pq (cfg mm) 256 (entF Pq (cfg mm) 256 2 fun α => f256) := entG b256 rs256 43 fun _ => f256_ok
noncomputable def b257 := bdy Tryz.f257
noncomputable def rs257 := Tryz.f257.results.toList
noncomputable def f257_2K : Ex → K α := (nxK (R Pq o c n (cB (cB b257)) (kend Pq o c n w rs257 k)) (kend Pq o c n w rs257 k))
noncomputable def f257_1 {α : Type} (o : α) (c : Call' α) (n : Nat) (k : AV → Heap → α) (s0 : AV) (h : Heap) : α :=
  geqF Pq o 21 s0 (.i .i32 65) fun v1 => bkF o true v1 (leqF Pq o 21 s0 (.i .i32 90) fun v2 => pickF o v1 v2 (.b false) fun v3 => k v3 h) (pickF o v1 (.tup []) (.b false) fun v4 => k v4 h)
theorem f257_1_ok : R Pq o c n (cB b257) (kend Pq o c n w rs257 k) = fun t _ h => f257_1 o c n k (t 0) h := (kseq rfl (r_start 3 (by kernel_rfl) (q_guard 3 5 (2, true) (by kernel_rfl) (by kernel_rfl) (by kernel_rfl) rfl))).tk
noncomputable def f257 (a0 : AV) (h : Heap) : α :=
  f257_1 o c n k a0 h
theorem f257_ok : R Pq o c n b257 (kend Pq o c n w rs257 k) = fun t _ h => f257 o c n k (t 0) h := (kseq (f257_1_ok o c n k w) rfl).tk
theorem f257_good : Good Pq (cfg mm) 257 (entF Pq (cfg mm) 257 1 fun α => f257) := entG b257 rs257 9 fun _ => f257_ok
noncomputable def b258 := bdy Tryz.f258
noncomputable def rs258 := Tryz.f258.results.toList
noncomputable def f258_3K : Ex → K α := (nxK (R Pq o c n (cB (cB (cB b258))) (kend Pq o c n w rs258 k)) (kend Pq o c n w rs258 k))
noncomputable def f258_5 {α : Type} (o : α) (c : Call' α) (n : Nat) (k : AV → Heap → α) (m : Nat) : AVs (Heap → α) 4 :=
  Nat.rec (motive := fun _ => AVs (Heap → α) 4) (fun _ _ _ _ _ => o) (fun _ lp0 s3 s7 s8 s9 h => lssF Pq o 3 s9 s8 fun v1 => ifF o v1 (ixF o 8 s7 s9 fun v2 => loadNF o h 8 v2 fun v3 => newF h h.next 8 [(.i .i64 0), (.i .i32 0), (.s 0 0), (.s 0 0), (.s 0 0), .nsl, (.s 0 0), (.i .i64 0)] fun v4 h => storeF o h 8 v4 v3 fun h => loadNF o h 8 v4 fun v5 => c 258 [v5] h fun v6 h => pk k v6 h <| addF Pq o 3 s3 v6 fun v7 => addF Pq o 3 s9 (.i .i64 1) fun v8 => lp0 v7 s7 s8 v8 h) (k s3 h)) m
theorem f258_5_ok : R Pq o c n (cA (cB (cA (cB (cB b258))))) (blockK (cI (cB (cA (cB (cB b258))))) (f258_3K o c n k w)) = fun t _ h => f258_5 o c n k n (t 3) (t 7) (t 8) (t 9) h :=
  c_loop (F := fun m t _ h => f258_5 o c n k m (t 3) (t 7) (t 8) (t 9) h) (by kernel_rfl) (by kernel_rfl) fun m => by kernel_rfl
noncomputable def f258_4 (s3 s7 s8 s9 : AV) (h : Heap) : α :=
  f258_5 o c n k n s3 s7 s8 s9 h
theorem f258_4_ok : R Pq o c n (cB (cA (cB (cB b258)))) (f258_3K o c n k w) = fun t _ h => f258_4 o c n k (t 3) (t 7) (t 8) (t 9) h := (kblk (f258_5_ok o c n k w)).tk
noncomputable def f258_2 (s1 s3 : AV) (h : Heap) : α :=
  faF o 5 s1 fun v9 => load1F o h v9 fun v10 => lenF o v10 fun v11 => f258_4 o c n k s3 v10 v11 (.i .i64 0) h
theorem f258_2_ok : R Pq o c n (cB (cB b258)) (kend Pq o c n w rs258 k) = fun t _ h => f258_2 o c n k (t 1) (t 3) h := (kseq rfl (kseq (f258_4_ok o c n k w) rfl)).tk
noncomputable def f258_1 (s1 : AV) (h : Heap) : α :=
  f258_2 o c n k s1 (.i .i64 1) h
theorem f258_1_ok : R Pq o c n (cB b258) (kend Pq o c n w rs258 k) = fun t _ h => f258_1 o c n k (t 1) h := (kseq (f258_2_ok o c n k w) rfl).tk
noncomputable def f258 (a0 : AV) (h : Heap) : α :=
  boxF o a0 h h.next fun v12 h => f258_1 o c n k v12 h
theorem f258_ok : R Pq o c n b258 (kend Pq o c n w rs258 k) = fun t _ h => f258 o c n k (t 0) h := (kseq (f258_1_ok o c n k w) rfl).tk
theorem f258_good : Good Pq (cfg mm) 258 (entF Pq (cfg mm) 258 1 fun α => f258) := entG b258 rs258 19 fun _ => f258_ok
noncomputable def b260 := bdy Tryz.f260
noncomputable def rs260 := Tryz.f260.results.toList
noncomputable def f260 {α : Type} (o : α) (c : Call' α) (n : Nat) (k : AV → Heap → α) (a0 a1 : AV) (h : Heap) : α :=
  boxF o a0 h h.next fun v1 h => boxF o a1 h h.next fun v2 h => faF o 4 v1 fun v3 => load1F o h v3 fun v4 => faF o 4 v2 fun v5 => load1F o h v5 fun v6 => c 287 [v4, v6, (.fn (.func 288) [] [])] h fun v7 h => pk k v7 h <| k v7 h
theorem f260_ok : R Pq o c n b260 (kend Pq o c n w rs260 k) = fun t _ h => f260 o c n k (t 0) (t 1) h := by kernel_rfl
theorem f260_good : Good Pq (cfg mm) 260 (entF Pq (cfg mm) 260 2 fun α => f260) := entG b260 rs260 10 fun _ => f260_ok
end Go.Zev.Po
