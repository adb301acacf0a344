/-
  Printed by zgen.py: clean forms.
-/
import Derived.Test.YtkhhemkkgblgiaaGreatDoorG0
set_option linter.unusedVariables false
set_option maxRecDepth 20000
namespace Go.Zev.Pn
open Go Go.Zev Go.Proofs
variable {mm : FuncId → Option (List AV → Option AV)}
noncomputable def b159 := bdy Tryz.f159
noncomputable def rs159 := Tryz.f159.results.toList
variable {α : Type} (o : α) (c : Call' α) (n : Nat) (k : AV → Heap → α) (w : FuncId → Nat)
noncomputable def f159_2K : Ex → K α := (nxK (R Pq o c n (cB (cB b159)) (kend Pq o c n w rs159 k)) (kend Pq o c n w rs159 k))
noncomputable def f159_3 {α : Type} (o : α) (c : Call' α) (n : Nat) (k : AV → Heap → α) (s16 : AV) (h : Heap) : α :=
  ifF o s16 (k (.i .i64 6) h) (k (.i .i64 0) h)
theorem f159_3_ok : R Pq o c n (cB (cA (cB b159))) (f159_2K o c n k w) = fun t _ h => f159_3 o c n k (t 16) h := by kernel_rfl
noncomputable def f159_4K : Ex → K α := (nxK (fun t _ h => f159_3 o c n k (t 16) h) (f159_2K o c n k w))
noncomputable def f159_1 (s0 s2 s4 : AV) (h : Heap) : α :=
  faF o 0 s4 fun v1 => load1F o h v1 fun v2 => c 117 [v2] h fun v3 h => pk k v3 h <| bkF o false v3 (loadNF o h 1 s2 fun v4 => faF o 0 s4 fun v5 => load1F o h v5 fun v6 => c 118 [v4, v6] h fun v7 h => pk k v7 h <| lssF Pq o 3 v7 s0 fun v8 => pickF o v3 (.b true) v8 fun v9 => f159_3 o c n k v9 h) (pickF o v3 (.b true) (.tup []) fun v10 => f159_3 o c n k v10 h)
theorem f159_1_ok : R Pq o c n (cB b159) (kend Pq o c n w rs159 k) = fun t _ h => f159_1 o c n k (t 0) (t 2) (t 4) h := (kseq rfl (kseq (f159_3_ok o c n k w) (r_start 4 (by kernel_rfl) (q_guard 4 10 (3, false) (by kernel_rfl) (by kernel_rfl) (by kernel_rfl) rfl)))).tk
noncomputable def f159 (a0 a1 a2 : AV) (h : Heap) : α :=
  boxF o a1 h h.next fun v11 h => f159_1 o c n k a0 a2 v11 h
theorem f159_ok : R Pq o c n b159 (kend Pq o c n w rs159 k) = fun t _ h => f159 o c n k (t 0) (t 1) (t 2) h := (kseq (f159_1_ok o c n k w) rfl).tk
theorem f159_good : Good Pq (cfg mm) 159 (entF Pq (cfg mm) 159 3 fun α => f159) := entG b159 rs159 17 fun _ => f159_ok
noncomputable def b160 := bdy Tryz.f160
noncomputable def rs160 := Tryz.f160.results.toList
noncomputable def f160 {α : Type} (o : α) (c : Call' α) (n : Nat) (k : AV → Heap → α) (a0 a1 a2 : AV) (h : Heap) : α :=
  boxF o a1 h h.next fun v1 h => faF o 1 v1 fun v2 => load1F o h v2 fun v3 => eqsF Pq o 9 v3 (.s 0 0) fun v4 => ifF o v4 (k (.i .i64 0) h) (loadNF o h 1 a2 fun v5 => faF o 1 v1 fun v6 => load1F o h v6 fun v7 => c 69 [v5, v7] h fun v8 h => pk k v8 h <| notF o v8 fun v9 => ifF o v9 (k (.i .i64 7) h) (loadNF o h 1 a2 fun v10 => faF o 0 v1 fun v11 => load1F o h v11 fun v12 => c 115 [v10, v12] h fun v13 h => pk k v13 h <| dreg o h 9 fun base h => loadNF o (h.look 0) 1 a2 fun v14 => lenF o v13 fun v15 => binA Pq o .sub 3 v15 (.i .i64 1) fun v16 => ixF o 1 v13 v16 fun v17 => rootF o v17 v13 <| load1F o (h.look 62) v17 fun v18 => callD o c [] 116 [v14, v18] (h.look 0) fun v19 h => pnF v19 (fun x => hb h.shut fun hd => k x.pn hd) <| hb h.shut fun h => c 17 [v13, v19] h fun v20 h => pk k v20 h <| ifF o v20 (k (.i .i64 8) h) (k (.i .i64 0) h)))
theorem f160_ok : R Pq o c n b160 (kend Pq o c n w rs160 k) = fun t _ h => f160 o c n k (t 0) (t 1) (t 2) h := by kernel_rfl
theorem f160_good : Good Pq (cfg mm) 160 (entF Pq (cfg mm) 160 3 fun α => f160) := entG b160 rs160 31 fun _ => f160_ok
noncomputable def b162 := bdy Tryz.f162
noncomputable def rs162 := Tryz.f162.results.toList
noncomputable def f162 {α : Type} (o : α) (c : Call' α) (n : Nat) (k : AV → Heap → α) (a0 a1 a2 : AV) (h : Heap) : α :=
  boxF o a0 h h.next fun v1 h => boxF o a2 h h.next fun v2 h => loadNF o h 1 v1 fun v3 => c 215 [v3, a1] h fun v4 h => pk k v4 h <| c 214 [v4, (.fn (.func 216) [] [v2])] h fun v5 h => pk k v5 h <| k v5 h
theorem f162_ok : R Pq o c n b162 (kend Pq o c n w rs162 k) = fun t _ h => f162 o c n k (t 0) (t 1) (t 2) h := by kernel_rfl
theorem f162_good : Good Pq (cfg mm) 162 (entF Pq (cfg mm) 162 3 fun α => f162) := entG b162 rs162 12 fun _ => f162_ok
noncomputable def b163 := bdy Tryz.f163
noncomputable def rs163 := Tryz.f163.results.toList
noncomputable def f163_2K : Ex → K α := (nxK (R Pq o c n (cB (cB b163)) (kend Pq o c n w rs163 k)) (kend Pq o c n w rs163 k))
noncomputable def f163_4 {α : Type} (o : α) (c : Call' α) (n : Nat) (k : AV → Heap → α) (s1 s2 s11 s13 : AV) (h : Heap) : α :=
  pickF o s11 (.b true) s13 fun v1 => bkF o false v1 (loadNF o h 1 s2 fun v2 => c 69 [v2, s1] h fun v3 h => pk k v3 h <| pickF o v1 (.b true) v3 fun v4 => k v4 h) (pickF o v1 (.b true) (.tup []) fun v5 => k v5 h)
theorem f163_4_ok : Q Pq o c (cO (cA (cB b163))) (f163_2K o c n k w) 9 = fun t _ h => f163_4 o c n k (t 1) (t 2) (t 11) (t 13) h := (q_seg 9 11 (by kernel_rfl) (q_guard 11 14 (10, false) (by kernel_rfl) (by kernel_rfl) (by kernel_rfl) rfl)).tk
noncomputable def f163_3 (s1 s2 s7 s9 : AV) (h : Heap) : α :=
  pickF o s7 (.b true) s9 fun v6 => bkF o false v6 (eqsF Pq o 9 s1 (.s 6 113723913172051) fun v7 => f163_4 o c n k s1 s2 v6 v7 h) (f163_4 o c n k s1 s2 v6 (.tup []) h)
theorem f163_3_ok : Q Pq o c (cO (cA (cB b163))) (f163_2K o c n k w) 5 = fun t _ h => f163_3 o c n k (t 1) (t 2) (t 7) (t 9) h := (q_seg 5 7 (by kernel_rfl) (q_guard 7 9 (6, false) (by kernel_rfl) (by kernel_rfl) (by kernel_rfl) (f163_4_ok o c n k w))).tk
noncomputable def f163_1 (s1 s2 : AV) (h : Heap) : α :=
  eqsF Pq o 9 s1 (.s 3 7630441) fun v8 => bkF o false v8 (eqsF Pq o 9 s1 (.s 7 31069335677005666) fun v9 => f163_3 o c n k s1 s2 v8 v9 h) (f163_3 o c n k s1 s2 v8 (.tup []) h)
theorem f163_1_ok : R Pq o c n (cB b163) (kend Pq o c n w rs163 k) = fun t _ h => f163_1 o c n k (t 1) (t 2) h := (kseq rfl (r_start 3 (by kernel_rfl) (q_guard 3 5 (2, false) (by kernel_rfl) (by kernel_rfl) (by kernel_rfl) (f163_3_ok o c n k w)))).tk
noncomputable def f163 (a0 a1 : AV) (h : Heap) : α :=
  boxF o a0 h h.next fun v10 h => f163_1 o c n k a1 v10 h
theorem f163_ok : R Pq o c n b163 (kend Pq o c n w rs163 k) = fun t _ h => f163 o c n k (t 0) (t 1) h := (kseq (f163_1_ok o c n k w) rfl).tk
theorem f163_good : Good Pq (cfg mm) 163 (entF Pq (cfg mm) 163 2 fun α => f163) := entG b163 rs163 20 fun _ => f163_ok
noncomputable def b167 := bdy Tryz.f167
noncomputable def rs167 := Tryz.f167.results.toList
noncomputable def f167_2K : Ex → K α := (nxK (R Pq o c n (cB (cB b167)) (kend Pq o c n w rs167 k)) (kend Pq o c n w rs167 k))
noncomputable def f167_3 {α : Type} (o : α) (c : Call' α) (n : Nat) (k : AV → Heap → α) (base : Nat) (s4 s19 : AV) (h : Heap) : α :=
  exF o s19 0 fun v1 => exF o s19 1 fun v2 => exF o s19 2 fun v3 => newF (h.look 0) (Nat.add base 14) 8 [(.i .i64 0), (.i .i32 0), (.s 0 0), (.s 0 0), (.s 0 0), .nsl, (.s 0 0), (.i .i64 0)] fun v4 h => storeF o (h.look 20479) 8 v4 v1 fun h => hb h.shut fun h => eqiF Pq o 3 v3 (.i .i64 0) fun v5 => c 226 [v5, v3] h fun v6 h => pk k v6 h <| loadNF o h 8 v4 fun v7 => storeF o h 8 s4 v7 fun h => on o (resV Pq h [(s4, some 57), (v2, none)]) fun v => k v h
theorem f167_3_ok (base : Nat) : QD Pq o c (cO (cA (cB b167))) base ((f167_2K o c n k w)) 10 = fun t _ h => f167_3 o c n k base (t 4) (t 19) h := by kernel_rfl
noncomputable def f167_1 (s0 s3 s4 : AV) (h : Heap) : α :=
  dreg o h 18 fun base h => nilChk o s0 fun v8 => faF o 0 v8 fun v9 => rootF o v9 s0 <| loadNF o (h.look 7) 1 v9 fun v10 => nilChk o s0 fun v11 => faF o 1 v11 fun v12 => rootF o v12 s0 <| loadNF o (h.look 112) 3 v12 fun v13 => loadNF o (h.look 0) 8 s3 fun v14 => callD o c (lapp (lapp [Nat.add base 14] []) []) 225 [v10, v13, v14] (h.look 0) fun v15 h => pnF v15 (fun x => o) <| f167_3 o c n k base s4 v15 h
theorem f167_1_ok : R Pq o c n (cB b167) (kend Pq o c n w rs167 k) = fun t _ h => f167_1 o c n k (t 0) (t 3) (t 4) h := (kseq rfl (r_startD 10 (by kernel_rfl) (by kernel_rfl) (X := fun base => fun t _ h => f167_3 o c n k base (t 4) (t 19) h) (fun base => f167_3_ok o c n k w base))).tk
noncomputable def f167 (a0 a1 : AV) (h : Heap) : α :=
  boxF o a1 h h.next fun v16 h => newF h h.next 8 [(.i .i64 0), (.i .i32 0), (.s 0 0), (.s 0 0), (.s 0 0), .nsl, (.s 0 0), (.i .i64 0)] fun v17 h => f167_1 o c n k a0 v16 v17 h
theorem f167_ok : R Pq o c n b167 (kend Pq o c n w rs167 k) = fun t _ h => f167 o c n k (t 0) (t 1) h := (kseq (f167_1_ok o c n k w) rfl).tk
theorem f167_good : Good Pq (cfg mm) 167 (entF Pq (cfg mm) 167 2 fun α => f167) := entG b167 rs167 29 fun _ => f167_ok
noncomputable def b168 := bdy Tryz.f168
noncomputable def rs168 := Tryz.f168.results.toList
noncomputable def f168 {α : Type} (o : α) (c : Call' α) (n : Nat) (k : AV → Heap → α) (a0 a1 a2 : AV) (h : Heap) : α :=
  nilChk o a0 fun v1 => faF o 0 v1 fun v2 => loadNF o h 1 v2 fun v3 => c 227 [v3, a1, a2] h fun v4 h => pk k v4 h <| c 226 [v4, (.i .i64 14)] h fun v5 h => pk k v5 h <| k (.tup []) h
theorem f168_ok : R Pq o c n b168 (kend Pq o c n w rs168 k) = fun t _ h => f168 o c n k (t 0) (t 1) (t 2) h := by kernel_rfl
theorem f168_good : Good Pq (cfg mm) 168 (entF Pq (cfg mm) 168 3 fun α => f168) := entG b168 rs168 14 fun _ => f168_ok
noncomputable def b173 := bdy Tryz.f173
noncomputable def rs173 := Tryz.f173.results.toList
noncomputable def f173_3K : Ex → K α := (nxK (R Pq o c n (cB (cB (cB b173))) (kend Pq o c n w rs173 k)) (kend Pq o c n w rs173 k))
noncomputable def f173_6K (lp0 : AVs (Heap → α) 7) : Ex → K α := (nxK (fun t _ h => lp0 (t 1) (t 2) (t 6) (t 7) (t 15) (t 16) (t 17) h) (blockK (cI (cB (cA (cB (cB b173))))) (f173_3K o c n k w)))
noncomputable def f173_9K (lp0 : AVs (Heap → α) 7) : Ex → K α := (nxK (R Pq o c n (cB (cB (cB (cA (cA (cB (cA (cB (cB b173))))))))) (f173_6K o c n k w lp0)) (f173_6K o c n k w lp0))
noncomputable def f173_14K (lp0 : AVs (Heap → α) 7) : Ex → K α := (nxK (R Pq o c n (cB (cB (cB (cB (cB (cA (cA (cB (cB (cA (cA (cB (cA (cB (cB b173))))))))))))))) (blockK (cI (cA (cB (cB (cA (cA (cB (cA (cB (cB b173)))))))))) (f173_9K o c n k w lp0))) (blockK (cI (cA (cB (cB (cA (cA (cB (cA (cB (cB b173)))))))))) (f173_9K o c n k w lp0)))
noncomputable def f173_16 {α : Type} (o : α) (c : Call' α) (n : Nat) (k : AV → Heap → α) (lp0 : AVs (Heap → α) 7) (m : Nat) : AVs (Heap → α) 12 :=
  Nat.rec (motive := fun _ => AVs (Heap → α) 12) (fun _ _ _ _ _ _ _ _ _ _ _ _ _ => o) (fun _ lp1 s1 s2 s6 s7 s9 s10 s12 s15 s16 s17 s45 s46 h => lssF Pq o 3 s46 s45 fun v1 => ifF o v1 (ixF o 6 s12 s46 fun v2 => faF o 4 v2 fun v3 => load1F o h v3 fun v4 => c 67 [v4] h fun v5 h => pk k v5 h <| ixF o 6 s12 s46 fun v6 => faF o 4 v6 fun v7 => storeF o h 1 v7 v5 fun h => ixF o 6 s12 s46 fun v8 => faF o 5 v8 fun v9 => load1F o h v9 fun v10 => c 234 [v10, s1, s2] h fun v11 h => pk k v11 h <| ixF o 6 s12 s46 fun v12 => faF o 5 v12 fun v13 => storeF o h 1 v13 v11 fun h => addF Pq o 3 s46 (.i .i64 1) fun v14 => lp1 s1 s2 s6 s7 s9 s10 s12 s15 s16 s17 s45 v14 h) (faF o 2 s9 fun v15 => storeF o h 1 v15 s10 fun h => faF o 3 s9 fun v16 => storeF o h 1 v16 s12 fun h => faF o 0 s7 fun v17 => load1F o h v17 fun v18 => loadNF o h 4 s9 fun v19 => fil1 o 4 1 0 v19 [[(.s 0 0), (.s 0 0), .nsl, .nsl]] fun v20 => newEF h h.next 4 1 v20 fun v21 h => appX Pq o h h.next 24 24 v18 v21 fun v22 h => faF o 0 s7 fun v23 => storeF o h 1 v23 v22 fun h => addF Pq o 3 s17 (.i .i64 1) fun v24 => lp0 s1 s2 s6 s7 s15 s16 v24 h)) m
theorem f173_16_ok (lp0 : AVs (Heap → α) 7) : R Pq o c n (cA (cB (cA (cB (cB (cB (cB (cA (cA (cB (cB (cA (cA (cB (cA (cB (cB b173))))))))))))))))) (blockK (cI (cB (cA (cB (cB (cB (cB (cA (cA (cB (cB (cA (cA (cB (cA (cB (cB b173))))))))))))))))) (f173_14K o c n k w lp0)) = fun t _ h => f173_16 o c n k lp0 n (t 1) (t 2) (t 6) (t 7) (t 9) (t 10) (t 12) (t 15) (t 16) (t 17) (t 45) (t 46) h :=
  c_loop (F := fun m t _ h => f173_16 o c n k lp0 m (t 1) (t 2) (t 6) (t 7) (t 9) (t 10) (t 12) (t 15) (t 16) (t 17) (t 45) (t 46) h) (by kernel_rfl) (by kernel_rfl) fun m => by kernel_rfl
noncomputable def f173_15 (lp0 : AVs (Heap → α) 7) (s1 s2 s6 s7 s9 s10 s12 s15 s16 s17 s45 s46 : AV) (h : Heap) : α :=
  f173_16 o c n k lp0 n s1 s2 s6 s7 s9 s10 s12 s15 s16 s17 s45 s46 h
theorem f173_15_ok (lp0 : AVs (Heap → α) 7) : R Pq o c n (cB (cA (cB (cB (cB (cB (cA (cA (cB (cB (cA (cA (cB (cA (cB (cB b173)))))))))))))))) (f173_14K o c n k w lp0) = fun t _ h => f173_15 o c n k lp0 (t 1) (t 2) (t 6) (t 7) (t 9) (t 10) (t 12) (t 15) (t 16) (t 17) (t 45) (t 46) h := (kblk (f173_16_ok o c n k w lp0)).tk
noncomputable def f173_13 (lp0 : AVs (Heap → α) 7) (s1 s2 s6 s7 s9 s10 s12 s15 s16 s17 : AV) (h : Heap) : α :=
  lenF o s12 fun v25 => f173_15 o c n k lp0 s1 s2 s6 s7 s9 s10 s12 s15 s16 s17 v25 (.i .i64 0) h
theorem f173_13_ok (lp0 : AVs (Heap → α) 7) : R Pq o c n (cB (cB (cB (cB (cA (cA (cB (cB (cA (cA (cB (cA (cB (cB b173)))))))))))))) (blockK (cI (cA (cB (cB (cA (cA (cB (cA (cB (cB b173)))))))))) (f173_9K o c n k w lp0)) = fun t _ h => f173_13 o c n k lp0 (t 1) (t 2) (t 6) (t 7) (t 9) (t 10) (t 12) (t 15) (t 16) (t 17) h := (kseq rfl (kseq (f173_15_ok o c n k w lp0) rfl)).tk
noncomputable def f173_12 (lp0 : AVs (Heap → α) 7) (s1 s2 s6 s7 s9 s10 s15 s16 s17 : AV) (h : Heap) : α :=
  faF o 3 s9 fun v26 => load1F o h v26 fun v27 => c 50 [v27] h fun v28 h => pk k v28 h <| f173_13 o c n k lp0 s1 s2 s6 s7 s9 s10 v28 s15 s16 s17 h
theorem f173_12_ok (lp0 : AVs (Heap → α) 7) : R Pq o c n (cB (cB (cB (cA (cA (cB (cB (cA (cA (cB (cA (cB (cB b173))))))))))))) (blockK (cI (cA (cB (cB (cA (cA (cB (cA (cB (cB b173)))))))))) (f173_9K o c n k w lp0)) = fun t _ h => f173_12 o c n k lp0 (t 1) (t 2) (t 6) (t 7) (t 9) (t 10) (t 15) (t 16) (t 17) h := (kseq (f173_13_ok o c n k w lp0) rfl).tk
noncomputable def f173_17K (lp0 : AVs (Heap → α) 7) : Ex → K α := (nxK (fun t _ h => f173_12 o c n k lp0 (t 1) (t 2) (t 6) (t 7) (t 9) (t 10) (t 15) (t 16) (t 17) h) (blockK (cI (cA (cB (cB (cA (cA (cB (cA (cB (cB b173)))))))))) (f173_9K o c n k w lp0)))
noncomputable def f173_19 (lp0 : AVs (Heap → α) 7) (m : Nat) : AVs (Heap → α) 11 :=
  Nat.rec (motive := fun _ => AVs (Heap → α) 11) (fun _ _ _ _ _ _ _ _ _ _ _ _ => o) (fun _ lp1 s1 s2 s6 s7 s9 s10 s15 s16 s17 s25 s26 h => lssF Pq o 3 s26 s25 fun v29 => ifF o v29 (ixF o 4 s10 s26 fun v30 => faF o 3 v30 fun v31 => load1F o h v31 fun v32 => c 233 [v32, s1] h fun v33 h => pk k v33 h <| ixF o 4 s10 s26 fun v34 => faF o 3 v34 fun v35 => storeF o h 1 v35 v33 fun h => addF Pq o 3 s26 (.i .i64 1) fun v36 => lp1 s1 s2 s6 s7 s9 s10 s15 s16 s17 s25 v36 h) (f173_12 o c n k lp0 s1 s2 s6 s7 s9 s10 s15 s16 s17 h)) m
theorem f173_19_ok (lp0 : AVs (Heap → α) 7) : R Pq o c n (cA (cB (cA (cB (cB (cA (cA (cB (cB (cA (cA (cB (cA (cB (cB b173))))))))))))))) (blockK (cI (cB (cA (cB (cB (cA (cA (cB (cB (cA (cA (cB (cA (cB (cB b173))))))))))))))) (f173_17K o c n k w lp0)) = fun t _ h => f173_19 o c n k lp0 n (t 1) (t 2) (t 6) (t 7) (t 9) (t 10) (t 15) (t 16) (t 17) (t 25) (t 26) h :=
  c_loop (F := fun m t _ h => f173_19 o c n k lp0 m (t 1) (t 2) (t 6) (t 7) (t 9) (t 10) (t 15) (t 16) (t 17) (t 25) (t 26) h) (by kernel_rfl) (by kernel_rfl) fun m => by kernel_rfl
noncomputable def f173_18 (lp0 : AVs (Heap → α) 7) (s1 s2 s6 s7 s9 s10 s15 s16 s17 s25 s26 : AV) (h : Heap) : α :=
  f173_19 o c n k lp0 n s1 s2 s6 s7 s9 s10 s15 s16 s17 s25 s26 h
theorem f173_18_ok (lp0 : AVs (Heap → α) 7) : R Pq o c n (cB (cA (cB (cB (cA (cA (cB (cB (cA (cA (cB (cA (cB (cB b173)))))))))))))) (f173_17K o c n k w lp0) = fun t _ h => f173_18 o c n k lp0 (t 1) (t 2) (t 6) (t 7) (t 9) (t 10) (t 15) (t 16) (t 17) (t 25) (t 26) h := (kblk (f173_19_ok o c n k w lp0)).tk
noncomputable def f173_11 (lp0 : AVs (Heap → α) 7) (s1 s2 s6 s7 s9 s10 s15 s16 s17 : AV) (h : Heap) : α :=
  lenF o s10 fun v37 => f173_18 o c n k lp0 s1 s2 s6 s7 s9 s10 s15 s16 s17 v37 (.i .i64 0) h
theorem f173_11_ok (lp0 : AVs (Heap → α) 7) : R Pq o c n (cB (cB (cA (cA (cB (cB (cA (cA (cB (cA (cB (cB b173)))))))))))) (blockK (cI (cA (cB (cB (cA (cA (cB (cA (cB (cB b173)))))))))) (f173_9K o c n k w lp0)) = fun t _ h => f173_11 o c n k lp0 (t 1) (t 2) (t 6) (t 7) (t 9) (t 10) (t 15) (t 16) (t 17) h := (kseq (f173_12_ok o c n k w lp0) (kseq (f173_18_ok o c n k w lp0) rfl)).tk
noncomputable def f173_10 (lp0 : AVs (Heap → α) 7) (s1 s2 s6 s7 s9 s15 s16 s17 : AV) (h : Heap) : α :=
  faF o 2 s9 fun v38 => load1F o h v38 fun v39 => c 65 [v39] h fun v40 h => pk k v40 h <| f173_11 o c n k lp0 s1 s2 s6 s7 s9 v40 s15 s16 s17 h
theorem f173_10_ok (lp0 : AVs (Heap → α) 7) : R Pq o c n (cB (cA (cA (cB (cB (cA (cA (cB (cA (cB (cB b173))))))))))) (blockK (cI (cA (cB (cB (cA (cA (cB (cA (cB (cB b173)))))))))) (f173_9K o c n k w lp0)) = fun t _ h => f173_10 o c n k lp0 (t 1) (t 2) (t 6) (t 7) (t 9) (t 15) (t 16) (t 17) h := (kseq (f173_11_ok o c n k w lp0) rfl).tk
noncomputable def f173_8 (lp0 : AVs (Heap → α) 7) (s1 s2 s6 s7 s15 s16 s17 : AV) (h : Heap) : α :=
  ixF o 4 s15 s17 fun v41 => loadNF o h 4 v41 fun v42 => newF h h.next 4 [(.s 0 0), (.s 0 0), .nsl, .nsl] fun v43 h => storeF o h 4 v43 v42 fun h => f173_10 o c n k lp0 s1 s2 s6 s7 v43 s15 s16 s17 h
theorem f173_8_ok (lp0 : AVs (Heap → α) 7) : R Pq o c n (cB (cB (cA (cA (cB (cA (cB (cB b173)))))))) (f173_6K o c n k w lp0) = fun t _ h => f173_8 o c n k lp0 (t 1) (t 2) (t 6) (t 7) (t 15) (t 16) (t 17) h := (kseq rfl (kblk (kseq (f173_10_ok o c n k w lp0) rfl))).tk
noncomputable def f173_7 (lp0 : AVs (Heap → α) 7) (s1 s2 s6 s7 s15 s16 s17 s18 : AV) (h : Heap) : α :=
  ifF o s18 (f173_8 o c n k lp0 s1 s2 s6 s7 s15 s16 s17 h) (loadNF o h 1 s7 fun v44 => storeF o h 1 s6 v44 fun h => on o (resV Pq h [(s6, some 26)]) fun v => k v h)
theorem f173_7_ok (lp0 : AVs (Heap → α) 7) : R Pq o c n (cB (cA (cA (cB (cA (cB (cB b173))))))) (f173_6K o c n k w lp0) = fun t _ h => f173_7 o c n k lp0 (t 1) (t 2) (t 6) (t 7) (t 15) (t 16) (t 17) (t 18) h := (kseq (f173_8_ok o c n k w lp0) rfl).tk
noncomputable def f173_5 (m : Nat) : AVs (Heap → α) 7 :=
  Nat.rec (motive := fun _ => AVs (Heap → α) 7) (fun _ _ _ _ _ _ _ _ => o) (fun _ lp0 s1 s2 s6 s7 s15 s16 s17 h => lssF Pq o 3 s17 s16 fun v45 => f173_7 o c n k lp0 s1 s2 s6 s7 s15 s16 s17 v45 h) m
theorem f173_5_ok : R Pq o c n (cA (cB (cA (cB (cB b173))))) (blockK (cI (cB (cA (cB (cB b173))))) (f173_3K o c n k w)) = fun t _ h => f173_5 o c n k n (t 1) (t 2) (t 6) (t 7) (t 15) (t 16) (t 17) h :=
  c_loop (F := fun m t _ h => f173_5 o c n k m (t 1) (t 2) (t 6) (t 7) (t 15) (t 16) (t 17) h) (by kernel_rfl) (by kernel_rfl) fun m => (kseq (f173_7_ok o c n k w (f173_5 o c n k m)) rfl).tk
noncomputable def f173_4 (s1 s2 s6 s7 s15 s16 s17 : AV) (h : Heap) : α :=
  f173_5 o c n k n s1 s2 s6 s7 s15 s16 s17 h
theorem f173_4_ok : R Pq o c n (cB (cA (cB (cB b173)))) (f173_3K o c n k w) = fun t _ h => f173_4 o c n k (t 1) (t 2) (t 6) (t 7) (t 15) (t 16) (t 17) h := (kblk (f173_5_ok o c n k w)).tk
noncomputable def f173_2 (s1 s2 s3 s6 s7 : AV) (h : Heap) : α :=
  faF o 0 s3 fun v46 => load1F o h v46 fun v47 => lenF o v47 fun v48 => f173_4 o c n k s1 s2 s6 s7 v47 v48 (.i .i64 0) h
theorem f173_2_ok : R Pq o c n (cB (cB b173)) (kend Pq o c n w rs173 k) = fun t _ h => f173_2 o c n k (t 1) (t 2) (t 3) (t 6) (t 7) h := (kseq rfl (kseq (f173_4_ok o c n k w) rfl)).tk
noncomputable def f173_1 (s1 s2 s3 s6 : AV) (h : Heap) : α :=
  newF h h.next 1 [.nsl] fun v49 h => f173_2 o c n k s1 s2 s3 s6 v49 h
theorem f173_1_ok : R Pq o c n (cB b173) (kend Pq o c n w rs173 k) = fun t _ h => f173_1 o c n k (t 1) (t 2) (t 3) (t 6) h := (kseq (f173_2_ok o c n k w) rfl).tk
noncomputable def f173 (a0 a1 a2 : AV) (h : Heap) : α :=
  boxF o a0 h h.next fun v50 h => newF h h.next 1 [.nsl] fun v51 h => f173_1 o c n k a1 a2 v50 v51 h
theorem f173_ok : R Pq o c n b173 (kend Pq o c n w rs173 k) = fun t _ h => f173 o c n k (t 0) (t 1) (t 2) h := (kseq (f173_1_ok o c n k w) rfl).tk
theorem f173_good : Good Pq (cfg mm) 173 (entF Pq (cfg mm) 173 3 fun α => f173) := entG b173 rs173 84 fun _ => f173_ok
noncomputable def b183 := bdy Tryz.f183
noncomputable def rs183 := Tryz.f183.results.toList
noncomputable def f183_2K : Ex → K α := (nxK (R Pq o c n (cB (cB b183)) (kend Pq o c n w rs183 k)) (kend Pq o c n w rs183 k))
noncomputable def f183_4 {α : Type} (o : α) (c : Call' α) (n : Nat) (k : AV → Heap → α) (m : Nat) : AVs (Heap → α) 4 :=
  Nat.rec (motive := fun _ => AVs (Heap → α) 4) (fun _ _ _ _ _ => o) (fun _ lp0 s0 s1 s7 s8 h => lssF Pq o 3 s8 s7 fun v1 => ifF o v1 (ixF o 4 s0 s8 fun v2 => loadNF o h 4 v2 fun v3 => cfF o s1 [v3] c h fun v4 h => pk k v4 h <| ifF o v4 (k s8 h) (addF Pq o 3 s8 (.i .i64 1) fun v5 => lp0 s0 s1 s7 v5 h)) (k (.i .i64 (-1)) h)) m
theorem f183_4_ok : R Pq o c n (cA (cB (cA (cB b183)))) (blockK (cI (cB (cA (cB b183)))) (f183_2K o c n k w)) = fun t _ h => f183_4 o c n k n (t 0) (t 1) (t 7) (t 8) h :=
  c_loop (F := fun m t _ h => f183_4 o c n k m (t 0) (t 1) (t 7) (t 8) h) (by kernel_rfl) (by kernel_rfl) fun m => by kernel_rfl
noncomputable def f183_3 (s0 s1 s7 s8 : AV) (h : Heap) : α :=
  f183_4 o c n k n s0 s1 s7 s8 h
theorem f183_3_ok : R Pq o c n (cB (cA (cB b183))) (f183_2K o c n k w) = fun t _ h => f183_3 o c n k (t 0) (t 1) (t 7) (t 8) h := (kblk (f183_4_ok o c n k w)).tk
noncomputable def f183_1 (s0 s1 : AV) (h : Heap) : α :=
  lenF o s0 fun v6 => f183_3 o c n k s0 s1 v6 (.i .i64 0) h
theorem f183_1_ok : R Pq o c n (cB b183) (kend Pq o c n w rs183 k) = fun t _ h => f183_1 o c n k (t 0) (t 1) h := (kseq rfl (kseq (f183_3_ok o c n k w) rfl)).tk
noncomputable def f183 (a0 a1 : AV) (h : Heap) : α :=
  f183_1 o c n k a0 a1 h
theorem f183_ok : R Pq o c n b183 (kend Pq o c n w rs183 k) = fun t _ h => f183 o c n k (t 0) (t 1) h := (kseq (f183_1_ok o c n k w) rfl).tk
theorem f183_good : Good Pq (cfg mm) 183 (entF Pq (cfg mm) 183 2 fun α => f183) := entG b183 rs183 19 fun _ => f183_ok
noncomputable def b184 := bdy Tryz.f184
noncomputable def rs184 := Tryz.f184.results.toList
noncomputable def f184 {α : Type} (o : α) (c : Call' α) (n : Nat) (k : AV → Heap → α) (a0 a1 : AV) (h : Heap) : α :=
  boxF o a0 h h.next fun v1 h => faF o 0 v1 fun v2 => load1F o h v2 fun v3 => load1F o h a1 fun v4 => eqsF Pq o 9 v3 v4 fun v5 => k v5 h
theorem f184_ok : R Pq o c n b184 (kend Pq o c n w rs184 k) = fun t _ h => f184 o c n k (t 0) (t 1) h := by kernel_rfl
theorem f184_good : Good Pq (cfg mm) 184 (entF Pq (cfg mm) 184 2 fun α => f184) := entG b184 rs184 8 fun _ => f184_ok
noncomputable def b185 := bdy Tryz.f185
noncomputable def rs185 := Tryz.f185.results.toList
noncomputable def f185 {α : Type} (o : α) (c : Call' α) (n : Nat) (k : AV → Heap → α) (a0 a1 : AV) (h : Heap) : α :=
  boxF o a0 h h.next fun v1 h => newF h h.next 4 [(.s 0 0), (.s 0 0), .nsl, .nsl] fun v2 h => loadNF o h 1 v1 fun v3 => c 120 [v3, a1] h fun v4 h => pk k v4 h <| geqF Pq o 3 v4 (.i .i64 0) fun v5 => ifF o v5 (faF o 0 v1 fun v6 => load1F o h v6 fun v7 => ixF o 4 v7 v4 fun v8 => loadNF o h 4 v8 fun v9 => storeF o h 4 v2 v9 fun h => on o (resV Pq h [(v2, some 51)]) fun v => k v h) (storeF o h 4 v2 (.agg [(.s 0 0), (.s 0 0), .nsl, .nsl]) fun h => on o (resV Pq h [(v2, some 51)]) fun v => k v h)
theorem f185_ok : R Pq o c n b185 (kend Pq o c n w rs185 k) = fun t _ h => f185 o c n k (t 0) (t 1) h := by kernel_rfl
theorem f185_good : Good Pq (cfg mm) 185 (entF Pq (cfg mm) 185 2 fun α => f185) := entG b185 rs185 17 fun _ => f185_ok
noncomputable def b188 := bdy Tryz.f188
noncomputable def rs188 := Tryz.f188.results.toList
noncomputable def f188_3 {α : Type} (o : α) (c : Call' α) (n : Nat) (k : AV → Heap → α) (s3 s4 s6 : AV) (h : Heap) : α :=
  faF o 3 s6 fun v1 => load1F o h v1 fun v2 => faF o 1 s3 fun v3 => load1F o h v3 fun v4 => ixF o 6 v2 v4 fun v5 => loadNF o h 6 v5 fun v6 => storeF o h 6 s4 v6 fun h => on o (resV Pq h [(s4, some 63), ((.b true), none)]) fun v => k v h
theorem f188_3_ok : R Pq o c n (cB (cB (cB b188))) (kend Pq o c n w rs188 k) = fun t _ h => f188_3 o c n k (t 3) (t 4) (t 6) h := by kernel_rfl
noncomputable def f188_4K : Ex → K α := (nxK (fun t _ h => f188_3 o c n k (t 3) (t 4) (t 6) h) (kend Pq o c n w rs188 k))
noncomputable def f188_5 (s3 s4 s6 s21 : AV) (h : Heap) : α :=
  ifF o s21 (storeF o h 6 s4 (.agg [(.b false), (.b false), (.s 0 0), (.s 0 0), .nsl, .nsl]) fun h => on o (resV Pq h [(s4, some 63), ((.b false), none)]) fun v => k v h) (f188_3 o c n k s3 s4 s6 h)
theorem f188_5_ok : R Pq o c n (cB (cA (cB (cB b188)))) (f188_4K o c n k w) = fun t _ h => f188_5 o c n k (t 3) (t 4) (t 6) (t 21) h := by kernel_rfl
noncomputable def f188_6K : Ex → K α := (nxK (fun t _ h => f188_5 o c n k (t 3) (t 4) (t 6) (t 21) h) (f188_4K o c n k w))
noncomputable def f188_2 (s3 s4 s6 : AV) (h : Heap) : α :=
  faF o 1 s3 fun v7 => load1F o h v7 fun v8 => lssF Pq o 3 v8 (.i .i64 0) fun v9 => bkF o false v9 (faF o 1 s3 fun v10 => load1F o h v10 fun v11 => faF o 3 s6 fun v12 => load1F o h v12 fun v13 => lenF o v13 fun v14 => geqF Pq o 3 v11 v14 fun v15 => pickF o v9 (.b true) v15 fun v16 => f188_5 o c n k s3 s4 s6 v16 h) (pickF o v9 (.b true) (.tup []) fun v17 => f188_5 o c n k s3 s4 s6 v17 h)
theorem f188_2_ok : R Pq o c n (cB (cB b188)) (kend Pq o c n w rs188 k) = fun t _ h => f188_2 o c n k (t 3) (t 4) (t 6) h := (kseq (f188_3_ok o c n k w) (kseq (f188_5_ok o c n k w) (r_start 4 (by kernel_rfl) (q_guard 4 10 (3, false) (by kernel_rfl) (by kernel_rfl) (by kernel_rfl) rfl)))).tk
noncomputable def f188_1 (s2 s3 s4 : AV) (h : Heap) : α :=
  loadNF o h 1 s2 fun v18 => faF o 0 s3 fun v19 => load1F o h v19 fun v20 => c 185 [v18, v20] h fun v21 h => pk k v21 h <| newF h h.next 4 [(.s 0 0), (.s 0 0), .nsl, .nsl] fun v22 h => storeF o h 4 v22 v21 fun h => f188_2 o c n k s3 s4 v22 h
theorem f188_1_ok : R Pq o c n (cB b188) (kend Pq o c n w rs188 k) = fun t _ h => f188_1 o c n k (t 2) (t 3) (t 4) h := (kseq (f188_2_ok o c n k w) rfl).tk
noncomputable def f188 (a0 a1 : AV) (h : Heap) : α :=
  boxF o a0 h h.next fun v23 h => boxF o a1 h h.next fun v24 h => newF h h.next 6 [(.b false), (.b false), (.s 0 0), (.s 0 0), .nsl, .nsl] fun v25 h => f188_1 o c n k v23 v24 v25 h
theorem f188_ok : R Pq o c n b188 (kend Pq o c n w rs188 k) = fun t _ h => f188 o c n k (t 0) (t 1) h := (kseq (f188_1_ok o c n k w) rfl).tk
theorem f188_good : Good Pq (cfg mm) 188 (entF Pq (cfg mm) 188 2 fun α => f188) := entG b188 rs188 29 fun _ => f188_ok
noncomputable def b204 := bdy Tryz.f204
noncomputable def rs204 := Tryz.f204.results.toList
noncomputable def f204_2K : Ex → K α := (nxK (R Pq o c n (cB (cB b204)) (kend Pq o c n w rs204 k)) (kend Pq o c n w rs204 k))
noncomputable def f204_3 {α : Type} (o : α) (c : Call' α) (n : Nat) (k : AV → Heap → α) (s0 s5 s9 : AV) (h : Heap) : α :=
  pickF o s5 s9 (.b false) fun v1 => bkF o true v1 (c 150 [s0] h fun v2 h => pk k v2 h <| notF o v2 fun v3 => pickF o v1 v3 (.b false) fun v4 => k v4 h) (pickF o v1 (.tup []) (.b false) fun v5 => k v5 h)
theorem f204_3_ok : Q Pq o c (cO (cA (cB b204))) (f204_2K o c n k w) 7 = fun t _ h => f204_3 o c n k (t 0) (t 5) (t 9) h := (q_seg 7 9 (by kernel_rfl) (q_guard 9 12 (8, true) (by kernel_rfl) (by kernel_rfl) (by kernel_rfl) rfl)).tk
noncomputable def f204_1 (s0 : AV) (h : Heap) : α :=
  nesF Pq o 9 s0 (.s 0 0) fun v6 => bkF o true v6 (sxF o s0 (.i .i64 0) fun v7 => convA Pq o 5 21 v7 fun v8 => c 149 [v8] h fun v9 h => pk k v9 h <| f204_3 o c n k s0 v6 v9 h) (f204_3 o c n k s0 v6 (.tup []) h)
theorem f204_1_ok : R Pq o c n (cB b204) (kend Pq o c n w rs204 k) = fun t _ h => f204_1 o c n k (t 0) h := (kseq rfl (r_start 3 (by kernel_rfl) (q_guard 3 7 (2, true) (by kernel_rfl) (by kernel_rfl) (by kernel_rfl) (f204_3_ok o c n k w)))).tk
noncomputable def f204 (a0 : AV) (h : Heap) : α :=
  f204_1 o c n k a0 h
theorem f204_ok : R Pq o c n b204 (kend Pq o c n w rs204 k) = fun t _ h => f204 o c n k (t 0) h := (kseq (f204_1_ok o c n k w) rfl).tk
theorem f204_good : Good Pq (cfg mm) 204 (entF Pq (cfg mm) 204 1 fun α => f204) := entG b204 rs204 16 fun _ => f204_ok
noncomputable def b206 := bdy Tryz.f206
noncomputable def rs206 := Tryz.f206.results.toList
noncomputable def f206_2K : Ex → K α := (nxK (R Pq o c n (cB (cB b206)) (kend Pq o c n w rs206 k)) (kend Pq o c n w rs206 k))
noncomputable def f206_9 {α : Type} (o : α) (c : Call' α) (n : Nat) (k : AV → Heap → α) (s17 : AV) (h : Heap) : α :=
  ifF o s17 (k (.i .i64 6) h) (k (.i .i64 0) h)
theorem f206_9_ok : R Pq o c n (cB (cB (cB (cB (cB (cB (cB (cB (cB (cB (cB (cA (cB (cA (cB b206))))))))))))))) (blockK (cI (cB (cA (cB b206)))) (f206_2K o c n k w)) = fun t _ h => f206_9 o c n k (t 17) h := by kernel_rfl
noncomputable def f206_8 (s3 s14 : AV) (h : Heap) : α :=
  ifF o s14 (k (.i .i64 5) h) (eqsF Pq o 9 s3 (.s 1 42) fun v1 => ifF o v1 (f206_9 o c n k v1 h) (eqsF Pq o 9 s3 (.s 1 47) fun v2 => ifF o v2 (f206_9 o c n k v2 h) (eqsF Pq o 9 s3 (.s 1 37) fun v3 => ifF o v3 (f206_9 o c n k v3 h) (eqsF Pq o 9 s3 (.s 1 64) fun v4 => f206_9 o c n k v4 h))))
theorem f206_8_ok : R Pq o c n (cB (cB (cB (cB (cB (cB (cB (cB (cB (cA (cB (cA (cB b206))))))))))))) (blockK (cI (cB (cA (cB b206)))) (f206_2K o c n k w)) = fun t _ h => f206_8 o c n k (t 3) (t 14) h := (c_cond (by kernel_rfl) rfl (kseq (f206_9_ok o c n k w) rfl)).tk
noncomputable def f206_7 (s3 s11 : AV) (h : Heap) : α :=
  ifF o s11 (k (.i .i64 4) h) (eqsF Pq o 9 s3 (.s 1 43) fun v5 => ifF o v5 (f206_8 o c n k s3 v5 h) (eqsF Pq o 9 s3 (.s 1 45) fun v6 => f206_8 o c n k s3 v6 h))
theorem f206_7_ok : R Pq o c n (cB (cB (cB (cB (cB (cB (cB (cA (cB (cA (cB b206))))))))))) (blockK (cI (cB (cA (cB b206)))) (f206_2K o c n k w)) = fun t _ h => f206_7 o c n k (t 3) (t 11) h := (c_cond (by kernel_rfl) rfl (kseq (f206_8_ok o c n k w) rfl)).tk
noncomputable def f206_6 (s3 s8 : AV) (h : Heap) : α :=
  ifF o s8 (k (.i .i64 3) h) (eqsF Pq o 9 s3 (.s 1 60) fun v7 => ifF o v7 (f206_7 o c n k s3 v7 h) (eqsF Pq o 9 s3 (.s 2 15676) fun v8 => f206_7 o c n k s3 v8 h))
theorem f206_6_ok : R Pq o c n (cB (cB (cB (cB (cB (cA (cB (cA (cB b206))))))))) (blockK (cI (cB (cA (cB b206)))) (f206_2K o c n k w)) = fun t _ h => f206_6 o c n k (t 3) (t 8) h := (c_cond (by kernel_rfl) rfl (kseq (f206_7_ok o c n k w) rfl)).tk
noncomputable def f206_5 (s3 s6 : AV) (h : Heap) : α :=
  ifF o s6 (k (.i .i64 2) h) (eqsF Pq o 9 s3 (.s 2 15677) fun v9 => ifF o v9 (f206_6 o c n k s3 v9 h) (eqsF Pq o 9 s3 (.s 2 15649) fun v10 => f206_6 o c n k s3 v10 h))
theorem f206_5_ok : R Pq o c n (cB (cB (cB (cA (cB (cA (cB b206))))))) (blockK (cI (cB (cA (cB b206)))) (f206_2K o c n k w)) = fun t _ h => f206_5 o c n k (t 3) (t 6) h := (c_cond (by kernel_rfl) rfl (kseq (f206_6_ok o c n k w) rfl)).tk
noncomputable def f206_4 (s3 s4 : AV) (h : Heap) : α :=
  ifF o s4 (k (.i .i64 1) h) (eqsF Pq o 9 s3 (.s 2 9766) fun v11 => f206_5 o c n k s3 v11 h)
theorem f206_4_ok : R Pq o c n (cB (cA (cB (cA (cB b206))))) (blockK (cI (cB (cA (cB b206)))) (f206_2K o c n k w)) = fun t _ h => f206_4 o c n k (t 3) (t 4) h := (c_cond (by kernel_rfl) rfl (kseq (f206_5_ok o c n k w) rfl)).tk
noncomputable def f206_3 (s3 : AV) (h : Heap) : α :=
  eqsF Pq o 9 s3 (.s 2 31868) fun v12 => f206_4 o c n k s3 v12 h
theorem f206_3_ok : R Pq o c n (cB (cA (cB b206))) (f206_2K o c n k w) = fun t _ h => f206_3 o c n k (t 3) h := (kblk (kseq (f206_4_ok o c n k w) rfl)).tk
noncomputable def f206_1 (s0 : AV) (h : Heap) : α :=
  f206_3 o c n k s0 h
theorem f206_1_ok : R Pq o c n (cB b206) (kend Pq o c n w rs206 k) = fun t _ h => f206_1 o c n k (t 0) h := (kseq rfl (kseq (f206_3_ok o c n k w) rfl)).tk
noncomputable def f206 (a0 : AV) (h : Heap) : α :=
  f206_1 o c n k a0 h
theorem f206_ok : R Pq o c n b206 (kend Pq o c n w rs206 k) = fun t _ h => f206 o c n k (t 0) h := (kseq (f206_1_ok o c n k w) rfl).tk
theorem f206_good : Good Pq (cfg mm) 206 (entF Pq (cfg mm) 206 1 fun α => f206) := entG b206 rs206 22 fun _ => f206_ok
noncomputable def b207 := bdy Tryz.f207
noncomputable def rs207 := Tryz.f207.results.toList
noncomputable def f207 {α : Type} (o : α) (c : Call' α) (n : Nat) (k : AV → Heap → α) (a0 : AV) (h : Heap) : α :=
  boxF o a0 h h.next fun v1 h => faF o 5 v1 fun v2 => load1F o h v2 fun v3 => c 145 [v3] h fun v4 h => pk k v4 h <| addF Pq o 3 (.i .i64 1) v4 fun v5 => k v5 h
theorem f207_ok : R Pq o c n b207 (kend Pq o c n w rs207 k) = fun t _ h => f207 o c n k (t 0) h := by kernel_rfl
theorem f207_good : Good Pq (cfg mm) 207 (entF Pq (cfg mm) 207 1 fun α => f207) := entG b207 rs207 7 fun _ => f207_ok
noncomputable def b211 := bdy Tryz.f211
noncomputable def rs211 := Tryz.f211.results.toList
noncomputable def f211_2K : Ex → K α := (nxK (R Pq o c n (cB (cB b211)) (kend Pq o c n w rs211 k)) (kend Pq o c n w rs211 k))
noncomputable def f211_1 {α : Type} (o : α) (c : Call' α) (n : Nat) (k : AV → Heap → α) (s0 : AV) (h : Heap) : α :=
  c 256 [s0, (.fn (.func 257) [] [])] h fun v1 h => pk k v1 h <| bkF o true v1 (nesF Pq o 9 s0 (.s 6 113723913172051) fun v2 => pickF o v1 v2 (.b false) fun v3 => k v3 h) (pickF o v1 (.tup []) (.b false) fun v4 => k v4 h)
theorem f211_1_ok : R Pq o c n (cB b211) (kend Pq o c n w rs211 k) = fun t _ h => f211_1 o c n k (t 0) h := (kseq rfl (r_start 3 (by kernel_rfl) (q_guard 3 5 (2, true) (by kernel_rfl) (by kernel_rfl) (by kernel_rfl) rfl))).tk
noncomputable def f211 (a0 : AV) (h : Heap) : α :=
  f211_1 o c n k a0 h
theorem f211_ok : R Pq o c n b211 (kend Pq o c n w rs211 k) = fun t _ h => f211 o c n k (t 0) h := (kseq (f211_1_ok o c n k w) rfl).tk
theorem f211_good : Good Pq (cfg mm) 211 (entF Pq (cfg mm) 211 1 fun α => f211) := entG b211 rs211 9 fun _ => f211_ok
noncomputable def b212 := bdy Tryz.f212
noncomputable def rs212 := Tryz.f212.results.toList
noncomputable def f212_3K : Ex → K α := (nxK (R Pq o c n (cB (cB (cB b212))) (kend Pq o c n w rs212 k)) (kend Pq o c n w rs212 k))
noncomputable def f212_5 {α : Type} (o : α) (c : Call' α) (n : Nat) (k : AV → Heap → α) (m : Nat) : AVs (Heap → α) 4 :=
  Nat.rec (motive := fun _ => AVs (Heap → α) 4) (fun _ _ _ _ _ => o) (fun _ lp0 s3 s6 s7 s8 h => lssF Pq o 3 s8 s7 fun v1 => ifF o v1 (ixF o 8 s6 s8 fun v2 => loadNF o h 8 v2 fun v3 => newF h h.next 8 [(.i .i64 0), (.i .i32 0), (.s 0 0), (.s 0 0), (.s 0 0), .nsl, (.s 0 0), (.i .i64 0)] fun v4 h => storeF o h 8 v4 v3 fun h => loadNF o h 8 v4 fun v5 => c 258 [v5] h fun v6 h => pk k v6 h <| addF Pq o 3 s3 v6 fun v7 => addF Pq o 3 s8 (.i .i64 1) fun v8 => lp0 v7 s6 s7 v8 h) (k s3 h)) m
theorem f212_5_ok : R Pq o c n (cA (cB (cA (cB (cB b212))))) (blockK (cI (cB (cA (cB (cB b212))))) (f212_3K o c n k w)) = fun t _ h => f212_5 o c n k n (t 3) (t 6) (t 7) (t 8) h :=
  c_loop (F := fun m t _ h => f212_5 o c n k m (t 3) (t 6) (t 7) (t 8) h) (by kernel_rfl) (by kernel_rfl) fun m => by kernel_rfl
noncomputable def f212_4 (s3 s6 s7 s8 : AV) (h : Heap) : α :=
  f212_5 o c n k n s3 s6 s7 s8 h
theorem f212_4_ok : R Pq o c n (cB (cA (cB (cB b212)))) (f212_3K o c n k w) = fun t _ h => f212_4 o c n k (t 3) (t 6) (t 7) (t 8) h := (kblk (f212_5_ok o c n k w)).tk
noncomputable def f212_2 (s0 s3 : AV) (h : Heap) : α :=
  lenF o s0 fun v9 => f212_4 o c n k s3 s0 v9 (.i .i64 0) h
theorem f212_2_ok : R Pq o c n (cB (cB b212)) (kend Pq o c n w rs212 k) = fun t _ h => f212_2 o c n k (t 0) (t 3) h := (kseq rfl (kseq (f212_4_ok o c n k w) rfl)).tk
noncomputable def f212_1 (s0 : AV) (h : Heap) : α :=
  f212_2 o c n k s0 (.i .i64 0) h
theorem f212_1_ok : R Pq o c n (cB b212) (kend Pq o c n w rs212 k) = fun t _ h => f212_1 o c n k (t 0) h := (kseq (f212_2_ok o c n k w) rfl).tk
noncomputable def f212 (a0 : AV) (h : Heap) : α :=
  f212_1 o c n k a0 h
theorem f212_ok : R Pq o c n b212 (kend Pq o c n w rs212 k) = fun t _ h => f212 o c n k (t 0) h := (kseq (f212_1_ok o c n k w) rfl).tk
theorem f212_good : Good Pq (cfg mm) 212 (entF Pq (cfg mm) 212 1 fun α => f212) := entG b212 rs212 18 fun _ => f212_ok
noncomputable def b214 := bdy Tryz.f214
noncomputable def rs214 := Tryz.f214.results.toList
noncomputable def f214_2K : Ex → K α := (nxK (R Pq o c n (cB (cB b214)) (kend Pq o c n w rs214 k)) (kend Pq o c n w rs214 k))
noncomputable def f214_4 {α : Type} (o : α) (c : Call' α) (n : Nat) (k : AV → Heap → α) (m : Nat) : AVs (Heap → α) 4 :=
  Nat.rec (motive := fun _ => AVs (Heap → α) 4) (fun _ _ _ _ _ => o) (fun _ lp0 s0 s1 s7 s8 h => lssF Pq o 3 s8 s7 fun v1 => ifF o v1 (ixF o 4 s0 s8 fun v2 => loadNF o h 4 v2 fun v3 => cfF o s1 [v3] c h fun v4 h => pk k v4 h <| ifF o v4 (k s8 h) (addF Pq o 3 s8 (.i .i64 1) fun v5 => lp0 s0 s1 s7 v5 h)) (k (.i .i64 (-1)) h)) m
theorem f214_4_ok : R Pq o c n (cA (cB (cA (cB b214)))) (blockK (cI (cB (cA (cB b214)))) (f214_2K o c n k w)) = fun t _ h => f214_4 o c n k n (t 0) (t 1) (t 7) (t 8) h :=
  c_loop (F := fun m t _ h => f214_4 o c n k m (t 0) (t 1) (t 7) (t 8) h) (by kernel_rfl) (by kernel_rfl) fun m => by kernel_rfl
noncomputable def f214_3 (s0 s1 s7 s8 : AV) (h : Heap) : α :=
  f214_4 o c n k n s0 s1 s7 s8 h
theorem f214_3_ok : R Pq o c n (cB (cA (cB b214))) (f214_2K o c n k w) = fun t _ h => f214_3 o c n k (t 0) (t 1) (t 7) (t 8) h := (kblk (f214_4_ok o c n k w)).tk
noncomputable def f214_1 (s0 s1 : AV) (h : Heap) : α :=
  lenF o s0 fun v6 => f214_3 o c n k s0 s1 v6 (.i .i64 0) h
theorem f214_1_ok : R Pq o c n (cB b214) (kend Pq o c n w rs214 k) = fun t _ h => f214_1 o c n k (t 0) (t 1) h := (kseq rfl (kseq (f214_3_ok o c n k w) rfl)).tk
noncomputable def f214 (a0 a1 : AV) (h : Heap) : α :=
  f214_1 o c n k a0 a1 h
theorem f214_ok : R Pq o c n b214 (kend Pq o c n w rs214 k) = fun t _ h => f214 o c n k (t 0) (t 1) h := (kseq (f214_1_ok o c n k w) rfl).tk
theorem f214_good : Good Pq (cfg mm) 214 (entF Pq (cfg mm) 214 2 fun α => f214) := entG b214 rs214 19 fun _ => f214_ok
noncomputable def b215 := bdy Tryz.f215
noncomputable def rs215 := Tryz.f215.results.toList
noncomputable def f215 {α : Type} (o : α) (c : Call' α) (n : Nat) (k : AV → Heap → α) (a0 a1 : AV) (h : Heap) : α :=
  boxF o a0 h h.next fun v1 h => loadNF o h 1 v1 fun v2 => c 259 [v2, a1] h fun v3 h => pk k v3 h <| assertA Pq o v3 51 true fun v4 => exF o v4 0 fun v5 => exF o v4 1 fun v6 => newF h h.next 4 [(.s 0 0), (.s 0 0), .nsl, .nsl] fun v7 h => storeF o h 4 v7 v5 fun h => notF o v6 fun v8 => ifF o v8 (k .nsl h) (faF o 2 v7 fun v9 => load1F o h v9 fun v10 => k v10 h)
theorem f215_ok : R Pq o c n b215 (kend Pq o c n w rs215 k) = fun t _ h => f215 o c n k (t 0) (t 1) h := by kernel_rfl
theorem f215_good : Good Pq (cfg mm) 215 (entF Pq (cfg mm) 215 2 fun α => f215) := entG b215 rs215 18 fun _ => f215_ok
noncomputable def b216 := bdy Tryz.f216
noncomputable def rs216 := Tryz.f216.results.toList
noncomputable def f216 {α : Type} (o : α) (c : Call' α) (n : Nat) (k : AV → Heap → α) (a0 a1 : AV) (h : Heap) : α :=
  boxF o a0 h h.next fun v1 h => faF o 2 v1 fun v2 => load1F o h v2 fun v3 => load1F o h a1 fun v4 => eqsF Pq o 9 v3 v4 fun v5 => k v5 h
theorem f216_ok : R Pq o c n b216 (kend Pq o c n w rs216 k) = fun t _ h => f216 o c n k (t 0) (t 1) h := by kernel_rfl
theorem f216_good : Good Pq (cfg mm) 216 (entF Pq (cfg mm) 216 2 fun α => f216) := entG b216 rs216 8 fun _ => f216_ok
noncomputable def b225 := bdy Tryz.f225
noncomputable def rs225 := Tryz.f225.results.toList
noncomputable def f225_6 {α : Type} (o : α) (c : Call' α) (n : Nat) (k : AV → Heap → α) (s5 s6 s9 s13 : AV) (h : Heap) : α :=
  dreg o h 13 fun base h => faF o 1 s13 fun v1 => faF o 0 v1 fun v2 => rootF o v2 s13 <| load1F o (h.look 6) v2 fun v3 => faF o 1 s13 fun v4 => faF o 1 v4 fun v5 => rootF o v5 s13 <| load1F o (h.look 48) v5 fun v6 => faF o 5 s5 fun v7 => lb (sBlk v2 (sBlk v5 [])) fun ids => rootF o v7 s5 <| storeF o (hide ids (h.look 129)) 1 v7 s9 fun g => hb (back h ids g) fun h => faF o 6 s5 fun v8 => lb (sBlk v5 []) fun ids => rootF o v8 s5 <| storeF o (hide ids (h.look 911)) 1 v8 v3 fun g => hb (back h ids g) fun h => faF o 7 s5 fun v9 => rootF o v9 s5 <| storeF o (h.look 4095) 1 v9 v6 fun h => hb h.shut fun h => dreg o h 6 fun base h => loadNF o (h.look 0) 8 s5 fun v10 => faF o 0 s13 fun v11 => rootF o v11 s13 <| load1F o (h.look 2) v11 fun v12 => lb (sBlk v11 []) fun ids => storeF o (hide ids (h.look 1)) 8 s6 v10 fun g => hb (back h ids g) fun h => hb h.shut fun h => on o (resV Pq h [(s6, some 57), (v12, none), ((.i .i64 0), none)]) fun v => k v h
theorem f225_6_ok : R Pq o c n (cB (cB (cB (cB (cB (cB b225)))))) (kend Pq o c n w rs225 k) = fun t _ h => f225_6 o c n k (t 5) (t 6) (t 9) (t 13) h := by kernel_rfl
noncomputable def f225_7K : Ex → K α := (nxK (fun t _ h => f225_6 o c n k (t 5) (t 6) (t 9) (t 13) h) (kend Pq o c n w rs225 k))
noncomputable def f225_8 (s5 s6 s9 s13 s45 : AV) (h : Heap) : α :=
  ifF o s45 (dreg o h 6 fun base h => faF o 3 s13 fun v13 => rootF o v13 s13 <| load1F o (h.look 2) v13 fun v14 => lb (sBlk v13 []) fun ids => storeF o (hide ids (h.look 1)) 8 s6 (.agg [(.i .i64 0), (.i .i32 0), (.s 0 0), (.s 0 0), (.s 0 0), .nsl, (.s 0 0), (.i .i64 0)]) fun g => hb (back h ids g) fun h => hb h.shut fun h => on o (resV Pq h [(s6, some 57), ((.s 0 0), none), (v14, none)]) fun v => k v h) (f225_6 o c n k s5 s6 s9 s13 h)
theorem f225_8_ok : R Pq o c n (cB (cA (cB (cB (cB (cB (cB b225))))))) (f225_7K o c n k w) = fun t _ h => f225_8 o c n k (t 5) (t 6) (t 9) (t 13) (t 45) h := by kernel_rfl
noncomputable def f225_9K : Ex → K α := (nxK (fun t _ h => f225_8 o c n k (t 5) (t 6) (t 9) (t 13) (t 45) h) (f225_7K o c n k w))
noncomputable def f225_5 (s5 s6 s9 s13 s14 : AV) (h : Heap) : α :=
  notF o s14 fun v15 => bkF o false v15 (faF o 3 s13 fun v16 => load1F o h v16 fun v17 => neiF Pq o 3 v17 (.i .i64 0) fun v18 => pickF o v15 (.b true) v18 fun v19 => f225_8 o c n k s5 s6 s9 s13 v19 h) (pickF o v15 (.b true) (.tup []) fun v20 => f225_8 o c n k s5 s6 s9 s13 v20 h)
theorem f225_5_ok : R Pq o c n (cB (cB (cB (cB (cB b225))))) (kend Pq o c n w rs225 k) = fun t _ h => f225_5 o c n k (t 5) (t 6) (t 9) (t 13) (t 14) h := (kseq (f225_6_ok o c n k w) (kseq (f225_8_ok o c n k w) (r_start 3 (by kernel_rfl) (q_guard 3 6 (2, false) (by kernel_rfl) (by kernel_rfl) (by kernel_rfl) rfl)))).tk
noncomputable def f225_4 (s5 s6 s9 s12 : AV) (h : Heap) : α :=
  loadNF o h 13 s12 fun v21 => c 264 [v21] h fun v22 h => pk k v22 h <| assertA Pq o v22 267 true fun v23 => exF o v23 0 fun v24 => exF o v23 1 fun v25 => newF h h.next 4 [(.s 0 0), (.s 0 0), (.i .i64 0), (.i .i64 0)] fun v26 h => storeF o h 4 v26 v24 fun h => f225_5 o c n k s5 s6 s9 v26 v25 h
theorem f225_4_ok : R Pq o c n (cB (cB (cB (cB b225)))) (kend Pq o c n w rs225 k) = fun t _ h => f225_4 o c n k (t 5) (t 6) (t 9) (t 12) h := (kseq (f225_5_ok o c n k w) rfl).tk
noncomputable def f225_3 (s3 s4 s5 s6 s9 s10 : AV) (h : Heap) : α :=
  loadNF o h 1 s3 fun v27 => loadNF o h 3 s4 fun v28 => loadNF o h 8 s5 fun v29 => layF o 0 v27 [.nsl, (.s 0 0), (.b false), .nsl, (.i .i64 0), (.i .i32 0), (.s 0 0), (.s 0 0), (.s 0 0), .nsl, (.s 0 0), (.i .i64 0), .nsl] fun v30 => lay1 o 1 3 v28 v30 fun v31 => lay1 o 4 8 v29 v31 fun v32 => layF o 12 s10 v32 fun v33 => newF h h.next 13 [.nsl, (.s 0 0), (.b false), .nsl, (.i .i64 0), (.i .i32 0), (.s 0 0), (.s 0 0), (.s 0 0), .nsl, (.s 0 0), (.i .i64 0), .nsl] fun v34 h => storeF o h 13 v34 (.agg v33) fun h => f225_4 o c n k s5 s6 s9 v34 h
theorem f225_3_ok : R Pq o c n (cB (cB (cB b225))) (kend Pq o c n w rs225 k) = fun t _ h => f225_3 o c n k (t 3) (t 4) (t 5) (t 6) (t 9) (t 10) h := (kseq (f225_4_ok o c n k w) rfl).tk
noncomputable def f225_2 (s3 s4 s5 s6 s9 s10 s11 : AV) (h : Heap) : α :=
  neiF Pq o 3 s11 (.i .i64 0) fun v35 => ifF o v35 (storeF o h 8 s6 (.agg [(.i .i64 0), (.i .i32 0), (.s 0 0), (.s 0 0), (.s 0 0), .nsl, (.s 0 0), (.i .i64 0)]) fun h => on o (resV Pq h [(s6, some 57), ((.s 0 0), none), (s11, none)]) fun v => k v h) (f225_3 o c n k s3 s4 s5 s6 s9 s10 h)
theorem f225_2_ok : R Pq o c n (cB (cB b225)) (kend Pq o c n w rs225 k) = fun t _ h => f225_2 o c n k (t 3) (t 4) (t 5) (t 6) (t 9) (t 10) (t 11) h := (kseq (f225_3_ok o c n k w) rfl).tk
noncomputable def f225_1 (s3 s4 s5 s6 : AV) (h : Heap) : α :=
  loadNF o h 1 s3 fun v36 => loadNF o h 3 s4 fun v37 => faF o 5 s5 fun v38 => load1F o h v38 fun v39 => c 263 [v36, v37, v39] h fun v40 h => pk k v40 h <| exF o v40 0 fun v41 => exF o v40 1 fun v42 => exF o v40 2 fun v43 => f225_2 o c n k s3 s4 s5 s6 v41 v42 v43 h
theorem f225_1_ok : R Pq o c n (cB b225) (kend Pq o c n w rs225 k) = fun t _ h => f225_1 o c n k (t 3) (t 4) (t 5) (t 6) h := (kseq (f225_2_ok o c n k w) rfl).tk
noncomputable def f225 (a0 a1 a2 : AV) (h : Heap) : α :=
  boxF o a0 h h.next fun v44 h => boxF o a1 h h.next fun v45 h => boxF o a2 h h.next fun v46 h => newF h h.next 8 [(.i .i64 0), (.i .i32 0), (.s 0 0), (.s 0 0), (.s 0 0), .nsl, (.s 0 0), (.i .i64 0)] fun v47 h => f225_1 o c n k v44 v45 v46 v47 h
theorem f225_ok : R Pq o c n b225 (kend Pq o c n w rs225 k) = fun t _ h => f225 o c n k (t 0) (t 1) (t 2) h := (kseq (f225_1_ok o c n k w) rfl).tk
theorem f225_good : Good Pq (cfg mm) 225 (entF Pq (cfg mm) 225 3 fun α => f225) := entG b225 rs225 62 fun _ => f225_ok
noncomputable def b226 := bdy Tryz.f226
noncomputable def rs226 := Tryz.f226.results.toList
noncomputable def f226 {α : Type} (o : α) (c : Call' α) (n : Nat) (k : AV → Heap → α) (a0 a1 : AV) (h : Heap) : α :=
  notF o a0 fun v1 => ifF o v1 (c 96 [a1] h fun v2 h => pk k v2 h <| k (.tup []) h) (k (.tup []) h)
theorem f226_ok : R Pq o c n b226 (kend Pq o c n w rs226 k) = fun t _ h => f226 o c n k (t 0) (t 1) h := by kernel_rfl
theorem f226_good : Good Pq (cfg mm) 226 (entF Pq (cfg mm) 226 2 fun α => f226) := entG b226 rs226 8 fun _ => f226_ok
noncomputable def b229 := bdy Tryz.f229
noncomputable def rs229 := Tryz.f229.results.toList
noncomputable def f229_5K : Ex → K α := (nxK (R Pq o c n (cB (cB (cB (cB (cB b229))))) (kend Pq o c n w rs229 k)) (kend Pq o c n w rs229 k))
noncomputable def f229_7 {α : Type} (o : α) (c : Call' α) (n : Nat) (k : AV → Heap → α) (m : Nat) : AVs (Heap → α) 6 :=
  Nat.rec (motive := fun _ => AVs (Heap → α) 6) (fun _ _ _ _ _ _ _ => o) (fun _ lp0 s0 s7 s8 s24 s25 s26 h => lssF Pq o 3 s26 s25 fun v1 => ifF o v1 (ixF o 9 s24 s26 fun v2 => loadNF o h 9 v2 fun v3 => newF h h.next 9 [(.i .i64 0), (.i .i32 0), (.s 0 0), (.s 0 0), .nsl, .nsl, .nsl, .nsl, (.i .i64 0)] fun v4 h => storeF o h 9 v4 v3 fun h => loadNF o h 9 v4 fun v5 => c 266 [s0, v5] h fun v6 h => pk k v6 h <| fil1 o 9 1 0 v6 [[(.i .i64 0), (.i .i32 0), (.s 0 0), (.s 0 0), .nsl, .nsl, .nsl, .nsl, (.i .i64 0)]] fun v7 => newEF h h.next 9 1 v7 fun v8 h => appX Pq o h h.next 61 61 s8 v8 fun v9 h => addF Pq o 3 s26 (.i .i64 1) fun v10 => lp0 s0 s7 v9 s24 s25 v10 h) (nilChk o s0 fun v11 => faF o 1 v11 fun v12 => faF o 2 v12 fun v13 => storeF o h 1 v13 s7 fun h => k s8 h)) m
theorem f229_7_ok : R Pq o c n (cA (cB (cA (cB (cB (cB (cB b229))))))) (blockK (cI (cB (cA (cB (cB (cB (cB b229))))))) (f229_5K o c n k w)) = fun t _ h => f229_7 o c n k n (t 0) (t 7) (t 8) (t 24) (t 25) (t 26) h :=
  c_loop (F := fun m t _ h => f229_7 o c n k m (t 0) (t 7) (t 8) (t 24) (t 25) (t 26) h) (by kernel_rfl) (by kernel_rfl) fun m => by kernel_rfl
noncomputable def f229_6 (s0 s7 s8 s24 s25 s26 : AV) (h : Heap) : α :=
  f229_7 o c n k n s0 s7 s8 s24 s25 s26 h
theorem f229_6_ok : R Pq o c n (cB (cA (cB (cB (cB (cB b229)))))) (f229_5K o c n k w) = fun t _ h => f229_6 o c n k (t 0) (t 7) (t 8) (t 24) (t 25) (t 26) h := (kblk (f229_7_ok o c n k w)).tk
noncomputable def f229_4 (s0 s1 s7 s8 : AV) (h : Heap) : α :=
  lenF o s1 fun v14 => f229_6 o c n k s0 s7 s8 s1 v14 (.i .i64 0) h
theorem f229_4_ok : R Pq o c n (cB (cB (cB (cB b229)))) (kend Pq o c n w rs229 k) = fun t _ h => f229_4 o c n k (t 0) (t 1) (t 7) (t 8) h := (kseq rfl (kseq (f229_6_ok o c n k w) rfl)).tk
noncomputable def f229_3 (s0 s1 s7 : AV) (h : Heap) : α :=
  f229_4 o c n k s0 s1 s7 .nsl h
theorem f229_3_ok : R Pq o c n (cB (cB (cB b229))) (kend Pq o c n w rs229 k) = fun t _ h => f229_3 o c n k (t 0) (t 1) (t 7) h := (kseq (f229_4_ok o c n k w) rfl).tk
noncomputable def f229_2 (s0 s1 s2 s7 : AV) (h : Heap) : α :=
  fil1 o 1 2 0 s7 [[.nsl], [.nsl]] fun v15 => fil1 o 1 2 1 s2 v15 fun v16 => newEF h h.next 1 2 v16 fun v17 h => c 265 [v17] h fun v18 h => pk k v18 h <| nilChk o s0 fun v19 => faF o 1 v19 fun v20 => faF o 2 v20 fun v21 => storeF o h 1 v21 v18 fun h => f229_3 o c n k s0 s1 s7 h
theorem f229_2_ok : R Pq o c n (cB (cB b229)) (kend Pq o c n w rs229 k) = fun t _ h => f229_2 o c n k (t 0) (t 1) (t 2) (t 7) h := (kseq (f229_3_ok o c n k w) rfl).tk
noncomputable def f229_1 (s0 s1 s2 : AV) (h : Heap) : α :=
  nilChk o s0 fun v22 => faF o 1 v22 fun v23 => faF o 2 v23 fun v24 => load1F o h v24 fun v25 => f229_2 o c n k s0 s1 s2 v25 h
theorem f229_1_ok : R Pq o c n (cB b229) (kend Pq o c n w rs229 k) = fun t _ h => f229_1 o c n k (t 0) (t 1) (t 2) h := (kseq (f229_2_ok o c n k w) rfl).tk
noncomputable def f229 (a0 a1 a2 : AV) (h : Heap) : α :=
  f229_1 o c n k a0 a1 a2 h
theorem f229_ok : R Pq o c n b229 (kend Pq o c n w rs229 k) = fun t _ h => f229 o c n k (t 0) (t 1) (t 2) h := (kseq (f229_1_ok o c n k w) rfl).tk
theorem f229_good : Good Pq (cfg mm) 229 (entF Pq (cfg mm) 229 3 fun α => f229) := entG b229 rs229 43 fun _ => f229_ok
noncomputable def b233 := bdy Tryz.f233
noncomputable def rs233 := Tryz.f233.results.toList
noncomputable def f233_3K : Ex → K α := (nxK (R Pq o c n (cB (cB (cB b233))) (kend Pq o c n w rs233 k)) (kend Pq o c n w rs233 k))
noncomputable def f233_6K (lp0 : AVs (Heap → α) 5) : Ex → K α := (nxK (fun t _ h => lp0 (t 1) (t 5) (t 8) (t 9) (t 10) h) (blockK (cI (cB (cA (cB (cB b233))))) (f233_3K o c n k w)))
noncomputable def f233_9K (lp0 : AVs (Heap → α) 5) : Ex → K α := (nxK (R Pq o c n (cB (cB (cB (cA (cA (cB (cA (cB (cB b233))))))))) (f233_6K o c n k w lp0)) (f233_6K o c n k w lp0))
noncomputable def f233_12 {α : Type} (o : α) (c : Call' α) (n : Nat) (k : AV → Heap → α) (lp0 : AVs (Heap → α) 5) (s1 s5 s7 s8 s9 s10 : AV) (h : Heap) : α :=
  loadNF o h 8 s7 fun v1 => fil1 o 8 1 0 v1 [[(.i .i64 0), (.i .i32 0), (.s 0 0), (.s 0 0), (.s 0 0), .nsl, (.s 0 0), (.i .i64 0)]] fun v2 => newEF h h.next 8 1 v2 fun v3 h => appX Pq o h h.next 55 55 s5 v3 fun v4 h => addF Pq o 3 s10 (.i .i64 1) fun v5 => lp0 s1 v4 s8 s9 v5 h
theorem f233_12_ok (lp0 : AVs (Heap → α) 5) : R Pq o c n (cB (cB (cB (cA (cA (cB (cB (cA (cA (cB (cA (cB (cB b233))))))))))))) (blockK (cI (cA (cB (cB (cA (cA (cB (cA (cB (cB b233)))))))))) (f233_9K o c n k w lp0)) = fun t _ h => f233_12 o c n k lp0 (t 1) (t 5) (t 7) (t 8) (t 9) (t 10) h := by kernel_rfl
noncomputable def f233_11 (lp0 : AVs (Heap → α) 5) (s1 s5 s7 s8 s9 s10 : AV) (h : Heap) : α :=
  neiF Pq o 201 s1 .nfn fun v6 => ifF o v6 (loadNF o h 8 s7 fun v7 => cfF o s1 [v7] c h fun v8 h => pk k v8 h <| storeF o h 8 s7 v8 fun h => f233_12 o c n k lp0 s1 s5 s7 s8 s9 s10 h) (f233_12 o c n k lp0 s1 s5 s7 s8 s9 s10 h)
theorem f233_11_ok (lp0 : AVs (Heap → α) 5) : R Pq o c n (cB (cB (cA (cA (cB (cB (cA (cA (cB (cA (cB (cB b233)))))))))))) (blockK (cI (cA (cB (cB (cA (cA (cB (cA (cB (cB b233)))))))))) (f233_9K o c n k w lp0)) = fun t _ h => f233_11 o c n k lp0 (t 1) (t 5) (t 7) (t 8) (t 9) (t 10) h := (kseq (f233_12_ok o c n k w lp0) rfl).tk
noncomputable def f233_10 (lp0 : AVs (Heap → α) 5) (s1 s5 s7 s8 s9 s10 : AV) (h : Heap) : α :=
  faF o 5 s7 fun v9 => load1F o h v9 fun v10 => c 233 [v10, s1] h fun v11 h => pk k v11 h <| faF o 5 s7 fun v12 => storeF o h 1 v12 v11 fun h => f233_11 o c n k lp0 s1 s5 s7 s8 s9 s10 h
theorem f233_10_ok (lp0 : AVs (Heap → α) 5) : R Pq o c n (cB (cA (cA (cB (cB (cA (cA (cB (cA (cB (cB b233))))))))))) (blockK (cI (cA (cB (cB (cA (cA (cB (cA (cB (cB b233)))))))))) (f233_9K o c n k w lp0)) = fun t _ h => f233_10 o c n k lp0 (t 1) (t 5) (t 7) (t 8) (t 9) (t 10) h := (kseq (f233_11_ok o c n k w lp0) rfl).tk
noncomputable def f233_8 (lp0 : AVs (Heap → α) 5) (s1 s5 s8 s9 s10 : AV) (h : Heap) : α :=
  ixF o 8 s8 s10 fun v13 => loadNF o h 8 v13 fun v14 => newF h h.next 8 [(.i .i64 0), (.i .i32 0), (.s 0 0), (.s 0 0), (.s 0 0), .nsl, (.s 0 0), (.i .i64 0)] fun v15 h => storeF o h 8 v15 v14 fun h => f233_10 o c n k lp0 s1 s5 v15 s8 s9 s10 h
theorem f233_8_ok (lp0 : AVs (Heap → α) 5) : R Pq o c n (cB (cB (cA (cA (cB (cA (cB (cB b233)))))))) (f233_6K o c n k w lp0) = fun t _ h => f233_8 o c n k lp0 (t 1) (t 5) (t 8) (t 9) (t 10) h := (kseq rfl (kblk (kseq (f233_10_ok o c n k w lp0) rfl))).tk
noncomputable def f233_7 (lp0 : AVs (Heap → α) 5) (s1 s5 s8 s9 s10 s11 : AV) (h : Heap) : α :=
  ifF o s11 (f233_8 o c n k lp0 s1 s5 s8 s9 s10 h) (k s5 h)
theorem f233_7_ok (lp0 : AVs (Heap → α) 5) : R Pq o c n (cB (cA (cA (cB (cA (cB (cB b233))))))) (f233_6K o c n k w lp0) = fun t _ h => f233_7 o c n k lp0 (t 1) (t 5) (t 8) (t 9) (t 10) (t 11) h := (kseq (f233_8_ok o c n k w lp0) rfl).tk
noncomputable def f233_5 (m : Nat) : AVs (Heap → α) 5 :=
  Nat.rec (motive := fun _ => AVs (Heap → α) 5) (fun _ _ _ _ _ _ => o) (fun _ lp0 s1 s5 s8 s9 s10 h => lssF Pq o 3 s10 s9 fun v16 => f233_7 o c n k lp0 s1 s5 s8 s9 s10 v16 h) m
theorem f233_5_ok : R Pq o c n (cA (cB (cA (cB (cB b233))))) (blockK (cI (cB (cA (cB (cB b233))))) (f233_3K o c n k w)) = fun t _ h => f233_5 o c n k n (t 1) (t 5) (t 8) (t 9) (t 10) h :=
  c_loop (F := fun m t _ h => f233_5 o c n k m (t 1) (t 5) (t 8) (t 9) (t 10) h) (by kernel_rfl) (by kernel_rfl) fun m => (kseq (f233_7_ok o c n k w (f233_5 o c n k m)) rfl).tk
noncomputable def f233_4 (s1 s5 s8 s9 s10 : AV) (h : Heap) : α :=
  f233_5 o c n k n s1 s5 s8 s9 s10 h
theorem f233_4_ok : R Pq o c n (cB (cA (cB (cB b233)))) (f233_3K o c n k w) = fun t _ h => f233_4 o c n k (t 1) (t 5) (t 8) (t 9) (t 10) h := (kblk (f233_5_ok o c n k w)).tk
noncomputable def f233_2 (s0 s1 s5 : AV) (h : Heap) : α :=
  lenF o s0 fun v17 => f233_4 o c n k s1 s5 s0 v17 (.i .i64 0) h
theorem f233_2_ok : R Pq o c n (cB (cB b233)) (kend Pq o c n w rs233 k) = fun t _ h => f233_2 o c n k (t 0) (t 1) (t 5) h := (kseq rfl (kseq (f233_4_ok o c n k w) rfl)).tk
noncomputable def f233_1 (s0 s1 : AV) (h : Heap) : α :=
  f233_2 o c n k s0 s1 .nsl h
theorem f233_1_ok : R Pq o c n (cB b233) (kend Pq o c n w rs233 k) = fun t _ h => f233_1 o c n k (t 0) (t 1) h := (kseq (f233_2_ok o c n k w) rfl).tk
noncomputable def f233 (a0 a1 : AV) (h : Heap) : α :=
  f233_1 o c n k a0 a1 h
theorem f233_ok : R Pq o c n b233 (kend Pq o c n w rs233 k) = fun t _ h => f233 o c n k (t 0) (t 1) h := (kseq (f233_1_ok o c n k w) rfl).tk
theorem f233_good : Good Pq (cfg mm) 233 (entF Pq (cfg mm) 233 2 fun α => f233) := entG b233 rs233 30 fun _ => f233_ok
noncomputable def b234 := bdy Tryz.f234
noncomputable def rs234 := Tryz.f234.results.toList
noncomputable def f234_3K : Ex → K α := (nxK (R Pq o c n (cB (cB (cB b234))) (kend Pq o c n w rs234 k)) (kend Pq o c n w rs234 k))
noncomputable def f234_6K (lp0 : AVs (Heap → α) 6) : Ex → K α := (nxK (fun t _ h => lp0 (t 1) (t 2) (t 7) (t 10) (t 11) (t 12) h) (blockK (cI (cB (cA (cB (cB b234))))) (f234_3K o c n k w)))
noncomputable def f234_9K (lp0 : AVs (Heap → α) 6) : Ex → K α := (nxK (R Pq o c n (cB (cB (cB (cA (cA (cB (cA (cB (cB b234))))))))) (f234_6K o c n k w lp0)) (f234_6K o c n k w lp0))
noncomputable def f234_13 {α : Type} (o : α) (c : Call' α) (n : Nat) (k : AV → Heap → α) (lp0 : AVs (Heap → α) 6) (s1 s2 s7 s9 s10 s11 s12 : AV) (h : Heap) : α :=
  loadNF o h 9 s9 fun v1 => fil1 o 9 1 0 v1 [[(.i .i64 0), (.i .i32 0), (.s 0 0), (.s 0 0), .nsl, .nsl, .nsl, .nsl, (.i .i64 0)]] fun v2 => newEF h h.next 9 1 v2 fun v3 h => appX Pq o h h.next 61 61 s7 v3 fun v4 h => addF Pq o 3 s12 (.i .i64 1) fun v5 => lp0 s1 s2 v4 s10 s11 v5 h
theorem f234_13_ok (lp0 : AVs (Heap → α) 6) : R Pq o c n (cB (cB (cB (cB (cA (cA (cB (cB (cA (cA (cB (cA (cB (cB b234)))))))))))))) (blockK (cI (cA (cB (cB (cA (cA (cB (cA (cB (cB b234)))))))))) (f234_9K o c n k w lp0)) = fun t _ h => f234_13 o c n k lp0 (t 1) (t 2) (t 7) (t 9) (t 10) (t 11) (t 12) h := by kernel_rfl
noncomputable def f234_12 (lp0 : AVs (Heap → α) 6) (s1 s2 s7 s9 s10 s11 s12 : AV) (h : Heap) : α :=
  neiF Pq o 119 s2 .nfn fun v6 => ifF o v6 (loadNF o h 9 s9 fun v7 => cfF o s2 [v7] c h fun v8 h => pk k v8 h <| storeF o h 9 s9 v8 fun h => f234_13 o c n k lp0 s1 s2 s7 s9 s10 s11 s12 h) (f234_13 o c n k lp0 s1 s2 s7 s9 s10 s11 s12 h)
theorem f234_12_ok (lp0 : AVs (Heap → α) 6) : R Pq o c n (cB (cB (cB (cA (cA (cB (cB (cA (cA (cB (cA (cB (cB b234))))))))))))) (blockK (cI (cA (cB (cB (cA (cA (cB (cA (cB (cB b234)))))))))) (f234_9K o c n k w lp0)) = fun t _ h => f234_12 o c n k lp0 (t 1) (t 2) (t 7) (t 9) (t 10) (t 11) (t 12) h := (kseq (f234_13_ok o c n k w lp0) rfl).tk
noncomputable def f234_14K (lp0 : AVs (Heap → α) 6) : Ex → K α := (nxK (fun t _ h => f234_12 o c n k lp0 (t 1) (t 2) (t 7) (t 9) (t 10) (t 11) (t 12) h) (blockK (cI (cA (cB (cB (cA (cA (cB (cA (cB (cB b234)))))))))) (f234_9K o c n k w lp0)))
noncomputable def f234_17 (lp0 : AVs (Heap → α) 6) (base : Nat) (s1 s2 s7 s9 s10 s11 s12 s25 s30 s35 : AV) (h : Heap) : α :=
  faF o 5 s9 fun v9 => rootF o v9 s9 <| storeF o (h.look 65535) 1 v9 s25 fun h => faF o 6 s9 fun v10 => rootF o v10 s9 <| storeF o (h.look 262143) 1 v10 s30 fun h => faF o 7 s9 fun v11 => rootF o v11 s9 <| storeF o (h.look 1048575) 1 v11 s35 fun h => hb h.shut fun h => f234_12 o c n k lp0 s1 s2 s7 s9 s10 s11 s12 h
theorem f234_17_ok (lp0 : AVs (Heap → α) 6) (base : Nat) : QD Pq o c (cO (cA (cB (cB (cA (cA (cB (cB (cA (cA (cB (cA (cB (cB b234)))))))))))))) base ((f234_14K o c n k w lp0)) 15 = fun t _ h => f234_17 o c n k lp0 base (t 1) (t 2) (t 7) (t 9) (t 10) (t 11) (t 12) (t 25) (t 30) (t 35) h := by kernel_rfl
noncomputable def f234_16 (lp0 : AVs (Heap → α) 6) (base : Nat) (s1 s2 s7 s9 s10 s11 s12 s25 s30 : AV) (h : Heap) : α :=
  faF o 7 s9 fun v12 => rootF o v12 s9 <| load1F o (h.look 1024) v12 fun v13 => callD o c [] 234 [v13, s1, s2] (h.look 0) fun v14 h => pnF v14 (fun x => hb h.shut fun hd => faF o 5 s9 fun v15 => k x.pn hd) <| f234_17 o c n k lp0 base s1 s2 s7 s9 s10 s11 s12 s25 s30 v14 h
theorem f234_16_ok (lp0 : AVs (Heap → α) 6) (base : Nat) : QD Pq o c (cO (cA (cB (cB (cA (cA (cB (cB (cA (cA (cB (cA (cB (cB b234)))))))))))))) base ((f234_14K o c n k w lp0)) 10 = fun t _ h => f234_16 o c n k lp0 base (t 1) (t 2) (t 7) (t 9) (t 10) (t 11) (t 12) (t 25) (t 30) h := (qd_seg 10 15 (by kernel_rfl) (f234_17_ok o c n k w lp0 base)).tk
noncomputable def f234_15 (lp0 : AVs (Heap → α) 6) (base : Nat) (s1 s2 s7 s9 s10 s11 s12 s25 : AV) (h : Heap) : α :=
  faF o 6 s9 fun v16 => rootF o v16 s9 <| load1F o (h.look 32) v16 fun v17 => callD o c (hidD false [(.fn (.func 234) [] []), v17, s1, s2] [] (sBlk s9 [])) 234 [v17, s1, s2] (h.look 0) fun v18 h => pnF v18 (fun x => hb h.shut fun hd => faF o 7 s9 fun v19 => rootF o v19 s9 <| load1F o (h.look 1024) v19 fun v20 => faF o 5 s9 fun v21 => k x.pn hd) <| f234_16 o c n k lp0 base s1 s2 s7 s9 s10 s11 s12 s25 v18 h
theorem f234_15_ok (lp0 : AVs (Heap → α) 6) (base : Nat) : QD Pq o c (cO (cA (cB (cB (cA (cA (cB (cB (cA (cA (cB (cA (cB (cB b234)))))))))))))) base ((f234_14K o c n k w lp0)) 5 = fun t _ h => f234_15 o c n k lp0 base (t 1) (t 2) (t 7) (t 9) (t 10) (t 11) (t 12) (t 25) h := (qd_seg 5 10 (by kernel_rfl) (f234_16_ok o c n k w lp0 base)).tk
noncomputable def f234_11 (lp0 : AVs (Heap → α) 6) (s1 s2 s7 s9 s10 s11 s12 : AV) (h : Heap) : α :=
  dreg o h 21 fun base h => faF o 5 s9 fun v22 => rootF o v22 s9 <| load1F o (h.look 1) v22 fun v23 => callD o c (hidD false [(.fn (.func 234) [] []), v23, s1, s2] [] (sBlk s9 (sBlk s9 []))) 234 [v23, s1, s2] (h.look 0) fun v24 h => pnF v24 (fun x => hb h.shut fun hd => faF o 6 s9 fun v25 => rootF o v25 s9 <| load1F o (h.look 32) v25 fun v26 => faF o 7 s9 fun v27 => rootF o v27 s9 <| load1F o (h.look 1024) v27 fun v28 => k x.pn hd) <| f234_15 o c n k lp0 base s1 s2 s7 s9 s10 s11 s12 v24 h
theorem f234_11_ok (lp0 : AVs (Heap → α) 6) : R Pq o c n (cB (cB (cA (cA (cB (cB (cA (cA (cB (cA (cB (cB b234)))))))))))) (blockK (cI (cA (cB (cB (cA (cA (cB (cA (cB (cB b234)))))))))) (f234_9K o c n k w lp0)) = fun t _ h => f234_11 o c n k lp0 (t 1) (t 2) (t 7) (t 9) (t 10) (t 11) (t 12) h := (kseq (f234_12_ok o c n k w lp0) (r_startD 5 (by kernel_rfl) (by kernel_rfl) (X := fun base => fun t _ h => f234_15 o c n k lp0 base (t 1) (t 2) (t 7) (t 9) (t 10) (t 11) (t 12) (t 25) h) (fun base => f234_15_ok o c n k w lp0 base))).tk
noncomputable def f234_10 (lp0 : AVs (Heap → α) 6) (s1 s2 s7 s9 s10 s11 s12 : AV) (h : Heap) : α :=
  faF o 4 s9 fun v29 => load1F o h v29 fun v30 => c 233 [v30, s1] h fun v31 h => pk k v31 h <| faF o 4 s9 fun v32 => storeF o h 1 v32 v31 fun h => f234_11 o c n k lp0 s1 s2 s7 s9 s10 s11 s12 h
theorem f234_10_ok (lp0 : AVs (Heap → α) 6) : R Pq o c n (cB (cA (cA (cB (cB (cA (cA (cB (cA (cB (cB b234))))))))))) (blockK (cI (cA (cB (cB (cA (cA (cB (cA (cB (cB b234)))))))))) (f234_9K o c n k w lp0)) = fun t _ h => f234_10 o c n k lp0 (t 1) (t 2) (t 7) (t 9) (t 10) (t 11) (t 12) h := (kseq (f234_11_ok o c n k w lp0) rfl).tk
noncomputable def f234_8 (lp0 : AVs (Heap → α) 6) (s1 s2 s7 s10 s11 s12 : AV) (h : Heap) : α :=
  ixF o 9 s10 s12 fun v33 => loadNF o h 9 v33 fun v34 => newF h h.next 9 [(.i .i64 0), (.i .i32 0), (.s 0 0), (.s 0 0), .nsl, .nsl, .nsl, .nsl, (.i .i64 0)] fun v35 h => storeF o h 9 v35 v34 fun h => f234_10 o c n k lp0 s1 s2 s7 v35 s10 s11 s12 h
theorem f234_8_ok (lp0 : AVs (Heap → α) 6) : R Pq o c n (cB (cB (cA (cA (cB (cA (cB (cB b234)))))))) (f234_6K o c n k w lp0) = fun t _ h => f234_8 o c n k lp0 (t 1) (t 2) (t 7) (t 10) (t 11) (t 12) h := (kseq rfl (kblk (kseq (f234_10_ok o c n k w lp0) rfl))).tk
noncomputable def f234_7 (lp0 : AVs (Heap → α) 6) (s1 s2 s7 s10 s11 s12 s13 : AV) (h : Heap) : α :=
  ifF o s13 (f234_8 o c n k lp0 s1 s2 s7 s10 s11 s12 h) (k s7 h)
theorem f234_7_ok (lp0 : AVs (Heap → α) 6) : R Pq o c n (cB (cA (cA (cB (cA (cB (cB b234))))))) (f234_6K o c n k w lp0) = fun t _ h => f234_7 o c n k lp0 (t 1) (t 2) (t 7) (t 10) (t 11) (t 12) (t 13) h := (kseq (f234_8_ok o c n k w lp0) rfl).tk
noncomputable def f234_5 (m : Nat) : AVs (Heap → α) 6 :=
  Nat.rec (motive := fun _ => AVs (Heap → α) 6) (fun _ _ _ _ _ _ _ => o) (fun _ lp0 s1 s2 s7 s10 s11 s12 h => lssF Pq o 3 s12 s11 fun v36 => f234_7 o c n k lp0 s1 s2 s7 s10 s11 s12 v36 h) m
theorem f234_5_ok : R Pq o c n (cA (cB (cA (cB (cB b234))))) (blockK (cI (cB (cA (cB (cB b234))))) (f234_3K o c n k w)) = fun t _ h => f234_5 o c n k n (t 1) (t 2) (t 7) (t 10) (t 11) (t 12) h :=
  c_loop (F := fun m t _ h => f234_5 o c n k m (t 1) (t 2) (t 7) (t 10) (t 11) (t 12) h) (by kernel_rfl) (by kernel_rfl) fun m => (kseq (f234_7_ok o c n k w (f234_5 o c n k m)) rfl).tk
noncomputable def f234_4 (s1 s2 s7 s10 s11 s12 : AV) (h : Heap) : α :=
  f234_5 o c n k n s1 s2 s7 s10 s11 s12 h
theorem f234_4_ok : R Pq o c n (cB (cA (cB (cB b234)))) (f234_3K o c n k w) = fun t _ h => f234_4 o c n k (t 1) (t 2) (t 7) (t 10) (t 11) (t 12) h := (kblk (f234_5_ok o c n k w)).tk
noncomputable def f234_2 (s0 s1 s2 s7 : AV) (h : Heap) : α :=
  lenF o s0 fun v37 => f234_4 o c n k s1 s2 s7 s0 v37 (.i .i64 0) h
theorem f234_2_ok : R Pq o c n (cB (cB b234)) (kend Pq o c n w rs234 k) = fun t _ h => f234_2 o c n k (t 0) (t 1) (t 2) (t 7) h := (kseq rfl (kseq (f234_4_ok o c n k w) rfl)).tk
noncomputable def f234_1 (s0 s1 s2 : AV) (h : Heap) : α :=
  f234_2 o c n k s0 s1 s2 .nsl h
theorem f234_1_ok : R Pq o c n (cB b234) (kend Pq o c n w rs234 k) = fun t _ h => f234_1 o c n k (t 0) (t 1) (t 2) h := (kseq (f234_2_ok o c n k w) rfl).tk
noncomputable def f234 (a0 a1 a2 : AV) (h : Heap) : α :=
  f234_1 o c n k a0 a1 a2 h
theorem f234_ok : R Pq o c n b234 (kend Pq o c n w rs234 k) = fun t _ h => f234 o c n k (t 0) (t 1) (t 2) h := (kseq (f234_1_ok o c n k w) rfl).tk
theorem f234_good : Good Pq (cfg mm) 234 (entF Pq (cfg mm) 234 3 fun α => f234) := entG b234 rs234 50 fun _ => f234_ok
noncomputable def b249 := bdy Tryz.f249
noncomputable def rs249 := Tryz.f249.results.toList
noncomputable def f249_2K : Ex → K α := (nxK (R Pq o c n (cB (cB b249)) (kend Pq o c n w rs249 k)) (kend Pq o c n w rs249 k))
noncomputable def f249_4 {α : Type} (o : α) (c : Call' α) (n : Nat) (k : AV → Heap → α) (s0 s9 s11 : AV) (h : Heap) : α :=
  pickF o s9 (.b true) s11 fun v1 => bkF o false v1 (c 211 [s0] h fun v2 h => pk k v2 h <| pickF o v1 (.b true) v2 fun v3 => k v3 h) (pickF o v1 (.b true) (.tup []) fun v4 => k v4 h)
theorem f249_4_ok : Q Pq o c (cO (cA (cB b249))) (f249_2K o c n k w) 9 = fun t _ h => f249_4 o c n k (t 0) (t 9) (t 11) h := (q_seg 9 11 (by kernel_rfl) (q_guard 11 13 (10, false) (by kernel_rfl) (by kernel_rfl) (by kernel_rfl) rfl)).tk
noncomputable def f249_3 (s0 s5 s7 : AV) (h : Heap) : α :=
  pickF o s5 (.b true) s7 fun v5 => bkF o false v5 (eqsF Pq o 9 s0 (.s 6 113723913172051) fun v6 => f249_4 o c n k s0 v5 v6 h) (f249_4 o c n k s0 v5 (.tup []) h)
theorem f249_3_ok : Q Pq o c (cO (cA (cB b249))) (f249_2K o c n k w) 5 = fun t _ h => f249_3 o c n k (t 0) (t 5) (t 7) h := (q_seg 5 7 (by kernel_rfl) (q_guard 7 9 (6, false) (by kernel_rfl) (by kernel_rfl) (by kernel_rfl) (f249_4_ok o c n k w))).tk
noncomputable def f249_1 (s0 : AV) (h : Heap) : α :=
  eqsF Pq o 9 s0 (.s 3 7630441) fun v7 => bkF o false v7 (eqsF Pq o 9 s0 (.s 7 31069335677005666) fun v8 => f249_3 o c n k s0 v7 v8 h) (f249_3 o c n k s0 v7 (.tup []) h)
theorem f249_1_ok : R Pq o c n (cB b249) (kend Pq o c n w rs249 k) = fun t _ h => f249_1 o c n k (t 0) h := (kseq rfl (r_start 3 (by kernel_rfl) (q_guard 3 5 (2, false) (by kernel_rfl) (by kernel_rfl) (by kernel_rfl) (f249_3_ok o c n k w)))).tk
noncomputable def f249 (a0 : AV) (h : Heap) : α :=
  f249_1 o c n k a0 h
theorem f249_ok : R Pq o c n b249 (kend Pq o c n w rs249 k) = fun t _ h => f249 o c n k (t 0) h := (kseq (f249_1_ok o c n k w) rfl).tk
theorem f249_good : Good Pq (cfg mm) 249 (entF Pq (cfg mm) 249 1 fun α => f249) := entG b249 rs249 17 fun _ => f249_ok
noncomputable def b250 := bdy Tryz.f250
noncomputable def rs250 := Tryz.f250.results.toList
noncomputable def f250_2K : Ex → K α := (nxK (R Pq o c n (cB (cB b250)) (kend Pq o c n w rs250 k)) (kend Pq o c n w rs250 k))
noncomputable def f250_1 {α : Type} (o : α) (c : Call' α) (n : Nat) (k : AV → Heap → α) (s0 : AV) (h : Heap) : α :=
  c 256 [s0, (.fn (.func 277) [] [])] h fun v1 h => pk k v1 h <| bkF o true v1 (c 278 [s0] h fun v2 h => pk k v2 h <| notF o v2 fun v3 => pickF o v1 v3 (.b false) fun v4 => k v4 h) (pickF o v1 (.tup []) (.b false) fun v5 => k v5 h)
theorem f250_1_ok : R Pq o c n (cB b250) (kend Pq o c n w rs250 k) = fun t _ h => f250_1 o c n k (t 0) h := (kseq rfl (r_start 3 (by kernel_rfl) (q_guard 3 6 (2, true) (by kernel_rfl) (by kernel_rfl) (by kernel_rfl) rfl))).tk
noncomputable def f250 (a0 : AV) (h : Heap) : α :=
  f250_1 o c n k a0 h
theorem f250_ok : R Pq o c n b250 (kend Pq o c n w rs250 k) = fun t _ h => f250 o c n k (t 0) h := (kseq (f250_1_ok o c n k w) rfl).tk
theorem f250_good : Good Pq (cfg mm) 250 (entF Pq (cfg mm) 250 1 fun α => f250) := entG b250 rs250 10 fun _ => f250_ok
noncomputable def b251 := bdy Tryz.f251
noncomputable def rs251 := Tryz.f251.results.toList
noncomputable def f251 {α : Type} (o : α) (c : Call' α) (n : Nat) (k : AV → Heap → α) (a0 a1 : AV) (h : Heap) : α :=
  c 279 [a0, a1] h fun v1 h => pk k v1 h <| geqF Pq o 3 v1 (.i .i64 0) fun v2 => k v2 h
theorem f251_ok : R Pq o c n b251 (kend Pq o c n w rs251 k) = fun t _ h => f251 o c n k (t 0) (t 1) h := by kernel_rfl
theorem f251_good : Good Pq (cfg mm) 251 (entF Pq (cfg mm) 251 2 fun α => f251) := entG b251 rs251 9 fun _ => f251_ok
noncomputable def b253 := bdy Tryz.f253
noncomputable def rs253 := Tryz.f253.results.toList
noncomputable def f253_4 {α : Type} (o : α) (c : Call' α) (n : Nat) (k : AV → Heap → α) (s2 s3 : AV) (h : Heap) : α :=
  faF o 5 s2 fun v1 => load1F o h v1 fun v2 => c 251 [v2, (.fn (.func 284) [] [s3])] h fun v3 h => pk k v3 h <| notF o v3 fun v4 => k v4 h
theorem f253_4_ok : R Pq o c n (cB (cB (cB (cB b253)))) (kend Pq o c n w rs253 k) = fun t _ h => f253_4 o c n k (t 2) (t 3) h := by kernel_rfl
noncomputable def f253_5K : Ex → K α := (nxK (fun t _ h => f253_4 o c n k (t 2) (t 3) h) (kend Pq o c n w rs253 k))
noncomputable def f253_6 (s2 s3 s35 : AV) (h : Heap) : α :=
  ifF o s35 (k (.b false) h) (f253_4 o c n k s2 s3 h)
theorem f253_6_ok : R Pq o c n (cB (cA (cA (cB (cB (cB b253)))))) (blockK (cI (cA (cB (cB (cB b253))))) (f253_5K o c n k w)) = fun t _ h => f253_6 o c n k (t 2) (t 3) (t 35) h := by kernel_rfl
noncomputable def f253_7K : Ex → K α := (nxK (fun t _ h => f253_6 o c n k (t 2) (t 3) (t 35) h) (blockK (cI (cA (cB (cB (cB b253))))) (f253_5K o c n k w)))
noncomputable def f253_10 (s2 s3 s5 s35 : AV) (h : Heap) : α :=
  ifF o s35 (f253_6 o c n k s2 s3 s35 h) (faF o 3 s5 fun v5 => load1F o h v5 fun v6 => bkF o true v6 (faF o 4 s2 fun v7 => load1F o h v7 fun v8 => c 211 [v8] h fun v9 h => pk k v9 h <| notF o v9 fun v10 => pickF o v6 v10 (.b false) fun v11 => f253_6 o c n k s2 s3 v11 h) (pickF o v6 (.tup []) (.b false) fun v12 => f253_6 o c n k s2 s3 v12 h))
theorem f253_10_ok : R Pq o c n (cB (cB (cB (cB (cB (cA (cA (cA (cB (cB (cB b253))))))))))) (f253_7K o c n k w) = fun t _ h => f253_10 o c n k (t 2) (t 3) (t 5) (t 35) h := (c_cond (by kernel_rfl) rfl (r_start 3 (by kernel_rfl) (q_guard 3 7 (2, true) (by kernel_rfl) (by kernel_rfl) (by kernel_rfl) rfl))).tk
noncomputable def f253_11K : Ex → K α := (nxK (fun t _ h => f253_10 o c n k (t 2) (t 3) (t 5) (t 35) h) (f253_7K o c n k w))
noncomputable def f253_9 (s2 s3 s5 s35 : AV) (h : Heap) : α :=
  ifF o s35 (f253_6 o c n k s2 s3 s35 h) (faF o 2 s5 fun v13 => load1F o h v13 fun v14 => bkF o true v14 (faF o 0 s2 fun v15 => load1F o h v15 fun v16 => faF o 3 s2 fun v17 => load1F o h v17 fun v18 => c 283 [v16, v18] h fun v19 h => pk k v19 h <| notF o v19 fun v20 => pickF o v14 v20 (.b false) fun v21 => f253_10 o c n k s2 s3 s5 v21 h) (pickF o v14 (.tup []) (.b false) fun v22 => f253_10 o c n k s2 s3 s5 v22 h))
theorem f253_9_ok : R Pq o c n (cB (cB (cB (cA (cA (cA (cB (cB (cB b253))))))))) (f253_7K o c n k w) = fun t _ h => f253_9 o c n k (t 2) (t 3) (t 5) (t 35) h := (c_cond (by kernel_rfl) rfl (kseq (f253_10_ok o c n k w) (r_start 3 (by kernel_rfl) (q_guard 3 9 (2, true) (by kernel_rfl) (by kernel_rfl) (by kernel_rfl) rfl)))).tk
noncomputable def f253_12K : Ex → K α := (nxK (fun t _ h => f253_9 o c n k (t 2) (t 3) (t 5) (t 35) h) (f253_7K o c n k w))
noncomputable def f253_14 (s2 s3 s5 s51 s56 s60 : AV) (h : Heap) : α :=
  bkF o true s51 (pickF o s56 (.b true) s60 fun v23 => pickF o s51 v23 (.b false) fun v24 => f253_9 o c n k s2 s3 s5 v24 h) (pickF o s51 (.tup []) (.b false) fun v25 => f253_9 o c n k s2 s3 s5 v25 h)
theorem f253_14_ok : Q Pq o c (cO (cA (cB (cB (cA (cA (cA (cB (cB (cB b253)))))))))) (f253_12K o c n k w) 12 = fun t _ h => f253_14 o c n k (t 2) (t 3) (t 5) (t 51) (t 56) (t 60) h := (q_seg 12 12 (by kernel_rfl) (q_guard 12 13 (2, true) (by kernel_rfl) (by kernel_rfl) (by kernel_rfl) rfl)).tk
noncomputable def f253_13 (s2 s3 s5 s51 s56 : AV) (h : Heap) : α :=
  bkF o false s56 (faF o 2 s2 fun v26 => load1F o h v26 fun v27 => lensF o v27 fun v28 => gtrF Pq o 3 v28 (.i .i64 1000) fun v29 => f253_14 o c n k s2 s3 s5 s51 s56 v29 h) (f253_14 o c n k s2 s3 s5 s51 s56 (.tup []) h)
theorem f253_13_ok : Q Pq o c (cO (cA (cB (cB (cA (cA (cA (cB (cB (cB b253)))))))))) (f253_12K o c n k w) 8 = fun t _ h => f253_13 o c n k (t 2) (t 3) (t 5) (t 51) (t 56) h := (q_seg 8 8 (by kernel_rfl) (q_guard 8 12 (7, false) (by kernel_rfl) (by kernel_rfl) (by kernel_rfl) (f253_14_ok o c n k w))).tk
noncomputable def f253_8 (s2 s3 s5 s35 : AV) (h : Heap) : α :=
  ifF o s35 (f253_6 o c n k s2 s3 s35 h) (faF o 1 s5 fun v30 => load1F o h v30 fun v31 => bkF o true v31 (faF o 2 s2 fun v32 => load1F o h v32 fun v33 => c 282 [v33] h fun v34 h => pk k v34 h <| notF o v34 fun v35 => f253_13 o c n k s2 s3 s5 v31 v35 h) (f253_13 o c n k s2 s3 s5 v31 (.tup []) h))
theorem f253_8_ok : R Pq o c n (cB (cA (cA (cA (cB (cB (cB b253))))))) (f253_7K o c n k w) = fun t _ h => f253_8 o c n k (t 2) (t 3) (t 5) (t 35) h := (c_cond (by kernel_rfl) rfl (kseq (f253_9_ok o c n k w) (r_start 3 (by kernel_rfl) (q_guard 3 8 (2, true) (by kernel_rfl) (by kernel_rfl) (by kernel_rfl) (f253_13_ok o c n k w))))).tk
noncomputable def f253_15K : Ex → K α := (nxK (fun t _ h => f253_8 o c n k (t 2) (t 3) (t 5) (t 35) h) (f253_7K o c n k w))
noncomputable def f253_17 (s2 s3 s5 s39 s43 s46 : AV) (h : Heap) : α :=
  bkF o false s39 (pickF o s43 s46 (.b false) fun v36 => pickF o s39 (.b true) v36 fun v37 => f253_8 o c n k s2 s3 s5 v37 h) (pickF o s39 (.b true) (.tup []) fun v38 => f253_8 o c n k s2 s3 s5 v38 h)
theorem f253_17_ok : Q Pq o c (cO (cA (cA (cA (cA (cB (cB (cB b253)))))))) (f253_15K o c n k w) 11 = fun t _ h => f253_17 o c n k (t 2) (t 3) (t 5) (t 39) (t 43) (t 46) h := (q_seg 11 11 (by kernel_rfl) (q_guard 11 12 (3, false) (by kernel_rfl) (by kernel_rfl) (by kernel_rfl) rfl)).tk
noncomputable def f253_16 (s2 s3 s5 s39 s43 : AV) (h : Heap) : α :=
  bkF o true s43 (faF o 1 s2 fun v39 => load1F o h v39 fun v40 => gtrF Pq o 21 v40 (.i .i32 1) fun v41 => f253_17 o c n k s2 s3 s5 s39 s43 v41 h) (f253_17 o c n k s2 s3 s5 s39 s43 (.tup []) h)
theorem f253_16_ok : Q Pq o c (cO (cA (cA (cA (cA (cB (cB (cB b253)))))))) (f253_15K o c n k w) 8 = fun t _ h => f253_16 o c n k (t 2) (t 3) (t 5) (t 39) (t 43) h := (q_seg 8 8 (by kernel_rfl) (q_guard 8 11 (7, true) (by kernel_rfl) (by kernel_rfl) (by kernel_rfl) (f253_17_ok o c n k w))).tk
noncomputable def f253_3 (s2 s3 s5 : AV) (h : Heap) : α :=
  faF o 1 s2 fun v42 => load1F o h v42 fun v43 => lssF Pq o 21 v43 (.i .i32 0) fun v44 => bkF o false v44 (faF o 0 s2 fun v45 => load1F o h v45 fun v46 => eqiF Pq o 3 v46 (.i .i64 2) fun v47 => f253_16 o c n k s2 s3 s5 v44 v47 h) (f253_16 o c n k s2 s3 s5 v44 (.tup []) h)
theorem f253_3_ok : R Pq o c n (cB (cB (cB b253))) (kend Pq o c n w rs253 k) = fun t _ h => f253_3 o c n k (t 2) (t 3) (t 5) h := (kseq (f253_4_ok o c n k w) (kblk (kseq (f253_6_ok o c n k w) (kseq (f253_8_ok o c n k w) (r_start 4 (by kernel_rfl) (q_guard 4 8 (3, false) (by kernel_rfl) (by kernel_rfl) (by kernel_rfl) (f253_16_ok o c n k w))))))).tk
noncomputable def f253_18K : Ex → K α := (nxK (fun t _ h => f253_3 o c n k (t 2) (t 3) (t 5) h) (kend Pq o c n w rs253 k))
noncomputable def f253_19 (s2 s3 s5 s34 : AV) (h : Heap) : α :=
  ifF o s34 (k (.b false) h) (f253_3 o c n k s2 s3 s5 h)
theorem f253_19_ok : R Pq o c n (cB (cA (cB (cB b253)))) (f253_18K o c n k w) = fun t _ h => f253_19 o c n k (t 2) (t 3) (t 5) (t 34) h := by kernel_rfl
noncomputable def f253_20K : Ex → K α := (nxK (fun t _ h => f253_19 o c n k (t 2) (t 3) (t 5) (t 34) h) (f253_18K o c n k w))
noncomputable def f253_21 (s2 s3 s5 s15 s17 : AV) (h : Heap) : α :=
  pickF o s15 (.b true) s17 fun v48 => bkF o false v48 (loadNF o h 7 s5 fun v49 => faF o 1 s2 fun v50 => load1F o h v50 fun v51 => faF o 2 s2 fun v52 => load1F o h v52 fun v53 => faF o 3 s2 fun v54 => load1F o h v54 fun v55 => faF o 4 s2 fun v56 => load1F o h v56 fun v57 => faF o 5 s2 fun v58 => load1F o h v58 fun v59 => lenF o v59 fun v60 => c 281 [v49, v51, v53, v55, v57, v60] h fun v61 h => pk k v61 h <| notF o v61 fun v62 => pickF o v48 (.b true) v62 fun v63 => f253_19 o c n k s2 s3 s5 v63 h) (pickF o v48 (.b true) (.tup []) fun v64 => f253_19 o c n k s2 s3 s5 v64 h)
theorem f253_21_ok : Q Pq o c (cO (cA (cA (cB (cB b253))))) (f253_20K o c n k w) 5 = fun t _ h => f253_21 o c n k (t 2) (t 3) (t 5) (t 15) (t 17) h := (q_seg 5 7 (by kernel_rfl) (q_guard 7 21 (6, false) (by kernel_rfl) (by kernel_rfl) (by kernel_rfl) rfl)).tk
noncomputable def f253_2 (s2 s3 s5 s6 : AV) (h : Heap) : α :=
  notF o s6 fun v65 => bkF o false v65 (load1F o h s3 fun v66 => gtrF Pq o 3 v66 (.i .i64 40) fun v67 => f253_21 o c n k s2 s3 s5 v65 v67 h) (f253_21 o c n k s2 s3 s5 v65 (.tup []) h)
theorem f253_2_ok : R Pq o c n (cB (cB b253)) (kend Pq o c n w rs253 k) = fun t _ h => f253_2 o c n k (t 2) (t 3) (t 5) (t 6) h := (kseq (f253_3_ok o c n k w) (kseq (f253_19_ok o c n k w) (r_start 3 (by kernel_rfl) (q_guard 3 5 (2, false) (by kernel_rfl) (by kernel_rfl) (by kernel_rfl) (f253_21_ok o c n k w))))).tk
noncomputable def f253_1 (s2 s3 : AV) (h : Heap) : α :=
  faF o 0 s2 fun v68 => load1F o h v68 fun v69 => c 280 [v69] h fun v70 h => pk k v70 h <| exF o v70 0 fun v71 => exF o v70 1 fun v72 => newF h h.next 7 [(.b false), (.b false), (.b false), (.b false), (.i .i64 0), (.i .i64 0), (.i .i64 0)] fun v73 h => storeF o h 7 v73 v71 fun h => f253_2 o c n k s2 s3 v73 v72 h
theorem f253_1_ok : R Pq o c n (cB b253) (kend Pq o c n w rs253 k) = fun t _ h => f253_1 o c n k (t 2) (t 3) h := (kseq (f253_2_ok o c n k w) rfl).tk
noncomputable def f253 (a0 a1 : AV) (h : Heap) : α :=
  boxF o a0 h h.next fun v74 h => boxF o a1 h h.next fun v75 h => f253_1 o c n k v74 v75 h
theorem f253_ok : R Pq o c n b253 (kend Pq o c n w rs253 k) = fun t _ h => f253 o c n k (t 0) (t 1) h := (kseq (f253_1_ok o c n k w) rfl).tk
theorem f253_good : Good Pq (cfg mm) 253 (entF Pq (cfg mm) 253 2 fun α => f253) := entG b253 rs253 86 fun _ => f253_ok
noncomputable def b256 := bdy Tryz.f256
noncomputable def rs256 := Tryz.f256.results.toList
noncomputable def f256_3K : Ex → K α := (nxK (R Pq o c n (cB (cB (cB b256))) (kend Pq o c n w rs256 k)) (kend Pq o c n w rs256 k))
noncomputable def f256_2 {α : Type} (o : α) (c : Call' α) (n : Nat) (k : AV → Heap → α) (s0 : AV) (h : Heap) : α :=
  nesF Pq o 9 s0 (.s 0 0) fun v1 => bkF o true v1 (lensF o s0 fun v2 => leqF Pq o 3 v2 (.i .i64 20) fun v3 => pickF o v1 v3 (.b false) fun v4 => k v4 h) (pickF o v1 (.tup []) (.b false) fun v5 => k v5 h)
theorem f256_2_ok : R Pq o c n (cB (cB b256)) (kend Pq o c n w rs256 k) = fun t _ h => f256_2 o c n k (t 0) h := (kseq rfl (r_start 3 (by kernel_rfl) (q_guard 3 6 (2, true) (by kernel_rfl) (by kernel_rfl) (by kernel_rfl) rfl))).tk
noncomputable def f256_4K : Ex → K α := (nxK (fun t _ h => f256_2 o c n k (t 0) h) (kend Pq o c n w rs256 k))
noncomputable def f256_7K (lp0 : AVs (Heap → α) 3) : Ex → K α := (nxK (fun t _ h => lp0 (t 0) (t 1) (t 8) h) (blockK (cI (cB (cA (cB b256)))) (f256_4K o c n k w)))
noncomputable def f256_11 {α : Type} (o : α) (c : Call' α) (n : Nat) (k : AV → Heap → α) (lp0 : AVs (Heap → α) 3) (s0 s1 s8 s35 : AV) (h : Heap) : α :=
  ifF o s35 (k (.b false) h) (lp0 s0 s1 s8 h)
theorem f256_11_ok (lp0 : AVs (Heap → α) 3) : R Pq o c n (cB (cB (cA (cB (cB (cA (cA (cB (cA (cB b256)))))))))) (blockK (cI (cB (cB (cA (cA (cB (cA (cB b256)))))))) (f256_7K o c n k w lp0)) = fun t _ h => f256_11 o c n k lp0 (t 0) (t 1) (t 8) (t 35) h := by kernel_rfl
noncomputable def f256_12K (lp0 : AVs (Heap → α) 3) : Ex → K α := (nxK (fun t _ h => f256_11 o c n k lp0 (t 0) (t 1) (t 8) (t 35) h) (blockK (cI (cB (cB (cA (cA (cB (cA (cB b256)))))))) (f256_7K o c n k w lp0)))
noncomputable def f256_17 (lp0 : AVs (Heap → α) 3) (s0 s1 s8 s21 s30 s33 : AV) (h : Heap) : α :=
  bkF o false s21 (pickF o s30 s33 (.b false) fun v6 => pickF o s21 (.b true) v6 fun v7 => f256_11 o c n k lp0 s0 s1 s8 v7 h) (pickF o s21 (.b true) (.tup []) fun v8 => f256_11 o c n k lp0 s0 s1 s8 v8 h)
theorem f256_17_ok (lp0 : AVs (Heap → α) 3) : Q Pq o c (cO (cA (cB (cA (cB (cB (cA (cA (cB (cA (cB b256))))))))))) (f256_12K o c n k w lp0) 21 = fun t _ h => f256_17 o c n k lp0 (t 0) (t 1) (t 8) (t 21) (t 30) (t 33) h := (q_seg 21 21 (by kernel_rfl) (q_guard 21 22 (8, false) (by kernel_rfl) (by kernel_rfl) (by kernel_rfl) rfl)).tk
noncomputable def f256_16 (lp0 : AVs (Heap → α) 3) (s0 s1 s6 s8 s21 s30 : AV) (h : Heap) : α :=
  bkF o true s30 (c 286 [s6] h fun v9 h => pk k v9 h <| notF o v9 fun v10 => f256_17 o c n k lp0 s0 s1 s8 s21 s30 v10 h) (f256_17 o c n k lp0 s0 s1 s8 s21 s30 (.tup []) h)
theorem f256_16_ok (lp0 : AVs (Heap → α) 3) : Q Pq o c (cO (cA (cB (cA (cB (cB (cA (cA (cB (cA (cB b256))))))))))) (f256_12K o c n k w lp0) 18 = fun t _ h => f256_16 o c n k lp0 (t 0) (t 1) (t 6) (t 8) (t 21) (t 30) h := (q_seg 18 18 (by kernel_rfl) (q_guard 18 21 (17, true) (by kernel_rfl) (by kernel_rfl) (by kernel_rfl) (f256_17_ok o c n k w lp0))).tk
noncomputable def f256_15 (lp0 : AVs (Heap → α) 3) (s0 s1 s6 s8 s21 s25 s28 : AV) (h : Heap) : α :=
  bkF o false s21 (pickF o s25 s28 (.b false) fun v11 => f256_16 o c n k lp0 s0 s1 s6 s8 s21 v11 h) (f256_16 o c n k lp0 s0 s1 s6 s8 s21 (.tup []) h)
theorem f256_15_ok (lp0 : AVs (Heap → α) 3) : Q Pq o c (cO (cA (cB (cA (cB (cB (cA (cA (cB (cA (cB b256))))))))))) (f256_12K o c n k w lp0) 16 = fun t _ h => f256_15 o c n k lp0 (t 0) (t 1) (t 6) (t 8) (t 21) (t 25) (t 28) h := (q_seg 16 16 (by kernel_rfl) (q_guard 16 18 (8, false) (by kernel_rfl) (by kernel_rfl) (by kernel_rfl) (f256_16_ok o c n k w lp0))).tk
noncomputable def f256_14 (lp0 : AVs (Heap → α) 3) (s0 s1 s6 s8 s21 s25 : AV) (h : Heap) : α :=
  bkF o true s25 (c 257 [s6] h fun v12 h => pk k v12 h <| notF o v12 fun v13 => f256_15 o c n k lp0 s0 s1 s6 s8 s21 s25 v13 h) (f256_15 o c n k lp0 s0 s1 s6 s8 s21 s25 (.tup []) h)
theorem f256_14_ok (lp0 : AVs (Heap → α) 3) : Q Pq o c (cO (cA (cB (cA (cB (cB (cA (cA (cB (cA (cB b256))))))))))) (f256_12K o c n k w lp0) 13 = fun t _ h => f256_14 o c n k lp0 (t 0) (t 1) (t 6) (t 8) (t 21) (t 25) h := (q_seg 13 13 (by kernel_rfl) (q_guard 13 16 (12, true) (by kernel_rfl) (by kernel_rfl) (by kernel_rfl) (f256_15_ok o c n k w lp0))).tk
noncomputable def f256_13 (lp0 : AVs (Heap → α) 3) (s0 s1 s6 s8 s15 s19 : AV) (h : Heap) : α :=
  pickF o s15 s19 (.b false) fun v14 => bkF o false v14 (c 277 [s6] h fun v15 h => pk k v15 h <| notF o v15 fun v16 => f256_14 o c n k lp0 s0 s1 s6 s8 v14 v16 h) (f256_14 o c n k lp0 s0 s1 s6 s8 v14 (.tup []) h)
theorem f256_13_ok (lp0 : AVs (Heap → α) 3) : Q Pq o c (cO (cA (cB (cA (cB (cB (cA (cA (cB (cA (cB b256))))))))))) (f256_12K o c n k w lp0) 7 = fun t _ h => f256_13 o c n k lp0 (t 0) (t 1) (t 6) (t 8) (t 15) (t 19) h := (q_seg 7 9 (by kernel_rfl) (q_guard 9 13 (8, false) (by kernel_rfl) (by kernel_rfl) (by kernel_rfl) (f256_14_ok o c n k w lp0))).tk
noncomputable def f256_10 (lp0 : AVs (Heap → α) 3) (s0 s1 s5 s6 s8 : AV) (h : Heap) : α :=
  eqiF Pq o 3 s5 (.i .i64 0) fun v17 => bkF o true v17 (cfF o s1 [s6] c h fun v18 h => pk k v18 h <| notF o v18 fun v19 => f256_13 o c n k lp0 s0 s1 s6 s8 v17 v19 h) (f256_13 o c n k lp0 s0 s1 s6 s8 v17 (.tup []) h)
theorem f256_10_ok (lp0 : AVs (Heap → α) 3) : R Pq o c n (cB (cA (cB (cB (cA (cA (cB (cA (cB b256))))))))) (blockK (cI (cB (cB (cA (cA (cB (cA (cB b256)))))))) (f256_7K o c n k w lp0)) = fun t _ h => f256_10 o c n k lp0 (t 0) (t 1) (t 5) (t 6) (t 8) h := (kseq (f256_11_ok o c n k w lp0) (r_start 3 (by kernel_rfl) (q_guard 3 7 (2, true) (by kernel_rfl) (by kernel_rfl) (by kernel_rfl) (f256_13_ok o c n k w lp0)))).tk
noncomputable def f256_9 (lp0 : AVs (Heap → α) 3) (s0 s1 s8 s9 : AV) (h : Heap) : α :=
  exF o s9 1 fun v20 => exF o s9 2 fun v21 => f256_10 o c n k lp0 s0 s1 v20 v21 s8 h
theorem f256_9_ok (lp0 : AVs (Heap → α) 3) : R Pq o c n (cB (cB (cA (cA (cB (cA (cB b256))))))) (f256_7K o c n k w lp0) = fun t _ h => f256_9 o c n k lp0 (t 0) (t 1) (t 8) (t 9) h := (kblk (kseq (f256_10_ok o c n k w lp0) rfl)).tk
noncomputable def f256_8 (lp0 : AVs (Heap → α) 3) (s0 s1 s8 s9 s10 : AV) (h : Heap) : α :=
  ifF o s10 (f256_9 o c n k lp0 s0 s1 s8 s9 h) (f256_2 o c n k s0 h)
theorem f256_8_ok (lp0 : AVs (Heap → α) 3) : R Pq o c n (cB (cA (cA (cB (cA (cB b256)))))) (f256_7K o c n k w lp0) = fun t _ h => f256_8 o c n k lp0 (t 0) (t 1) (t 8) (t 9) (t 10) h := (kseq (f256_9_ok o c n k w lp0) rfl).tk
noncomputable def f256_6 (m : Nat) : AVs (Heap → α) 3 :=
  Nat.rec (motive := fun _ => AVs (Heap → α) 3) (fun _ _ _ _ => o) (fun _ lp0 s0 s1 s8 h => nextN o h s8 fun v22 h => exF o v22 0 fun v23 => f256_8 o c n k lp0 s0 s1 s8 v22 v23 h) m
theorem f256_6_ok : R Pq o c n (cA (cB (cA (cB b256)))) (blockK (cI (cB (cA (cB b256)))) (f256_4K o c n k w)) = fun t _ h => f256_6 o c n k n (t 0) (t 1) (t 8) h :=
  c_loop (F := fun m t _ h => f256_6 o c n k m (t 0) (t 1) (t 8) h) (by kernel_rfl) (by kernel_rfl) fun m => (kseq (f256_8_ok o c n k w (f256_6 o c n k m)) rfl).tk
noncomputable def f256_5 (s0 s1 s8 : AV) (h : Heap) : α :=
  f256_6 o c n k n s0 s1 s8 h
theorem f256_5_ok : R Pq o c n (cB (cA (cB b256))) (f256_4K o c n k w) = fun t _ h => f256_5 o c n k (t 0) (t 1) (t 8) h := (kblk (f256_6_ok o c n k w)).tk
noncomputable def f256_1 (s0 s1 : AV) (h : Heap) : α :=
  iterA o h h.next s0 fun v24 h => f256_5 o c n k s0 s1 v24 h
theorem f256_1_ok : R Pq o c n (cB b256) (kend Pq o c n w rs256 k) = fun t _ h => f256_1 o c n k (t 0) (t 1) h := (kseq (f256_2_ok o c n k w) (kseq (f256_5_ok o c n k w) rfl)).tk
noncomputable def f256 (a0 a1 : AV) (h : Heap) : α :=
  f256_1 o c n k a0 a1 h
theorem f256_ok : R Pq o c n b256 (kend Pq o c n w rs256 k) = fun t _ h => f256 o c n k (t 0) (t 1) h := (kseq (f256_1_ok o c n k w) rfl).tk
theorem f256_good : Good Pq (cfg mm) 256 (entF Pq (cfg mm) 256 2 fun α => f256) := entG b256 rs256 43 fun _ => f256_ok
noncomputable def b257 := bdy Tryz.f257
noncomputable def rs257 := Tryz.f257.results.toList
noncomputable def f257_2K : Ex → K α := (nxK (R Pq o c n (cB (cB b257)) (kend Pq o c n w rs257 k)) (kend Pq o c n w rs257 k))
noncomputable def f257_1 {α : Type} (o : α) (c : Call' α) (n : Nat) (k : AV → Heap → α) (s0 : AV) (h : Heap) : α :=
  geqF Pq o 21 s0 (.i .i32 65) fun v1 => bkF o true v1 (leqF Pq o 21 s0 (.i .i32 90) fun v2 => pickF o v1 v2 (.b false) fun v3 => k v3 h) (pickF o v1 (.tup []) (.b false) fun v4 => k v4 h)
theorem f257_1_ok : R Pq o c n (cB b257) (kend Pq o c n w rs257 k) = fun t _ h => f257_1 o c n k (t 0) h := (kseq rfl (r_start 3 (by kernel_rfl) (q_guard 3 5 (2, true) (by kernel_rfl) (by kernel_rfl) (by kernel_rfl) rfl))).tk
noncomputable def f257 (a0 : AV) (h : Heap) : α :=
  f257_1 o c n k a0 h
theorem f257_ok : R Pq o c n b257 (kend Pq o c n w rs257 k) = fun t _ h => f257 o c n k (t 0) h := (kseq (f257_1_ok o c n k w) rfl).tk
theorem f257_good : Good Pq (cfg mm) 257 (entF Pq (cfg mm) 257 1 fun α => f257) := entG b257 rs257 9 fun _ => f257_ok
noncomputable def b259 := bdy Tryz.f259
noncomputable def rs259 := Tryz.f259.results.toList
noncomputable def f259 {α : Type} (o : α) (c : Call' α) (n : Nat) (k : AV → Heap → α) (a0 a1 : AV) (h : Heap) : α :=
  boxF o a0 h h.next fun v1 h => loadNF o h 1 v1 fun v2 => c 118 [v2, a1] h fun v3 h => pk k v3 h <| geqF Pq o 3 v3 (.i .i64 0) fun v4 => ifF o v4 (faF o 0 v1 fun v5 => load1F o h v5 fun v6 => ixF o 4 v6 v3 fun v7 => loadNF o h 4 v7 fun v8 => k (.ifc 51 v8) h) (k .nifc h)
theorem f259_ok : R Pq o c n b259 (kend Pq o c n w rs259 k) = fun t _ h => f259 o c n k (t 0) (t 1) h := by kernel_rfl
theorem f259_good : Good Pq (cfg mm) 259 (entF Pq (cfg mm) 259 2 fun α => f259) := entG b259 rs259 17 fun _ => f259_ok
noncomputable def b261 := bdy Tryz.f261
noncomputable def rs261 := Tryz.f261.results.toList
noncomputable def f261 {α : Type} (o : α) (c : Call' α) (n : Nat) (k : AV → Heap → α) (a0 a1 : AV) (h : Heap) : α :=
  boxF o a0 h h.next fun v1 h => loadNF o h 1 v1 fun v2 => c 289 [v2, a1] h fun v3 h => pk k v3 h <| assertA Pq o v3 51 true fun v4 => exF o v4 0 fun v5 => exF o v4 1 fun v6 => newF h h.next 4 [(.s 0 0), (.s 0 0), .nsl, .nsl] fun v7 h => storeF o h 4 v7 v5 fun h => notF o v6 fun v8 => ifF o v8 (k .nsl h) (faF o 3 v7 fun v9 => load1F o h v9 fun v10 => k v10 h)
theorem f261_ok : R Pq o c n b261 (kend Pq o c n w rs261 k) = fun t _ h => f261 o c n k (t 0) (t 1) h := by kernel_rfl
theorem f261_good : Good Pq (cfg mm) 261 (entF Pq (cfg mm) 261 2 fun α => f261) := entG b261 rs261 18 fun _ => f261_ok
noncomputable def b265 := bdy Tryz.f265
noncomputable def rs265 := Tryz.f265.results.toList
noncomputable def f265_5K : Ex → K α := (nxK (R Pq o c n (cB (cB (cB (cB (cB b265))))) (kend Pq o c n w rs265 k)) (kend Pq o c n w rs265 k))
noncomputable def f265_7 {α : Type} (o : α) (c : Call' α) (n : Nat) (k : AV → Heap → α) (m : Nat) : AVs (Heap → α) 4 :=
  Nat.rec (motive := fun _ => AVs (Heap → α) 4) (fun _ _ _ _ _ => o) (fun _ lp0 s6 s25 s26 s27 h => lssF Pq o 3 s27 s26 fun v1 => ifF o v1 (ixF o 1 s25 s27 fun v2 => load1F o h v2 fun v3 => appX Pq o h h.next 60 60 s6 v3 fun v4 h => addF Pq o 3 s27 (.i .i64 1) fun v5 => lp0 v4 s25 s26 v5 h) (k s6 h)) m
theorem f265_7_ok : R Pq o c n (cA (cB (cA (cB (cB (cB (cB b265))))))) (blockK (cI (cB (cA (cB (cB (cB (cB b265))))))) (f265_5K o c n k w)) = fun t _ h => f265_7 o c n k n (t 6) (t 25) (t 26) (t 27) h :=
  c_loop (F := fun m t _ h => f265_7 o c n k m (t 6) (t 25) (t 26) (t 27) h) (by kernel_rfl) (by kernel_rfl) fun m => by kernel_rfl
noncomputable def f265_6 (s6 s25 s26 s27 : AV) (h : Heap) : α :=
  f265_7 o c n k n s6 s25 s26 s27 h
theorem f265_6_ok : R Pq o c n (cB (cA (cB (cB (cB (cB b265)))))) (f265_5K o c n k w) = fun t _ h => f265_6 o c n k (t 6) (t 25) (t 26) (t 27) h := (kblk (f265_7_ok o c n k w)).tk
noncomputable def f265_4 (s0 s6 : AV) (h : Heap) : α :=
  lenF o s0 fun v6 => f265_6 o c n k s6 s0 v6 (.i .i64 0) h
theorem f265_4_ok : R Pq o c n (cB (cB (cB (cB b265)))) (kend Pq o c n w rs265 k) = fun t _ h => f265_4 o c n k (t 0) (t 6) h := (kseq rfl (kseq (f265_6_ok o c n k w) rfl)).tk
noncomputable def f265_3 (s0 s3 : AV) (h : Heap) : α :=
  c 298 [.nsl, s3] h fun v7 h => pk k v7 h <| f265_4 o c n k s0 v7 h
theorem f265_3_ok : R Pq o c n (cB (cB (cB b265))) (kend Pq o c n w rs265 k) = fun t _ h => f265_3 o c n k (t 0) (t 3) h := (kseq (f265_4_ok o c n k w) rfl).tk
noncomputable def f265_8K : Ex → K α := (nxK (fun t _ h => f265_3 o c n k (t 0) (t 3) h) (kend Pq o c n w rs265 k))
noncomputable def f265_10 (m : Nat) : AVs (Heap → α) 5 :=
  Nat.rec (motive := fun _ => AVs (Heap → α) 5) (fun _ _ _ _ _ _ => o) (fun _ lp0 s0 s3 s9 s10 s11 h => lssF Pq o 3 s11 s10 fun v8 => ifF o v8 (ixF o 1 s9 s11 fun v9 => load1F o h v9 fun v10 => lenF o v10 fun v11 => addF Pq o 3 s3 v11 fun v12 => lssF Pq o 3 v12 (.i .i64 0) fun v13 => ifF o v13 (panicA o (.ifc 9 (.s 16 134789072936214216453580009062074836332)) fun x => k x.pn h) (addF Pq o 3 s11 (.i .i64 1) fun v14 => lp0 s0 v12 s9 s10 v14 h)) (f265_3 o c n k s0 s3 h)) m
theorem f265_10_ok : R Pq o c n (cA (cB (cA (cB (cB b265))))) (blockK (cI (cB (cA (cB (cB b265))))) (f265_8K o c n k w)) = fun t _ h => f265_10 o c n k n (t 0) (t 3) (t 9) (t 10) (t 11) h :=
  c_loop (F := fun m t _ h => f265_10 o c n k m (t 0) (t 3) (t 9) (t 10) (t 11) h) (by kernel_rfl) (by kernel_rfl) fun m => by kernel_rfl
noncomputable def f265_9 (s0 s3 s9 s10 s11 : AV) (h : Heap) : α :=
  f265_10 o c n k n s0 s3 s9 s10 s11 h
theorem f265_9_ok : R Pq o c n (cB (cA (cB (cB b265)))) (f265_8K o c n k w) = fun t _ h => f265_9 o c n k (t 0) (t 3) (t 9) (t 10) (t 11) h := (kblk (f265_10_ok o c n k w)).tk
noncomputable def f265_2 (s0 s3 : AV) (h : Heap) : α :=
  lenF o s0 fun v15 => f265_9 o c n k s0 s3 s0 v15 (.i .i64 0) h
theorem f265_2_ok : R Pq o c n (cB (cB b265)) (kend Pq o c n w rs265 k) = fun t _ h => f265_2 o c n k (t 0) (t 3) h := (kseq (f265_3_ok o c n k w) (kseq (f265_9_ok o c n k w) rfl)).tk
noncomputable def f265_1 (s0 : AV) (h : Heap) : α :=
  f265_2 o c n k s0 (.i .i64 0) h
theorem f265_1_ok : R Pq o c n (cB b265) (kend Pq o c n w rs265 k) = fun t _ h => f265_1 o c n k (t 0) h := (kseq (f265_2_ok o c n k w) rfl).tk
noncomputable def f265 (a0 : AV) (h : Heap) : α :=
  f265_1 o c n k a0 h
theorem f265_ok : R Pq o c n b265 (kend Pq o c n w rs265 k) = fun t _ h => f265 o c n k (t 0) h := (kseq (f265_1_ok o c n k w) rfl).tk
theorem f265_good : Good Pq (cfg mm) 265 (entF Pq (cfg mm) 265 1 fun α => f265) := entG b265 rs265 36 fun _ => f265_ok
noncomputable def b271 := bdy Tryz.f271
noncomputable def rs271 := Tryz.f271.results.toList
noncomputable def f271 {α : Type} (o : α) (c : Call' α) (n : Nat) (k : AV → Heap → α) (a0 a1 a2 : AV) (h : Heap) : α :=
  boxF o a1 h h.next fun v1 h => newF h h.next 8 [(.i .i64 0), (.i .i32 0), (.s 0 0), (.s 0 0), (.s 0 0), .nsl, (.s 0 0), (.i .i64 0)] fun v2 h => loadNF o h 8 v1 fun v3 => c 272 [a0, v3] h fun v4 h => pk k v4 h <| exF o v4 0 fun v5 => exF o v4 1 fun v6 => exF o v4 2 fun v7 => newF h h.next 8 [(.i .i64 0), (.i .i32 0), (.s 0 0), (.s 0 0), (.s 0 0), .nsl, (.s 0 0), (.i .i64 0)] fun v8 h => storeF o h 8 v8 v5 fun h => neiF Pq o 3 v7 (.i .i64 0) fun v9 => ifF o v9 (loadNF o h 8 v8 fun v10 => storeF o h 8 v2 v10 fun h => on o (resV Pq h [(v2, some 57), (v7, none)]) fun v => k v h) (nilChk o a0 fun v11 => faF o 0 v11 fun v12 => loadNF o h 1 v12 fun v13 => c 129 [v13, v6, a2] h fun v14 h => pk k v14 h <| notF o v14 fun v15 => ifF o v15 (loadNF o h 8 v8 fun v16 => storeF o h 8 v2 v16 fun h => on o (resV Pq h [(v2, some 57), ((.i .i64 14), none)]) fun v => k v h) (loadNF o h 8 v8 fun v17 => storeF o h 8 v2 v17 fun h => on o (resV Pq h [(v2, some 57), ((.i .i64 0), none)]) fun v => k v h))
theorem f271_ok : R Pq o c n b271 (kend Pq o c n w rs271 k) = fun t _ h => f271 o c n k (t 0) (t 1) (t 2) h := by kernel_rfl
theorem f271_good : Good Pq (cfg mm) 271 (entF Pq (cfg mm) 271 3 fun α => f271) := entG b271 rs271 32 fun _ => f271_ok
noncomputable def b272 := bdy Tryz.f272
noncomputable def rs272 := Tryz.f272.results.toList
noncomputable def f272 {α : Type} (o : α) (c : Call' α) (n : Nat) (k : AV → Heap → α) (a0 a1 : AV) (h : Heap) : α :=
  boxF o a1 h h.next fun v1 h => newF h h.next 8 [(.i .i64 0), (.i .i32 0), (.s 0 0), (.s 0 0), (.s 0 0), .nsl, (.s 0 0), (.i .i64 0)] fun v2 h => dreg o h 16 fun base h => nilChk o a0 fun v3 => faF o 0 v3 fun v4 => rootF o v4 a0 <| loadNF o (h.look 7) 1 v4 fun v5 => nilChk o a0 fun v6 => faF o 7 v6 fun v7 => rootF o v7 a0 <| loadNF o (h.look 112) 3 v7 fun v8 => loadNF o (h.look 0) 8 v1 fun v9 => callD o c [] 128 [v5, v8, v9] (h.look 0) fun v10 h => pnF v10 (fun x => hb h.shut fun hd => k x.pn hd) <| exF o v10 0 fun v11 => exF o v10 1 fun v12 => exF o v10 2 fun v13 => storeF o (h.look 8191) 8 v2 v11 fun h => hb h.shut fun h => on o (resV Pq h [(v2, some 57), (v12, none), (v13, none)]) fun v => k v h
theorem f272_ok : R Pq o c n b272 (kend Pq o c n w rs272 k) = fun t _ h => f272 o c n k (t 0) (t 1) h := by kernel_rfl
theorem f272_good : Good Pq (cfg mm) 272 (entF Pq (cfg mm) 272 2 fun α => f272) := entG b272 rs272 20 fun _ => f272_ok
noncomputable def b277 := bdy Tryz.f277
noncomputable def rs277 := Tryz.f277.results.toList
noncomputable def f277_2K : Ex → K α := (nxK (R Pq o c n (cB (cB b277)) (kend Pq o c n w rs277 k)) (kend Pq o c n w rs277 k))
noncomputable def f277_1 {α : Type} (o : α) (c : Call' α) (n : Nat) (k : AV → Heap → α) (s0 : AV) (h : Heap) : α :=
  geqF Pq o 21 s0 (.i .i32 97) fun v1 => bkF o true v1 (leqF Pq o 21 s0 (.i .i32 122) fun v2 => pickF o v1 v2 (.b false) fun v3 => k v3 h) (pickF o v1 (.tup []) (.b false) fun v4 => k v4 h)
theorem f277_1_ok : R Pq o c n (cB b277) (kend Pq o c n w rs277 k) = fun t _ h => f277_1 o c n k (t 0) h := (kseq rfl (r_start 3 (by kernel_rfl) (q_guard 3 5 (2, true) (by kernel_rfl) (by kernel_rfl) (by kernel_rfl) rfl))).tk
noncomputable def f277 (a0 : AV) (h : Heap) : α :=
  f277_1 o c n k a0 h
theorem f277_ok : R Pq o c n b277 (kend Pq o c n w rs277 k) = fun t _ h => f277 o c n k (t 0) h := (kseq (f277_1_ok o c n k w) rfl).tk
theorem f277_good : Good Pq (cfg mm) 277 (entF Pq (cfg mm) 277 1 fun α => f277) := entG b277 rs277 9 fun _ => f277_ok
noncomputable def b279 := bdy Tryz.f279
noncomputable def rs279 := Tryz.f279.results.toList
noncomputable def f279_2K : Ex → K α := (nxK (R Pq o c n (cB (cB b279)) (kend Pq o c n w rs279 k)) (kend Pq o c n w rs279 k))
noncomputable def f279_4 {α : Type} (o : α) (c : Call' α) (n : Nat) (k : AV → Heap → α) (m : Nat) : AVs (Heap → α) 4 :=
  Nat.rec (motive := fun _ => AVs (Heap → α) 4) (fun _ _ _ _ _ => o) (fun _ lp0 s0 s1 s7 s8 h => lssF Pq o 3 s8 s7 fun v1 => ifF o v1 (ixF o 8 s0 s8 fun v2 => loadNF o h 8 v2 fun v3 => cfF o s1 [v3] c h fun v4 h => pk k v4 h <| ifF o v4 (k s8 h) (addF Pq o 3 s8 (.i .i64 1) fun v5 => lp0 s0 s1 s7 v5 h)) (k (.i .i64 (-1)) h)) m
theorem f279_4_ok : R Pq o c n (cA (cB (cA (cB b279)))) (blockK (cI (cB (cA (cB b279)))) (f279_2K o c n k w)) = fun t _ h => f279_4 o c n k n (t 0) (t 1) (t 7) (t 8) h :=
  c_loop (F := fun m t _ h => f279_4 o c n k m (t 0) (t 1) (t 7) (t 8) h) (by kernel_rfl) (by kernel_rfl) fun m => by kernel_rfl
noncomputable def f279_3 (s0 s1 s7 s8 : AV) (h : Heap) : α :=
  f279_4 o c n k n s0 s1 s7 s8 h
theorem f279_3_ok : R Pq o c n (cB (cA (cB b279))) (f279_2K o c n k w) = fun t _ h => f279_3 o c n k (t 0) (t 1) (t 7) (t 8) h := (kblk (f279_4_ok o c n k w)).tk
noncomputable def f279_1 (s0 s1 : AV) (h : Heap) : α :=
  lenF o s0 fun v6 => f279_3 o c n k s0 s1 v6 (.i .i64 0) h
theorem f279_1_ok : R Pq o c n (cB b279) (kend Pq o c n w rs279 k) = fun t _ h => f279_1 o c n k (t 0) (t 1) h := (kseq rfl (kseq (f279_3_ok o c n k w) rfl)).tk
noncomputable def f279 (a0 a1 : AV) (h : Heap) : α :=
  f279_1 o c n k a0 a1 h
theorem f279_ok : R Pq o c n b279 (kend Pq o c n w rs279 k) = fun t _ h => f279 o c n k (t 0) (t 1) h := (kseq (f279_1_ok o c n k w) rfl).tk
theorem f279_good : Good Pq (cfg mm) 279 (entF Pq (cfg mm) 279 2 fun α => f279) := entG b279 rs279 19 fun _ => f279_ok
noncomputable def b280 := bdy Tryz.f280
noncomputable def rs280 := Tryz.f280.results.toList
noncomputable def f280 {α : Type} (o : α) (c : Call' α) (n : Nat) (k : AV → Heap → α) (a0 : AV) (h : Heap) : α :=
  newF h h.next 7 [(.b false), (.b false), (.b false), (.b false), (.i .i64 0), (.i .i64 0), (.i .i64 0)] fun v1 h => mapA h h.next fun v2 h => layF o 0 (.b true) [(.b false), (.b false), (.b false), (.b false), (.i .i64 0), (.i .i64 0), (.i .i64 0)] fun v3 => insertN o h .i64 v2 (.i .i64 1) (.agg v3) fun h => layF o 0 (.b true) [(.b false), (.b false), (.b false), (.b false), (.i .i64 0), (.i .i64 0), (.i .i64 0)] fun v4 => insertN o h .i64 v2 (.i .i64 2) (.agg v4) fun h => layF o 1 (.b true) [(.b false), (.b false), (.b false), (.b false), (.i .i64 0), (.i .i64 0), (.i .i64 0)] fun v5 => insertN o h .i64 v2 (.i .i64 3) (.agg v5) fun h => insertN o h .i64 v2 (.i .i64 4) (.agg [(.b false), (.b false), (.b false), (.b false), (.i .i64 0), (.i .i64 0), (.i .i64 0)]) fun h => insertN o h .i64 v2 (.i .i64 5) (.agg [(.b false), (.b false), (.b false), (.b false), (.i .i64 0), (.i .i64 0), (.i .i64 0)]) fun h => layF o 2 (.b true) [(.b false), (.b false), (.b false), (.b false), (.i .i64 0), (.i .i64 0), (.i .i64 0)] fun v6 => insertN o h .i64 v2 (.i .i64 6) (.agg v6) fun h => layF o 2 (.b true) [(.b false), (.b false), (.b false), (.b false), (.i .i64 0), (.i .i64 0), (.i .i64 0)] fun v7 => layF o 4 (.i .i64 1) v7 fun v8 => layF o 5 (.i .i64 1) v8 fun v9 => insertN o h .i64 v2 (.i .i64 7) (.agg v9) fun h => layF o 2 (.b true) [(.b false), (.b false), (.b false), (.b false), (.i .i64 0), (.i .i64 0), (.i .i64 0)] fun v10 => insertN o h .i64 v2 (.i .i64 8) (.agg v10) fun h => layF o 2 (.b true) [(.b false), (.b false), (.b false), (.b false), (.i .i64 0), (.i .i64 0), (.i .i64 0)] fun v11 => layF o 3 (.b true) v11 fun v12 => insertN o h .i64 v2 (.i .i64 9) (.agg v12) fun h => layF o 2 (.b true) [(.b false), (.b false), (.b false), (.b false), (.i .i64 0), (.i .i64 0), (.i .i64 0)] fun v13 => layF o 4 (.i .i64 1) v13 fun v14 => layF o 5 (.i .i64 3000) v14 fun v15 => insertN o h .i64 v2 (.i .i64 10) (.agg v15) fun h => layF o 2 (.b true) [(.b false), (.b false), (.b false), (.b false), (.i .i64 0), (.i .i64 0), (.i .i64 0)] fun v16 => layF o 5 (.i .i64 3000) v16 fun v17 => insertN o h .i64 v2 (.i .i64 11) (.agg v17) fun h => layF o 2 (.b true) [(.b false), (.b false), (.b false), (.b false), (.i .i64 0), (.i .i64 0), (.i .i64 0)] fun v18 => layF o 5 (.i .i64 3000) v18 fun v19 => insertN o h .i64 v2 (.i .i64 12) (.agg v19) fun h => layF o 2 (.b true) [(.b false), (.b false), (.b false), (.b false), (.i .i64 0), (.i .i64 0), (.i .i64 0)] fun v20 => layF o 3 (.b true) v20 fun v21 => layF o 5 (.i .i64 3000) v21 fun v22 => insertN o h .i64 v2 (.i .i64 13) (.agg v22) fun h => layF o 3 (.b true) [(.b false), (.b false), (.b false), (.b false), (.i .i64 0), (.i .i64 0), (.i .i64 0)] fun v23 => layF o 5 (.i .i64 3000) v23 fun v24 => insertN o h .i64 v2 (.i .i64 14) (.agg v24) fun h => layF o 3 (.b true) [(.b false), (.b false), (.b false), (.b false), (.i .i64 0), (.i .i64 0), (.i .i64 0)] fun v25 => layF o 4 (.i .i64 1) v25 fun v26 => layF o 5 (.i .i64 1) v26 fun v27 => insertN o h .i64 v2 (.i .i64 15) (.agg v27) fun h => layF o 3 (.b true) [(.b false), (.b false), (.b false), (.b false), (.i .i64 0), (.i .i64 0), (.i .i64 0)] fun v28 => layF o 4 (.i .i64 1) v28 fun v29 => layF o 5 (.i .i64 1) v29 fun v30 => insertN o h .i64 v2 (.i .i64 16) (.agg v30) fun h => layF o 2 (.b true) [(.b false), (.b false), (.b false), (.b false), (.i .i64 0), (.i .i64 0), (.i .i64 0)] fun v31 => layF o 4 (.i .i64 2) v31 fun v32 => layF o 5 (.i .i64 2) v32 fun v33 => insertN o h .i64 v2 (.i .i64 17) (.agg v33) fun h => layF o 2 (.b true) [(.b false), (.b false), (.b false), (.b false), (.i .i64 0), (.i .i64 0), (.i .i64 0)] fun v34 => layF o 4 (.i .i64 1) v34 fun v35 => layF o 5 (.i .i64 1) v35 fun v36 => insertN o h .i64 v2 (.i .i64 18) (.agg v36) fun h => lookupN o h .i64 (some (.agg [(.b false), (.b false), (.b false), (.b false), (.i .i64 0), (.i .i64 0), (.i .i64 0)])) v2 a0 true fun v37 => exF o v37 0 fun v38 => exF o v37 1 fun v39 => newF h h.next 7 [(.b false), (.b false), (.b false), (.b false), (.i .i64 0), (.i .i64 0), (.i .i64 0)] fun v40 h => storeF o h 7 v40 v38 fun h => loadNF o h 7 v40 fun v41 => storeF o h 7 v1 v41 fun h => on o (resV Pq h [(v1, some 277), (v39, none)]) fun v => k v h
theorem f280_ok : R Pq o c n b280 (kend Pq o c n w rs280 k) = fun t _ h => f280 o c n k (t 0) h := by kernel_rfl
theorem f280_good : Good Pq (cfg mm) 280 (entF Pq (cfg mm) 280 1 fun α => f280) := entG b280 rs280 35 fun _ => f280_ok
noncomputable def b281 := bdy Tryz.f281
noncomputable def rs281 := Tryz.f281.results.toList
noncomputable def f281_2K : Ex → K α := (nxK (R Pq o c n (cB (cB b281)) (kend Pq o c n w rs281 k)) (kend Pq o c n w rs281 k))
noncomputable def f281_9 {α : Type} (o : α) (c : Call' α) (n : Nat) (k : AV → Heap → α) (s5 s6 s41 s45 : AV) (h : Heap) : α :=
  pickF o s41 s45 (.b false) fun v1 => bkF o true v1 (faF o 5 s6 fun v2 => load1F o h v2 fun v3 => leqF Pq o 3 s5 v3 fun v4 => pickF o v1 v4 (.b false) fun v5 => k v5 h) (pickF o v1 (.tup []) (.b false) fun v6 => k v6 h)
theorem f281_9_ok : Q Pq o c (cO (cA (cB b281))) (f281_2K o c n k w) 33 = fun t _ h => f281_9 o c n k (t 5) (t 6) (t 41) (t 45) h := (q_seg 33 35 (by kernel_rfl) (q_guard 35 39 (34, true) (by kernel_rfl) (by kernel_rfl) (by kernel_rfl) rfl)).tk
noncomputable def f281_8 (s5 s6 s34 s39 : AV) (h : Heap) : α :=
  pickF o s34 s39 (.b false) fun v7 => bkF o true v7 (faF o 4 s6 fun v8 => load1F o h v8 fun v9 => geqF Pq o 3 s5 v9 fun v10 => f281_9 o c n k s5 s6 v7 v10 h) (f281_9 o c n k s5 s6 v7 (.tup []) h)
theorem f281_8_ok : Q Pq o c (cO (cA (cB b281))) (f281_2K o c n k w) 27 = fun t _ h => f281_8 o c n k (t 5) (t 6) (t 34) (t 39) h := (q_seg 27 29 (by kernel_rfl) (q_guard 29 33 (28, true) (by kernel_rfl) (by kernel_rfl) (by kernel_rfl) (f281_9_ok o c n k w))).tk
noncomputable def f281_7 (s4 s5 s6 s27 s32 : AV) (h : Heap) : α :=
  pickF o s27 s32 (.b false) fun v11 => bkF o true v11 (faF o 3 s6 fun v12 => load1F o h v12 fun v13 => nesF Pq o 9 s4 (.s 0 0) fun v14 => eqiF Pq o 4 v13 v14 fun v15 => f281_8 o c n k s5 s6 v11 v15 h) (f281_8 o c n k s5 s6 v11 (.tup []) h)
theorem f281_7_ok : Q Pq o c (cO (cA (cB b281))) (f281_2K o c n k w) 20 = fun t _ h => f281_7 o c n k (t 4) (t 5) (t 6) (t 27) (t 32) h := (q_seg 20 22 (by kernel_rfl) (q_guard 22 27 (21, true) (by kernel_rfl) (by kernel_rfl) (by kernel_rfl) (f281_8_ok o c n k w))).tk
noncomputable def f281_6 (s3 s4 s5 s6 s19 s25 : AV) (h : Heap) : α :=
  pickF o s19 s25 (.b false) fun v16 => bkF o true v16 (faF o 2 s6 fun v17 => load1F o h v17 fun v18 => nesF Pq o 9 s3 (.s 0 0) fun v19 => eqiF Pq o 4 v18 v19 fun v20 => f281_7 o c n k s4 s5 s6 v16 v20 h) (f281_7 o c n k s4 s5 s6 v16 (.tup []) h)
theorem f281_6_ok : Q Pq o c (cO (cA (cB b281))) (f281_2K o c n k w) 13 = fun t _ h => f281_6 o c n k (t 3) (t 4) (t 5) (t 6) (t 19) (t 25) h := (q_seg 13 15 (by kernel_rfl) (q_guard 15 20 (14, true) (by kernel_rfl) (by kernel_rfl) (by kernel_rfl) (f281_7_ok o c n k w))).tk
noncomputable def f281_5 (s3 s4 s5 s6 s19 s22 s24 : AV) (h : Heap) : α :=
  bkF o true s19 (pickF o s22 (.b true) s24 fun v21 => f281_6 o c n k s3 s4 s5 s6 s19 v21 h) (f281_6 o c n k s3 s4 s5 s6 s19 (.tup []) h)
theorem f281_5_ok : Q Pq o c (cO (cA (cB b281))) (f281_2K o c n k w) 12 = fun t _ h => f281_5 o c n k (t 3) (t 4) (t 5) (t 6) (t 19) (t 22) (t 24) h := (q_seg 12 12 (by kernel_rfl) (q_guard 12 13 (6, true) (by kernel_rfl) (by kernel_rfl) (by kernel_rfl) (f281_6_ok o c n k w))).tk
noncomputable def f281_4 (s2 s3 s4 s5 s6 s19 s22 : AV) (h : Heap) : α :=
  bkF o false s22 (eqsF Pq o 9 s2 (.s 0 0) fun v22 => f281_5 o c n k s3 s4 s5 s6 s19 s22 v22 h) (f281_5 o c n k s3 s4 s5 s6 s19 s22 (.tup []) h)
theorem f281_4_ok : Q Pq o c (cO (cA (cB b281))) (f281_2K o c n k w) 10 = fun t _ h => f281_4 o c n k (t 2) (t 3) (t 4) (t 5) (t 6) (t 19) (t 22) h := (q_seg 10 10 (by kernel_rfl) (q_guard 10 12 (9, false) (by kernel_rfl) (by kernel_rfl) (by kernel_rfl) (f281_5_ok o c n k w))).tk
noncomputable def f281_3 (s2 s3 s4 s5 s6 s15 s17 : AV) (h : Heap) : α :=
  pickF o s15 (.b true) s17 fun v23 => bkF o true v23 (faF o 1 s6 fun v24 => load1F o h v24 fun v25 => f281_4 o c n k s2 s3 s4 s5 s6 v23 v25 h) (f281_4 o c n k s2 s3 s4 s5 s6 v23 (.tup []) h)
theorem f281_3_ok : Q Pq o c (cO (cA (cB b281))) (f281_2K o c n k w) 5 = fun t _ h => f281_3 o c n k (t 2) (t 3) (t 4) (t 5) (t 6) (t 15) (t 17) h := (q_seg 5 7 (by kernel_rfl) (q_guard 7 10 (6, true) (by kernel_rfl) (by kernel_rfl) (by kernel_rfl) (f281_4_ok o c n k w))).tk
noncomputable def f281_1 (s1 s2 s3 s4 s5 s6 : AV) (h : Heap) : α :=
  faF o 0 s6 fun v26 => load1F o h v26 fun v27 => bkF o false v27 (eqiF Pq o 21 s1 (.i .i32 0) fun v28 => f281_3 o c n k s2 s3 s4 s5 s6 v27 v28 h) (f281_3 o c n k s2 s3 s4 s5 s6 v27 (.tup []) h)
theorem f281_1_ok : R Pq o c n (cB b281) (kend Pq o c n w rs281 k) = fun t _ h => f281_1 o c n k (t 1) (t 2) (t 3) (t 4) (t 5) (t 6) h := (kseq rfl (r_start 3 (by kernel_rfl) (q_guard 3 5 (2, false) (by kernel_rfl) (by kernel_rfl) (by kernel_rfl) (f281_3_ok o c n k w)))).tk
noncomputable def f281 (a0 a1 a2 a3 a4 a5 : AV) (h : Heap) : α :=
  boxF o a0 h h.next fun v29 h => f281_1 o c n k a1 a2 a3 a4 a5 v29 h
theorem f281_ok : R Pq o c n b281 (kend Pq o c n w rs281 k) = fun t _ h => f281 o c n k (t 0) (t 1) (t 2) (t 3) (t 4) (t 5) h := (kseq (f281_1_ok o c n k w) rfl).tk
theorem f281_good : Good Pq (cfg mm) 281 (entF Pq (cfg mm) 281 6 fun α => f281) := entG b281 rs281 53 fun _ => f281_ok
noncomputable def b283 := bdy Tryz.f283
noncomputable def rs283 := Tryz.f283.results.toList
noncomputable def f283 {α : Type} (o : α) (c : Call' α) (n : Nat) (k : AV → Heap → α) (a0 a1 : AV) (h : Heap) : α :=
  eqiF Pq o 3 a0 (.i .i64 17) fun v1 => ifF o v1 (c 311 [a1] h fun v2 h => pk k v2 h <| k v2 h) (eqiF Pq o 3 a0 (.i .i64 18) fun v3 => ifF o v3 (c 312 [a1] h fun v4 h => pk k v4 h <| k v4 h) (c 250 [a1] h fun v5 h => pk k v5 h <| k v5 h))
theorem f283_ok : R Pq o c n b283 (kend Pq o c n w rs283 k) = fun t _ h => f283 o c n k (t 0) (t 1) h := by kernel_rfl
theorem f283_good : Good Pq (cfg mm) 283 (entF Pq (cfg mm) 283 2 fun α => f283) := entG b283 rs283 16 fun _ => f283_ok
noncomputable def b289 := bdy Tryz.f289
noncomputable def rs289 := Tryz.f289.results.toList
noncomputable def f289 {α : Type} (o : α) (c : Call' α) (n : Nat) (k : AV → Heap → α) (a0 a1 : AV) (h : Heap) : α :=
  boxF o a0 h h.next fun v1 h => loadNF o h 1 v1 fun v2 => c 118 [v2, a1] h fun v3 h => pk k v3 h <| geqF Pq o 3 v3 (.i .i64 0) fun v4 => ifF o v4 (faF o 0 v1 fun v5 => load1F o h v5 fun v6 => ixF o 4 v6 v3 fun v7 => loadNF o h 4 v7 fun v8 => k (.ifc 51 v8) h) (k .nifc h)
theorem f289_ok : R Pq o c n b289 (kend Pq o c n w rs289 k) = fun t _ h => f289 o c n k (t 0) (t 1) h := by kernel_rfl
theorem f289_good : Good Pq (cfg mm) 289 (entF Pq (cfg mm) 289 2 fun α => f289) := entG b289 rs289 17 fun _ => f289_ok
noncomputable def b292 := bdy Tryz.f292
noncomputable def rs292 := Tryz.f292.results.toList
noncomputable def f292_2 {α : Type} (o : α) (c : Call' α) (n : Nat) (k : AV → Heap → α) (s1 : AV) (h : Heap) : α :=
  loadNF o h 13 s1 fun v1 => c 318 [v1] h fun v2 h => pk k v2 h <| exF o v2 0 fun v3 => exF o v2 1 fun v4 => neiF Pq o 3 v4 (.i .i64 0) fun v5 => ifF o v5 (c 291 [v4] h fun v6 h => pk k v6 h <| k v6 h) (faF o 0 s1 fun v7 => loadNF o h 1 v7 fun v8 => faF o 4 s1 fun v9 => faF o 3 v9 fun v10 => load1F o h v10 fun v11 => c 319 [v8, v3, v11] h fun v12 h => pk k v12 h <| exF o v12 0 fun v13 => exF o v12 1 fun v14 => newF h h.next 2 [(.s 0 0), (.i .i64 0)] fun v15 h => storeF o h 2 v15 v13 fun h => notF o v14 fun v16 => ifF o v16 (c 291 [(.i .i64 10)] h fun v17 h => pk k v17 h <| k v17 h) (faF o 0 s1 fun v18 => loadNF o h 1 v18 fun v19 => loadNF o h 2 v15 fun v20 => c 320 [v19, v20] h fun v21 h => pk k v21 h <| exF o v21 0 fun v22 => exF o v21 1 fun v23 => newF h h.next 4 [(.b false), (.s 0 0), (.s 0 0), .nsl] fun v24 h => storeF o h 4 v24 v22 fun h => loadNF o h 13 s1 fun v25 => faF o 0 v24 fun v26 => load1F o h v26 fun v27 => c 321 [v25, v27] h fun v28 h => pk k v28 h <| notF o v28 fun v29 => ifF o v29 (c 291 [(.i .i64 13)] h fun v30 h => pk k v30 h <| k v30 h) (faF o 1 v24 fun v31 => load1F o h v31 fun v32 => loadNF o h 2 v15 fun v33 => layF o 0 v32 [(.s 0 0), (.s 0 0), (.i .i64 0), (.i .i64 0)] fun v34 => lay1 o 1 2 v33 v34 fun v35 => k (.ifc 267 (.agg v35)) h)))
theorem f292_2_ok : R Pq o c n (cB (cB b292)) (kend Pq o c n w rs292 k) = fun t _ h => f292_2 o c n k (t 1) h := by kernel_rfl
noncomputable def f292_3K : Ex → K α := (nxK (fun t _ h => f292_2 o c n k (t 1) h) (kend Pq o c n w rs292 k))
noncomputable def f292_5 (s1 s3 s23 : AV) (h : Heap) : α :=
  ifF o s23 (c 290 [s3] h fun v36 h => pk k v36 h <| k v36 h) (f292_2 o c n k s1 h)
theorem f292_5_ok : R Pq o c n (cB (cB (cA (cB b292)))) (f292_3K o c n k w) = fun t _ h => f292_5 o c n k (t 1) (t 3) (t 23) h := by kernel_rfl
noncomputable def f292_6K : Ex → K α := (nxK (fun t _ h => f292_5 o c n k (t 1) (t 3) (t 23) h) (f292_3K o c n k w))
noncomputable def f292_4 (s1 s3 : AV) (h : Heap) : α :=
  faF o 4 s1 fun v37 => faF o 0 v37 fun v38 => load1F o h v38 fun v39 => eqiF Pq o 3 v39 (.i .i64 6) fun v40 => bkF o true v40 (nesF Pq o 9 s3 (.s 0 0) fun v41 => pickF o v40 v41 (.b false) fun v42 => f292_5 o c n k s1 s3 v42 h) (pickF o v40 (.tup []) (.b false) fun v43 => f292_5 o c n k s1 s3 v43 h)
theorem f292_4_ok : R Pq o c n (cB (cA (cB b292))) (f292_3K o c n k w) = fun t _ h => f292_4 o c n k (t 1) (t 3) h := (kseq (f292_5_ok o c n k w) (r_start 5 (by kernel_rfl) (q_guard 5 7 (4, true) (by kernel_rfl) (by kernel_rfl) (by kernel_rfl) rfl))).tk
noncomputable def f292_1 (s1 : AV) (h : Heap) : α :=
  faF o 1 s1 fun v44 => loadNF o h 3 v44 fun v45 => faF o 4 s1 fun v46 => faF o 3 v46 fun v47 => load1F o h v47 fun v48 => c 317 [v45, v48] h fun v49 h => pk k v49 h <| f292_4 o c n k s1 v49 h
theorem f292_1_ok : R Pq o c n (cB b292) (kend Pq o c n w rs292 k) = fun t _ h => f292_1 o c n k (t 1) h := (kseq (f292_2_ok o c n k w) (kseq (f292_4_ok o c n k w) rfl)).tk
noncomputable def f292 (a0 : AV) (h : Heap) : α :=
  boxF o a0 h h.next fun v50 h => f292_1 o c n k v50 h
theorem f292_ok : R Pq o c n b292 (kend Pq o c n w rs292 k) = fun t _ h => f292 o c n k (t 0) h := (kseq (f292_1_ok o c n k w) rfl).tk
theorem f292_good : Good Pq (cfg mm) 292 (entF Pq (cfg mm) 292 1 fun α => f292) := entG b292 rs292 66 fun _ => f292_ok
noncomputable def b298 := bdy Tryz.f298
noncomputable def rs298 := Tryz.f298.results.toList
noncomputable def f298_3 {α : Type} (o : α) (c : Call' α) (n : Nat) (k : AV → Heap → α) (s0 : AV) (h : Heap) : α :=
  k s0 h
theorem f298_3_ok : R Pq o c n (cB (cB (cB b298))) (kend Pq o c n w rs298 k) = fun t _ h => f298_3 o c n k (t 0) h := by kernel_rfl
noncomputable def f298_2 (s0 s1 : AV) (h : Heap) : α :=
  capN o s0 fun v1 => lenF o s0 fun v2 => binA Pq o .sub 3 v1 v2 fun v3 => binA Pq o .sub 3 s1 v3 fun v4 => gtrF Pq o 3 v4 (.i .i64 0) fun v5 => ifF o v5 (capN o s0 fun v6 => slF Pq o 60 s0 none (some v6) fun v7 => appX Pq o h h.next 60 3 v7 v4 fun v8 h => lenF o s0 fun v9 => slF Pq o 60 v8 none (some v9) fun v10 => f298_3 o c n k v10 h) (f298_3 o c n k s0 h)
theorem f298_2_ok : R Pq o c n (cB (cB b298)) (kend Pq o c n w rs298 k) = fun t _ h => f298_2 o c n k (t 0) (t 1) h := (kseq (f298_3_ok o c n k w) rfl).tk
noncomputable def f298_1 (s0 s1 : AV) (h : Heap) : α :=
  lssF Pq o 3 s1 (.i .i64 0) fun v11 => ifF o v11 (panicA o (.ifc 9 (.s 18 8838634371626034279618351153450530198413667)) fun x => k x.pn h) (f298_2 o c n k s0 s1 h)
theorem f298_1_ok : R Pq o c n (cB b298) (kend Pq o c n w rs298 k) = fun t _ h => f298_1 o c n k (t 0) (t 1) h := (kseq (f298_2_ok o c n k w) rfl).tk
noncomputable def f298 (a0 a1 : AV) (h : Heap) : α :=
  f298_1 o c n k a0 a1 h
theorem f298_ok : R Pq o c n b298 (kend Pq o c n w rs298 k) = fun t _ h => f298 o c n k (t 0) (t 1) h := (kseq (f298_1_ok o c n k w) rfl).tk
theorem f298_good : Good Pq (cfg mm) 298 (entF Pq (cfg mm) 298 2 fun α => f298) := entG b298 rs298 27 fun _ => f298_ok
noncomputable def b305 := bdy Tryz.f305
noncomputable def rs305 := Tryz.f305.results.toList
noncomputable def f305 {α : Type} (o : α) (c : Call' α) (n : Nat) (k : AV → Heap → α) (a0 a1 : AV) (h : Heap) : α :=
  boxF o a0 h h.next fun v1 h => boxF o a1 h h.next fun v2 h => loadNF o h 1 v1 fun v3 => loadNF o h 2 v2 fun v4 => c 224 [v3, v4] h fun v5 h => pk k v5 h <| exF o v5 0 fun v6 => exF o v5 1 fun v7 => newF h h.next 6 [(.b false), (.b false), (.s 0 0), (.s 0 0), .nsl, .nsl] fun v8 h => storeF o h 6 v8 v6 fun h => loadNF o h 2 v2 fun v9 => loadNF o h 6 v8 fun v10 => lay1 o 0 2 v9 [(.s 0 0), (.i .i64 0), (.b false), (.b false), (.s 0 0), (.s 0 0), .nsl, .nsl] fun v11 => lay1 o 2 6 v10 v11 fun v12 => k (.ifc 293 (.agg v12)) h
theorem f305_ok : R Pq o c n b305 (kend Pq o c n w rs305 k) = fun t _ h => f305 o c n k (t 0) (t 1) h := by kernel_rfl
theorem f305_good : Good Pq (cfg mm) 305 (entF Pq (cfg mm) 305 2 fun α => f305) := entG b305 rs305 17 fun _ => f305_ok
noncomputable def b313 := bdy Tryz.f313
noncomputable def rs313 := Tryz.f313.results.toList
noncomputable def f313 {α : Type} (o : α) (c : Call' α) (n : Nat) (k : AV → Heap → α) (a0 : AV) (h : Heap) : α :=
  newF h h.next 7 [(.b false), (.b false), (.b false), (.b false), (.i .i64 0), (.i .i64 0), (.i .i64 0)] fun v1 h => mapA h h.next fun v2 h => layF o 3 (.b true) [(.b false), (.b false), (.b false), (.b false), (.i .i64 0), (.i .i64 0), (.i .i64 0)] fun v3 => layF o 2 (.b true) v3 fun v4 => layF o 4 (.i .i64 1) v4 fun v5 => layF o 5 (.i .i64 1) v5 fun v6 => insertN o h .i64 v2 (.i .i64 1) (.agg v6) fun h => layF o 4 (.i .i64 2) [(.b false), (.b false), (.b false), (.b false), (.i .i64 0), (.i .i64 0), (.i .i64 0)] fun v7 => layF o 5 (.i .i64 2) v7 fun v8 => insertN o h .i64 v2 (.i .i64 2) (.agg v8) fun h => layF o 4 (.i .i64 1) [(.b false), (.b false), (.b false), (.b false), (.i .i64 0), (.i .i64 0), (.i .i64 0)] fun v9 => layF o 5 (.i .i64 1) v9 fun v10 => insertN o h .i64 v2 (.i .i64 3) (.agg v10) fun h => layF o 4 (.i .i64 1) [(.b false), (.b false), (.b false), (.b false), (.i .i64 0), (.i .i64 0), (.i .i64 0)] fun v11 => layF o 5 (.i .i64 1) v11 fun v12 => layF o 6 (.i .i64 2) v12 fun v13 => insertN o h .i64 v2 (.i .i64 4) (.agg v13) fun h => layF o 4 (.i .i64 1) [(.b false), (.b false), (.b false), (.b false), (.i .i64 0), (.i .i64 0), (.i .i64 0)] fun v14 => layF o 5 (.i .i64 1) v14 fun v15 => layF o 6 (.i .i64 1) v15 fun v16 => insertN o h .i64 v2 (.i .i64 5) (.agg v16) fun h => layF o 5 (.i .i64 1) [(.b false), (.b false), (.b false), (.b false), (.i .i64 0), (.i .i64 0), (.i .i64 0)] fun v17 => insertN o h .i64 v2 (.i .i64 6) (.agg v17) fun h => layF o 4 (.i .i64 1) [(.b false), (.b false), (.b false), (.b false), (.i .i64 0), (.i .i64 0), (.i .i64 0)] fun v18 => layF o 5 (.i .i64 1) v18 fun v19 => insertN o h .i64 v2 (.i .i64 7) (.agg v19) fun h => layF o 0 (.b true) [(.b false), (.b false), (.b false), (.b false), (.i .i64 0), (.i .i64 0), (.i .i64 0)] fun v20 => layF o 4 (.i .i64 1) v20 fun v21 => layF o 5 (.i .i64 1) v21 fun v22 => insertN o h .i64 v2 (.i .i64 8) (.agg v22) fun h => layF o 4 (.i .i64 1) [(.b false), (.b false), (.b false), (.b false), (.i .i64 0), (.i .i64 0), (.i .i64 0)] fun v23 => layF o 5 (.i .i64 1) v23 fun v24 => insertN o h .i64 v2 (.i .i64 9) (.agg v24) fun h => layF o 3 (.b true) [(.b false), (.b false), (.b false), (.b false), (.i .i64 0), (.i .i64 0), (.i .i64 0)] fun v25 => layF o 2 (.b true) v25 fun v26 => layF o 6 (.i .i64 3) v26 fun v27 => insertN o h .i64 v2 (.i .i64 10) (.agg v27) fun h => layF o 5 (.i .i64 3000) [(.b false), (.b false), (.b false), (.b false), (.i .i64 0), (.i .i64 0), (.i .i64 0)] fun v28 => insertN o h .i64 v2 (.i .i64 11) (.agg v28) fun h => lookupN o h .i64 (some (.agg [(.b false), (.b false), (.b false), (.b false), (.i .i64 0), (.i .i64 0), (.i .i64 0)])) v2 a0 true fun v29 => exF o v29 0 fun v30 => exF o v29 1 fun v31 => newF h h.next 7 [(.b false), (.b false), (.b false), (.b false), (.i .i64 0), (.i .i64 0), (.i .i64 0)] fun v32 h => storeF o h 7 v32 v30 fun h => loadNF o h 7 v32 fun v33 => storeF o h 7 v1 v33 fun h => on o (resV Pq h [(v1, some 277), (v31, none)]) fun v => k v h
theorem f313_ok : R Pq o c n b313 (kend Pq o c n w rs313 k) = fun t _ h => f313 o c n k (t 0) h := by kernel_rfl
theorem f313_good : Good Pq (cfg mm) 313 (entF Pq (cfg mm) 313 1 fun α => f313) := entG b313 rs313 28 fun _ => f313_ok
noncomputable def b314 := bdy Tryz.f314
noncomputable def rs314 := Tryz.f314.results.toList
noncomputable def f314 {α : Type} (o : α) (c : Call' α) (n : Nat) (k : AV → Heap → α) (a0 a1 : AV) (h : Heap) : α :=
  boxF o a0 h h.next fun v1 h => loadNF o h 8 v1 fun v2 => load1F o h a1 fun v3 => c 253 [v2, v3] h fun v4 h => pk k v4 h <| notF o v4 fun v5 => k v5 h
theorem f314_ok : R Pq o c n b314 (kend Pq o c n w rs314 k) = fun t _ h => f314 o c n k (t 0) (t 1) h := by kernel_rfl
theorem f314_good : Good Pq (cfg mm) 314 (entF Pq (cfg mm) 314 2 fun α => f314) := entG b314 rs314 8 fun _ => f314_ok
noncomputable def b317 := bdy Tryz.f317
noncomputable def rs317 := Tryz.f317.results.toList
noncomputable def f317_2K : Ex → K α := (nxK (R Pq o c n (cB (cB b317)) (kend Pq o c n w rs317 k)) (kend Pq o c n w rs317 k))
noncomputable def f317_4 {α : Type} (o : α) (c : Call' α) (n : Nat) (k : AV → Heap → α) (m : Nat) : AVs (Heap → α) 3 :=
  Nat.rec (motive := fun _ => AVs (Heap → α) 3) (fun _ _ _ _ => o) (fun _ lp0 s1 s2 s5 h => geqF Pq o 3 s5 (.i .i64 0) fun v1 => ifF o v1 (faF o 2 s2 fun v2 => load1F o h v2 fun v3 => ixF o 2 v3 s5 fun v4 => faF o 1 v4 fun v5 => load1F o h v5 fun v6 => eqsF Pq o 9 v6 s1 fun v7 => ifF o v7 (faF o 2 s2 fun v8 => load1F o h v8 fun v9 => ixF o 2 v9 s5 fun v10 => faF o 0 v10 fun v11 => load1F o h v11 fun v12 => k v12 h) (binA Pq o .sub 3 s5 (.i .i64 1) fun v13 => lp0 s1 s2 v13 h)) (k (.s 0 0) h)) m
theorem f317_4_ok : R Pq o c n (cA (cB (cA (cB b317)))) (blockK (cI (cB (cA (cB b317)))) (f317_2K o c n k w)) = fun t _ h => f317_4 o c n k n (t 1) (t 2) (t 5) h :=
  c_loop (F := fun m t _ h => f317_4 o c n k m (t 1) (t 2) (t 5) h) (by kernel_rfl) (by kernel_rfl) fun m => by kernel_rfl
noncomputable def f317_3 (s1 s2 s5 : AV) (h : Heap) : α :=
  f317_4 o c n k n s1 s2 s5 h
theorem f317_3_ok : R Pq o c n (cB (cA (cB b317))) (f317_2K o c n k w) = fun t _ h => f317_3 o c n k (t 1) (t 2) (t 5) h := (kblk (f317_4_ok o c n k w)).tk
noncomputable def f317_1 (s1 s2 : AV) (h : Heap) : α :=
  faF o 2 s2 fun v14 => load1F o h v14 fun v15 => lenF o v15 fun v16 => binA Pq o .sub 3 v16 (.i .i64 1) fun v17 => f317_3 o c n k s1 s2 v17 h
theorem f317_1_ok : R Pq o c n (cB b317) (kend Pq o c n w rs317 k) = fun t _ h => f317_1 o c n k (t 1) (t 2) h := (kseq rfl (kseq (f317_3_ok o c n k w) rfl)).tk
noncomputable def f317 (a0 a1 : AV) (h : Heap) : α :=
  boxF o a0 h h.next fun v18 h => f317_1 o c n k a1 v18 h
theorem f317_ok : R Pq o c n b317 (kend Pq o c n w rs317 k) = fun t _ h => f317 o c n k (t 0) (t 1) h := (kseq (f317_1_ok o c n k w) rfl).tk
theorem f317_good : Good Pq (cfg mm) 317 (entF Pq (cfg mm) 317 2 fun α => f317) := entG b317 rs317 28 fun _ => f317_ok
end Go.Zev.Pn
