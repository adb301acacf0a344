/-
  Printed by zgen.py: clean forms.
-/
import Derived.Test.YtaoildofpnnaiaaGreatDoorG0
set_option linter.unusedVariables false
set_option maxRecDepth 20000
namespace Go.Zev.Cf
open Go Go.Zev Go.Proofs
variable {mm : FuncId → Option (List AV → Option AV)}
noncomputable def b176 := bdy Tryz.f176
noncomputable def rs176 := Tryz.f176.results.toList
variable {α : Type} (o : α) (c : Call' α) (n : Nat) (k : AV → Heap → α) (w : FuncId → Nat)
noncomputable def f176_3K : Ex → K α := (nxK (R Pq o c n (cB (cB (cB b176))) (kend Pq o c n w rs176 k)) (kend Pq o c n w rs176 k))
noncomputable def f176_2 {α : Type} (o : α) (c : Call' α) (n : Nat) (k : AV → Heap → α) (s1 : AV) (h : Heap) : α :=
  faF o 4 s1 fun v1 => load1F o h v1 fun v2 => c 189 [v2, (.fn (.func 246) [] [])] h fun v3 h => pk k v3 h <| notF o v3 fun v4 => bkF o true v4 (faF o 5 s1 fun v5 => load1F o h v5 fun v6 => faF o 1 s1 fun v7 => load1F o h v7 fun v8 => c 247 [v6, (.i .i64 1), v8] h fun v9 h => pk k v9 h <| pickF o v4 v9 (.b false) fun v10 => k v10 h) (pickF o v4 (.tup []) (.b false) fun v11 => k v11 h)
theorem f176_2_ok : R Pq o c n (cB (cB b176)) (kend Pq o c n w rs176 k) = fun t _ h => f176_2 o c n k (t 1) h := (kseq rfl (r_start 5 (by kernel_rfl) (q_guard 5 10 (4, true) (by kernel_rfl) (by kernel_rfl) (by kernel_rfl) rfl))).tk
noncomputable def f176_4K : Ex → K α := (nxK (fun t _ h => f176_2 o c n k (t 1) h) (kend Pq o c n w rs176 k))
noncomputable def f176_5 (s1 s46 : AV) (h : Heap) : α :=
  ifF o s46 (k (.b false) h) (f176_2 o c n k s1 h)
theorem f176_5_ok : R Pq o c n (cB (cA (cB b176))) (f176_4K o c n k w) = fun t _ h => f176_5 o c n k (t 1) (t 46) h := by kernel_rfl
noncomputable def f176_6K : Ex → K α := (nxK (fun t _ h => f176_5 o c n k (t 1) (t 46) h) (f176_4K o c n k w))
noncomputable def f176_18 (s1 s19 s39 : AV) (h : Heap) : α :=
  pickF o s19 (.b true) s39 fun v12 => bkF o false v12 (faF o 4 s1 fun v13 => load1F o h v13 fun v14 => lenF o v14 fun v15 => gtrF Pq o 3 v15 (.i .i64 6) fun v16 => pickF o v12 (.b true) v16 fun v17 => f176_5 o c n k s1 v17 h) (pickF o v12 (.b true) (.tup []) fun v18 => f176_5 o c n k s1 v18 h)
theorem f176_18_ok : Q Pq o c (cO (cA (cA (cB b176)))) (f176_6K o c n k w) 37 = fun t _ h => f176_18 o c n k (t 1) (t 19) (t 39) h := (q_seg 37 39 (by kernel_rfl) (q_guard 39 43 (38, false) (by kernel_rfl) (by kernel_rfl) (by kernel_rfl) rfl)).tk
noncomputable def f176_17 (s1 s19 s23 s38 : AV) (h : Heap) : α :=
  bkF o false s19 (pickF o s23 s38 (.b false) fun v19 => f176_18 o c n k s1 s19 v19 h) (f176_18 o c n k s1 s19 (.tup []) h)
theorem f176_17_ok : Q Pq o c (cO (cA (cA (cB b176)))) (f176_6K o c n k w) 36 = fun t _ h => f176_17 o c n k (t 1) (t 19) (t 23) (t 38) h := (q_seg 36 36 (by kernel_rfl) (q_guard 36 37 (16, false) (by kernel_rfl) (by kernel_rfl) (by kernel_rfl) (f176_18_ok o c n k w))).tk
noncomputable def f176_16 (s1 s19 s23 s33 s37 : AV) (h : Heap) : α :=
  bkF o true s23 (pickF o s33 (.b true) s37 fun v20 => f176_17 o c n k s1 s19 s23 v20 h) (f176_17 o c n k s1 s19 s23 (.tup []) h)
theorem f176_16_ok : Q Pq o c (cO (cA (cA (cB b176)))) (f176_6K o c n k w) 35 = fun t _ h => f176_16 o c n k (t 1) (t 19) (t 23) (t 33) (t 37) h := (q_seg 35 35 (by kernel_rfl) (q_guard 35 36 (20, true) (by kernel_rfl) (by kernel_rfl) (by kernel_rfl) (f176_17_ok o c n k w))).tk
noncomputable def f176_15 (s1 s19 s23 s33 : AV) (h : Heap) : α :=
  bkF o false s33 (faF o 3 s1 fun v21 => load1F o h v21 fun v22 => c 242 [v22] h fun v23 h => pk k v23 h <| notF o v23 fun v24 => f176_16 o c n k s1 s19 s23 s33 v24 h) (f176_16 o c n k s1 s19 s23 s33 (.tup []) h)
theorem f176_15_ok : Q Pq o c (cO (cA (cA (cB b176)))) (f176_6K o c n k w) 31 = fun t _ h => f176_15 o c n k (t 1) (t 19) (t 23) (t 33) h := (q_seg 31 31 (by kernel_rfl) (q_guard 31 35 (30, false) (by kernel_rfl) (by kernel_rfl) (by kernel_rfl) (f176_16_ok o c n k w))).tk
noncomputable def f176_14 (s1 s19 s23 s28 s31 : AV) (h : Heap) : α :=
  bkF o true s23 (pickF o s28 s31 (.b false) fun v25 => f176_15 o c n k s1 s19 s23 v25 h) (f176_15 o c n k s1 s19 s23 (.tup []) h)
theorem f176_14_ok : Q Pq o c (cO (cA (cA (cB b176)))) (f176_6K o c n k w) 29 = fun t _ h => f176_14 o c n k (t 1) (t 19) (t 23) (t 28) (t 31) h := (q_seg 29 29 (by kernel_rfl) (q_guard 29 31 (20, true) (by kernel_rfl) (by kernel_rfl) (by kernel_rfl) (f176_15_ok o c n k w))).tk
noncomputable def f176_13 (s1 s19 s23 s28 : AV) (h : Heap) : α :=
  bkF o true s28 (faF o 2 s1 fun v26 => load1F o h v26 fun v27 => nesF Pq o 9 v27 (.s 4 1684631414) fun v28 => f176_14 o c n k s1 s19 s23 s28 v28 h) (f176_14 o c n k s1 s19 s23 s28 (.tup []) h)
theorem f176_13_ok : Q Pq o c (cO (cA (cA (cB b176)))) (f176_6K o c n k w) 26 = fun t _ h => f176_13 o c n k (t 1) (t 19) (t 23) (t 28) h := (q_seg 26 26 (by kernel_rfl) (q_guard 26 29 (25, true) (by kernel_rfl) (by kernel_rfl) (by kernel_rfl) (f176_14_ok o c n k w))).tk
noncomputable def f176_12 (s1 s19 s23 : AV) (h : Heap) : α :=
  bkF o true s23 (faF o 2 s1 fun v29 => load1F o h v29 fun v30 => c 241 [v30] h fun v31 h => pk k v31 h <| notF o v31 fun v32 => f176_13 o c n k s1 s19 s23 v32 h) (f176_13 o c n k s1 s19 s23 (.tup []) h)
theorem f176_12_ok : Q Pq o c (cO (cA (cA (cB b176)))) (f176_6K o c n k w) 21 = fun t _ h => f176_12 o c n k (t 1) (t 19) (t 23) h := (q_seg 21 21 (by kernel_rfl) (q_guard 21 26 (20, true) (by kernel_rfl) (by kernel_rfl) (by kernel_rfl) (f176_13_ok o c n k w))).tk
noncomputable def f176_11 (s1 s5 s17 : AV) (h : Heap) : α :=
  pickF o s5 s17 (.b false) fun v33 => bkF o false v33 (faF o 1 s1 fun v34 => load1F o h v34 fun v35 => notF o v35 fun v36 => f176_12 o c n k s1 v33 v36 h) (f176_12 o c n k s1 v33 (.tup []) h)
theorem f176_11_ok : Q Pq o c (cO (cA (cA (cB b176)))) (f176_6K o c n k w) 15 = fun t _ h => f176_11 o c n k (t 1) (t 5) (t 17) h := (q_seg 15 17 (by kernel_rfl) (q_guard 17 21 (16, false) (by kernel_rfl) (by kernel_rfl) (by kernel_rfl) (f176_12_ok o c n k w))).tk
noncomputable def f176_10 (s1 s5 s13 s16 : AV) (h : Heap) : α :=
  bkF o true s5 (pickF o s13 (.b true) s16 fun v37 => f176_11 o c n k s1 s5 v37 h) (f176_11 o c n k s1 s5 (.tup []) h)
theorem f176_10_ok : Q Pq o c (cO (cA (cA (cB b176)))) (f176_6K o c n k w) 14 = fun t _ h => f176_10 o c n k (t 1) (t 5) (t 13) (t 16) h := (q_seg 14 14 (by kernel_rfl) (q_guard 14 15 (2, true) (by kernel_rfl) (by kernel_rfl) (by kernel_rfl) (f176_11_ok o c n k w))).tk
noncomputable def f176_9 (s1 s5 s13 : AV) (h : Heap) : α :=
  bkF o false s13 (faF o 3 s1 fun v38 => load1F o h v38 fun v39 => nesF Pq o 9 v39 (.s 0 0) fun v40 => f176_10 o c n k s1 s5 s13 v40 h) (f176_10 o c n k s1 s5 s13 (.tup []) h)
theorem f176_9_ok : Q Pq o c (cO (cA (cA (cB b176)))) (f176_6K o c n k w) 11 = fun t _ h => f176_9 o c n k (t 1) (t 5) (t 13) h := (q_seg 11 11 (by kernel_rfl) (q_guard 11 14 (10, false) (by kernel_rfl) (by kernel_rfl) (by kernel_rfl) (f176_10_ok o c n k w))).tk
noncomputable def f176_8 (s1 s5 s8 s11 : AV) (h : Heap) : α :=
  bkF o true s5 (pickF o s8 (.b true) s11 fun v41 => f176_9 o c n k s1 s5 v41 h) (f176_9 o c n k s1 s5 (.tup []) h)
theorem f176_8_ok : Q Pq o c (cO (cA (cA (cB b176)))) (f176_6K o c n k w) 9 = fun t _ h => f176_8 o c n k (t 1) (t 5) (t 8) (t 11) h := (q_seg 9 9 (by kernel_rfl) (q_guard 9 11 (2, true) (by kernel_rfl) (by kernel_rfl) (by kernel_rfl) (f176_9_ok o c n k w))).tk
noncomputable def f176_7 (s1 s5 s8 : AV) (h : Heap) : α :=
  bkF o false s8 (faF o 2 s1 fun v42 => load1F o h v42 fun v43 => nesF Pq o 9 v43 (.s 0 0) fun v44 => f176_8 o c n k s1 s5 s8 v44 h) (f176_8 o c n k s1 s5 s8 (.tup []) h)
theorem f176_7_ok : Q Pq o c (cO (cA (cA (cB b176)))) (f176_6K o c n k w) 6 = fun t _ h => f176_7 o c n k (t 1) (t 5) (t 8) h := (q_seg 6 6 (by kernel_rfl) (q_guard 6 9 (5, false) (by kernel_rfl) (by kernel_rfl) (by kernel_rfl) (f176_8_ok o c n k w))).tk
noncomputable def f176_1 (s1 : AV) (h : Heap) : α :=
  faF o 1 s1 fun v45 => load1F o h v45 fun v46 => bkF o true v46 (faF o 0 s1 fun v47 => load1F o h v47 fun v48 => f176_7 o c n k s1 v46 v48 h) (f176_7 o c n k s1 v46 (.tup []) h)
theorem f176_1_ok : R Pq o c n (cB b176) (kend Pq o c n w rs176 k) = fun t _ h => f176_1 o c n k (t 1) h := (kseq (f176_2_ok o c n k w) (kseq (f176_5_ok o c n k w) (r_start 3 (by kernel_rfl) (q_guard 3 6 (2, true) (by kernel_rfl) (by kernel_rfl) (by kernel_rfl) (f176_7_ok o c n k w))))).tk
noncomputable def f176 (a0 : AV) (h : Heap) : α :=
  boxF o a0 h h.next fun v49 h => f176_1 o c n k v49 h
theorem f176_ok : R Pq o c n b176 (kend Pq o c n w rs176 k) = fun t _ h => f176 o c n k (t 0) h := (kseq (f176_1_ok o c n k w) rfl).tk
theorem f176_good : Good Pq (cfg mm) 176 (entF Pq (cfg mm) 176 1 fun α => f176) := entG b176 rs176 58 fun _ => f176_ok
noncomputable def b177 := bdy Tryz.f177
noncomputable def rs177 := Tryz.f177.results.toList
noncomputable def f177_2K : Ex → K α := (nxK (R Pq o c n (cB (cB b177)) (kend Pq o c n w rs177 k)) (kend Pq o c n w rs177 k))
noncomputable def f177_1 {α : Type} (o : α) (c : Call' α) (n : Nat) (k : AV → Heap → α) (s0 : AV) (h : Heap) : α :=
  c 248 [s0, (.fn (.func 249) [] [])] h fun v1 h => pk k v1 h <| bkF o true v1 (nesF Pq o 9 s0 (.s 6 113723913172051) fun v2 => pickF o v1 v2 (.b false) fun v3 => k v3 h) (pickF o v1 (.tup []) (.b false) fun v4 => k v4 h)
theorem f177_1_ok : R Pq o c n (cB b177) (kend Pq o c n w rs177 k) = fun t _ h => f177_1 o c n k (t 0) h := (kseq rfl (r_start 3 (by kernel_rfl) (q_guard 3 5 (2, true) (by kernel_rfl) (by kernel_rfl) (by kernel_rfl) rfl))).tk
noncomputable def f177 (a0 : AV) (h : Heap) : α :=
  f177_1 o c n k a0 h
theorem f177_ok : R Pq o c n b177 (kend Pq o c n w rs177 k) = fun t _ h => f177 o c n k (t 0) h := (kseq (f177_1_ok o c n k w) rfl).tk
theorem f177_good : Good Pq (cfg mm) 177 (entF Pq (cfg mm) 177 1 fun α => f177) := entG b177 rs177 9 fun _ => f177_ok
noncomputable def b178 := bdy Tryz.f178
noncomputable def rs178 := Tryz.f178.results.toList
noncomputable def f178_3K : Ex → K α := (nxK (R Pq o c n (cB (cB (cB b178))) (kend Pq o c n w rs178 k)) (kend Pq o c n w rs178 k))
noncomputable def f178_5 {α : Type} (o : α) (c : Call' α) (n : Nat) (k : AV → Heap → α) (m : Nat) : AVs (Heap → α) 4 :=
  Nat.rec (motive := fun _ => AVs (Heap → α) 4) (fun _ _ _ _ _ => o) (fun _ lp0 s3 s6 s7 s8 h => lssF Pq o 3 s8 s7 fun v1 => ifF o v1 (ixF o 8 s6 s8 fun v2 => loadNF o h 8 v2 fun v3 => newF h h.next 8 [(.i .i64 0), (.i .i32 0), (.s 0 0), (.s 0 0), (.s 0 0), .nsl, (.s 0 0), (.i .i64 0)] fun v4 h => storeF o h 8 v4 v3 fun h => loadNF o h 8 v4 fun v5 => c 250 [v5] h fun v6 h => pk k v6 h <| addF Pq o 3 s3 v6 fun v7 => addF Pq o 3 s8 (.i .i64 1) fun v8 => lp0 v7 s6 s7 v8 h) (k s3 h)) m
theorem f178_5_ok : R Pq o c n (cA (cB (cA (cB (cB b178))))) (blockK (cI (cB (cA (cB (cB b178))))) (f178_3K o c n k w)) = fun t _ h => f178_5 o c n k n (t 3) (t 6) (t 7) (t 8) h :=
  c_loop (F := fun m t _ h => f178_5 o c n k m (t 3) (t 6) (t 7) (t 8) h) (by kernel_rfl) (by kernel_rfl) fun m => by kernel_rfl
noncomputable def f178_4 (s3 s6 s7 s8 : AV) (h : Heap) : α :=
  f178_5 o c n k n s3 s6 s7 s8 h
theorem f178_4_ok : R Pq o c n (cB (cA (cB (cB b178)))) (f178_3K o c n k w) = fun t _ h => f178_4 o c n k (t 3) (t 6) (t 7) (t 8) h := (kblk (f178_5_ok o c n k w)).tk
noncomputable def f178_2 (s0 s3 : AV) (h : Heap) : α :=
  lenF o s0 fun v9 => f178_4 o c n k s3 s0 v9 (.i .i64 0) h
theorem f178_2_ok : R Pq o c n (cB (cB b178)) (kend Pq o c n w rs178 k) = fun t _ h => f178_2 o c n k (t 0) (t 3) h := (kseq rfl (kseq (f178_4_ok o c n k w) rfl)).tk
noncomputable def f178_1 (s0 : AV) (h : Heap) : α :=
  f178_2 o c n k s0 (.i .i64 0) h
theorem f178_1_ok : R Pq o c n (cB b178) (kend Pq o c n w rs178 k) = fun t _ h => f178_1 o c n k (t 0) h := (kseq (f178_2_ok o c n k w) rfl).tk
noncomputable def f178 (a0 : AV) (h : Heap) : α :=
  f178_1 o c n k a0 h
theorem f178_ok : R Pq o c n b178 (kend Pq o c n w rs178 k) = fun t _ h => f178 o c n k (t 0) h := (kseq (f178_1_ok o c n k w) rfl).tk
theorem f178_good : Good Pq (cfg mm) 178 (entF Pq (cfg mm) 178 1 fun α => f178) := entG b178 rs178 18 fun _ => f178_ok
noncomputable def b179 := bdy Tryz.f179
noncomputable def rs179 := Tryz.f179.results.toList
noncomputable def f179_3K : Ex → K α := (nxK (R Pq o c n (cB (cB (cB b179))) (kend Pq o c n w rs179 k)) (kend Pq o c n w rs179 k))
noncomputable def f179_6K (lp0 : AVs (Heap → α) 4) : Ex → K α := (nxK (fun t _ h => lp0 (t 3) (t 6) (t 7) (t 8) h) (blockK (cI (cB (cA (cB (cB b179))))) (f179_3K o c n k w)))
noncomputable def f179_9K (lp0 : AVs (Heap → α) 4) : Ex → K α := (nxK (R Pq o c n (cB (cB (cB (cA (cA (cB (cA (cB (cB b179))))))))) (f179_6K o c n k w lp0)) (f179_6K o c n k w lp0))
noncomputable def f179_14 {α : Type} (o : α) (c : Call' α) (n : Nat) (k : AV → Heap → α) (lp0 : AVs (Heap → α) 4) (base : Nat) (s6 s7 s8 s25 s28 : AV) (h : Heap) : α :=
  addF Pq o 3 s25 s28 fun v1 => hb h.shut fun h => addF Pq o 3 s8 (.i .i64 1) fun v2 => lp0 v1 s6 s7 v2 h
theorem f179_14_ok (lp0 : AVs (Heap → α) 4) (base : Nat) : QD Pq o c (cO (cB (cA (cA (cB (cB (cA (cA (cB (cA (cB (cB b179)))))))))))) base ((blockK (cI (cA (cB (cB (cA (cA (cB (cA (cB (cB b179)))))))))) (f179_9K o c n k w lp0))) 17 = fun t _ h => f179_14 o c n k lp0 base (t 6) (t 7) (t 8) (t 25) (t 28) h := by kernel_rfl
noncomputable def f179_13 (lp0 : AVs (Heap → α) 4) (base : Nat) (s5 s6 s7 s8 s21 s24 : AV) (h : Heap) : α :=
  addF Pq o 3 s21 s24 fun v3 => faF o 7 s5 fun v4 => rootF o v4 s5 <| load1F o (h.look 16384) v4 fun v5 => callD o c [] 179 [v5] (h.look 0) fun v6 h => pnF v6 (fun x => hb h.shut fun hd => k x.pn hd) <| f179_14 o c n k lp0 base s6 s7 s8 v3 v6 h
theorem f179_13_ok (lp0 : AVs (Heap → α) 4) (base : Nat) : QD Pq o c (cO (cB (cA (cA (cB (cB (cA (cA (cB (cA (cB (cB b179)))))))))))) base ((blockK (cI (cA (cB (cB (cA (cA (cB (cA (cB (cB b179)))))))))) (f179_9K o c n k w lp0))) 13 = fun t _ h => f179_13 o c n k lp0 base (t 5) (t 6) (t 7) (t 8) (t 21) (t 24) h := (qd_seg 13 17 (by kernel_rfl) (f179_14_ok o c n k w lp0 base)).tk
noncomputable def f179_12 (lp0 : AVs (Heap → α) 4) (base : Nat) (s5 s6 s7 s8 s17 s20 : AV) (h : Heap) : α :=
  addF Pq o 3 s17 s20 fun v7 => faF o 6 s5 fun v8 => rootF o v8 s5 <| load1F o (h.look 1024) v8 fun v9 => callD o c (hidD false [(.fn (.func 179) [] []), v9] [] (sBlk s5 [])) 179 [v9] (h.look 0) fun v10 h => pnF v10 (fun x => hb h.shut fun hd => faF o 7 s5 fun v11 => rootF o v11 s5 <| load1F o (h.look 16384) v11 fun v12 => k x.pn hd) <| f179_13 o c n k lp0 base s5 s6 s7 s8 v7 v10 h
theorem f179_12_ok (lp0 : AVs (Heap → α) 4) (base : Nat) : QD Pq o c (cO (cB (cA (cA (cB (cB (cA (cA (cB (cA (cB (cB b179)))))))))))) base ((blockK (cI (cA (cB (cB (cA (cA (cB (cA (cB (cB b179)))))))))) (f179_9K o c n k w lp0))) 9 = fun t _ h => f179_12 o c n k lp0 base (t 5) (t 6) (t 7) (t 8) (t 17) (t 20) h := (qd_seg 9 13 (by kernel_rfl) (f179_13_ok o c n k w lp0 base)).tk
noncomputable def f179_11 (lp0 : AVs (Heap → α) 4) (base : Nat) (s5 s6 s7 s8 s13 s16 : AV) (h : Heap) : α :=
  addF Pq o 3 s13 s16 fun v13 => faF o 5 s5 fun v14 => rootF o v14 s5 <| load1F o (h.look 64) v14 fun v15 => callD o c (hidD false [(.fn (.func 179) [] []), v15] [] (sBlk s5 (sBlk s5 []))) 179 [v15] (h.look 0) fun v16 h => pnF v16 (fun x => hb h.shut fun hd => faF o 6 s5 fun v17 => rootF o v17 s5 <| load1F o (h.look 1024) v17 fun v18 => faF o 7 s5 fun v19 => rootF o v19 s5 <| load1F o (h.look 16384) v19 fun v20 => k x.pn hd) <| f179_12 o c n k lp0 base s5 s6 s7 s8 v13 v16 h
theorem f179_11_ok (lp0 : AVs (Heap → α) 4) (base : Nat) : QD Pq o c (cO (cB (cA (cA (cB (cB (cA (cA (cB (cA (cB (cB b179)))))))))))) base ((blockK (cI (cA (cB (cB (cA (cA (cB (cA (cB (cB b179)))))))))) (f179_9K o c n k w lp0))) 5 = fun t _ h => f179_11 o c n k lp0 base (t 5) (t 6) (t 7) (t 8) (t 13) (t 16) h := (qd_seg 5 9 (by kernel_rfl) (f179_12_ok o c n k w lp0 base)).tk
noncomputable def f179_10 (lp0 : AVs (Heap → α) 4) (s3 s5 s6 s7 s8 : AV) (h : Heap) : α :=
  dreg o h 19 fun base h => addF Pq o 3 s3 (.i .i64 1) fun v21 => faF o 4 s5 fun v22 => rootF o v22 s5 <| load1F o (h.look 4) v22 fun v23 => callD o c (hidD false [(.fn (.func 178) [] []), v23] [] (sBlk s5 (sBlk s5 (sBlk s5 [])))) 178 [v23] (h.look 0) fun v24 h => pnF v24 (fun x => hb h.shut fun hd => faF o 5 s5 fun v25 => rootF o v25 s5 <| load1F o (h.look 64) v25 fun v26 => faF o 6 s5 fun v27 => rootF o v27 s5 <| load1F o (h.look 1024) v27 fun v28 => faF o 7 s5 fun v29 => rootF o v29 s5 <| load1F o (h.look 16384) v29 fun v30 => k x.pn hd) <| f179_11 o c n k lp0 base s5 s6 s7 s8 v21 v24 h
theorem f179_10_ok (lp0 : AVs (Heap → α) 4) : R Pq o c n (cB (cA (cA (cB (cB (cA (cA (cB (cA (cB (cB b179))))))))))) (blockK (cI (cA (cB (cB (cA (cA (cB (cA (cB (cB b179)))))))))) (f179_9K o c n k w lp0)) = fun t _ h => f179_10 o c n k lp0 (t 3) (t 5) (t 6) (t 7) (t 8) h := (r_startD 5 (by kernel_rfl) (by kernel_rfl) (X := fun base => fun t _ h => f179_11 o c n k lp0 base (t 5) (t 6) (t 7) (t 8) (t 13) (t 16) h) (fun base => f179_11_ok o c n k w lp0 base)).tk
noncomputable def f179_8 (lp0 : AVs (Heap → α) 4) (s3 s6 s7 s8 : AV) (h : Heap) : α :=
  ixF o 9 s6 s8 fun v31 => loadNF o h 9 v31 fun v32 => newF h h.next 9 [(.i .i64 0), (.i .i32 0), (.s 0 0), (.s 0 0), .nsl, .nsl, .nsl, .nsl, (.i .i64 0)] fun v33 h => storeF o h 9 v33 v32 fun h => f179_10 o c n k lp0 s3 v33 s6 s7 s8 h
theorem f179_8_ok (lp0 : AVs (Heap → α) 4) : R Pq o c n (cB (cB (cA (cA (cB (cA (cB (cB b179)))))))) (f179_6K o c n k w lp0) = fun t _ h => f179_8 o c n k lp0 (t 3) (t 6) (t 7) (t 8) h := (kseq rfl (kblk (kseq (f179_10_ok o c n k w lp0) rfl))).tk
noncomputable def f179_7 (lp0 : AVs (Heap → α) 4) (s3 s6 s7 s8 s9 : AV) (h : Heap) : α :=
  ifF o s9 (f179_8 o c n k lp0 s3 s6 s7 s8 h) (k s3 h)
theorem f179_7_ok (lp0 : AVs (Heap → α) 4) : R Pq o c n (cB (cA (cA (cB (cA (cB (cB b179))))))) (f179_6K o c n k w lp0) = fun t _ h => f179_7 o c n k lp0 (t 3) (t 6) (t 7) (t 8) (t 9) h := (kseq (f179_8_ok o c n k w lp0) rfl).tk
noncomputable def f179_5 (m : Nat) : AVs (Heap → α) 4 :=
  Nat.rec (motive := fun _ => AVs (Heap → α) 4) (fun _ _ _ _ _ => o) (fun _ lp0 s3 s6 s7 s8 h => lssF Pq o 3 s8 s7 fun v34 => f179_7 o c n k lp0 s3 s6 s7 s8 v34 h) m
theorem f179_5_ok : R Pq o c n (cA (cB (cA (cB (cB b179))))) (blockK (cI (cB (cA (cB (cB b179))))) (f179_3K o c n k w)) = fun t _ h => f179_5 o c n k n (t 3) (t 6) (t 7) (t 8) h :=
  c_loop (F := fun m t _ h => f179_5 o c n k m (t 3) (t 6) (t 7) (t 8) h) (by kernel_rfl) (by kernel_rfl) fun m => (kseq (f179_7_ok o c n k w (f179_5 o c n k m)) rfl).tk
noncomputable def f179_4 (s3 s6 s7 s8 : AV) (h : Heap) : α :=
  f179_5 o c n k n s3 s6 s7 s8 h
theorem f179_4_ok : R Pq o c n (cB (cA (cB (cB b179)))) (f179_3K o c n k w) = fun t _ h => f179_4 o c n k (t 3) (t 6) (t 7) (t 8) h := (kblk (f179_5_ok o c n k w)).tk
noncomputable def f179_2 (s0 s3 : AV) (h : Heap) : α :=
  lenF o s0 fun v35 => f179_4 o c n k s3 s0 v35 (.i .i64 0) h
theorem f179_2_ok : R Pq o c n (cB (cB b179)) (kend Pq o c n w rs179 k) = fun t _ h => f179_2 o c n k (t 0) (t 3) h := (kseq rfl (kseq (f179_4_ok o c n k w) rfl)).tk
noncomputable def f179_1 (s0 : AV) (h : Heap) : α :=
  f179_2 o c n k s0 (.i .i64 0) h
theorem f179_1_ok : R Pq o c n (cB b179) (kend Pq o c n w rs179 k) = fun t _ h => f179_1 o c n k (t 0) h := (kseq (f179_2_ok o c n k w) rfl).tk
noncomputable def f179 (a0 : AV) (h : Heap) : α :=
  f179_1 o c n k a0 h
theorem f179_ok : R Pq o c n b179 (kend Pq o c n w rs179 k) = fun t _ h => f179 o c n k (t 0) h := (kseq (f179_1_ok o c n k w) rfl).tk
theorem f179_good : Good Pq (cfg mm) 179 (entF Pq (cfg mm) 179 1 fun α => f179) := entG b179 rs179 32 fun _ => f179_ok
noncomputable def b180 := bdy Tryz.f180
noncomputable def rs180 := Tryz.f180.results.toList
noncomputable def f180_2K : Ex → K α := (nxK (R Pq o c n (cB (cB b180)) (kend Pq o c n w rs180 k)) (kend Pq o c n w rs180 k))
noncomputable def f180_4 {α : Type} (o : α) (c : Call' α) (n : Nat) (k : AV → Heap → α) (m : Nat) : AVs (Heap → α) 4 :=
  Nat.rec (motive := fun _ => AVs (Heap → α) 4) (fun _ _ _ _ _ => o) (fun _ lp0 s0 s1 s7 s8 h => lssF Pq o 3 s8 s7 fun v1 => ifF o v1 (ixF o 4 s0 s8 fun v2 => loadNF o h 4 v2 fun v3 => cfF o s1 [v3] c h fun v4 h => pk k v4 h <| ifF o v4 (k s8 h) (addF Pq o 3 s8 (.i .i64 1) fun v5 => lp0 s0 s1 s7 v5 h)) (k (.i .i64 (-1)) h)) m
theorem f180_4_ok : R Pq o c n (cA (cB (cA (cB b180)))) (blockK (cI (cB (cA (cB b180)))) (f180_2K o c n k w)) = fun t _ h => f180_4 o c n k n (t 0) (t 1) (t 7) (t 8) h :=
  c_loop (F := fun m t _ h => f180_4 o c n k m (t 0) (t 1) (t 7) (t 8) h) (by kernel_rfl) (by kernel_rfl) fun m => by kernel_rfl
noncomputable def f180_3 (s0 s1 s7 s8 : AV) (h : Heap) : α :=
  f180_4 o c n k n s0 s1 s7 s8 h
theorem f180_3_ok : R Pq o c n (cB (cA (cB b180))) (f180_2K o c n k w) = fun t _ h => f180_3 o c n k (t 0) (t 1) (t 7) (t 8) h := (kblk (f180_4_ok o c n k w)).tk
noncomputable def f180_1 (s0 s1 : AV) (h : Heap) : α :=
  lenF o s0 fun v6 => f180_3 o c n k s0 s1 v6 (.i .i64 0) h
theorem f180_1_ok : R Pq o c n (cB b180) (kend Pq o c n w rs180 k) = fun t _ h => f180_1 o c n k (t 0) (t 1) h := (kseq rfl (kseq (f180_3_ok o c n k w) rfl)).tk
noncomputable def f180 (a0 a1 : AV) (h : Heap) : α :=
  f180_1 o c n k a0 a1 h
theorem f180_ok : R Pq o c n b180 (kend Pq o c n w rs180 k) = fun t _ h => f180 o c n k (t 0) (t 1) h := (kseq (f180_1_ok o c n k w) rfl).tk
theorem f180_good : Good Pq (cfg mm) 180 (entF Pq (cfg mm) 180 2 fun α => f180) := entG b180 rs180 19 fun _ => f180_ok
noncomputable def b181 := bdy Tryz.f181
noncomputable def rs181 := Tryz.f181.results.toList
noncomputable def f181 {α : Type} (o : α) (c : Call' α) (n : Nat) (k : AV → Heap → α) (a0 a1 : AV) (h : Heap) : α :=
  boxF o a0 h h.next fun v1 h => faF o 0 v1 fun v2 => load1F o h v2 fun v3 => load1F o h a1 fun v4 => eqsF Pq o 9 v3 v4 fun v5 => k v5 h
theorem f181_ok : R Pq o c n b181 (kend Pq o c n w rs181 k) = fun t _ h => f181 o c n k (t 0) (t 1) h := by kernel_rfl
theorem f181_good : Good Pq (cfg mm) 181 (entF Pq (cfg mm) 181 2 fun α => f181) := entG b181 rs181 8 fun _ => f181_ok
noncomputable def b182 := bdy Tryz.f182
noncomputable def rs182 := Tryz.f182.results.toList
noncomputable def f182_2K : Ex → K α := (nxK (R Pq o c n (cB (cB b182)) (kend Pq o c n w rs182 k)) (kend Pq o c n w rs182 k))
noncomputable def f182_4 {α : Type} (o : α) (c : Call' α) (n : Nat) (k : AV → Heap → α) (m : Nat) : AVs (Heap → α) 4 :=
  Nat.rec (motive := fun _ => AVs (Heap → α) 4) (fun _ _ _ _ _ => o) (fun _ lp0 s0 s1 s7 s8 h => lssF Pq o 3 s8 s7 fun v1 => ifF o v1 (ixF o 4 s0 s8 fun v2 => loadNF o h 4 v2 fun v3 => cfF o s1 [v3] c h fun v4 h => pk k v4 h <| ifF o v4 (k s8 h) (addF Pq o 3 s8 (.i .i64 1) fun v5 => lp0 s0 s1 s7 v5 h)) (k (.i .i64 (-1)) h)) m
theorem f182_4_ok : R Pq o c n (cA (cB (cA (cB b182)))) (blockK (cI (cB (cA (cB b182)))) (f182_2K o c n k w)) = fun t _ h => f182_4 o c n k n (t 0) (t 1) (t 7) (t 8) h :=
  c_loop (F := fun m t _ h => f182_4 o c n k m (t 0) (t 1) (t 7) (t 8) h) (by kernel_rfl) (by kernel_rfl) fun m => by kernel_rfl
noncomputable def f182_3 (s0 s1 s7 s8 : AV) (h : Heap) : α :=
  f182_4 o c n k n s0 s1 s7 s8 h
theorem f182_3_ok : R Pq o c n (cB (cA (cB b182))) (f182_2K o c n k w) = fun t _ h => f182_3 o c n k (t 0) (t 1) (t 7) (t 8) h := (kblk (f182_4_ok o c n k w)).tk
noncomputable def f182_1 (s0 s1 : AV) (h : Heap) : α :=
  lenF o s0 fun v6 => f182_3 o c n k s0 s1 v6 (.i .i64 0) h
theorem f182_1_ok : R Pq o c n (cB b182) (kend Pq o c n w rs182 k) = fun t _ h => f182_1 o c n k (t 0) (t 1) h := (kseq rfl (kseq (f182_3_ok o c n k w) rfl)).tk
noncomputable def f182 (a0 a1 : AV) (h : Heap) : α :=
  f182_1 o c n k a0 a1 h
theorem f182_ok : R Pq o c n b182 (kend Pq o c n w rs182 k) = fun t _ h => f182 o c n k (t 0) (t 1) h := (kseq (f182_1_ok o c n k w) rfl).tk
theorem f182_good : Good Pq (cfg mm) 182 (entF Pq (cfg mm) 182 2 fun α => f182) := entG b182 rs182 19 fun _ => f182_ok
noncomputable def b183 := bdy Tryz.f183
noncomputable def rs183 := Tryz.f183.results.toList
noncomputable def f183 {α : Type} (o : α) (c : Call' α) (n : Nat) (k : AV → Heap → α) (a0 a1 : AV) (h : Heap) : α :=
  boxF o a0 h h.next fun v1 h => loadNF o h 1 v1 fun v2 => c 251 [v2, a1] h fun v3 h => pk k v3 h <| assertA Pq o v3 51 true fun v4 => exF o v4 0 fun v5 => exF o v4 1 fun v6 => newF h h.next 4 [(.s 0 0), (.s 0 0), .nsl, .nsl] fun v7 h => storeF o h 4 v7 v5 fun h => notF o v6 fun v8 => ifF o v8 (k .nsl h) (faF o 2 v7 fun v9 => load1F o h v9 fun v10 => k v10 h)
theorem f183_ok : R Pq o c n b183 (kend Pq o c n w rs183 k) = fun t _ h => f183 o c n k (t 0) (t 1) h := by kernel_rfl
theorem f183_good : Good Pq (cfg mm) 183 (entF Pq (cfg mm) 183 2 fun α => f183) := entG b183 rs183 18 fun _ => f183_ok
noncomputable def b184 := bdy Tryz.f184
noncomputable def rs184 := Tryz.f184.results.toList
noncomputable def f184 {α : Type} (o : α) (c : Call' α) (n : Nat) (k : AV → Heap → α) (a0 a1 : AV) (h : Heap) : α :=
  boxF o a0 h h.next fun v1 h => faF o 2 v1 fun v2 => load1F o h v2 fun v3 => load1F o h a1 fun v4 => eqsF Pq o 9 v3 v4 fun v5 => k v5 h
theorem f184_ok : R Pq o c n b184 (kend Pq o c n w rs184 k) = fun t _ h => f184 o c n k (t 0) (t 1) h := by kernel_rfl
theorem f184_good : Good Pq (cfg mm) 184 (entF Pq (cfg mm) 184 2 fun α => f184) := entG b184 rs184 8 fun _ => f184_ok
noncomputable def b185 := bdy Tryz.f185
noncomputable def rs185 := Tryz.f185.results.toList
noncomputable def f185 {α : Type} (o : α) (c : Call' α) (n : Nat) (k : AV → Heap → α) (a0 a1 : AV) (h : Heap) : α :=
  boxF o a0 h h.next fun v1 h => dreg o h 7 fun base h => faF o 4 a1 fun v2 => rootF o v2 a1 <| load1F o (h.look 1) v2 fun v3 => callD o c (hidD false [(.fn (.func 186) [] []), v3, (.fn (.func 187) [] [a1, v1])] [] (sBlk v1 [])) 186 [v3, (.fn (.func 187) [] [a1, v1])] (h.look 0) fun v4 h => pnF v4 (fun x => hb h.shut fun hd => load1F o (h.look 0) v1 fun v5 => k x.pn hd) <| load1F o (h.look 0) v1 fun v6 => lssF Pq o 3 v4 v6 fun v7 => hb h.shut fun h => k v7 h
theorem f185_ok : R Pq o c n b185 (kend Pq o c n w rs185 k) = fun t _ h => f185 o c n k (t 0) (t 1) h := by kernel_rfl
theorem f185_good : Good Pq (cfg mm) 185 (entF Pq (cfg mm) 185 2 fun α => f185) := entG b185 rs185 10 fun _ => f185_ok
noncomputable def b186 := bdy Tryz.f186
noncomputable def rs186 := Tryz.f186.results.toList
noncomputable def f186_2K : Ex → K α := (nxK (R Pq o c n (cB (cB b186)) (kend Pq o c n w rs186 k)) (kend Pq o c n w rs186 k))
noncomputable def f186_4 {α : Type} (o : α) (c : Call' α) (n : Nat) (k : AV → Heap → α) (m : Nat) : AVs (Heap → α) 4 :=
  Nat.rec (motive := fun _ => AVs (Heap → α) 4) (fun _ _ _ _ _ => o) (fun _ lp0 s0 s1 s7 s8 h => lssF Pq o 3 s8 s7 fun v1 => ifF o v1 (ixF o 2 s0 s8 fun v2 => loadNF o h 2 v2 fun v3 => cfF o s1 [v3] c h fun v4 h => pk k v4 h <| ifF o v4 (k s8 h) (addF Pq o 3 s8 (.i .i64 1) fun v5 => lp0 s0 s1 s7 v5 h)) (k (.i .i64 (-1)) h)) m
theorem f186_4_ok : R Pq o c n (cA (cB (cA (cB b186)))) (blockK (cI (cB (cA (cB b186)))) (f186_2K o c n k w)) = fun t _ h => f186_4 o c n k n (t 0) (t 1) (t 7) (t 8) h :=
  c_loop (F := fun m t _ h => f186_4 o c n k m (t 0) (t 1) (t 7) (t 8) h) (by kernel_rfl) (by kernel_rfl) fun m => by kernel_rfl
noncomputable def f186_3 (s0 s1 s7 s8 : AV) (h : Heap) : α :=
  f186_4 o c n k n s0 s1 s7 s8 h
theorem f186_3_ok : R Pq o c n (cB (cA (cB b186))) (f186_2K o c n k w) = fun t _ h => f186_3 o c n k (t 0) (t 1) (t 7) (t 8) h := (kblk (f186_4_ok o c n k w)).tk
noncomputable def f186_1 (s0 s1 : AV) (h : Heap) : α :=
  lenF o s0 fun v6 => f186_3 o c n k s0 s1 v6 (.i .i64 0) h
theorem f186_1_ok : R Pq o c n (cB b186) (kend Pq o c n w rs186 k) = fun t _ h => f186_1 o c n k (t 0) (t 1) h := (kseq rfl (kseq (f186_3_ok o c n k w) rfl)).tk
noncomputable def f186 (a0 a1 : AV) (h : Heap) : α :=
  f186_1 o c n k a0 a1 h
theorem f186_ok : R Pq o c n b186 (kend Pq o c n w rs186 k) = fun t _ h => f186 o c n k (t 0) (t 1) h := (kseq (f186_1_ok o c n k w) rfl).tk
theorem f186_good : Good Pq (cfg mm) 186 (entF Pq (cfg mm) 186 2 fun α => f186) := entG b186 rs186 19 fun _ => f186_ok
noncomputable def b187 := bdy Tryz.f187
noncomputable def rs187 := Tryz.f187.results.toList
noncomputable def f187 {α : Type} (o : α) (c : Call' α) (n : Nat) (k : AV → Heap → α) (a0 a1 a2 : AV) (h : Heap) : α :=
  boxF o a0 h h.next fun v1 h => dreg o h 10 fun base h => faF o 1 v1 fun v2 => rootF o v2 v1 <| load1F o (h.look 1) v2 fun v3 => faF o 4 a1 fun v4 => rootF o v4 a1 <| load1F o (h.look 4) v4 fun v5 => load1F o (h.look 0) a2 fun v6 => ixF o 2 v5 v6 fun v7 => faF o 1 v7 fun v8 => load1F o (h.look 124) v8 fun v9 => eqsF Pq o 9 v3 v9 fun v10 => hb h.shut fun h => k v10 h
theorem f187_ok : R Pq o c n b187 (kend Pq o c n w rs187 k) = fun t _ h => f187 o c n k (t 0) (t 1) (t 2) h := by kernel_rfl
theorem f187_good : Good Pq (cfg mm) 187 (entF Pq (cfg mm) 187 3 fun α => f187) := entG b187 rs187 14 fun _ => f187_ok
noncomputable def b188 := bdy Tryz.f188
noncomputable def rs188 := Tryz.f188.results.toList
noncomputable def f188_2K : Ex → K α := (nxK (R Pq o c n (cB (cB b188)) (kend Pq o c n w rs188 k)) (kend Pq o c n w rs188 k))
noncomputable def f188_1 {α : Type} (o : α) (c : Call' α) (n : Nat) (k : AV → Heap → α) (s2 s3 : AV) (h : Heap) : α :=
  faF o 3 s2 fun v1 => load1F o h v1 fun v2 => faF o 3 s3 fun v3 => load1F o h v3 fun v4 => eqsF Pq o 9 v2 v4 fun v5 => bkF o true v5 (loadNF o h 6 s2 fun v6 => loadNF o h 6 s3 fun v7 => c 252 [v6, v7] h fun v8 h => pk k v8 h <| pickF o v5 v8 (.b false) fun v9 => k v9 h) (pickF o v5 (.tup []) (.b false) fun v10 => k v10 h)
theorem f188_1_ok : R Pq o c n (cB b188) (kend Pq o c n w rs188 k) = fun t _ h => f188_1 o c n k (t 2) (t 3) h := (kseq rfl (r_start 6 (by kernel_rfl) (q_guard 6 9 (5, true) (by kernel_rfl) (by kernel_rfl) (by kernel_rfl) rfl))).tk
noncomputable def f188 (a0 a1 : AV) (h : Heap) : α :=
  boxF o a0 h h.next fun v11 h => boxF o a1 h h.next fun v12 h => f188_1 o c n k v11 v12 h
theorem f188_ok : R Pq o c n b188 (kend Pq o c n w rs188 k) = fun t _ h => f188 o c n k (t 0) (t 1) h := (kseq (f188_1_ok o c n k w) rfl).tk
theorem f188_good : Good Pq (cfg mm) 188 (entF Pq (cfg mm) 188 2 fun α => f188) := entG b188 rs188 15 fun _ => f188_ok
noncomputable def b189 := bdy Tryz.f189
noncomputable def rs189 := Tryz.f189.results.toList
noncomputable def f189 {α : Type} (o : α) (c : Call' α) (n : Nat) (k : AV → Heap → α) (a0 a1 : AV) (h : Heap) : α :=
  c 186 [a0, a1] h fun v1 h => pk k v1 h <| geqF Pq o 3 v1 (.i .i64 0) fun v2 => k v2 h
theorem f189_ok : R Pq o c n b189 (kend Pq o c n w rs189 k) = fun t _ h => f189 o c n k (t 0) (t 1) h := by kernel_rfl
theorem f189_good : Good Pq (cfg mm) 189 (entF Pq (cfg mm) 189 2 fun α => f189) := entG b189 rs189 9 fun _ => f189_ok
noncomputable def b190 := bdy Tryz.f190
noncomputable def rs190 := Tryz.f190.results.toList
noncomputable def f190 {α : Type} (o : α) (c : Call' α) (n : Nat) (k : AV → Heap → α) (a0 a1 : AV) (h : Heap) : α :=
  boxF o a0 h h.next fun v1 h => loadNF o h 1 a1 fun v2 => faF o 0 v1 fun v3 => load1F o h v3 fun v4 => c 139 [v2, v4] h fun v5 h => pk k v5 h <| notF o v5 fun v6 => k v6 h
theorem f190_ok : R Pq o c n b190 (kend Pq o c n w rs190 k) = fun t _ h => f190 o c n k (t 0) (t 1) h := by kernel_rfl
theorem f190_good : Good Pq (cfg mm) 190 (entF Pq (cfg mm) 190 2 fun α => f190) := entG b190 rs190 9 fun _ => f190_ok
noncomputable def b191 := bdy Tryz.f191
noncomputable def rs191 := Tryz.f191.results.toList
noncomputable def f191_2K : Ex → K α := (nxK (R Pq o c n (cB (cB b191)) (kend Pq o c n w rs191 k)) (kend Pq o c n w rs191 k))
noncomputable def f191_4 {α : Type} (o : α) (c : Call' α) (n : Nat) (k : AV → Heap → α) (m : Nat) : AVs (Heap → α) 6 :=
  Nat.rec (motive := fun _ => AVs (Heap → α) 6) (fun _ _ _ _ _ _ _ => o) (fun _ lp0 s3 s5 s6 s11 s12 s13 h => lssF Pq o 3 s13 s12 fun v1 => ifF o v1 (ixF o 1 s11 s13 fun v2 => load1F o h v2 fun v3 => loadNF o h 1 s3 fun v4 => c 253 [v4, v3] h fun v5 h => pk k v5 h <| c 199 [v5, (.fn (.func 254) [] [s5])] h fun v6 h => pk k v6 h <| geqF Pq o 3 v6 (.i .i64 0) fun v7 => ifF o v7 (layF o 0 v3 [(.s 0 0), (.i .i64 0)] fun v8 => layF o 1 v6 v8 fun v9 => storeF o h 2 s6 (.agg v9) fun h => on o (resV Pq h [(s6, some 217), ((.b true), none)]) fun v => k v h) (addF Pq o 3 s13 (.i .i64 1) fun v10 => lp0 s3 s5 s6 s11 s12 v10 h)) (storeF o h 2 s6 (.agg [(.s 0 0), (.i .i64 0)]) fun h => on o (resV Pq h [(s6, some 217), ((.b false), none)]) fun v => k v h)) m
theorem f191_4_ok : R Pq o c n (cA (cB (cA (cB b191)))) (blockK (cI (cB (cA (cB b191)))) (f191_2K o c n k w)) = fun t _ h => f191_4 o c n k n (t 3) (t 5) (t 6) (t 11) (t 12) (t 13) h :=
  c_loop (F := fun m t _ h => f191_4 o c n k m (t 3) (t 5) (t 6) (t 11) (t 12) (t 13) h) (by kernel_rfl) (by kernel_rfl) fun m => by kernel_rfl
noncomputable def f191_3 (s3 s5 s6 s11 s12 s13 : AV) (h : Heap) : α :=
  f191_4 o c n k n s3 s5 s6 s11 s12 s13 h
theorem f191_3_ok : R Pq o c n (cB (cA (cB b191))) (f191_2K o c n k w) = fun t _ h => f191_3 o c n k (t 3) (t 5) (t 6) (t 11) (t 12) (t 13) h := (kblk (f191_4_ok o c n k w)).tk
noncomputable def f191_1 (s1 s3 s5 s6 : AV) (h : Heap) : α :=
  lenF o s1 fun v11 => f191_3 o c n k s3 s5 s6 s1 v11 (.i .i64 0) h
theorem f191_1_ok : R Pq o c n (cB b191) (kend Pq o c n w rs191 k) = fun t _ h => f191_1 o c n k (t 1) (t 3) (t 5) (t 6) h := (kseq rfl (kseq (f191_3_ok o c n k w) rfl)).tk
noncomputable def f191 (a0 a1 a2 : AV) (h : Heap) : α :=
  boxF o a0 h h.next fun v12 h => boxF o a2 h h.next fun v13 h => newF h h.next 2 [(.s 0 0), (.i .i64 0)] fun v14 h => f191_1 o c n k a1 v12 v13 v14 h
theorem f191_ok : R Pq o c n b191 (kend Pq o c n w rs191 k) = fun t _ h => f191 o c n k (t 0) (t 1) (t 2) h := (kseq (f191_1_ok o c n k w) rfl).tk
theorem f191_good : Good Pq (cfg mm) 191 (entF Pq (cfg mm) 191 3 fun α => f191) := entG b191 rs191 29 fun _ => f191_ok
noncomputable def b192 := bdy Tryz.f192
noncomputable def rs192 := Tryz.f192.results.toList
noncomputable def f192_3 {α : Type} (o : α) (c : Call' α) (n : Nat) (k : AV → Heap → α) (s3 s4 s6 : AV) (h : Heap) : α :=
  faF o 1 s3 fun v1 => load1F o h v1 fun v2 => ixF o 6 s6 v2 fun v3 => loadNF o h 6 v3 fun v4 => storeF o h 6 s4 v4 fun h => on o (resV Pq h [(s4, some 78), ((.b true), none)]) fun v => k v h
theorem f192_3_ok : R Pq o c n (cB (cB (cB b192))) (kend Pq o c n w rs192 k) = fun t _ h => f192_3 o c n k (t 3) (t 4) (t 6) h := by kernel_rfl
noncomputable def f192_4K : Ex → K α := (nxK (fun t _ h => f192_3 o c n k (t 3) (t 4) (t 6) h) (kend Pq o c n w rs192 k))
noncomputable def f192_5 (s3 s4 s6 s20 : AV) (h : Heap) : α :=
  ifF o s20 (storeF o h 6 s4 (.agg [(.b false), (.b false), (.s 0 0), (.s 0 0), .nsl, .nsl]) fun h => on o (resV Pq h [(s4, some 78), ((.b false), none)]) fun v => k v h) (f192_3 o c n k s3 s4 s6 h)
theorem f192_5_ok : R Pq o c n (cB (cA (cB (cB b192)))) (f192_4K o c n k w) = fun t _ h => f192_5 o c n k (t 3) (t 4) (t 6) (t 20) h := by kernel_rfl
noncomputable def f192_6K : Ex → K α := (nxK (fun t _ h => f192_5 o c n k (t 3) (t 4) (t 6) (t 20) h) (f192_4K o c n k w))
noncomputable def f192_2 (s3 s4 s6 : AV) (h : Heap) : α :=
  faF o 1 s3 fun v5 => load1F o h v5 fun v6 => lssF Pq o 3 v6 (.i .i64 0) fun v7 => bkF o false v7 (faF o 1 s3 fun v8 => load1F o h v8 fun v9 => lenF o s6 fun v10 => geqF Pq o 3 v9 v10 fun v11 => pickF o v7 (.b true) v11 fun v12 => f192_5 o c n k s3 s4 s6 v12 h) (pickF o v7 (.b true) (.tup []) fun v13 => f192_5 o c n k s3 s4 s6 v13 h)
theorem f192_2_ok : R Pq o c n (cB (cB b192)) (kend Pq o c n w rs192 k) = fun t _ h => f192_2 o c n k (t 3) (t 4) (t 6) h := (kseq (f192_3_ok o c n k w) (kseq (f192_5_ok o c n k w) (r_start 4 (by kernel_rfl) (q_guard 4 9 (3, false) (by kernel_rfl) (by kernel_rfl) (by kernel_rfl) rfl)))).tk
noncomputable def f192_1 (s2 s3 s4 : AV) (h : Heap) : α :=
  loadNF o h 1 s2 fun v14 => faF o 0 s3 fun v15 => load1F o h v15 fun v16 => c 253 [v14, v16] h fun v17 h => pk k v17 h <| f192_2 o c n k s3 s4 v17 h
theorem f192_1_ok : R Pq o c n (cB b192) (kend Pq o c n w rs192 k) = fun t _ h => f192_1 o c n k (t 2) (t 3) (t 4) h := (kseq (f192_2_ok o c n k w) rfl).tk
noncomputable def f192 (a0 a1 : AV) (h : Heap) : α :=
  boxF o a0 h h.next fun v18 h => boxF o a1 h h.next fun v19 h => newF h h.next 6 [(.b false), (.b false), (.s 0 0), (.s 0 0), .nsl, .nsl] fun v20 h => f192_1 o c n k v18 v19 v20 h
theorem f192_ok : R Pq o c n b192 (kend Pq o c n w rs192 k) = fun t _ h => f192 o c n k (t 0) (t 1) h := (kseq (f192_1_ok o c n k w) rfl).tk
theorem f192_good : Good Pq (cfg mm) 192 (entF Pq (cfg mm) 192 2 fun α => f192) := entG b192 rs192 27 fun _ => f192_ok
noncomputable def b193 := bdy Tryz.f193
noncomputable def rs193 := Tryz.f193.results.toList
noncomputable def f193_6 {α : Type} (o : α) (c : Call' α) (n : Nat) (k : AV → Heap → α) (s5 s6 s9 s13 : AV) (h : Heap) : α :=
  dreg o h 13 fun base h => faF o 1 s13 fun v1 => faF o 0 v1 fun v2 => rootF o v2 s13 <| load1F o (h.look 6) v2 fun v3 => faF o 1 s13 fun v4 => faF o 1 v4 fun v5 => rootF o v5 s13 <| load1F o (h.look 48) v5 fun v6 => faF o 5 s5 fun v7 => lb (sBlk v2 (sBlk v5 [])) fun ids => rootF o v7 s5 <| storeF o (hide ids (h.look 129)) 1 v7 s9 fun g => hb (back h ids g) fun h => faF o 6 s5 fun v8 => lb (sBlk v5 []) fun ids => rootF o v8 s5 <| storeF o (hide ids (h.look 911)) 1 v8 v3 fun g => hb (back h ids g) fun h => faF o 7 s5 fun v9 => rootF o v9 s5 <| storeF o (h.look 4095) 1 v9 v6 fun h => hb h.shut fun h => dreg o h 6 fun base h => loadNF o (h.look 0) 8 s5 fun v10 => faF o 0 s13 fun v11 => rootF o v11 s13 <| load1F o (h.look 2) v11 fun v12 => lb (sBlk v11 []) fun ids => storeF o (hide ids (h.look 1)) 8 s6 v10 fun g => hb (back h ids g) fun h => hb h.shut fun h => on o (resV Pq h [(s6, some 71), (v12, none), ((.i .i64 0), none)]) fun v => k v h
theorem f193_6_ok : R Pq o c n (cB (cB (cB (cB (cB (cB b193)))))) (kend Pq o c n w rs193 k) = fun t _ h => f193_6 o c n k (t 5) (t 6) (t 9) (t 13) h := by kernel_rfl
noncomputable def f193_7K : Ex → K α := (nxK (fun t _ h => f193_6 o c n k (t 5) (t 6) (t 9) (t 13) h) (kend Pq o c n w rs193 k))
noncomputable def f193_8 (s5 s6 s9 s13 s45 : AV) (h : Heap) : α :=
  ifF o s45 (dreg o h 6 fun base h => faF o 3 s13 fun v13 => rootF o v13 s13 <| load1F o (h.look 2) v13 fun v14 => lb (sBlk v13 []) fun ids => storeF o (hide ids (h.look 1)) 8 s6 (.agg [(.i .i64 0), (.i .i32 0), (.s 0 0), (.s 0 0), (.s 0 0), .nsl, (.s 0 0), (.i .i64 0)]) fun g => hb (back h ids g) fun h => hb h.shut fun h => on o (resV Pq h [(s6, some 71), ((.s 0 0), none), (v14, none)]) fun v => k v h) (f193_6 o c n k s5 s6 s9 s13 h)
theorem f193_8_ok : R Pq o c n (cB (cA (cB (cB (cB (cB (cB b193))))))) (f193_7K o c n k w) = fun t _ h => f193_8 o c n k (t 5) (t 6) (t 9) (t 13) (t 45) h := by kernel_rfl
noncomputable def f193_9K : Ex → K α := (nxK (fun t _ h => f193_8 o c n k (t 5) (t 6) (t 9) (t 13) (t 45) h) (f193_7K o c n k w))
noncomputable def f193_5 (s5 s6 s9 s13 s14 : AV) (h : Heap) : α :=
  notF o s14 fun v15 => bkF o false v15 (faF o 3 s13 fun v16 => load1F o h v16 fun v17 => neiF Pq o 3 v17 (.i .i64 0) fun v18 => pickF o v15 (.b true) v18 fun v19 => f193_8 o c n k s5 s6 s9 s13 v19 h) (pickF o v15 (.b true) (.tup []) fun v20 => f193_8 o c n k s5 s6 s9 s13 v20 h)
theorem f193_5_ok : R Pq o c n (cB (cB (cB (cB (cB b193))))) (kend Pq o c n w rs193 k) = fun t _ h => f193_5 o c n k (t 5) (t 6) (t 9) (t 13) (t 14) h := (kseq (f193_6_ok o c n k w) (kseq (f193_8_ok o c n k w) (r_start 3 (by kernel_rfl) (q_guard 3 6 (2, false) (by kernel_rfl) (by kernel_rfl) (by kernel_rfl) rfl)))).tk
noncomputable def f193_4 (s5 s6 s9 s12 : AV) (h : Heap) : α :=
  loadNF o h 13 s12 fun v21 => c 256 [v21] h fun v22 h => pk k v22 h <| assertA Pq o v22 263 true fun v23 => exF o v23 0 fun v24 => exF o v23 1 fun v25 => newF h h.next 4 [(.s 0 0), (.s 0 0), (.i .i64 0), (.i .i64 0)] fun v26 h => storeF o h 4 v26 v24 fun h => f193_5 o c n k s5 s6 s9 v26 v25 h
theorem f193_4_ok : R Pq o c n (cB (cB (cB (cB b193)))) (kend Pq o c n w rs193 k) = fun t _ h => f193_4 o c n k (t 5) (t 6) (t 9) (t 12) h := (kseq (f193_5_ok o c n k w) rfl).tk
noncomputable def f193_3 (s3 s4 s5 s6 s9 s10 : AV) (h : Heap) : α :=
  loadNF o h 1 s3 fun v27 => loadNF o h 3 s4 fun v28 => loadNF o h 8 s5 fun v29 => layF o 0 v27 [.nsl, (.s 0 0), (.b false), .nsl, (.i .i64 0), (.i .i32 0), (.s 0 0), (.s 0 0), (.s 0 0), .nsl, (.s 0 0), (.i .i64 0), .nsl] fun v30 => lay1 o 1 3 v28 v30 fun v31 => lay1 o 4 8 v29 v31 fun v32 => layF o 12 s10 v32 fun v33 => newF h h.next 13 [.nsl, (.s 0 0), (.b false), .nsl, (.i .i64 0), (.i .i32 0), (.s 0 0), (.s 0 0), (.s 0 0), .nsl, (.s 0 0), (.i .i64 0), .nsl] fun v34 h => storeF o h 13 v34 (.agg v33) fun h => f193_4 o c n k s5 s6 s9 v34 h
theorem f193_3_ok : R Pq o c n (cB (cB (cB b193))) (kend Pq o c n w rs193 k) = fun t _ h => f193_3 o c n k (t 3) (t 4) (t 5) (t 6) (t 9) (t 10) h := (kseq (f193_4_ok o c n k w) rfl).tk
noncomputable def f193_2 (s3 s4 s5 s6 s9 s10 s11 : AV) (h : Heap) : α :=
  neiF Pq o 3 s11 (.i .i64 0) fun v35 => ifF o v35 (storeF o h 8 s6 (.agg [(.i .i64 0), (.i .i32 0), (.s 0 0), (.s 0 0), (.s 0 0), .nsl, (.s 0 0), (.i .i64 0)]) fun h => on o (resV Pq h [(s6, some 71), ((.s 0 0), none), (s11, none)]) fun v => k v h) (f193_3 o c n k s3 s4 s5 s6 s9 s10 h)
theorem f193_2_ok : R Pq o c n (cB (cB b193)) (kend Pq o c n w rs193 k) = fun t _ h => f193_2 o c n k (t 3) (t 4) (t 5) (t 6) (t 9) (t 10) (t 11) h := (kseq (f193_3_ok o c n k w) rfl).tk
noncomputable def f193_1 (s3 s4 s5 s6 : AV) (h : Heap) : α :=
  loadNF o h 1 s3 fun v36 => loadNF o h 3 s4 fun v37 => faF o 5 s5 fun v38 => load1F o h v38 fun v39 => c 255 [v36, v37, v39] h fun v40 h => pk k v40 h <| exF o v40 0 fun v41 => exF o v40 1 fun v42 => exF o v40 2 fun v43 => f193_2 o c n k s3 s4 s5 s6 v41 v42 v43 h
theorem f193_1_ok : R Pq o c n (cB b193) (kend Pq o c n w rs193 k) = fun t _ h => f193_1 o c n k (t 3) (t 4) (t 5) (t 6) h := (kseq (f193_2_ok o c n k w) rfl).tk
noncomputable def f193 (a0 a1 a2 : AV) (h : Heap) : α :=
  boxF o a0 h h.next fun v44 h => boxF o a1 h h.next fun v45 h => boxF o a2 h h.next fun v46 h => newF h h.next 8 [(.i .i64 0), (.i .i32 0), (.s 0 0), (.s 0 0), (.s 0 0), .nsl, (.s 0 0), (.i .i64 0)] fun v47 h => f193_1 o c n k v44 v45 v46 v47 h
theorem f193_ok : R Pq o c n b193 (kend Pq o c n w rs193 k) = fun t _ h => f193 o c n k (t 0) (t 1) (t 2) h := (kseq (f193_1_ok o c n k w) rfl).tk
theorem f193_good : Good Pq (cfg mm) 193 (entF Pq (cfg mm) 193 3 fun α => f193) := entG b193 rs193 62 fun _ => f193_ok
noncomputable def b194 := bdy Tryz.f194
noncomputable def rs194 := Tryz.f194.results.toList
noncomputable def f194 {α : Type} (o : α) (c : Call' α) (n : Nat) (k : AV → Heap → α) (a0 a1 : AV) (h : Heap) : α :=
  notF o a0 fun v1 => ifF o v1 (c 89 [a1] h fun v2 h => pk k v2 h <| k (.tup []) h) (k (.tup []) h)
theorem f194_ok : R Pq o c n b194 (kend Pq o c n w rs194 k) = fun t _ h => f194 o c n k (t 0) (t 1) h := by kernel_rfl
theorem f194_good : Good Pq (cfg mm) 194 (entF Pq (cfg mm) 194 2 fun α => f194) := entG b194 rs194 8 fun _ => f194_ok
noncomputable def b195 := bdy Tryz.f195
noncomputable def rs195 := Tryz.f195.results.toList
noncomputable def f195_3K : Ex → K α := (nxK (R Pq o c n (cB (cB (cB b195))) (kend Pq o c n w rs195 k)) (kend Pq o c n w rs195 k))
noncomputable def f195_2 {α : Type} (o : α) (c : Call' α) (n : Nat) (k : AV → Heap → α) (s1 s2 s3 : AV) (h : Heap) : α :=
  loadNF o h 1 s3 fun v1 => c 134 [v1, s1] h fun v2 h => pk k v2 h <| bkF o true v2 (loadNF o h 1 s3 fun v3 => c 135 [v3, s1] h fun v4 h => pk k v4 h <| c 53 [v4, s2] h fun v5 h => pk k v5 h <| pickF o v2 v5 (.b false) fun v6 => k v6 h) (pickF o v2 (.tup []) (.b false) fun v7 => k v7 h)
theorem f195_2_ok : R Pq o c n (cB (cB b195)) (kend Pq o c n w rs195 k) = fun t _ h => f195_2 o c n k (t 1) (t 2) (t 3) h := (kseq rfl (r_start 4 (by kernel_rfl) (q_guard 4 9 (3, true) (by kernel_rfl) (by kernel_rfl) (by kernel_rfl) rfl))).tk
noncomputable def f195_4K : Ex → K α := (nxK (fun t _ h => f195_2 o c n k (t 1) (t 2) (t 3) h) (kend Pq o c n w rs195 k))
noncomputable def f195_6K : Ex → K α := (nxK (R Pq o c n (cB (cA (cB (cA (cA (cB b195)))))) (blockK (cI (cA (cB b195))) (f195_4K o c n k w))) (blockK (cI (cA (cB b195))) (f195_4K o c n k w)))
noncomputable def f195_5 (s1 s2 s3 s7 : AV) (h : Heap) : α :=
  ifF o s7 (eqsF Pq o 9 s1 (.s 4 1819047278) fun v8 => bkF o false v8 (loadNF o h 1 s3 fun v9 => c 139 [v9, s1] h fun v10 h => pk k v10 h <| pickF o v8 (.b true) v10 fun v11 => k v11 h) (pickF o v8 (.b true) (.tup []) fun v12 => k v12 h)) (eqsF Pq o 9 s1 (.s 4 1819047278) fun v13 => ifF o v13 (loadNF o h 1 s3 fun v14 => c 134 [v14, s2] h fun v15 h => pk k v15 h <| k v15 h) (f195_2 o c n k s1 s2 s3 h))
theorem f195_5_ok : R Pq o c n (cB (cA (cA (cB b195)))) (blockK (cI (cA (cB b195))) (f195_4K o c n k w)) = fun t _ h => f195_5 o c n k (t 1) (t 2) (t 3) (t 7) h := (c_cond (by kernel_rfl) (kseq rfl (r_start 3 (by kernel_rfl) (q_guard 3 6 (2, false) (by kernel_rfl) (by kernel_rfl) (by kernel_rfl) rfl))) rfl).tk
noncomputable def f195_1 (s1 s2 s3 : AV) (h : Heap) : α :=
  eqsF Pq o 9 s1 s2 fun v16 => f195_5 o c n k s1 s2 s3 v16 h
theorem f195_1_ok : R Pq o c n (cB b195) (kend Pq o c n w rs195 k) = fun t _ h => f195_1 o c n k (t 1) (t 2) (t 3) h := (kseq (f195_2_ok o c n k w) (kblk (kseq (f195_5_ok o c n k w) rfl))).tk
noncomputable def f195 (a0 a1 a2 : AV) (h : Heap) : α :=
  boxF o a0 h h.next fun v17 h => f195_1 o c n k a1 a2 v17 h
theorem f195_ok : R Pq o c n b195 (kend Pq o c n w rs195 k) = fun t _ h => f195 o c n k (t 0) (t 1) (t 2) h := (kseq (f195_1_ok o c n k w) rfl).tk
theorem f195_good : Good Pq (cfg mm) 195 (entF Pq (cfg mm) 195 3 fun α => f195) := entG b195 rs195 34 fun _ => f195_ok
noncomputable def b197 := bdy Tryz.f197
noncomputable def rs197 := Tryz.f197.results.toList
noncomputable def f197_5K : Ex → K α := (nxK (R Pq o c n (cB (cB (cB (cB (cB b197))))) (kend Pq o c n w rs197 k)) (kend Pq o c n w rs197 k))
noncomputable def f197_7 {α : Type} (o : α) (c : Call' α) (n : Nat) (k : AV → Heap → α) (m : Nat) : AVs (Heap → α) 6 :=
  Nat.rec (motive := fun _ => AVs (Heap → α) 6) (fun _ _ _ _ _ _ _ => o) (fun _ lp0 s0 s7 s8 s24 s25 s26 h => lssF Pq o 3 s26 s25 fun v1 => ifF o v1 (ixF o 9 s24 s26 fun v2 => loadNF o h 9 v2 fun v3 => newF h h.next 9 [(.i .i64 0), (.i .i32 0), (.s 0 0), (.s 0 0), .nsl, .nsl, .nsl, .nsl, (.i .i64 0)] fun v4 h => storeF o h 9 v4 v3 fun h => loadNF o h 9 v4 fun v5 => c 258 [s0, v5] h fun v6 h => pk k v6 h <| fil1 o 9 1 0 v6 [[(.i .i64 0), (.i .i32 0), (.s 0 0), (.s 0 0), .nsl, .nsl, .nsl, .nsl, (.i .i64 0)]] fun v7 => newEF h h.next 9 1 v7 fun v8 h => appX Pq o h h.next 76 76 s8 v8 fun v9 h => addF Pq o 3 s26 (.i .i64 1) fun v10 => lp0 s0 s7 v9 s24 s25 v10 h) (nilChk o s0 fun v11 => faF o 1 v11 fun v12 => faF o 2 v12 fun v13 => storeF o h 1 v13 s7 fun h => k s8 h)) m
theorem f197_7_ok : R Pq o c n (cA (cB (cA (cB (cB (cB (cB b197))))))) (blockK (cI (cB (cA (cB (cB (cB (cB b197))))))) (f197_5K o c n k w)) = fun t _ h => f197_7 o c n k n (t 0) (t 7) (t 8) (t 24) (t 25) (t 26) h :=
  c_loop (F := fun m t _ h => f197_7 o c n k m (t 0) (t 7) (t 8) (t 24) (t 25) (t 26) h) (by kernel_rfl) (by kernel_rfl) fun m => by kernel_rfl
noncomputable def f197_6 (s0 s7 s8 s24 s25 s26 : AV) (h : Heap) : α :=
  f197_7 o c n k n s0 s7 s8 s24 s25 s26 h
theorem f197_6_ok : R Pq o c n (cB (cA (cB (cB (cB (cB b197)))))) (f197_5K o c n k w) = fun t _ h => f197_6 o c n k (t 0) (t 7) (t 8) (t 24) (t 25) (t 26) h := (kblk (f197_7_ok o c n k w)).tk
noncomputable def f197_4 (s0 s1 s7 s8 : AV) (h : Heap) : α :=
  lenF o s1 fun v14 => f197_6 o c n k s0 s7 s8 s1 v14 (.i .i64 0) h
theorem f197_4_ok : R Pq o c n (cB (cB (cB (cB b197)))) (kend Pq o c n w rs197 k) = fun t _ h => f197_4 o c n k (t 0) (t 1) (t 7) (t 8) h := (kseq rfl (kseq (f197_6_ok o c n k w) rfl)).tk
noncomputable def f197_3 (s0 s1 s7 : AV) (h : Heap) : α :=
  f197_4 o c n k s0 s1 s7 .nsl h
theorem f197_3_ok : R Pq o c n (cB (cB (cB b197))) (kend Pq o c n w rs197 k) = fun t _ h => f197_3 o c n k (t 0) (t 1) (t 7) h := (kseq (f197_4_ok o c n k w) rfl).tk
noncomputable def f197_2 (s0 s1 s2 s7 : AV) (h : Heap) : α :=
  fil1 o 1 2 0 s7 [[.nsl], [.nsl]] fun v15 => fil1 o 1 2 1 s2 v15 fun v16 => newEF h h.next 1 2 v16 fun v17 h => c 257 [v17] h fun v18 h => pk k v18 h <| nilChk o s0 fun v19 => faF o 1 v19 fun v20 => faF o 2 v20 fun v21 => storeF o h 1 v21 v18 fun h => f197_3 o c n k s0 s1 s7 h
theorem f197_2_ok : R Pq o c n (cB (cB b197)) (kend Pq o c n w rs197 k) = fun t _ h => f197_2 o c n k (t 0) (t 1) (t 2) (t 7) h := (kseq (f197_3_ok o c n k w) rfl).tk
noncomputable def f197_1 (s0 s1 s2 : AV) (h : Heap) : α :=
  nilChk o s0 fun v22 => faF o 1 v22 fun v23 => faF o 2 v23 fun v24 => load1F o h v24 fun v25 => f197_2 o c n k s0 s1 s2 v25 h
theorem f197_1_ok : R Pq o c n (cB b197) (kend Pq o c n w rs197 k) = fun t _ h => f197_1 o c n k (t 0) (t 1) (t 2) h := (kseq (f197_2_ok o c n k w) rfl).tk
noncomputable def f197 (a0 a1 a2 : AV) (h : Heap) : α :=
  f197_1 o c n k a0 a1 a2 h
theorem f197_ok : R Pq o c n b197 (kend Pq o c n w rs197 k) = fun t _ h => f197 o c n k (t 0) (t 1) (t 2) h := (kseq (f197_1_ok o c n k w) rfl).tk
theorem f197_good : Good Pq (cfg mm) 197 (entF Pq (cfg mm) 197 3 fun α => f197) := entG b197 rs197 43 fun _ => f197_ok
noncomputable def b198 := bdy Tryz.f198
noncomputable def rs198 := Tryz.f198.results.toList
noncomputable def f198_2K : Ex → K α := (nxK (R Pq o c n (cB (cB b198)) (kend Pq o c n w rs198 k)) (kend Pq o c n w rs198 k))
noncomputable def f198_3 {α : Type} (o : α) (c : Call' α) (n : Nat) (k : AV → Heap → α) (s1 s5 s8 : AV) (h : Heap) : α :=
  pickF o s5 (.b true) s8 fun v1 => bkF o false v1 (faF o 5 s1 fun v2 => load1F o h v2 fun v3 => c 259 [v3] h fun v4 h => pk k v4 h <| notF o v4 fun v5 => pickF o v1 (.b true) v5 fun v6 => k v6 h) (pickF o v1 (.b true) (.tup []) fun v7 => k v7 h)
theorem f198_3_ok : Q Pq o c (cO (cA (cB b198))) (f198_2K o c n k w) 6 = fun t _ h => f198_3 o c n k (t 1) (t 5) (t 8) h := (q_seg 6 8 (by kernel_rfl) (q_guard 8 12 (7, false) (by kernel_rfl) (by kernel_rfl) (by kernel_rfl) rfl)).tk
noncomputable def f198_1 (s1 : AV) (h : Heap) : α :=
  faF o 1 s1 fun v8 => load1F o h v8 fun v9 => bkF o false v9 (faF o 2 s1 fun v10 => load1F o h v10 fun v11 => eqsF Pq o 9 v11 (.s 4 1684631414) fun v12 => f198_3 o c n k s1 v9 v12 h) (f198_3 o c n k s1 v9 (.tup []) h)
theorem f198_1_ok : R Pq o c n (cB b198) (kend Pq o c n w rs198 k) = fun t _ h => f198_1 o c n k (t 1) h := (kseq rfl (r_start 3 (by kernel_rfl) (q_guard 3 6 (2, false) (by kernel_rfl) (by kernel_rfl) (by kernel_rfl) (f198_3_ok o c n k w)))).tk
noncomputable def f198 (a0 : AV) (h : Heap) : α :=
  boxF o a0 h h.next fun v13 h => f198_1 o c n k v13 h
theorem f198_ok : R Pq o c n b198 (kend Pq o c n w rs198 k) = fun t _ h => f198 o c n k (t 0) h := (kseq (f198_1_ok o c n k w) rfl).tk
theorem f198_good : Good Pq (cfg mm) 198 (entF Pq (cfg mm) 198 1 fun α => f198) := entG b198 rs198 16 fun _ => f198_ok
noncomputable def b199 := bdy Tryz.f199
noncomputable def rs199 := Tryz.f199.results.toList
noncomputable def f199_2K : Ex → K α := (nxK (R Pq o c n (cB (cB b199)) (kend Pq o c n w rs199 k)) (kend Pq o c n w rs199 k))
noncomputable def f199_4 {α : Type} (o : α) (c : Call' α) (n : Nat) (k : AV → Heap → α) (m : Nat) : AVs (Heap → α) 4 :=
  Nat.rec (motive := fun _ => AVs (Heap → α) 4) (fun _ _ _ _ _ => o) (fun _ lp0 s0 s1 s7 s8 h => lssF Pq o 3 s8 s7 fun v1 => ifF o v1 (ixF o 6 s0 s8 fun v2 => loadNF o h 6 v2 fun v3 => cfF o s1 [v3] c h fun v4 h => pk k v4 h <| ifF o v4 (k s8 h) (addF Pq o 3 s8 (.i .i64 1) fun v5 => lp0 s0 s1 s7 v5 h)) (k (.i .i64 (-1)) h)) m
theorem f199_4_ok : R Pq o c n (cA (cB (cA (cB b199)))) (blockK (cI (cB (cA (cB b199)))) (f199_2K o c n k w)) = fun t _ h => f199_4 o c n k n (t 0) (t 1) (t 7) (t 8) h :=
  c_loop (F := fun m t _ h => f199_4 o c n k m (t 0) (t 1) (t 7) (t 8) h) (by kernel_rfl) (by kernel_rfl) fun m => by kernel_rfl
noncomputable def f199_3 (s0 s1 s7 s8 : AV) (h : Heap) : α :=
  f199_4 o c n k n s0 s1 s7 s8 h
theorem f199_3_ok : R Pq o c n (cB (cA (cB b199))) (f199_2K o c n k w) = fun t _ h => f199_3 o c n k (t 0) (t 1) (t 7) (t 8) h := (kblk (f199_4_ok o c n k w)).tk
noncomputable def f199_1 (s0 s1 : AV) (h : Heap) : α :=
  lenF o s0 fun v6 => f199_3 o c n k s0 s1 v6 (.i .i64 0) h
theorem f199_1_ok : R Pq o c n (cB b199) (kend Pq o c n w rs199 k) = fun t _ h => f199_1 o c n k (t 0) (t 1) h := (kseq rfl (kseq (f199_3_ok o c n k w) rfl)).tk
noncomputable def f199 (a0 a1 : AV) (h : Heap) : α :=
  f199_1 o c n k a0 a1 h
theorem f199_ok : R Pq o c n b199 (kend Pq o c n w rs199 k) = fun t _ h => f199 o c n k (t 0) (t 1) h := (kseq (f199_1_ok o c n k w) rfl).tk
theorem f199_good : Good Pq (cfg mm) 199 (entF Pq (cfg mm) 199 2 fun α => f199) := entG b199 rs199 19 fun _ => f199_ok
noncomputable def b200 := bdy Tryz.f200
noncomputable def rs200 := Tryz.f200.results.toList
noncomputable def f200 {α : Type} (o : α) (c : Call' α) (n : Nat) (k : AV → Heap → α) (a0 a1 a2 : AV) (h : Heap) : α :=
  boxF o a0 h h.next fun v1 h => newF h h.next 2 [(.s 0 0), (.i .i64 0)] fun v2 h => loadNF o h 1 v1 fun v3 => c 134 [v3, a1] h fun v4 h => pk k v4 h <| notF o v4 fun v5 => ifF o v5 (storeF o h 2 v2 (.agg [(.s 0 0), (.i .i64 0)]) fun h => on o (resV Pq h [(v2, some 217), ((.i .i64 7), none)]) fun v => k v h) (dreg o h 10 fun base h => loadNF o (h.look 0) 1 v1 fun v6 => loadNF o (h.look 0) 1 v1 fun v7 => callD o c (hidD false [(.fn (.func 261) [] []), v7, a1] [] (sBlk v1 [])) 261 [v7, a1] (h.look 0) fun v8 h => pnF v8 (fun x => hb h.shut fun hd => k x.pn hd) <| callD o c [] 260 [v6, v8, a2] (h.look 0) fun v9 h => pnF v9 (fun x => hb h.shut fun hd => k x.pn hd) <| exF o v9 0 fun v10 => exF o v9 1 fun v11 => storeF o (h.look 255) 2 v2 v10 fun h => hb h.shut fun h => on o (resV Pq h [(v2, some 217), (v11, none)]) fun v => k v h)
theorem f200_ok : R Pq o c n b200 (kend Pq o c n w rs200 k) = fun t _ h => f200 o c n k (t 0) (t 1) (t 2) h := by kernel_rfl
theorem f200_good : Good Pq (cfg mm) 200 (entF Pq (cfg mm) 200 3 fun α => f200) := entG b200 rs200 21 fun _ => f200_ok
noncomputable def b229 := bdy Tryz.f229
noncomputable def rs229 := Tryz.f229.results.toList
noncomputable def f229_2K : Ex → K α := (nxK (R Pq o c n (cB (cB b229)) (kend Pq o c n w rs229 k)) (kend Pq o c n w rs229 k))
noncomputable def f229_4 {α : Type} (o : α) (c : Call' α) (n : Nat) (k : AV → Heap → α) (m : Nat) : AVs (Heap → α) 3 :=
  Nat.rec (motive := fun _ => AVs (Heap → α) 3) (fun _ _ _ _ => o) (fun _ lp0 s1 s2 s5 h => faF o 0 s2 fun v1 => load1F o h v1 fun v2 => lenF o v2 fun v3 => lssF Pq o 3 s5 v3 fun v4 => ifF o v4 (faF o 0 s2 fun v5 => load1F o h v5 fun v6 => ixF o 4 v6 s5 fun v7 => faF o 0 v7 fun v8 => load1F o h v8 fun v9 => eqsF Pq o 9 v9 s1 fun v10 => ifF o v10 (k s5 h) (addF Pq o 3 s5 (.i .i64 1) fun v11 => lp0 s1 s2 v11 h)) (k (.i .i64 (-1)) h)) m
theorem f229_4_ok : R Pq o c n (cA (cB (cA (cB b229)))) (blockK (cI (cB (cA (cB b229)))) (f229_2K o c n k w)) = fun t _ h => f229_4 o c n k n (t 1) (t 2) (t 5) h :=
  c_loop (F := fun m t _ h => f229_4 o c n k m (t 1) (t 2) (t 5) h) (by kernel_rfl) (by kernel_rfl) fun m => by kernel_rfl
noncomputable def f229_3 (s1 s2 s5 : AV) (h : Heap) : α :=
  f229_4 o c n k n s1 s2 s5 h
theorem f229_3_ok : R Pq o c n (cB (cA (cB b229))) (f229_2K o c n k w) = fun t _ h => f229_3 o c n k (t 1) (t 2) (t 5) h := (kblk (f229_4_ok o c n k w)).tk
noncomputable def f229_1 (s1 s2 : AV) (h : Heap) : α :=
  f229_3 o c n k s1 s2 (.i .i64 0) h
theorem f229_1_ok : R Pq o c n (cB b229) (kend Pq o c n w rs229 k) = fun t _ h => f229_1 o c n k (t 1) (t 2) h := (kseq rfl (kseq (f229_3_ok o c n k w) rfl)).tk
noncomputable def f229 (a0 a1 : AV) (h : Heap) : α :=
  boxF o a0 h h.next fun v12 h => f229_1 o c n k a1 v12 h
theorem f229_ok : R Pq o c n b229 (kend Pq o c n w rs229 k) = fun t _ h => f229 o c n k (t 0) (t 1) h := (kseq (f229_1_ok o c n k w) rfl).tk
theorem f229_good : Good Pq (cfg mm) 229 (entF Pq (cfg mm) 229 2 fun α => f229) := entG b229 rs229 22 fun _ => f229_ok
noncomputable def b241 := bdy Tryz.f241
noncomputable def rs241 := Tryz.f241.results.toList
noncomputable def f241_2K : Ex → K α := (nxK (R Pq o c n (cB (cB b241)) (kend Pq o c n w rs241 k)) (kend Pq o c n w rs241 k))
noncomputable def f241_4 {α : Type} (o : α) (c : Call' α) (n : Nat) (k : AV → Heap → α) (s0 s9 s11 : AV) (h : Heap) : α :=
  pickF o s9 (.b true) s11 fun v1 => bkF o false v1 (c 177 [s0] h fun v2 h => pk k v2 h <| pickF o v1 (.b true) v2 fun v3 => k v3 h) (pickF o v1 (.b true) (.tup []) fun v4 => k v4 h)
theorem f241_4_ok : Q Pq o c (cO (cA (cB b241))) (f241_2K o c n k w) 9 = fun t _ h => f241_4 o c n k (t 0) (t 9) (t 11) h := (q_seg 9 11 (by kernel_rfl) (q_guard 11 13 (10, false) (by kernel_rfl) (by kernel_rfl) (by kernel_rfl) rfl)).tk
noncomputable def f241_3 (s0 s5 s7 : AV) (h : Heap) : α :=
  pickF o s5 (.b true) s7 fun v5 => bkF o false v5 (eqsF Pq o 9 s0 (.s 6 113723913172051) fun v6 => f241_4 o c n k s0 v5 v6 h) (f241_4 o c n k s0 v5 (.tup []) h)
theorem f241_3_ok : Q Pq o c (cO (cA (cB b241))) (f241_2K o c n k w) 5 = fun t _ h => f241_3 o c n k (t 0) (t 5) (t 7) h := (q_seg 5 7 (by kernel_rfl) (q_guard 7 9 (6, false) (by kernel_rfl) (by kernel_rfl) (by kernel_rfl) (f241_4_ok o c n k w))).tk
noncomputable def f241_1 (s0 : AV) (h : Heap) : α :=
  eqsF Pq o 9 s0 (.s 3 7630441) fun v7 => bkF o false v7 (eqsF Pq o 9 s0 (.s 7 31069335677005666) fun v8 => f241_3 o c n k s0 v7 v8 h) (f241_3 o c n k s0 v7 (.tup []) h)
theorem f241_1_ok : R Pq o c n (cB b241) (kend Pq o c n w rs241 k) = fun t _ h => f241_1 o c n k (t 0) h := (kseq rfl (r_start 3 (by kernel_rfl) (q_guard 3 5 (2, false) (by kernel_rfl) (by kernel_rfl) (by kernel_rfl) (f241_3_ok o c n k w)))).tk
noncomputable def f241 (a0 : AV) (h : Heap) : α :=
  f241_1 o c n k a0 h
theorem f241_ok : R Pq o c n b241 (kend Pq o c n w rs241 k) = fun t _ h => f241 o c n k (t 0) h := (kseq (f241_1_ok o c n k w) rfl).tk
theorem f241_good : Good Pq (cfg mm) 241 (entF Pq (cfg mm) 241 1 fun α => f241) := entG b241 rs241 17 fun _ => f241_ok
noncomputable def b242 := bdy Tryz.f242
noncomputable def rs242 := Tryz.f242.results.toList
noncomputable def f242_2K : Ex → K α := (nxK (R Pq o c n (cB (cB b242)) (kend Pq o c n w rs242 k)) (kend Pq o c n w rs242 k))
noncomputable def f242_1 {α : Type} (o : α) (c : Call' α) (n : Nat) (k : AV → Heap → α) (s0 : AV) (h : Heap) : α :=
  c 248 [s0, (.fn (.func 295) [] [])] h fun v1 h => pk k v1 h <| bkF o true v1 (c 296 [s0] h fun v2 h => pk k v2 h <| notF o v2 fun v3 => pickF o v1 v3 (.b false) fun v4 => k v4 h) (pickF o v1 (.tup []) (.b false) fun v5 => k v5 h)
theorem f242_1_ok : R Pq o c n (cB b242) (kend Pq o c n w rs242 k) = fun t _ h => f242_1 o c n k (t 0) h := (kseq rfl (r_start 3 (by kernel_rfl) (q_guard 3 6 (2, true) (by kernel_rfl) (by kernel_rfl) (by kernel_rfl) rfl))).tk
noncomputable def f242 (a0 : AV) (h : Heap) : α :=
  f242_1 o c n k a0 h
theorem f242_ok : R Pq o c n b242 (kend Pq o c n w rs242 k) = fun t _ h => f242 o c n k (t 0) h := (kseq (f242_1_ok o c n k w) rfl).tk
theorem f242_good : Good Pq (cfg mm) 242 (entF Pq (cfg mm) 242 1 fun α => f242) := entG b242 rs242 10 fun _ => f242_ok
noncomputable def b243 := bdy Tryz.f243
noncomputable def rs243 := Tryz.f243.results.toList
noncomputable def f243 {α : Type} (o : α) (c : Call' α) (n : Nat) (k : AV → Heap → α) (a0 a1 : AV) (h : Heap) : α :=
  c 297 [a0, a1] h fun v1 h => pk k v1 h <| geqF Pq o 3 v1 (.i .i64 0) fun v2 => k v2 h
theorem f243_ok : R Pq o c n b243 (kend Pq o c n w rs243 k) = fun t _ h => f243 o c n k (t 0) (t 1) h := by kernel_rfl
theorem f243_good : Good Pq (cfg mm) 243 (entF Pq (cfg mm) 243 2 fun α => f243) := entG b243 rs243 9 fun _ => f243_ok
noncomputable def b244 := bdy Tryz.f244
noncomputable def rs244 := Tryz.f244.results.toList
noncomputable def f244 {α : Type} (o : α) (c : Call' α) (n : Nat) (k : AV → Heap → α) (a0 : AV) (h : Heap) : α :=
  boxF o a0 h h.next fun v1 h => loadNF o h 8 v1 fun v2 => c 245 [v2, (.i .i64 1)] h fun v3 h => pk k v3 h <| notF o v3 fun v4 => k v4 h
theorem f244_ok : R Pq o c n b244 (kend Pq o c n w rs244 k) = fun t _ h => f244 o c n k (t 0) h := by kernel_rfl
theorem f244_good : Good Pq (cfg mm) 244 (entF Pq (cfg mm) 244 1 fun α => f244) := entG b244 rs244 6 fun _ => f244_ok
noncomputable def b245 := bdy Tryz.f245
noncomputable def rs245 := Tryz.f245.results.toList
noncomputable def f245_4 {α : Type} (o : α) (c : Call' α) (n : Nat) (k : AV → Heap → α) (s2 s3 : AV) (h : Heap) : α :=
  faF o 5 s2 fun v1 => load1F o h v1 fun v2 => c 243 [v2, (.fn (.func 302) [] [s3])] h fun v3 h => pk k v3 h <| notF o v3 fun v4 => k v4 h
theorem f245_4_ok : R Pq o c n (cB (cB (cB (cB b245)))) (kend Pq o c n w rs245 k) = fun t _ h => f245_4 o c n k (t 2) (t 3) h := by kernel_rfl
noncomputable def f245_5K : Ex → K α := (nxK (fun t _ h => f245_4 o c n k (t 2) (t 3) h) (kend Pq o c n w rs245 k))
noncomputable def f245_6 (s2 s3 s35 : AV) (h : Heap) : α :=
  ifF o s35 (k (.b false) h) (f245_4 o c n k s2 s3 h)
theorem f245_6_ok : R Pq o c n (cB (cA (cA (cB (cB (cB b245)))))) (blockK (cI (cA (cB (cB (cB b245))))) (f245_5K o c n k w)) = fun t _ h => f245_6 o c n k (t 2) (t 3) (t 35) h := by kernel_rfl
noncomputable def f245_7K : Ex → K α := (nxK (fun t _ h => f245_6 o c n k (t 2) (t 3) (t 35) h) (blockK (cI (cA (cB (cB (cB b245))))) (f245_5K o c n k w)))
noncomputable def f245_10 (s2 s3 s5 s35 : AV) (h : Heap) : α :=
  ifF o s35 (f245_6 o c n k s2 s3 s35 h) (faF o 3 s5 fun v5 => load1F o h v5 fun v6 => bkF o true v6 (faF o 4 s2 fun v7 => load1F o h v7 fun v8 => c 177 [v8] h fun v9 h => pk k v9 h <| notF o v9 fun v10 => pickF o v6 v10 (.b false) fun v11 => f245_6 o c n k s2 s3 v11 h) (pickF o v6 (.tup []) (.b false) fun v12 => f245_6 o c n k s2 s3 v12 h))
theorem f245_10_ok : R Pq o c n (cB (cB (cB (cB (cB (cA (cA (cA (cB (cB (cB b245))))))))))) (f245_7K o c n k w) = fun t _ h => f245_10 o c n k (t 2) (t 3) (t 5) (t 35) h := (c_cond (by kernel_rfl) rfl (r_start 3 (by kernel_rfl) (q_guard 3 7 (2, true) (by kernel_rfl) (by kernel_rfl) (by kernel_rfl) rfl))).tk
noncomputable def f245_11K : Ex → K α := (nxK (fun t _ h => f245_10 o c n k (t 2) (t 3) (t 5) (t 35) h) (f245_7K o c n k w))
noncomputable def f245_9 (s2 s3 s5 s35 : AV) (h : Heap) : α :=
  ifF o s35 (f245_6 o c n k s2 s3 s35 h) (faF o 2 s5 fun v13 => load1F o h v13 fun v14 => bkF o true v14 (faF o 0 s2 fun v15 => load1F o h v15 fun v16 => faF o 3 s2 fun v17 => load1F o h v17 fun v18 => c 301 [v16, v18] h fun v19 h => pk k v19 h <| notF o v19 fun v20 => pickF o v14 v20 (.b false) fun v21 => f245_10 o c n k s2 s3 s5 v21 h) (pickF o v14 (.tup []) (.b false) fun v22 => f245_10 o c n k s2 s3 s5 v22 h))
theorem f245_9_ok : R Pq o c n (cB (cB (cB (cA (cA (cA (cB (cB (cB b245))))))))) (f245_7K o c n k w) = fun t _ h => f245_9 o c n k (t 2) (t 3) (t 5) (t 35) h := (c_cond (by kernel_rfl) rfl (kseq (f245_10_ok o c n k w) (r_start 3 (by kernel_rfl) (q_guard 3 9 (2, true) (by kernel_rfl) (by kernel_rfl) (by kernel_rfl) rfl)))).tk
noncomputable def f245_12K : Ex → K α := (nxK (fun t _ h => f245_9 o c n k (t 2) (t 3) (t 5) (t 35) h) (f245_7K o c n k w))
noncomputable def f245_14 (s2 s3 s5 s51 s56 s60 : AV) (h : Heap) : α :=
  bkF o true s51 (pickF o s56 (.b true) s60 fun v23 => pickF o s51 v23 (.b false) fun v24 => f245_9 o c n k s2 s3 s5 v24 h) (pickF o s51 (.tup []) (.b false) fun v25 => f245_9 o c n k s2 s3 s5 v25 h)
theorem f245_14_ok : Q Pq o c (cO (cA (cB (cB (cA (cA (cA (cB (cB (cB b245)))))))))) (f245_12K o c n k w) 12 = fun t _ h => f245_14 o c n k (t 2) (t 3) (t 5) (t 51) (t 56) (t 60) h := (q_seg 12 12 (by kernel_rfl) (q_guard 12 13 (2, true) (by kernel_rfl) (by kernel_rfl) (by kernel_rfl) rfl)).tk
noncomputable def f245_13 (s2 s3 s5 s51 s56 : AV) (h : Heap) : α :=
  bkF o false s56 (faF o 2 s2 fun v26 => load1F o h v26 fun v27 => lensF o v27 fun v28 => gtrF Pq o 3 v28 (.i .i64 1000) fun v29 => f245_14 o c n k s2 s3 s5 s51 s56 v29 h) (f245_14 o c n k s2 s3 s5 s51 s56 (.tup []) h)
theorem f245_13_ok : Q Pq o c (cO (cA (cB (cB (cA (cA (cA (cB (cB (cB b245)))))))))) (f245_12K o c n k w) 8 = fun t _ h => f245_13 o c n k (t 2) (t 3) (t 5) (t 51) (t 56) h := (q_seg 8 8 (by kernel_rfl) (q_guard 8 12 (7, false) (by kernel_rfl) (by kernel_rfl) (by kernel_rfl) (f245_14_ok o c n k w))).tk
noncomputable def f245_8 (s2 s3 s5 s35 : AV) (h : Heap) : α :=
  ifF o s35 (f245_6 o c n k s2 s3 s35 h) (faF o 1 s5 fun v30 => load1F o h v30 fun v31 => bkF o true v31 (faF o 2 s2 fun v32 => load1F o h v32 fun v33 => c 300 [v33] h fun v34 h => pk k v34 h <| notF o v34 fun v35 => f245_13 o c n k s2 s3 s5 v31 v35 h) (f245_13 o c n k s2 s3 s5 v31 (.tup []) h))
theorem f245_8_ok : R Pq o c n (cB (cA (cA (cA (cB (cB (cB b245))))))) (f245_7K o c n k w) = fun t _ h => f245_8 o c n k (t 2) (t 3) (t 5) (t 35) h := (c_cond (by kernel_rfl) rfl (kseq (f245_9_ok o c n k w) (r_start 3 (by kernel_rfl) (q_guard 3 8 (2, true) (by kernel_rfl) (by kernel_rfl) (by kernel_rfl) (f245_13_ok o c n k w))))).tk
noncomputable def f245_15K : Ex → K α := (nxK (fun t _ h => f245_8 o c n k (t 2) (t 3) (t 5) (t 35) h) (f245_7K o c n k w))
noncomputable def f245_17 (s2 s3 s5 s39 s43 s46 : AV) (h : Heap) : α :=
  bkF o false s39 (pickF o s43 s46 (.b false) fun v36 => pickF o s39 (.b true) v36 fun v37 => f245_8 o c n k s2 s3 s5 v37 h) (pickF o s39 (.b true) (.tup []) fun v38 => f245_8 o c n k s2 s3 s5 v38 h)
theorem f245_17_ok : Q Pq o c (cO (cA (cA (cA (cA (cB (cB (cB b245)))))))) (f245_15K o c n k w) 11 = fun t _ h => f245_17 o c n k (t 2) (t 3) (t 5) (t 39) (t 43) (t 46) h := (q_seg 11 11 (by kernel_rfl) (q_guard 11 12 (3, false) (by kernel_rfl) (by kernel_rfl) (by kernel_rfl) rfl)).tk
noncomputable def f245_16 (s2 s3 s5 s39 s43 : AV) (h : Heap) : α :=
  bkF o true s43 (faF o 1 s2 fun v39 => load1F o h v39 fun v40 => gtrF Pq o 21 v40 (.i .i32 1) fun v41 => f245_17 o c n k s2 s3 s5 s39 s43 v41 h) (f245_17 o c n k s2 s3 s5 s39 s43 (.tup []) h)
theorem f245_16_ok : Q Pq o c (cO (cA (cA (cA (cA (cB (cB (cB b245)))))))) (f245_15K o c n k w) 8 = fun t _ h => f245_16 o c n k (t 2) (t 3) (t 5) (t 39) (t 43) h := (q_seg 8 8 (by kernel_rfl) (q_guard 8 11 (7, true) (by kernel_rfl) (by kernel_rfl) (by kernel_rfl) (f245_17_ok o c n k w))).tk
noncomputable def f245_3 (s2 s3 s5 : AV) (h : Heap) : α :=
  faF o 1 s2 fun v42 => load1F o h v42 fun v43 => lssF Pq o 21 v43 (.i .i32 0) fun v44 => bkF o false v44 (faF o 0 s2 fun v45 => load1F o h v45 fun v46 => eqiF Pq o 3 v46 (.i .i64 2) fun v47 => f245_16 o c n k s2 s3 s5 v44 v47 h) (f245_16 o c n k s2 s3 s5 v44 (.tup []) h)
theorem f245_3_ok : R Pq o c n (cB (cB (cB b245))) (kend Pq o c n w rs245 k) = fun t _ h => f245_3 o c n k (t 2) (t 3) (t 5) h := (kseq (f245_4_ok o c n k w) (kblk (kseq (f245_6_ok o c n k w) (kseq (f245_8_ok o c n k w) (r_start 4 (by kernel_rfl) (q_guard 4 8 (3, false) (by kernel_rfl) (by kernel_rfl) (by kernel_rfl) (f245_16_ok o c n k w))))))).tk
noncomputable def f245_18K : Ex → K α := (nxK (fun t _ h => f245_3 o c n k (t 2) (t 3) (t 5) h) (kend Pq o c n w rs245 k))
noncomputable def f245_19 (s2 s3 s5 s34 : AV) (h : Heap) : α :=
  ifF o s34 (k (.b false) h) (f245_3 o c n k s2 s3 s5 h)
theorem f245_19_ok : R Pq o c n (cB (cA (cB (cB b245)))) (f245_18K o c n k w) = fun t _ h => f245_19 o c n k (t 2) (t 3) (t 5) (t 34) h := by kernel_rfl
noncomputable def f245_20K : Ex → K α := (nxK (fun t _ h => f245_19 o c n k (t 2) (t 3) (t 5) (t 34) h) (f245_18K o c n k w))
noncomputable def f245_21 (s2 s3 s5 s15 s17 : AV) (h : Heap) : α :=
  pickF o s15 (.b true) s17 fun v48 => bkF o false v48 (loadNF o h 7 s5 fun v49 => faF o 1 s2 fun v50 => load1F o h v50 fun v51 => faF o 2 s2 fun v52 => load1F o h v52 fun v53 => faF o 3 s2 fun v54 => load1F o h v54 fun v55 => faF o 4 s2 fun v56 => load1F o h v56 fun v57 => faF o 5 s2 fun v58 => load1F o h v58 fun v59 => lenF o v59 fun v60 => c 299 [v49, v51, v53, v55, v57, v60] h fun v61 h => pk k v61 h <| notF o v61 fun v62 => pickF o v48 (.b true) v62 fun v63 => f245_19 o c n k s2 s3 s5 v63 h) (pickF o v48 (.b true) (.tup []) fun v64 => f245_19 o c n k s2 s3 s5 v64 h)
theorem f245_21_ok : Q Pq o c (cO (cA (cA (cB (cB b245))))) (f245_20K o c n k w) 5 = fun t _ h => f245_21 o c n k (t 2) (t 3) (t 5) (t 15) (t 17) h := (q_seg 5 7 (by kernel_rfl) (q_guard 7 21 (6, false) (by kernel_rfl) (by kernel_rfl) (by kernel_rfl) rfl)).tk
noncomputable def f245_2 (s2 s3 s5 s6 : AV) (h : Heap) : α :=
  notF o s6 fun v65 => bkF o false v65 (load1F o h s3 fun v66 => gtrF Pq o 3 v66 (.i .i64 40) fun v67 => f245_21 o c n k s2 s3 s5 v65 v67 h) (f245_21 o c n k s2 s3 s5 v65 (.tup []) h)
theorem f245_2_ok : R Pq o c n (cB (cB b245)) (kend Pq o c n w rs245 k) = fun t _ h => f245_2 o c n k (t 2) (t 3) (t 5) (t 6) h := (kseq (f245_3_ok o c n k w) (kseq (f245_19_ok o c n k w) (r_start 3 (by kernel_rfl) (q_guard 3 5 (2, false) (by kernel_rfl) (by kernel_rfl) (by kernel_rfl) (f245_21_ok o c n k w))))).tk
noncomputable def f245_1 (s2 s3 : AV) (h : Heap) : α :=
  faF o 0 s2 fun v68 => load1F o h v68 fun v69 => c 298 [v69] h fun v70 h => pk k v70 h <| exF o v70 0 fun v71 => exF o v70 1 fun v72 => newF h h.next 7 [(.b false), (.b false), (.b false), (.b false), (.i .i64 0), (.i .i64 0), (.i .i64 0)] fun v73 h => storeF o h 7 v73 v71 fun h => f245_2 o c n k s2 s3 v73 v72 h
theorem f245_1_ok : R Pq o c n (cB b245) (kend Pq o c n w rs245 k) = fun t _ h => f245_1 o c n k (t 2) (t 3) h := (kseq (f245_2_ok o c n k w) rfl).tk
noncomputable def f245 (a0 a1 : AV) (h : Heap) : α :=
  boxF o a0 h h.next fun v74 h => boxF o a1 h h.next fun v75 h => f245_1 o c n k v74 v75 h
theorem f245_ok : R Pq o c n b245 (kend Pq o c n w rs245 k) = fun t _ h => f245 o c n k (t 0) (t 1) h := (kseq (f245_1_ok o c n k w) rfl).tk
theorem f245_good : Good Pq (cfg mm) 245 (entF Pq (cfg mm) 245 2 fun α => f245) := entG b245 rs245 86 fun _ => f245_ok
noncomputable def b246 := bdy Tryz.f246
noncomputable def rs246 := Tryz.f246.results.toList
noncomputable def f246_2K : Ex → K α := (nxK (R Pq o c n (cB (cB b246)) (kend Pq o c n w rs246 k)) (kend Pq o c n w rs246 k))
noncomputable def f246_1 {α : Type} (o : α) (c : Call' α) (n : Nat) (k : AV → Heap → α) (s1 : AV) (h : Heap) : α :=
  faF o 0 s1 fun v1 => load1F o h v1 fun v2 => c 241 [v2] h fun v3 h => pk k v3 h <| notF o v3 fun v4 => bkF o false v4 (faF o 1 s1 fun v5 => load1F o h v5 fun v6 => c 242 [v6] h fun v7 h => pk k v7 h <| notF o v7 fun v8 => pickF o v4 (.b true) v8 fun v9 => k v9 h) (pickF o v4 (.b true) (.tup []) fun v10 => k v10 h)
theorem f246_1_ok : R Pq o c n (cB b246) (kend Pq o c n w rs246 k) = fun t _ h => f246_1 o c n k (t 1) h := (kseq rfl (r_start 5 (by kernel_rfl) (q_guard 5 9 (4, false) (by kernel_rfl) (by kernel_rfl) (by kernel_rfl) rfl))).tk
noncomputable def f246 (a0 : AV) (h : Heap) : α :=
  boxF o a0 h h.next fun v11 h => f246_1 o c n k v11 h
theorem f246_ok : R Pq o c n b246 (kend Pq o c n w rs246 k) = fun t _ h => f246 o c n k (t 0) h := (kseq (f246_1_ok o c n k w) rfl).tk
theorem f246_good : Good Pq (cfg mm) 246 (entF Pq (cfg mm) 246 1 fun α => f246) := entG b246 rs246 13 fun _ => f246_ok
noncomputable def b247 := bdy Tryz.f247
noncomputable def rs247 := Tryz.f247.results.toList
noncomputable def f247_2K : Ex → K α := (nxK (R Pq o c n (cB (cB b247)) (kend Pq o c n w rs247 k)) (kend Pq o c n w rs247 k))
noncomputable def f247_5K (lp0 : AVs (Heap → α) 5) : Ex → K α := (nxK (fun t _ h => lp0 (t 1) (t 2) (t 9) (t 10) (t 11) h) (blockK (cI (cB (cA (cB b247)))) (f247_2K o c n k w)))
noncomputable def f247_8K (lp0 : AVs (Heap → α) 5) : Ex → K α := (nxK (R Pq o c n (cB (cB (cB (cA (cA (cB (cA (cB b247)))))))) (f247_5K o c n k w lp0)) (f247_5K o c n k w lp0))
noncomputable def f247_10 {α : Type} (o : α) (c : Call' α) (n : Nat) (k : AV → Heap → α) (lp0 : AVs (Heap → α) 5) (s1 s2 s9 s10 s11 s32 : AV) (h : Heap) : α :=
  ifF o s32 (k (.b false) h) (addF Pq o 3 s11 (.i .i64 1) fun v1 => lp0 s1 s2 s9 s10 v1 h)
theorem f247_10_ok (lp0 : AVs (Heap → α) 5) : R Pq o c n (cB (cB (cA (cA (cB (cB (cA (cA (cB (cA (cB b247))))))))))) (blockK (cI (cA (cB (cB (cA (cA (cB (cA (cB b247))))))))) (f247_8K o c n k w lp0)) = fun t _ h => f247_10 o c n k lp0 (t 1) (t 2) (t 9) (t 10) (t 11) (t 32) h := by kernel_rfl
noncomputable def f247_11K (lp0 : AVs (Heap → α) 5) : Ex → K α := (nxK (fun t _ h => f247_10 o c n k lp0 (t 1) (t 2) (t 9) (t 10) (t 11) (t 32) h) (blockK (cI (cA (cB (cB (cA (cA (cB (cA (cB b247))))))))) (f247_8K o c n k w lp0)))
noncomputable def f247_15 (lp0 : AVs (Heap → α) 5) (s1 s2 s9 s10 s11 s20 s24 s30 : AV) (h : Heap) : α :=
  bkF o false s20 (pickF o s24 s30 (.b false) fun v2 => pickF o s20 (.b true) v2 fun v3 => f247_10 o c n k lp0 s1 s2 s9 s10 s11 v3 h) (pickF o s20 (.b true) (.tup []) fun v4 => f247_10 o c n k lp0 s1 s2 s9 s10 s11 v4 h)
theorem f247_15_ok (lp0 : AVs (Heap → α) 5) : Q Pq o c (cO (cA (cB (cA (cA (cB (cB (cA (cA (cB (cA (cB b247)))))))))))) (f247_11K o c n k w lp0) 15 = fun t _ h => f247_15 o c n k lp0 (t 1) (t 2) (t 9) (t 10) (t 11) (t 20) (t 24) (t 30) h := (q_seg 15 15 (by kernel_rfl) (q_guard 15 16 (4, false) (by kernel_rfl) (by kernel_rfl) (by kernel_rfl) rfl)).tk
noncomputable def f247_14 (lp0 : AVs (Heap → α) 5) (s1 s2 s9 s10 s11 s20 s24 s27 s29 : AV) (h : Heap) : α :=
  bkF o true s24 (pickF o s27 (.b true) s29 fun v5 => f247_15 o c n k lp0 s1 s2 s9 s10 s11 s20 s24 v5 h) (f247_15 o c n k lp0 s1 s2 s9 s10 s11 s20 s24 (.tup []) h)
theorem f247_14_ok (lp0 : AVs (Heap → α) 5) : Q Pq o c (cO (cA (cB (cA (cA (cB (cB (cA (cA (cB (cA (cB b247)))))))))))) (f247_11K o c n k w lp0) 14 = fun t _ h => f247_14 o c n k lp0 (t 1) (t 2) (t 9) (t 10) (t 11) (t 20) (t 24) (t 27) (t 29) h := (q_seg 14 14 (by kernel_rfl) (q_guard 14 15 (8, true) (by kernel_rfl) (by kernel_rfl) (by kernel_rfl) (f247_15_ok o c n k w lp0))).tk
noncomputable def f247_13 (lp0 : AVs (Heap → α) 5) (s1 s2 s7 s9 s10 s11 s20 s24 s27 : AV) (h : Heap) : α :=
  bkF o false s27 (gtrF Pq o 3 s7 (.i .i64 0) fun v6 => f247_14 o c n k lp0 s1 s2 s9 s10 s11 s20 s24 s27 v6 h) (f247_14 o c n k lp0 s1 s2 s9 s10 s11 s20 s24 s27 (.tup []) h)
theorem f247_13_ok (lp0 : AVs (Heap → α) 5) : Q Pq o c (cO (cA (cB (cA (cA (cB (cB (cA (cA (cB (cA (cB b247)))))))))))) (f247_11K o c n k w lp0) 12 = fun t _ h => f247_13 o c n k lp0 (t 1) (t 2) (t 7) (t 9) (t 10) (t 11) (t 20) (t 24) (t 27) h := (q_seg 12 12 (by kernel_rfl) (q_guard 12 14 (11, false) (by kernel_rfl) (by kernel_rfl) (by kernel_rfl) (f247_14_ok o c n k w lp0))).tk
noncomputable def f247_12 (lp0 : AVs (Heap → α) 5) (s1 s2 s7 s9 s10 s11 s20 s24 : AV) (h : Heap) : α :=
  bkF o true s24 (notF o s2 fun v7 => f247_13 o c n k lp0 s1 s2 s7 s9 s10 s11 s20 s24 v7 h) (f247_13 o c n k lp0 s1 s2 s7 s9 s10 s11 s20 s24 (.tup []) h)
theorem f247_12_ok (lp0 : AVs (Heap → α) 5) : Q Pq o c (cO (cA (cB (cA (cA (cB (cB (cA (cA (cB (cA (cB b247)))))))))))) (f247_11K o c n k w lp0) 9 = fun t _ h => f247_12 o c n k lp0 (t 1) (t 2) (t 7) (t 9) (t 10) (t 11) (t 20) (t 24) h := (q_seg 9 9 (by kernel_rfl) (q_guard 9 12 (8, true) (by kernel_rfl) (by kernel_rfl) (by kernel_rfl) (f247_13_ok o c n k w lp0))).tk
noncomputable def f247_9 (lp0 : AVs (Heap → α) 5) (s1 s2 s7 s8 s9 s10 s11 : AV) (h : Heap) : α :=
  loadNF o h 9 s8 fun v8 => c 303 [v8, s1] h fun v9 h => pk k v9 h <| notF o v9 fun v10 => bkF o false v10 (faF o 0 s8 fun v11 => load1F o h v11 fun v12 => eqiF Pq o 3 v12 (.i .i64 11) fun v13 => f247_12 o c n k lp0 s1 s2 s7 s9 s10 s11 v10 v13 h) (f247_12 o c n k lp0 s1 s2 s7 s9 s10 s11 v10 (.tup []) h)
theorem f247_9_ok (lp0 : AVs (Heap → α) 5) : R Pq o c n (cB (cA (cA (cB (cB (cA (cA (cB (cA (cB b247)))))))))) (blockK (cI (cA (cB (cB (cA (cA (cB (cA (cB b247))))))))) (f247_8K o c n k w lp0)) = fun t _ h => f247_9 o c n k lp0 (t 1) (t 2) (t 7) (t 8) (t 9) (t 10) (t 11) h := (kseq (f247_10_ok o c n k w lp0) (r_start 5 (by kernel_rfl) (q_guard 5 9 (4, false) (by kernel_rfl) (by kernel_rfl) (by kernel_rfl) (f247_12_ok o c n k w lp0)))).tk
noncomputable def f247_7 (lp0 : AVs (Heap → α) 5) (s1 s2 s9 s10 s11 : AV) (h : Heap) : α :=
  ixF o 9 s9 s11 fun v14 => loadNF o h 9 v14 fun v15 => newF h h.next 9 [(.i .i64 0), (.i .i32 0), (.s 0 0), (.s 0 0), .nsl, .nsl, .nsl, .nsl, (.i .i64 0)] fun v16 h => storeF o h 9 v16 v15 fun h => f247_9 o c n k lp0 s1 s2 s11 v16 s9 s10 s11 h
theorem f247_7_ok (lp0 : AVs (Heap → α) 5) : R Pq o c n (cB (cB (cA (cA (cB (cA (cB b247))))))) (f247_5K o c n k w lp0) = fun t _ h => f247_7 o c n k lp0 (t 1) (t 2) (t 9) (t 10) (t 11) h := (kseq rfl (kblk (kseq (f247_9_ok o c n k w lp0) rfl))).tk
noncomputable def f247_6 (lp0 : AVs (Heap → α) 5) (s1 s2 s9 s10 s11 s12 : AV) (h : Heap) : α :=
  ifF o s12 (f247_7 o c n k lp0 s1 s2 s9 s10 s11 h) (k (.b true) h)
theorem f247_6_ok (lp0 : AVs (Heap → α) 5) : R Pq o c n (cB (cA (cA (cB (cA (cB b247)))))) (f247_5K o c n k w lp0) = fun t _ h => f247_6 o c n k lp0 (t 1) (t 2) (t 9) (t 10) (t 11) (t 12) h := (kseq (f247_7_ok o c n k w lp0) rfl).tk
noncomputable def f247_4 (m : Nat) : AVs (Heap → α) 5 :=
  Nat.rec (motive := fun _ => AVs (Heap → α) 5) (fun _ _ _ _ _ _ => o) (fun _ lp0 s1 s2 s9 s10 s11 h => lssF Pq o 3 s11 s10 fun v17 => f247_6 o c n k lp0 s1 s2 s9 s10 s11 v17 h) m
theorem f247_4_ok : R Pq o c n (cA (cB (cA (cB b247)))) (blockK (cI (cB (cA (cB b247)))) (f247_2K o c n k w)) = fun t _ h => f247_4 o c n k n (t 1) (t 2) (t 9) (t 10) (t 11) h :=
  c_loop (F := fun m t _ h => f247_4 o c n k m (t 1) (t 2) (t 9) (t 10) (t 11) h) (by kernel_rfl) (by kernel_rfl) fun m => (kseq (f247_6_ok o c n k w (f247_4 o c n k m)) rfl).tk
noncomputable def f247_3 (s1 s2 s9 s10 s11 : AV) (h : Heap) : α :=
  f247_4 o c n k n s1 s2 s9 s10 s11 h
theorem f247_3_ok : R Pq o c n (cB (cA (cB b247))) (f247_2K o c n k w) = fun t _ h => f247_3 o c n k (t 1) (t 2) (t 9) (t 10) (t 11) h := (kblk (f247_4_ok o c n k w)).tk
noncomputable def f247_1 (s0 s1 s2 : AV) (h : Heap) : α :=
  lenF o s0 fun v18 => f247_3 o c n k s1 s2 s0 v18 (.i .i64 0) h
theorem f247_1_ok : R Pq o c n (cB b247) (kend Pq o c n w rs247 k) = fun t _ h => f247_1 o c n k (t 0) (t 1) (t 2) h := (kseq rfl (kseq (f247_3_ok o c n k w) rfl)).tk
noncomputable def f247 (a0 a1 a2 : AV) (h : Heap) : α :=
  f247_1 o c n k a0 a1 a2 h
theorem f247_ok : R Pq o c n b247 (kend Pq o c n w rs247 k) = fun t _ h => f247 o c n k (t 0) (t 1) (t 2) h := (kseq (f247_1_ok o c n k w) rfl).tk
theorem f247_good : Good Pq (cfg mm) 247 (entF Pq (cfg mm) 247 3 fun α => f247) := entG b247 rs247 34 fun _ => f247_ok
noncomputable def b248 := bdy Tryz.f248
noncomputable def rs248 := Tryz.f248.results.toList
noncomputable def f248_3K : Ex → K α := (nxK (R Pq o c n (cB (cB (cB b248))) (kend Pq o c n w rs248 k)) (kend Pq o c n w rs248 k))
noncomputable def f248_2 {α : Type} (o : α) (c : Call' α) (n : Nat) (k : AV → Heap → α) (s0 : AV) (h : Heap) : α :=
  nesF Pq o 9 s0 (.s 0 0) fun v1 => bkF o true v1 (lensF o s0 fun v2 => leqF Pq o 3 v2 (.i .i64 20) fun v3 => pickF o v1 v3 (.b false) fun v4 => k v4 h) (pickF o v1 (.tup []) (.b false) fun v5 => k v5 h)
theorem f248_2_ok : R Pq o c n (cB (cB b248)) (kend Pq o c n w rs248 k) = fun t _ h => f248_2 o c n k (t 0) h := (kseq rfl (r_start 3 (by kernel_rfl) (q_guard 3 6 (2, true) (by kernel_rfl) (by kernel_rfl) (by kernel_rfl) rfl))).tk
noncomputable def f248_4K : Ex → K α := (nxK (fun t _ h => f248_2 o c n k (t 0) h) (kend Pq o c n w rs248 k))
noncomputable def f248_7K (lp0 : AVs (Heap → α) 3) : Ex → K α := (nxK (fun t _ h => lp0 (t 0) (t 1) (t 8) h) (blockK (cI (cB (cA (cB b248)))) (f248_4K o c n k w)))
noncomputable def f248_11 {α : Type} (o : α) (c : Call' α) (n : Nat) (k : AV → Heap → α) (lp0 : AVs (Heap → α) 3) (s0 s1 s8 s35 : AV) (h : Heap) : α :=
  ifF o s35 (k (.b false) h) (lp0 s0 s1 s8 h)
theorem f248_11_ok (lp0 : AVs (Heap → α) 3) : R Pq o c n (cB (cB (cA (cB (cB (cA (cA (cB (cA (cB b248)))))))))) (blockK (cI (cB (cB (cA (cA (cB (cA (cB b248)))))))) (f248_7K o c n k w lp0)) = fun t _ h => f248_11 o c n k lp0 (t 0) (t 1) (t 8) (t 35) h := by kernel_rfl
noncomputable def f248_12K (lp0 : AVs (Heap → α) 3) : Ex → K α := (nxK (fun t _ h => f248_11 o c n k lp0 (t 0) (t 1) (t 8) (t 35) h) (blockK (cI (cB (cB (cA (cA (cB (cA (cB b248)))))))) (f248_7K o c n k w lp0)))
noncomputable def f248_17 (lp0 : AVs (Heap → α) 3) (s0 s1 s8 s21 s30 s33 : AV) (h : Heap) : α :=
  bkF o false s21 (pickF o s30 s33 (.b false) fun v6 => pickF o s21 (.b true) v6 fun v7 => f248_11 o c n k lp0 s0 s1 s8 v7 h) (pickF o s21 (.b true) (.tup []) fun v8 => f248_11 o c n k lp0 s0 s1 s8 v8 h)
theorem f248_17_ok (lp0 : AVs (Heap → α) 3) : Q Pq o c (cO (cA (cB (cA (cB (cB (cA (cA (cB (cA (cB b248))))))))))) (f248_12K o c n k w lp0) 21 = fun t _ h => f248_17 o c n k lp0 (t 0) (t 1) (t 8) (t 21) (t 30) (t 33) h := (q_seg 21 21 (by kernel_rfl) (q_guard 21 22 (8, false) (by kernel_rfl) (by kernel_rfl) (by kernel_rfl) rfl)).tk
noncomputable def f248_16 (lp0 : AVs (Heap → α) 3) (s0 s1 s6 s8 s21 s30 : AV) (h : Heap) : α :=
  bkF o true s30 (c 304 [s6] h fun v9 h => pk k v9 h <| notF o v9 fun v10 => f248_17 o c n k lp0 s0 s1 s8 s21 s30 v10 h) (f248_17 o c n k lp0 s0 s1 s8 s21 s30 (.tup []) h)
theorem f248_16_ok (lp0 : AVs (Heap → α) 3) : Q Pq o c (cO (cA (cB (cA (cB (cB (cA (cA (cB (cA (cB b248))))))))))) (f248_12K o c n k w lp0) 18 = fun t _ h => f248_16 o c n k lp0 (t 0) (t 1) (t 6) (t 8) (t 21) (t 30) h := (q_seg 18 18 (by kernel_rfl) (q_guard 18 21 (17, true) (by kernel_rfl) (by kernel_rfl) (by kernel_rfl) (f248_17_ok o c n k w lp0))).tk
noncomputable def f248_15 (lp0 : AVs (Heap → α) 3) (s0 s1 s6 s8 s21 s25 s28 : AV) (h : Heap) : α :=
  bkF o false s21 (pickF o s25 s28 (.b false) fun v11 => f248_16 o c n k lp0 s0 s1 s6 s8 s21 v11 h) (f248_16 o c n k lp0 s0 s1 s6 s8 s21 (.tup []) h)
theorem f248_15_ok (lp0 : AVs (Heap → α) 3) : Q Pq o c (cO (cA (cB (cA (cB (cB (cA (cA (cB (cA (cB b248))))))))))) (f248_12K o c n k w lp0) 16 = fun t _ h => f248_15 o c n k lp0 (t 0) (t 1) (t 6) (t 8) (t 21) (t 25) (t 28) h := (q_seg 16 16 (by kernel_rfl) (q_guard 16 18 (8, false) (by kernel_rfl) (by kernel_rfl) (by kernel_rfl) (f248_16_ok o c n k w lp0))).tk
noncomputable def f248_14 (lp0 : AVs (Heap → α) 3) (s0 s1 s6 s8 s21 s25 : AV) (h : Heap) : α :=
  bkF o true s25 (c 249 [s6] h fun v12 h => pk k v12 h <| notF o v12 fun v13 => f248_15 o c n k lp0 s0 s1 s6 s8 s21 s25 v13 h) (f248_15 o c n k lp0 s0 s1 s6 s8 s21 s25 (.tup []) h)
theorem f248_14_ok (lp0 : AVs (Heap → α) 3) : Q Pq o c (cO (cA (cB (cA (cB (cB (cA (cA (cB (cA (cB b248))))))))))) (f248_12K o c n k w lp0) 13 = fun t _ h => f248_14 o c n k lp0 (t 0) (t 1) (t 6) (t 8) (t 21) (t 25) h := (q_seg 13 13 (by kernel_rfl) (q_guard 13 16 (12, true) (by kernel_rfl) (by kernel_rfl) (by kernel_rfl) (f248_15_ok o c n k w lp0))).tk
noncomputable def f248_13 (lp0 : AVs (Heap → α) 3) (s0 s1 s6 s8 s15 s19 : AV) (h : Heap) : α :=
  pickF o s15 s19 (.b false) fun v14 => bkF o false v14 (c 295 [s6] h fun v15 h => pk k v15 h <| notF o v15 fun v16 => f248_14 o c n k lp0 s0 s1 s6 s8 v14 v16 h) (f248_14 o c n k lp0 s0 s1 s6 s8 v14 (.tup []) h)
theorem f248_13_ok (lp0 : AVs (Heap → α) 3) : Q Pq o c (cO (cA (cB (cA (cB (cB (cA (cA (cB (cA (cB b248))))))))))) (f248_12K o c n k w lp0) 7 = fun t _ h => f248_13 o c n k lp0 (t 0) (t 1) (t 6) (t 8) (t 15) (t 19) h := (q_seg 7 9 (by kernel_rfl) (q_guard 9 13 (8, false) (by kernel_rfl) (by kernel_rfl) (by kernel_rfl) (f248_14_ok o c n k w lp0))).tk
noncomputable def f248_10 (lp0 : AVs (Heap → α) 3) (s0 s1 s5 s6 s8 : AV) (h : Heap) : α :=
  eqiF Pq o 3 s5 (.i .i64 0) fun v17 => bkF o true v17 (cfF o s1 [s6] c h fun v18 h => pk k v18 h <| notF o v18 fun v19 => f248_13 o c n k lp0 s0 s1 s6 s8 v17 v19 h) (f248_13 o c n k lp0 s0 s1 s6 s8 v17 (.tup []) h)
theorem f248_10_ok (lp0 : AVs (Heap → α) 3) : R Pq o c n (cB (cA (cB (cB (cA (cA (cB (cA (cB b248))))))))) (blockK (cI (cB (cB (cA (cA (cB (cA (cB b248)))))))) (f248_7K o c n k w lp0)) = fun t _ h => f248_10 o c n k lp0 (t 0) (t 1) (t 5) (t 6) (t 8) h := (kseq (f248_11_ok o c n k w lp0) (r_start 3 (by kernel_rfl) (q_guard 3 7 (2, true) (by kernel_rfl) (by kernel_rfl) (by kernel_rfl) (f248_13_ok o c n k w lp0)))).tk
noncomputable def f248_9 (lp0 : AVs (Heap → α) 3) (s0 s1 s8 s9 : AV) (h : Heap) : α :=
  exF o s9 1 fun v20 => exF o s9 2 fun v21 => f248_10 o c n k lp0 s0 s1 v20 v21 s8 h
theorem f248_9_ok (lp0 : AVs (Heap → α) 3) : R Pq o c n (cB (cB (cA (cA (cB (cA (cB b248))))))) (f248_7K o c n k w lp0) = fun t _ h => f248_9 o c n k lp0 (t 0) (t 1) (t 8) (t 9) h := (kblk (kseq (f248_10_ok o c n k w lp0) rfl)).tk
noncomputable def f248_8 (lp0 : AVs (Heap → α) 3) (s0 s1 s8 s9 s10 : AV) (h : Heap) : α :=
  ifF o s10 (f248_9 o c n k lp0 s0 s1 s8 s9 h) (f248_2 o c n k s0 h)
theorem f248_8_ok (lp0 : AVs (Heap → α) 3) : R Pq o c n (cB (cA (cA (cB (cA (cB b248)))))) (f248_7K o c n k w lp0) = fun t _ h => f248_8 o c n k lp0 (t 0) (t 1) (t 8) (t 9) (t 10) h := (kseq (f248_9_ok o c n k w lp0) rfl).tk
noncomputable def f248_6 (m : Nat) : AVs (Heap → α) 3 :=
  Nat.rec (motive := fun _ => AVs (Heap → α) 3) (fun _ _ _ _ => o) (fun _ lp0 s0 s1 s8 h => nextN o h s8 fun v22 h => exF o v22 0 fun v23 => f248_8 o c n k lp0 s0 s1 s8 v22 v23 h) m
theorem f248_6_ok : R Pq o c n (cA (cB (cA (cB b248)))) (blockK (cI (cB (cA (cB b248)))) (f248_4K o c n k w)) = fun t _ h => f248_6 o c n k n (t 0) (t 1) (t 8) h :=
  c_loop (F := fun m t _ h => f248_6 o c n k m (t 0) (t 1) (t 8) h) (by kernel_rfl) (by kernel_rfl) fun m => (kseq (f248_8_ok o c n k w (f248_6 o c n k m)) rfl).tk
noncomputable def f248_5 (s0 s1 s8 : AV) (h : Heap) : α :=
  f248_6 o c n k n s0 s1 s8 h
theorem f248_5_ok : R Pq o c n (cB (cA (cB b248))) (f248_4K o c n k w) = fun t _ h => f248_5 o c n k (t 0) (t 1) (t 8) h := (kblk (f248_6_ok o c n k w)).tk
noncomputable def f248_1 (s0 s1 : AV) (h : Heap) : α :=
  iterA o h h.next s0 fun v24 h => f248_5 o c n k s0 s1 v24 h
theorem f248_1_ok : R Pq o c n (cB b248) (kend Pq o c n w rs248 k) = fun t _ h => f248_1 o c n k (t 0) (t 1) h := (kseq (f248_2_ok o c n k w) (kseq (f248_5_ok o c n k w) rfl)).tk
noncomputable def f248 (a0 a1 : AV) (h : Heap) : α :=
  f248_1 o c n k a0 a1 h
theorem f248_ok : R Pq o c n b248 (kend Pq o c n w rs248 k) = fun t _ h => f248 o c n k (t 0) (t 1) h := (kseq (f248_1_ok o c n k w) rfl).tk
theorem f248_good : Good Pq (cfg mm) 248 (entF Pq (cfg mm) 248 2 fun α => f248) := entG b248 rs248 43 fun _ => f248_ok
noncomputable def b249 := bdy Tryz.f249
noncomputable def rs249 := Tryz.f249.results.toList
noncomputable def f249_2K : Ex → K α := (nxK (R Pq o c n (cB (cB b249)) (kend Pq o c n w rs249 k)) (kend Pq o c n w rs249 k))
noncomputable def f249_1 {α : Type} (o : α) (c : Call' α) (n : Nat) (k : AV → Heap → α) (s0 : AV) (h : Heap) : α :=
  geqF Pq o 21 s0 (.i .i32 65) fun v1 => bkF o true v1 (leqF Pq o 21 s0 (.i .i32 90) fun v2 => pickF o v1 v2 (.b false) fun v3 => k v3 h) (pickF o v1 (.tup []) (.b false) fun v4 => k v4 h)
theorem f249_1_ok : R Pq o c n (cB b249) (kend Pq o c n w rs249 k) = fun t _ h => f249_1 o c n k (t 0) h := (kseq rfl (r_start 3 (by kernel_rfl) (q_guard 3 5 (2, true) (by kernel_rfl) (by kernel_rfl) (by kernel_rfl) rfl))).tk
noncomputable def f249 (a0 : AV) (h : Heap) : α :=
  f249_1 o c n k a0 h
theorem f249_ok : R Pq o c n b249 (kend Pq o c n w rs249 k) = fun t _ h => f249 o c n k (t 0) h := (kseq (f249_1_ok o c n k w) rfl).tk
theorem f249_good : Good Pq (cfg mm) 249 (entF Pq (cfg mm) 249 1 fun α => f249) := entG b249 rs249 9 fun _ => f249_ok
noncomputable def b250 := bdy Tryz.f250
noncomputable def rs250 := Tryz.f250.results.toList
noncomputable def f250_3K : Ex → K α := (nxK (R Pq o c n (cB (cB (cB b250))) (kend Pq o c n w rs250 k)) (kend Pq o c n w rs250 k))
noncomputable def f250_5 {α : Type} (o : α) (c : Call' α) (n : Nat) (k : AV → Heap → α) (m : Nat) : AVs (Heap → α) 4 :=
  Nat.rec (motive := fun _ => AVs (Heap → α) 4) (fun _ _ _ _ _ => o) (fun _ lp0 s3 s7 s8 s9 h => lssF Pq o 3 s9 s8 fun v1 => ifF o v1 (ixF o 8 s7 s9 fun v2 => loadNF o h 8 v2 fun v3 => newF h h.next 8 [(.i .i64 0), (.i .i32 0), (.s 0 0), (.s 0 0), (.s 0 0), .nsl, (.s 0 0), (.i .i64 0)] fun v4 h => storeF o h 8 v4 v3 fun h => loadNF o h 8 v4 fun v5 => c 250 [v5] h fun v6 h => pk k v6 h <| addF Pq o 3 s3 v6 fun v7 => addF Pq o 3 s9 (.i .i64 1) fun v8 => lp0 v7 s7 s8 v8 h) (k s3 h)) m
theorem f250_5_ok : R Pq o c n (cA (cB (cA (cB (cB b250))))) (blockK (cI (cB (cA (cB (cB b250))))) (f250_3K o c n k w)) = fun t _ h => f250_5 o c n k n (t 3) (t 7) (t 8) (t 9) h :=
  c_loop (F := fun m t _ h => f250_5 o c n k m (t 3) (t 7) (t 8) (t 9) h) (by kernel_rfl) (by kernel_rfl) fun m => by kernel_rfl
noncomputable def f250_4 (s3 s7 s8 s9 : AV) (h : Heap) : α :=
  f250_5 o c n k n s3 s7 s8 s9 h
theorem f250_4_ok : R Pq o c n (cB (cA (cB (cB b250)))) (f250_3K o c n k w) = fun t _ h => f250_4 o c n k (t 3) (t 7) (t 8) (t 9) h := (kblk (f250_5_ok o c n k w)).tk
noncomputable def f250_2 (s1 s3 : AV) (h : Heap) : α :=
  faF o 5 s1 fun v9 => load1F o h v9 fun v10 => lenF o v10 fun v11 => f250_4 o c n k s3 v10 v11 (.i .i64 0) h
theorem f250_2_ok : R Pq o c n (cB (cB b250)) (kend Pq o c n w rs250 k) = fun t _ h => f250_2 o c n k (t 1) (t 3) h := (kseq rfl (kseq (f250_4_ok o c n k w) rfl)).tk
noncomputable def f250_1 (s1 : AV) (h : Heap) : α :=
  f250_2 o c n k s1 (.i .i64 1) h
theorem f250_1_ok : R Pq o c n (cB b250) (kend Pq o c n w rs250 k) = fun t _ h => f250_1 o c n k (t 1) h := (kseq (f250_2_ok o c n k w) rfl).tk
noncomputable def f250 (a0 : AV) (h : Heap) : α :=
  boxF o a0 h h.next fun v12 h => f250_1 o c n k v12 h
theorem f250_ok : R Pq o c n b250 (kend Pq o c n w rs250 k) = fun t _ h => f250 o c n k (t 0) h := (kseq (f250_1_ok o c n k w) rfl).tk
theorem f250_good : Good Pq (cfg mm) 250 (entF Pq (cfg mm) 250 1 fun α => f250) := entG b250 rs250 19 fun _ => f250_ok
noncomputable def b251 := bdy Tryz.f251
noncomputable def rs251 := Tryz.f251.results.toList
noncomputable def f251 {α : Type} (o : α) (c : Call' α) (n : Nat) (k : AV → Heap → α) (a0 a1 : AV) (h : Heap) : α :=
  boxF o a0 h h.next fun v1 h => loadNF o h 1 v1 fun v2 => c 132 [v2, a1] h fun v3 h => pk k v3 h <| geqF Pq o 3 v3 (.i .i64 0) fun v4 => ifF o v4 (faF o 0 v1 fun v5 => load1F o h v5 fun v6 => ixF o 4 v6 v3 fun v7 => loadNF o h 4 v7 fun v8 => k (.ifc 51 v8) h) (k .nifc h)
theorem f251_ok : R Pq o c n b251 (kend Pq o c n w rs251 k) = fun t _ h => f251 o c n k (t 0) (t 1) h := by kernel_rfl
theorem f251_good : Good Pq (cfg mm) 251 (entF Pq (cfg mm) 251 2 fun α => f251) := entG b251 rs251 17 fun _ => f251_ok
noncomputable def b252 := bdy Tryz.f252
noncomputable def rs252 := Tryz.f252.results.toList
noncomputable def f252 {α : Type} (o : α) (c : Call' α) (n : Nat) (k : AV → Heap → α) (a0 a1 : AV) (h : Heap) : α :=
  boxF o a0 h h.next fun v1 h => boxF o a1 h h.next fun v2 h => faF o 4 v1 fun v3 => load1F o h v3 fun v4 => faF o 4 v2 fun v5 => load1F o h v5 fun v6 => c 305 [v4, v6, (.fn (.func 306) [] [])] h fun v7 h => pk k v7 h <| k v7 h
theorem f252_ok : R Pq o c n b252 (kend Pq o c n w rs252 k) = fun t _ h => f252 o c n k (t 0) (t 1) h := by kernel_rfl
theorem f252_good : Good Pq (cfg mm) 252 (entF Pq (cfg mm) 252 2 fun α => f252) := entG b252 rs252 10 fun _ => f252_ok
noncomputable def b253 := bdy Tryz.f253
noncomputable def rs253 := Tryz.f253.results.toList
noncomputable def f253 {α : Type} (o : α) (c : Call' α) (n : Nat) (k : AV → Heap → α) (a0 a1 : AV) (h : Heap) : α :=
  boxF o a0 h h.next fun v1 h => loadNF o h 1 v1 fun v2 => c 307 [v2, a1] h fun v3 h => pk k v3 h <| assertA Pq o v3 51 true fun v4 => exF o v4 0 fun v5 => exF o v4 1 fun v6 => newF h h.next 4 [(.s 0 0), (.s 0 0), .nsl, .nsl] fun v7 h => storeF o h 4 v7 v5 fun h => notF o v6 fun v8 => ifF o v8 (k .nsl h) (faF o 3 v7 fun v9 => load1F o h v9 fun v10 => k v10 h)
theorem f253_ok : R Pq o c n b253 (kend Pq o c n w rs253 k) = fun t _ h => f253 o c n k (t 0) (t 1) h := by kernel_rfl
theorem f253_good : Good Pq (cfg mm) 253 (entF Pq (cfg mm) 253 2 fun α => f253) := entG b253 rs253 18 fun _ => f253_ok
noncomputable def b255 := bdy Tryz.f255
noncomputable def rs255 := Tryz.f255.results.toList
noncomputable def f255_4K : Ex → K α := (nxK (R Pq o c n (cB (cB (cB (cB b255)))) (kend Pq o c n w rs255 k)) (kend Pq o c n w rs255 k))
noncomputable def f255_6 {α : Type} (o : α) (c : Call' α) (n : Nat) (k : AV → Heap → α) (m : Nat) : AVs (Heap → α) 7 :=
  Nat.rec (motive := fun _ => AVs (Heap → α) 7) (fun _ _ _ _ _ _ _ _ => o) (fun _ lp0 s3 s4 s9 s10 s16 s17 s18 h => lssF Pq o 3 s18 s17 fun v1 => ifF o v1 (ixF o 8 s16 s18 fun v2 => loadNF o h 8 v2 fun v3 => newF h h.next 8 [(.i .i64 0), (.i .i32 0), (.s 0 0), (.s 0 0), (.s 0 0), .nsl, (.s 0 0), (.i .i64 0)] fun v4 h => storeF o h 8 v4 v3 fun h => loadNF o h 1 s3 fun v5 => loadNF o h 3 s4 fun v6 => loadNF o h 8 v4 fun v7 => c 193 [v5, v6, v7] h fun v8 h => pk k v8 h <| exF o v8 0 fun v9 => exF o v8 1 fun v10 => exF o v8 2 fun v11 => newF h h.next 8 [(.i .i64 0), (.i .i32 0), (.s 0 0), (.s 0 0), (.s 0 0), .nsl, (.s 0 0), (.i .i64 0)] fun v12 h => storeF o h 8 v12 v9 fun h => neiF Pq o 3 v11 (.i .i64 0) fun v13 => ifF o v13 (k (.tup [.nsl, .nsl, v11]) h) (loadNF o h 8 v12 fun v14 => fil1 o 8 1 0 v14 [[(.i .i64 0), (.i .i32 0), (.s 0 0), (.s 0 0), (.s 0 0), .nsl, (.s 0 0), (.i .i64 0)]] fun v15 => newEF h h.next 8 1 v15 fun v16 h => appX Pq o h h.next 66 66 s9 v16 fun v17 h => fil1 o 1 1 0 v10 [[(.s 0 0)]] fun v18 => newEF h h.next 1 1 v18 fun v19 h => appX Pq o h h.next 58 58 s10 v19 fun v20 h => addF Pq o 3 s18 (.i .i64 1) fun v21 => lp0 s3 s4 v17 v20 s16 s17 v21 h)) (k (.tup [s9, s10, (.i .i64 0)]) h)) m
theorem f255_6_ok : R Pq o c n (cA (cB (cA (cB (cB (cB b255)))))) (blockK (cI (cB (cA (cB (cB (cB b255)))))) (f255_4K o c n k w)) = fun t _ h => f255_6 o c n k n (t 3) (t 4) (t 9) (t 10) (t 16) (t 17) (t 18) h :=
  c_loop (F := fun m t _ h => f255_6 o c n k m (t 3) (t 4) (t 9) (t 10) (t 16) (t 17) (t 18) h) (by kernel_rfl) (by kernel_rfl) fun m => by kernel_rfl
noncomputable def f255_5 (s3 s4 s9 s10 s16 s17 s18 : AV) (h : Heap) : α :=
  f255_6 o c n k n s3 s4 s9 s10 s16 s17 s18 h
theorem f255_5_ok : R Pq o c n (cB (cA (cB (cB (cB b255))))) (f255_4K o c n k w) = fun t _ h => f255_5 o c n k (t 3) (t 4) (t 9) (t 10) (t 16) (t 17) (t 18) h := (kblk (f255_6_ok o c n k w)).tk
noncomputable def f255_3 (s2 s3 s4 s9 s10 : AV) (h : Heap) : α :=
  lenF o s2 fun v22 => f255_5 o c n k s3 s4 s9 s10 s2 v22 (.i .i64 0) h
theorem f255_3_ok : R Pq o c n (cB (cB (cB b255))) (kend Pq o c n w rs255 k) = fun t _ h => f255_3 o c n k (t 2) (t 3) (t 4) (t 9) (t 10) h := (kseq rfl (kseq (f255_5_ok o c n k w) rfl)).tk
noncomputable def f255_2 (s2 s3 s4 s9 : AV) (h : Heap) : α :=
  f255_3 o c n k s2 s3 s4 s9 .nsl h
theorem f255_2_ok : R Pq o c n (cB (cB b255)) (kend Pq o c n w rs255 k) = fun t _ h => f255_2 o c n k (t 2) (t 3) (t 4) (t 9) h := (kseq (f255_3_ok o c n k w) rfl).tk
noncomputable def f255_1 (s2 s3 s4 : AV) (h : Heap) : α :=
  f255_2 o c n k s2 s3 s4 .nsl h
theorem f255_1_ok : R Pq o c n (cB b255) (kend Pq o c n w rs255 k) = fun t _ h => f255_1 o c n k (t 2) (t 3) (t 4) h := (kseq (f255_2_ok o c n k w) rfl).tk
noncomputable def f255 (a0 a1 a2 : AV) (h : Heap) : α :=
  boxF o a0 h h.next fun v23 h => boxF o a1 h h.next fun v24 h => f255_1 o c n k a2 v23 v24 h
theorem f255_ok : R Pq o c n b255 (kend Pq o c n w rs255 k) = fun t _ h => f255 o c n k (t 0) (t 1) (t 2) h := (kseq (f255_1_ok o c n k w) rfl).tk
theorem f255_good : Good Pq (cfg mm) 255 (entF Pq (cfg mm) 255 3 fun α => f255) := entG b255 rs255 44 fun _ => f255_ok
noncomputable def b256 := bdy Tryz.f256
noncomputable def rs256 := Tryz.f256.results.toList
noncomputable def f256_2 {α : Type} (o : α) (c : Call' α) (n : Nat) (k : AV → Heap → α) (s1 : AV) (h : Heap) : α :=
  loadNF o h 13 s1 fun v1 => c 315 [v1] h fun v2 h => pk k v2 h <| k v2 h
theorem f256_2_ok : R Pq o c n (cB (cB b256)) (kend Pq o c n w rs256 k) = fun t _ h => f256_2 o c n k (t 1) h := by kernel_rfl
noncomputable def f256_3K : Ex → K α := (nxK (fun t _ h => f256_2 o c n k (t 1) h) (kend Pq o c n w rs256 k))
noncomputable def f256_13 {α : Type} (o : α) (c : Call' α) (n : Nat) (k : AV → Heap → α) (s1 : AV) (h : Heap) : α :=
  faF o 0 s1 fun v3 => loadNF o h 1 v3 fun v4 => faF o 4 s1 fun v5 => faF o 4 v5 fun v6 => load1F o h v6 fun v7 => faF o 12 s1 fun v8 => load1F o h v8 fun v9 => c 200 [v4, v7, v9] h fun v10 h => pk k v10 h <| exF o v10 0 fun v11 => exF o v10 1 fun v12 => newF h h.next 2 [(.s 0 0), (.i .i64 0)] fun v13 h => storeF o h 2 v13 v11 fun h => faF o 4 s1 fun v14 => faF o 4 v14 fun v15 => load1F o h v15 fun v16 => loadNF o h 2 v13 fun v17 => layF o 0 v16 [(.s 0 0), (.s 0 0), (.i .i64 0), (.i .i64 0)] fun v18 => lay1 o 1 2 v17 v18 fun v19 => layF o 3 v12 v19 fun v20 => k (.ifc 263 (.agg v20)) h
theorem f256_13_ok : R Pq o c n (cB (cA (cB (cB (cB (cB (cB (cB (cB (cB (cB (cB (cB (cB (cB (cB (cB (cA (cB (cA (cB b256))))))))))))))))))))) (blockK (cI (cB (cA (cB b256)))) (f256_3K o c n k w)) = fun t _ h => f256_13 o c n k (t 1) h := by kernel_rfl
noncomputable def f256_14K : Ex → K α := (nxK (fun t _ h => f256_13 o c n k (t 1) h) (blockK (cI (cB (cA (cB b256)))) (f256_3K o c n k w)))
noncomputable def f256_15 (s1 s55 : AV) (h : Heap) : α :=
  ifF o s55 (c 309 [(.i .i64 14)] h fun v21 h => pk k v21 h <| k v21 h) (f256_13 o c n k s1 h)
theorem f256_15_ok : R Pq o c n (cB (cA (cA (cB (cB (cB (cB (cB (cB (cB (cB (cB (cB (cB (cB (cB (cB (cB (cA (cB (cA (cB b256)))))))))))))))))))))) (f256_14K o c n k w) = fun t _ h => f256_15 o c n k (t 1) (t 55) h := by kernel_rfl
noncomputable def f256_16K : Ex → K α := (nxK (fun t _ h => f256_15 o c n k (t 1) (t 55) h) (f256_14K o c n k w))
noncomputable def f256_17 (s1 s75 : AV) (h : Heap) : α :=
  ifF o s75 (loadNF o h 13 s1 fun v22 => c 314 [v22] h fun v23 h => pk k v23 h <| k v23 h) (f256_2 o c n k s1 h)
theorem f256_17_ok : R Pq o c n (cB (cB (cB (cB (cB (cB (cB (cB (cB (cB (cB (cB (cB (cB (cB (cB (cB (cA (cB (cA (cB b256))))))))))))))))))))) (blockK (cI (cB (cA (cB b256)))) (f256_3K o c n k w)) = fun t _ h => f256_17 o c n k (t 1) (t 75) h := by kernel_rfl
noncomputable def f256_12 (s1 s7 s44 : AV) (h : Heap) : α :=
  ifF o s44 (loadNF o h 13 s1 fun v24 => faF o 4 s1 fun v25 => faF o 4 v25 fun v26 => load1F o h v26 fun v27 => c 312 [v24, v27] h fun v28 h => pk k v28 h <| bkF o true v28 (faF o 12 s1 fun v29 => load1F o h v29 fun v30 => c 313 [v30] h fun v31 h => pk k v31 h <| pickF o v28 v31 (.b false) fun v32 => f256_15 o c n k s1 v32 h) (pickF o v28 (.tup []) (.b false) fun v33 => f256_15 o c n k s1 v33 h)) (eqiF Pq o 3 s7 (.i .i64 15) fun v34 => ifF o v34 (f256_17 o c n k s1 v34 h) (eqiF Pq o 3 s7 (.i .i64 16) fun v35 => f256_17 o c n k s1 v35 h))
theorem f256_12_ok : R Pq o c n (cB (cB (cB (cB (cB (cB (cB (cB (cB (cB (cB (cB (cB (cB (cB (cA (cB (cA (cB b256))))))))))))))))))) (blockK (cI (cB (cA (cB b256)))) (f256_3K o c n k w)) = fun t _ h => f256_12 o c n k (t 1) (t 7) (t 44) h := (c_cond (by kernel_rfl) (kseq (f256_13_ok o c n k w) (kseq (f256_15_ok o c n k w) (r_start 6 (by kernel_rfl) (q_guard 6 9 (5, true) (by kernel_rfl) (by kernel_rfl) (by kernel_rfl) rfl)))) (kseq (f256_17_ok o c n k w) rfl)).tk
noncomputable def f256_11 (s1 s7 s37 : AV) (h : Heap) : α :=
  ifF o s37 (loadNF o h 13 s1 fun v36 => c 311 [v36] h fun v37 h => pk k v37 h <| k v37 h) (eqiF Pq o 3 s7 (.i .i64 14) fun v38 => f256_12 o c n k s1 s7 v38 h)
theorem f256_11_ok : R Pq o c n (cB (cB (cB (cB (cB (cB (cB (cB (cB (cB (cB (cB (cB (cA (cB (cA (cB b256))))))))))))))))) (blockK (cI (cB (cA (cB b256)))) (f256_3K o c n k w)) = fun t _ h => f256_11 o c n k (t 1) (t 7) (t 37) h := (c_cond (by kernel_rfl) rfl (kseq (f256_12_ok o c n k w) rfl)).tk
noncomputable def f256_10 (s1 s7 s30 : AV) (h : Heap) : α :=
  ifF o s30 (loadNF o h 13 s1 fun v39 => c 310 [v39] h fun v40 h => pk k v40 h <| k v40 h) (eqiF Pq o 3 s7 (.i .i64 10) fun v41 => ifF o v41 (f256_11 o c n k s1 s7 v41 h) (eqiF Pq o 3 s7 (.i .i64 11) fun v42 => ifF o v42 (f256_11 o c n k s1 s7 v42 h) (eqiF Pq o 3 s7 (.i .i64 12) fun v43 => ifF o v43 (f256_11 o c n k s1 s7 v43 h) (eqiF Pq o 3 s7 (.i .i64 13) fun v44 => f256_11 o c n k s1 s7 v44 h))))
theorem f256_10_ok : R Pq o c n (cB (cB (cB (cB (cB (cB (cB (cB (cB (cB (cB (cA (cB (cA (cB b256))))))))))))))) (blockK (cI (cB (cA (cB b256)))) (f256_3K o c n k w)) = fun t _ h => f256_10 o c n k (t 1) (t 7) (t 30) h := (c_cond (by kernel_rfl) rfl (kseq (f256_11_ok o c n k w) rfl)).tk
noncomputable def f256_9 (s1 s7 s20 : AV) (h : Heap) : α :=
  ifF o s20 (faF o 1 s1 fun v45 => faF o 1 v45 fun v46 => load1F o h v46 fun v47 => ifF o v47 (c 309 [(.i .i64 13)] h fun v48 h => pk k v48 h <| k v48 h) (faF o 1 s1 fun v49 => faF o 0 v49 fun v50 => load1F o h v50 fun v51 => c 308 [v51] h fun v52 h => pk k v52 h <| k v52 h)) (eqiF Pq o 3 s7 (.i .i64 6) fun v53 => ifF o v53 (f256_10 o c n k s1 s7 v53 h) (eqiF Pq o 3 s7 (.i .i64 7) fun v54 => ifF o v54 (f256_10 o c n k s1 s7 v54 h) (eqiF Pq o 3 s7 (.i .i64 8) fun v55 => ifF o v55 (f256_10 o c n k s1 s7 v55 h) (eqiF Pq o 3 s7 (.i .i64 9) fun v56 => f256_10 o c n k s1 s7 v56 h))))
theorem f256_9_ok : R Pq o c n (cB (cB (cB (cB (cB (cB (cB (cB (cB (cA (cB (cA (cB b256))))))))))))) (blockK (cI (cB (cA (cB b256)))) (f256_3K o c n k w)) = fun t _ h => f256_9 o c n k (t 1) (t 7) (t 20) h := (c_cond (by kernel_rfl) rfl (kseq (f256_10_ok o c n k w) rfl)).tk
noncomputable def f256_8 (s1 s7 s17 : AV) (h : Heap) : α :=
  ifF o s17 (c 308 [(.s 4 1819047278)] h fun v57 h => pk k v57 h <| k v57 h) (eqiF Pq o 3 s7 (.i .i64 5) fun v58 => f256_9 o c n k s1 s7 v58 h)
theorem f256_8_ok : R Pq o c n (cB (cB (cB (cB (cB (cB (cB (cA (cB (cA (cB b256))))))))))) (blockK (cI (cB (cA (cB b256)))) (f256_3K o c n k w)) = fun t _ h => f256_8 o c n k (t 1) (t 7) (t 17) h := (c_cond (by kernel_rfl) rfl (kseq (f256_9_ok o c n k w) rfl)).tk
noncomputable def f256_7 (s1 s7 s14 : AV) (h : Heap) : α :=
  ifF o s14 (c 308 [(.s 6 113723913172051)] h fun v59 h => pk k v59 h <| k v59 h) (eqiF Pq o 3 s7 (.i .i64 4) fun v60 => f256_8 o c n k s1 s7 v60 h)
theorem f256_7_ok : R Pq o c n (cB (cB (cB (cB (cB (cA (cB (cA (cB b256))))))))) (blockK (cI (cB (cA (cB b256)))) (f256_3K o c n k w)) = fun t _ h => f256_7 o c n k (t 1) (t 7) (t 14) h := (c_cond (by kernel_rfl) rfl (kseq (f256_8_ok o c n k w) rfl)).tk
noncomputable def f256_6 (s1 s7 s11 : AV) (h : Heap) : α :=
  ifF o s11 (c 308 [(.s 7 31069335677005666)] h fun v61 h => pk k v61 h <| k v61 h) (eqiF Pq o 3 s7 (.i .i64 3) fun v62 => f256_7 o c n k s1 s7 v62 h)
theorem f256_6_ok : R Pq o c n (cB (cB (cB (cA (cB (cA (cB b256))))))) (blockK (cI (cB (cA (cB b256)))) (f256_3K o c n k w)) = fun t _ h => f256_6 o c n k (t 1) (t 7) (t 11) h := (c_cond (by kernel_rfl) rfl (kseq (f256_7_ok o c n k w) rfl)).tk
noncomputable def f256_5 (s1 s7 s8 : AV) (h : Heap) : α :=
  ifF o s8 (c 308 [(.s 3 7630441)] h fun v63 h => pk k v63 h <| k v63 h) (eqiF Pq o 3 s7 (.i .i64 2) fun v64 => f256_6 o c n k s1 s7 v64 h)
theorem f256_5_ok : R Pq o c n (cB (cA (cB (cA (cB b256))))) (blockK (cI (cB (cA (cB b256)))) (f256_3K o c n k w)) = fun t _ h => f256_5 o c n k (t 1) (t 7) (t 8) h := (c_cond (by kernel_rfl) rfl (kseq (f256_6_ok o c n k w) rfl)).tk
noncomputable def f256_4 (s1 s7 : AV) (h : Heap) : α :=
  eqiF Pq o 3 s7 (.i .i64 1) fun v65 => f256_5 o c n k s1 s7 v65 h
theorem f256_4_ok : R Pq o c n (cB (cA (cB b256))) (f256_3K o c n k w) = fun t _ h => f256_4 o c n k (t 1) (t 7) h := (kblk (kseq (f256_5_ok o c n k w) rfl)).tk
noncomputable def f256_1 (s1 : AV) (h : Heap) : α :=
  faF o 4 s1 fun v66 => faF o 0 v66 fun v67 => load1F o h v67 fun v68 => f256_4 o c n k s1 v68 h
theorem f256_1_ok : R Pq o c n (cB b256) (kend Pq o c n w rs256 k) = fun t _ h => f256_1 o c n k (t 1) h := (kseq (f256_2_ok o c n k w) (kseq (f256_4_ok o c n k w) rfl)).tk
noncomputable def f256 (a0 : AV) (h : Heap) : α :=
  boxF o a0 h h.next fun v69 h => f256_1 o c n k v69 h
theorem f256_ok : R Pq o c n b256 (kend Pq o c n w rs256 k) = fun t _ h => f256 o c n k (t 0) h := (kseq (f256_1_ok o c n k w) rfl).tk
theorem f256_good : Good Pq (cfg mm) 256 (entF Pq (cfg mm) 256 1 fun α => f256) := entG b256 rs256 82 fun _ => f256_ok
noncomputable def b257 := bdy Tryz.f257
noncomputable def rs257 := Tryz.f257.results.toList
noncomputable def f257_5K : Ex → K α := (nxK (R Pq o c n (cB (cB (cB (cB (cB b257))))) (kend Pq o c n w rs257 k)) (kend Pq o c n w rs257 k))
noncomputable def f257_7 {α : Type} (o : α) (c : Call' α) (n : Nat) (k : AV → Heap → α) (m : Nat) : AVs (Heap → α) 4 :=
  Nat.rec (motive := fun _ => AVs (Heap → α) 4) (fun _ _ _ _ _ => o) (fun _ lp0 s6 s25 s26 s27 h => lssF Pq o 3 s27 s26 fun v1 => ifF o v1 (ixF o 1 s25 s27 fun v2 => load1F o h v2 fun v3 => appX Pq o h h.next 75 75 s6 v3 fun v4 h => addF Pq o 3 s27 (.i .i64 1) fun v5 => lp0 v4 s25 s26 v5 h) (k s6 h)) m
theorem f257_7_ok : R Pq o c n (cA (cB (cA (cB (cB (cB (cB b257))))))) (blockK (cI (cB (cA (cB (cB (cB (cB b257))))))) (f257_5K o c n k w)) = fun t _ h => f257_7 o c n k n (t 6) (t 25) (t 26) (t 27) h :=
  c_loop (F := fun m t _ h => f257_7 o c n k m (t 6) (t 25) (t 26) (t 27) h) (by kernel_rfl) (by kernel_rfl) fun m => by kernel_rfl
noncomputable def f257_6 (s6 s25 s26 s27 : AV) (h : Heap) : α :=
  f257_7 o c n k n s6 s25 s26 s27 h
theorem f257_6_ok : R Pq o c n (cB (cA (cB (cB (cB (cB b257)))))) (f257_5K o c n k w) = fun t _ h => f257_6 o c n k (t 6) (t 25) (t 26) (t 27) h := (kblk (f257_7_ok o c n k w)).tk
noncomputable def f257_4 (s0 s6 : AV) (h : Heap) : α :=
  lenF o s0 fun v6 => f257_6 o c n k s6 s0 v6 (.i .i64 0) h
theorem f257_4_ok : R Pq o c n (cB (cB (cB (cB b257)))) (kend Pq o c n w rs257 k) = fun t _ h => f257_4 o c n k (t 0) (t 6) h := (kseq rfl (kseq (f257_6_ok o c n k w) rfl)).tk
noncomputable def f257_3 (s0 s3 : AV) (h : Heap) : α :=
  c 316 [.nsl, s3] h fun v7 h => pk k v7 h <| f257_4 o c n k s0 v7 h
theorem f257_3_ok : R Pq o c n (cB (cB (cB b257))) (kend Pq o c n w rs257 k) = fun t _ h => f257_3 o c n k (t 0) (t 3) h := (kseq (f257_4_ok o c n k w) rfl).tk
noncomputable def f257_8K : Ex → K α := (nxK (fun t _ h => f257_3 o c n k (t 0) (t 3) h) (kend Pq o c n w rs257 k))
noncomputable def f257_10 (m : Nat) : AVs (Heap → α) 5 :=
  Nat.rec (motive := fun _ => AVs (Heap → α) 5) (fun _ _ _ _ _ _ => o) (fun _ lp0 s0 s3 s9 s10 s11 h => lssF Pq o 3 s11 s10 fun v8 => ifF o v8 (ixF o 1 s9 s11 fun v9 => load1F o h v9 fun v10 => lenF o v10 fun v11 => addF Pq o 3 s3 v11 fun v12 => lssF Pq o 3 v12 (.i .i64 0) fun v13 => ifF o v13 (panicA o (.ifc 9 (.s 16 134789072936214216453580009062074836332)) fun x => k x.pn h) (addF Pq o 3 s11 (.i .i64 1) fun v14 => lp0 s0 v12 s9 s10 v14 h)) (f257_3 o c n k s0 s3 h)) m
theorem f257_10_ok : R Pq o c n (cA (cB (cA (cB (cB b257))))) (blockK (cI (cB (cA (cB (cB b257))))) (f257_8K o c n k w)) = fun t _ h => f257_10 o c n k n (t 0) (t 3) (t 9) (t 10) (t 11) h :=
  c_loop (F := fun m t _ h => f257_10 o c n k m (t 0) (t 3) (t 9) (t 10) (t 11) h) (by kernel_rfl) (by kernel_rfl) fun m => by kernel_rfl
noncomputable def f257_9 (s0 s3 s9 s10 s11 : AV) (h : Heap) : α :=
  f257_10 o c n k n s0 s3 s9 s10 s11 h
theorem f257_9_ok : R Pq o c n (cB (cA (cB (cB b257)))) (f257_8K o c n k w) = fun t _ h => f257_9 o c n k (t 0) (t 3) (t 9) (t 10) (t 11) h := (kblk (f257_10_ok o c n k w)).tk
noncomputable def f257_2 (s0 s3 : AV) (h : Heap) : α :=
  lenF o s0 fun v15 => f257_9 o c n k s0 s3 s0 v15 (.i .i64 0) h
theorem f257_2_ok : R Pq o c n (cB (cB b257)) (kend Pq o c n w rs257 k) = fun t _ h => f257_2 o c n k (t 0) (t 3) h := (kseq (f257_3_ok o c n k w) (kseq (f257_9_ok o c n k w) rfl)).tk
noncomputable def f257_1 (s0 : AV) (h : Heap) : α :=
  f257_2 o c n k s0 (.i .i64 0) h
theorem f257_1_ok : R Pq o c n (cB b257) (kend Pq o c n w rs257 k) = fun t _ h => f257_1 o c n k (t 0) h := (kseq (f257_2_ok o c n k w) rfl).tk
noncomputable def f257 (a0 : AV) (h : Heap) : α :=
  f257_1 o c n k a0 h
theorem f257_ok : R Pq o c n b257 (kend Pq o c n w rs257 k) = fun t _ h => f257 o c n k (t 0) h := (kseq (f257_1_ok o c n k w) rfl).tk
theorem f257_good : Good Pq (cfg mm) 257 (entF Pq (cfg mm) 257 1 fun α => f257) := entG b257 rs257 36 fun _ => f257_ok
noncomputable def b258 := bdy Tryz.f258
noncomputable def rs258 := Tryz.f258.results.toList
noncomputable def f258_8 {α : Type} (o : α) (c : Call' α) (n : Nat) (k : AV → Heap → α) (s0 s3 s4 : AV) (h : Heap) : α :=
  dreg o h 12 fun base h => faF o 5 s3 fun v1 => rootF o v1 s3 <| load1F o (h.look 2) v1 fun v2 => callD o c (hidD false [(.fn (.func 197) [] []), s0, v2, .nsl] [] (sBlk s3 [])) 197 [s0, v2, .nsl] (h.look 0) fun v3 h => pnF v3 (fun x => hb h.shut fun hd => faF o 6 s3 fun v4 => rootF o v4 s3 <| load1F o (h.look 32) v4 fun v5 => k x.pn hd) <| faF o 6 s3 fun v6 => rootF o v6 s3 <| load1F o (h.look 32) v6 fun v7 => callD o c [] 197 [s0, v7, .nsl] (h.look 0) fun v8 h => pnF v8 (fun x => hb h.shut fun hd => faF o 5 s3 fun v9 => k x.pn hd) <| faF o 5 s3 fun v10 => rootF o v10 s3 <| storeF o (h.look 511) 1 v10 v3 fun h => faF o 6 s3 fun v11 => rootF o v11 s3 <| storeF o (h.look 2047) 1 v11 v8 fun h => hb h.shut fun h => loadNF o h 9 s3 fun v12 => storeF o h 9 s4 v12 fun h => on o (resV Pq h [(s4, some 111)]) fun v => k v h
theorem f258_8_ok : R Pq o c n (cB (cB (cB (cB (cB (cB (cB (cB b258)))))))) (kend Pq o c n w rs258 k) = fun t _ h => f258_8 o c n k (t 0) (t 3) (t 4) h := by kernel_rfl
noncomputable def f258_9K : Ex → K α := (nxK (fun t _ h => f258_8 o c n k (t 0) (t 3) (t 4) h) (kend Pq o c n w rs258 k))
noncomputable def f258_16 (s0 s3 s4 s5 s11 : AV) (h : Heap) : α :=
  lenF o s5 fun v13 => eqiF Pq o 3 v13 (.i .i64 0) fun v14 => eqiF Pq o 4 v14 s11 fun v15 => c 194 [v15, (.i .i64 14)] h fun v16 h => pk k v16 h <| notF o s11 fun v17 => ifF o v17 (dreg o h 10 fun base h => ixF o 1 s5 (.i .i64 0) fun v18 => rootF o v18 s5 <| load1F o (h.look 6) v18 fun v19 => nilChk o s0 fun v20 => faF o 4 v20 fun v21 => faF o 2 v21 fun v22 => rootF o v22 s0 <| load1F o (h.look 240) v22 fun v23 => callD o c [] 145 [s0, v19, v23] (h.look 0) fun v24 h => pnF v24 (fun x => hb h.shut fun hd => k x.pn hd) <| hb h.shut fun h => f258_8 o c n k s0 s3 s4 h) (f258_8 o c n k s0 s3 s4 h)
theorem f258_16_ok : R Pq o c n (cB (cA (cB (cB (cB (cB (cB (cB (cB (cB (cB (cA (cB (cA (cB (cB (cB (cB (cB (cB (cB b258))))))))))))))))))))) (blockK (cI (cB (cA (cB (cB (cB (cB (cB (cB (cB b258)))))))))) (f258_9K o c n k w)) = fun t _ h => f258_16 o c n k (t 0) (t 3) (t 4) (t 5) (t 11) h := by kernel_rfl
noncomputable def f258_17K : Ex → K α := (nxK (fun t _ h => f258_16 o c n k (t 0) (t 3) (t 4) (t 5) (t 11) h) (blockK (cI (cB (cA (cB (cB (cB (cB (cB (cB (cB b258)))))))))) (f258_9K o c n k w)))
noncomputable def f258_15 (s0 s3 s4 s5 s93 : AV) (h : Heap) : α :=
  ifF o s93 (nilChk o s0 fun v25 => faF o 4 v25 fun v26 => faF o 1 v26 fun v27 => load1F o h v27 fun v28 => bkF o false v28 (nilChk o s0 fun v29 => faF o 4 v29 fun v30 => faF o 2 v30 fun v31 => load1F o h v31 fun v32 => eqsF Pq o 9 v32 (.s 4 1684631414) fun v33 => pickF o v28 (.b true) v33 fun v34 => f258_16 o c n k s0 s3 s4 s5 v34 h) (pickF o v28 (.b true) (.tup []) fun v35 => f258_16 o c n k s0 s3 s4 s5 v35 h)) (f258_8 o c n k s0 s3 s4 h)
theorem f258_15_ok : R Pq o c n (cB (cB (cB (cB (cB (cB (cB (cB (cB (cA (cB (cA (cB (cB (cB (cB (cB (cB (cB b258))))))))))))))))))) (blockK (cI (cB (cA (cB (cB (cB (cB (cB (cB (cB b258)))))))))) (f258_9K o c n k w)) = fun t _ h => f258_15 o c n k (t 0) (t 3) (t 4) (t 5) (t 93) h := (c_cond (by kernel_rfl) (kseq (f258_16_ok o c n k w) (r_start 6 (by kernel_rfl) (q_guard 6 12 (5, false) (by kernel_rfl) (by kernel_rfl) (by kernel_rfl) rfl))) rfl).tk
noncomputable def f258_14 (s0 s3 s4 s5 s58 s86 : AV) (h : Heap) : α :=
  ifF o s86 (ixF o 1 s5 (.i .i64 0) fun v36 => load1F o h v36 fun v37 => c 145 [s0, v37, (.s 9 2037169923944901474373)] h fun v38 h => pk k v38 h <| f258_8 o c n k s0 s3 s4 h) (eqiF Pq o 3 s58 (.i .i64 6) fun v39 => f258_15 o c n k s0 s3 s4 s5 v39 h)
theorem f258_14_ok : R Pq o c n (cB (cB (cB (cB (cB (cB (cB (cA (cB (cA (cB (cB (cB (cB (cB (cB (cB b258))))))))))))))))) (blockK (cI (cB (cA (cB (cB (cB (cB (cB (cB (cB b258)))))))))) (f258_9K o c n k w)) = fun t _ h => f258_14 o c n k (t 0) (t 3) (t 4) (t 5) (t 58) (t 86) h := (c_cond (by kernel_rfl) rfl (kseq (f258_15_ok o c n k w) rfl)).tk
noncomputable def f258_13 (s0 s3 s4 s5 s58 s78 : AV) (h : Heap) : α :=
  ifF o s78 (fil1 o 1 3 0 (.s 3 7630441) [[(.s 0 0)], [(.s 0 0)], [(.s 0 0)]] fun v40 => fil1 o 1 3 1 (.s 7 31069335677005666) v40 fun v41 => fil1 o 1 3 2 (.s 6 113723913172051) v41 fun v42 => newEF h h.next 1 3 v42 fun v43 h => ixF o 1 s5 (.i .i64 0) fun v44 => load1F o h v44 fun v45 => c 53 [v43, v45] h fun v46 h => pk k v46 h <| c 194 [v46, (.i .i64 14)] h fun v47 h => pk k v47 h <| f258_8 o c n k s0 s3 s4 h) (eqiF Pq o 3 s58 (.i .i64 9) fun v48 => f258_14 o c n k s0 s3 s4 s5 s58 v48 h)
theorem f258_13_ok : R Pq o c n (cB (cB (cB (cB (cB (cA (cB (cA (cB (cB (cB (cB (cB (cB (cB b258))))))))))))))) (blockK (cI (cB (cA (cB (cB (cB (cB (cB (cB (cB b258)))))))))) (f258_9K o c n k w)) = fun t _ h => f258_13 o c n k (t 0) (t 3) (t 4) (t 5) (t 58) (t 78) h := (c_cond (by kernel_rfl) rfl (kseq (f258_14_ok o c n k w) rfl)).tk
noncomputable def f258_12 (s0 s3 s4 s5 s58 s69 : AV) (h : Heap) : α :=
  ifF o s69 (ixF o 1 s5 (.i .i64 0) fun v49 => load1F o h v49 fun v50 => eqsF Pq o 9 v50 (.s 7 31069335677005666) fun v51 => c 194 [v51, (.i .i64 14)] h fun v52 h => pk k v52 h <| f258_8 o c n k s0 s3 s4 h) (eqiF Pq o 3 s58 (.i .i64 7) fun v53 => f258_13 o c n k s0 s3 s4 s5 s58 v53 h)
theorem f258_12_ok : R Pq o c n (cB (cB (cB (cA (cB (cA (cB (cB (cB (cB (cB (cB (cB b258))))))))))))) (blockK (cI (cB (cA (cB (cB (cB (cB (cB (cB (cB b258)))))))))) (f258_9K o c n k w)) = fun t _ h => f258_12 o c n k (t 0) (t 3) (t 4) (t 5) (t 58) (t 69) h := (c_cond (by kernel_rfl) rfl (kseq (f258_13_ok o c n k w) rfl)).tk
noncomputable def f258_11 (s0 s3 s4 s5 s58 s59 : AV) (h : Heap) : α :=
  ifF o s59 (dreg o h 8 fun base h => ixF o 1 s5 (.i .i64 1) fun v54 => rootF o v54 s5 <| load1F o (h.look 6) v54 fun v55 => ixF o 1 s5 (.i .i64 0) fun v56 => rootF o v56 s5 <| load1F o (h.look 48) v56 fun v57 => callD o c [] 145 [s0, v55, v57] (h.look 0) fun v58 h => pnF v58 (fun x => hb h.shut fun hd => k x.pn hd) <| hb h.shut fun h => f258_8 o c n k s0 s3 s4 h) (eqiF Pq o 3 s58 (.i .i64 4) fun v59 => ifF o v59 (f258_12 o c n k s0 s3 s4 s5 s58 v59 h) (eqiF Pq o 3 s58 (.i .i64 5) fun v60 => ifF o v60 (f258_12 o c n k s0 s3 s4 s5 s58 v60 h) (eqiF Pq o 3 s58 (.i .i64 8) fun v61 => f258_12 o c n k s0 s3 s4 s5 s58 v61 h)))
theorem f258_11_ok : R Pq o c n (cB (cA (cB (cA (cB (cB (cB (cB (cB (cB (cB b258))))))))))) (blockK (cI (cB (cA (cB (cB (cB (cB (cB (cB (cB b258)))))))))) (f258_9K o c n k w)) = fun t _ h => f258_11 o c n k (t 0) (t 3) (t 4) (t 5) (t 58) (t 59) h := (c_cond (by kernel_rfl) rfl (kseq (f258_12_ok o c n k w) rfl)).tk
noncomputable def f258_10 (s0 s3 s4 s5 s58 : AV) (h : Heap) : α :=
  eqiF Pq o 3 s58 (.i .i64 2) fun v62 => f258_11 o c n k s0 s3 s4 s5 s58 v62 h
theorem f258_10_ok : R Pq o c n (cB (cA (cB (cB (cB (cB (cB (cB (cB b258))))))))) (f258_9K o c n k w) = fun t _ h => f258_10 o c n k (t 0) (t 3) (t 4) (t 5) (t 58) h := (kblk (kseq (f258_11_ok o c n k w) rfl)).tk
noncomputable def f258_7 (s0 s3 s4 s5 : AV) (h : Heap) : α :=
  faF o 0 s3 fun v63 => load1F o h v63 fun v64 => f258_10 o c n k s0 s3 s4 s5 v64 h
theorem f258_7_ok : R Pq o c n (cB (cB (cB (cB (cB (cB (cB b258))))))) (kend Pq o c n w rs258 k) = fun t _ h => f258_7 o c n k (t 0) (t 3) (t 4) (t 5) h := (kseq (f258_8_ok o c n k w) (kseq (f258_10_ok o c n k w) rfl)).tk
noncomputable def f258_6 (s0 s3 s4 s5 s6 : AV) (h : Heap) : α :=
  faF o 4 s3 fun v65 => storeF o h 1 v65 s6 fun h => f258_7 o c n k s0 s3 s4 s5 h
theorem f258_6_ok : R Pq o c n (cB (cB (cB (cB (cB (cB b258)))))) (kend Pq o c n w rs258 k) = fun t _ h => f258_6 o c n k (t 0) (t 3) (t 4) (t 5) (t 6) h := (kseq (f258_7_ok o c n k w) rfl).tk
noncomputable def f258_18K : Ex → K α := (nxK (fun t _ h => f258_6 o c n k (t 0) (t 3) (t 4) (t 5) (t 6) h) (kend Pq o c n w rs258 k))
noncomputable def f258_20 (m : Nat) : AVs (Heap → α) 8 :=
  Nat.rec (motive := fun _ => AVs (Heap → α) 8) (fun _ _ _ _ _ _ _ _ _ => o) (fun _ lp0 s0 s3 s4 s5 s6 s33 s34 s35 h => lssF Pq o 3 s35 s34 fun v66 => ifF o v66 (ixF o 8 s33 s35 fun v67 => loadNF o h 8 v67 fun v68 => newF h h.next 8 [(.i .i64 0), (.i .i32 0), (.s 0 0), (.s 0 0), (.s 0 0), .nsl, (.s 0 0), (.i .i64 0)] fun v69 h => storeF o h 8 v69 v68 fun h => loadNF o h 8 v69 fun v70 => c 144 [s0, v70] h fun v71 h => pk k v71 h <| exF o v71 0 fun v72 => exF o v71 1 fun v73 => newF h h.next 8 [(.i .i64 0), (.i .i32 0), (.s 0 0), (.s 0 0), (.s 0 0), .nsl, (.s 0 0), (.i .i64 0)] fun v74 h => storeF o h 8 v74 v72 fun h => dreg o h 10 fun base h => loadNF o (h.look 0) 8 v74 fun v75 => fil1 o 1 1 0 v73 [[(.s 0 0)]] fun v76 => newEF (h.look 16) (Nat.add base 5) 1 1 v76 fun v77 h => lb (sBlk v74 []) fun ids => appD o ids (Nat.add base 6) <| appendY Pq o (hide ids (h.look 56)) (Nat.add base 6) 58 58 s5 v77 fun v78 g => hb (back h ids g) fun h => ixF o 8 s6 s35 fun v79 => rootF o v79 s6 <| storeF o (h.look 255) 8 v79 v75 fun h => hb h.shut fun h => addF Pq o 3 s35 (.i .i64 1) fun v80 => lp0 s0 s3 s4 v78 s6 s33 s34 v80 h) (f258_6 o c n k s0 s3 s4 s5 s6 h)) m
theorem f258_20_ok : R Pq o c n (cA (cB (cA (cB (cB (cB (cB (cB b258)))))))) (blockK (cI (cB (cA (cB (cB (cB (cB (cB b258)))))))) (f258_18K o c n k w)) = fun t _ h => f258_20 o c n k n (t 0) (t 3) (t 4) (t 5) (t 6) (t 33) (t 34) (t 35) h :=
  c_loop (F := fun m t _ h => f258_20 o c n k m (t 0) (t 3) (t 4) (t 5) (t 6) (t 33) (t 34) (t 35) h) (by kernel_rfl) (by kernel_rfl) fun m => by kernel_rfl
noncomputable def f258_19 (s0 s3 s4 s5 s6 s33 s34 s35 : AV) (h : Heap) : α :=
  f258_20 o c n k n s0 s3 s4 s5 s6 s33 s34 s35 h
theorem f258_19_ok : R Pq o c n (cB (cA (cB (cB (cB (cB (cB b258))))))) (f258_18K o c n k w) = fun t _ h => f258_19 o c n k (t 0) (t 3) (t 4) (t 5) (t 6) (t 33) (t 34) (t 35) h := (kblk (f258_20_ok o c n k w)).tk
noncomputable def f258_5 (s0 s3 s4 s5 s6 : AV) (h : Heap) : α :=
  lenF o s6 fun v81 => f258_19 o c n k s0 s3 s4 s5 s6 s6 v81 (.i .i64 0) h
theorem f258_5_ok : R Pq o c n (cB (cB (cB (cB (cB b258))))) (kend Pq o c n w rs258 k) = fun t _ h => f258_5 o c n k (t 0) (t 3) (t 4) (t 5) (t 6) h := (kseq (f258_6_ok o c n k w) (kseq (f258_19_ok o c n k w) rfl)).tk
noncomputable def f258_4 (s0 s3 s4 s5 : AV) (h : Heap) : α :=
  faF o 4 s3 fun v82 => load1F o h v82 fun v83 => c 143 [v83] h fun v84 h => pk k v84 h <| f258_5 o c n k s0 s3 s4 s5 v84 h
theorem f258_4_ok : R Pq o c n (cB (cB (cB (cB b258)))) (kend Pq o c n w rs258 k) = fun t _ h => f258_4 o c n k (t 0) (t 3) (t 4) (t 5) h := (kseq (f258_5_ok o c n k w) rfl).tk
noncomputable def f258_3 (s0 s3 s4 : AV) (h : Heap) : α :=
  f258_4 o c n k s0 s3 s4 .nsl h
theorem f258_3_ok : R Pq o c n (cB (cB (cB b258))) (kend Pq o c n w rs258 k) = fun t _ h => f258_3 o c n k (t 0) (t 3) (t 4) h := (kseq (f258_4_ok o c n k w) rfl).tk
noncomputable def f258_2 (s0 s3 s4 : AV) (h : Heap) : α :=
  faF o 0 s3 fun v85 => load1F o h v85 fun v86 => eqiF Pq o 3 v86 (.i .i64 1) fun v87 => ifF o v87 (loadNF o h 9 s3 fun v88 => c 317 [s0, v88] h fun v89 h => pk k v89 h <| storeF o h 9 s4 v89 fun h => on o (resV Pq h [(s4, some 111)]) fun v => k v h) (eqiF Pq o 3 v86 (.i .i64 10) fun v90 => ifF o v90 (loadNF o h 9 s3 fun v91 => c 318 [s0, v91] h fun v92 h => pk k v92 h <| storeF o h 9 s4 v92 fun h => on o (resV Pq h [(s4, some 111)]) fun v => k v h) (eqiF Pq o 3 v86 (.i .i64 11) fun v93 => ifF o v93 (loadNF o h 9 s3 fun v94 => c 319 [s0, v94] h fun v95 h => pk k v95 h <| storeF o h 9 s4 v95 fun h => on o (resV Pq h [(s4, some 111)]) fun v => k v h) (f258_3 o c n k s0 s3 s4 h)))
theorem f258_2_ok : R Pq o c n (cB (cB b258)) (kend Pq o c n w rs258 k) = fun t _ h => f258_2 o c n k (t 0) (t 3) (t 4) h := (kseq (f258_3_ok o c n k w) rfl).tk
noncomputable def f258_1 (s0 s3 s4 : AV) (h : Heap) : α :=
  faF o 8 s3 fun v96 => storeF o h 1 v96 (.i .i64 0) fun h => f258_2 o c n k s0 s3 s4 h
theorem f258_1_ok : R Pq o c n (cB b258) (kend Pq o c n w rs258 k) = fun t _ h => f258_1 o c n k (t 0) (t 3) (t 4) h := (kseq (f258_2_ok o c n k w) rfl).tk
noncomputable def f258 (a0 a1 : AV) (h : Heap) : α :=
  boxF o a1 h h.next fun v97 h => newF h h.next 9 [(.i .i64 0), (.i .i32 0), (.s 0 0), (.s 0 0), .nsl, .nsl, .nsl, .nsl, (.i .i64 0)] fun v98 h => f258_1 o c n k a0 v97 v98 h
theorem f258_ok : R Pq o c n b258 (kend Pq o c n w rs258 k) = fun t _ h => f258 o c n k (t 0) (t 1) h := (kseq (f258_1_ok o c n k w) rfl).tk
theorem f258_good : Good Pq (cfg mm) 258 (entF Pq (cfg mm) 258 2 fun α => f258) := entG b258 rs258 137 fun _ => f258_ok
noncomputable def b259 := bdy Tryz.f259
noncomputable def rs259 := Tryz.f259.results.toList
noncomputable def f259 {α : Type} (o : α) (c : Call' α) (n : Nat) (k : AV → Heap → α) (a0 : AV) (h : Heap) : α :=
  c 320 [a0, (.fn (.func 321) [] [])] h fun v1 h => pk k v1 h <| notF o v1 fun v2 => k v2 h
theorem f259_ok : R Pq o c n b259 (kend Pq o c n w rs259 k) = fun t _ h => f259 o c n k (t 0) h := by kernel_rfl
theorem f259_good : Good Pq (cfg mm) 259 (entF Pq (cfg mm) 259 1 fun α => f259) := entG b259 rs259 6 fun _ => f259_ok
noncomputable def b261 := bdy Tryz.f261
noncomputable def rs261 := Tryz.f261.results.toList
noncomputable def f261_5 {α : Type} (o : α) (c : Call' α) (n : Nat) (k : AV → Heap → α) (s5 : AV) (h : Heap) : α :=
  k s5 h
theorem f261_5_ok : R Pq o c n (cB (cB (cB (cB (cB b261))))) (kend Pq o c n w rs261 k) = fun t _ h => f261_5 o c n k (t 5) h := by kernel_rfl
noncomputable def f261_4 (s1 s5 : AV) (h : Heap) : α :=
  lenF o s5 fun v1 => eqiF Pq o 3 v1 (.i .i64 0) fun v2 => ifF o v2 (layF o 0 s1 [(.s 0 0), (.i .i64 0)] fun v3 => layF o 1 (.i .i64 (-1)) v3 fun v4 => fil1 o 2 1 0 (.agg v4) [[(.s 0 0), (.i .i64 0)]] fun v5 => newEF h h.next 2 1 v5 fun v6 h => appX Pq o h h.next 232 232 s5 v6 fun v7 h => f261_5 o c n k v7 h) (f261_5 o c n k s5 h)
theorem f261_4_ok : R Pq o c n (cB (cB (cB (cB b261)))) (kend Pq o c n w rs261 k) = fun t _ h => f261_4 o c n k (t 1) (t 5) h := (kseq (f261_5_ok o c n k w) rfl).tk
noncomputable def f261_6K : Ex → K α := (nxK (fun t _ h => f261_4 o c n k (t 1) (t 5) h) (kend Pq o c n w rs261 k))
noncomputable def f261_8 (m : Nat) : AVs (Heap → α) 5 :=
  Nat.rec (motive := fun _ => AVs (Heap → α) 5) (fun _ _ _ _ _ _ => o) (fun _ lp0 s1 s5 s14 s15 s16 h => lssF Pq o 3 s16 s15 fun v8 => ifF o v8 (ixF o 6 s14 s16 fun v9 => loadNF o h 6 v9 fun v10 => newF h h.next 6 [(.b false), (.b false), (.s 0 0), (.s 0 0), .nsl, .nsl] fun v11 h => storeF o h 6 v11 v10 fun h => faF o 1 v11 fun v12 => load1F o h v12 fun v13 => ifF o v13 (layF o 0 s1 [(.s 0 0), (.i .i64 0)] fun v14 => layF o 1 s16 v14 fun v15 => fil1 o 2 1 0 (.agg v15) [[(.s 0 0), (.i .i64 0)]] fun v16 => newEF h h.next 2 1 v16 fun v17 h => appX Pq o h h.next 232 232 s5 v17 fun v18 h => addF Pq o 3 s16 (.i .i64 1) fun v19 => lp0 s1 v18 s14 s15 v19 h) (addF Pq o 3 s16 (.i .i64 1) fun v20 => lp0 s1 s5 s14 s15 v20 h)) (f261_4 o c n k s1 s5 h)) m
theorem f261_8_ok : R Pq o c n (cA (cB (cA (cB (cB (cB b261)))))) (blockK (cI (cB (cA (cB (cB (cB b261)))))) (f261_6K o c n k w)) = fun t _ h => f261_8 o c n k n (t 1) (t 5) (t 14) (t 15) (t 16) h :=
  c_loop (F := fun m t _ h => f261_8 o c n k m (t 1) (t 5) (t 14) (t 15) (t 16) h) (by kernel_rfl) (by kernel_rfl) fun m => by kernel_rfl
noncomputable def f261_7 (s1 s5 s14 s15 s16 : AV) (h : Heap) : α :=
  f261_8 o c n k n s1 s5 s14 s15 s16 h
theorem f261_7_ok : R Pq o c n (cB (cA (cB (cB (cB b261))))) (f261_6K o c n k w) = fun t _ h => f261_7 o c n k (t 1) (t 5) (t 14) (t 15) (t 16) h := (kblk (f261_8_ok o c n k w)).tk
noncomputable def f261_3 (s1 s2 s5 : AV) (h : Heap) : α :=
  loadNF o h 1 s2 fun v21 => c 253 [v21, s1] h fun v22 h => pk k v22 h <| lenF o v22 fun v23 => f261_7 o c n k s1 s5 v22 v23 (.i .i64 0) h
theorem f261_3_ok : R Pq o c n (cB (cB (cB b261))) (kend Pq o c n w rs261 k) = fun t _ h => f261_3 o c n k (t 1) (t 2) (t 5) h := (kseq (f261_4_ok o c n k w) (kseq (f261_7_ok o c n k w) rfl)).tk
noncomputable def f261_2 (s1 s2 : AV) (h : Heap) : α :=
  f261_3 o c n k s1 s2 .nsl h
theorem f261_2_ok : R Pq o c n (cB (cB b261)) (kend Pq o c n w rs261 k) = fun t _ h => f261_2 o c n k (t 1) (t 2) h := (kseq (f261_3_ok o c n k w) rfl).tk
noncomputable def f261_1 (s1 s2 : AV) (h : Heap) : α :=
  loadNF o h 1 s2 fun v24 => c 134 [v24, s1] h fun v25 h => pk k v25 h <| notF o v25 fun v26 => ifF o v26 (k .nsl h) (f261_2 o c n k s1 s2 h)
theorem f261_1_ok : R Pq o c n (cB b261) (kend Pq o c n w rs261 k) = fun t _ h => f261_1 o c n k (t 1) (t 2) h := (kseq (f261_2_ok o c n k w) rfl).tk
noncomputable def f261 (a0 a1 : AV) (h : Heap) : α :=
  boxF o a0 h h.next fun v27 h => f261_1 o c n k a1 v27 h
theorem f261_ok : R Pq o c n b261 (kend Pq o c n w rs261 k) = fun t _ h => f261 o c n k (t 0) (t 1) h := (kseq (f261_1_ok o c n k w) rfl).tk
theorem f261_good : Good Pq (cfg mm) 261 (entF Pq (cfg mm) 261 2 fun α => f261) := entG b261 rs261 39 fun _ => f261_ok
noncomputable def b277 := bdy Tryz.f277
noncomputable def rs277 := Tryz.f277.results.toList
noncomputable def f277_3K : Ex → K α := (nxK (R Pq o c n (cB (cB (cB b277))) (kend Pq o c n w rs277 k)) (kend Pq o c n w rs277 k))
noncomputable def f277_5 {α : Type} (o : α) (c : Call' α) (n : Nat) (k : AV → Heap → α) (m : Nat) : AVs (Heap → α) 6 :=
  Nat.rec (motive := fun _ => AVs (Heap → α) 6) (fun _ _ _ _ _ _ _ => o) (fun _ lp0 s1 s2 s3 s7 s8 s9 h => lssF Pq o 3 s9 s8 fun v1 => ifF o v1 (ixF o 8 s7 s9 fun v2 => loadNF o h 8 v2 fun v3 => newF h h.next 8 [(.i .i64 0), (.i .i32 0), (.s 0 0), (.s 0 0), (.s 0 0), .nsl, (.s 0 0), (.i .i64 0)] fun v4 h => storeF o h 8 v4 v3 fun h => loadNF o h 8 v4 fun v5 => c 277 [v5] h fun v6 h => pk k v6 h <| fil1 o 8 1 0 v6 [[(.i .i64 0), (.i .i32 0), (.s 0 0), (.s 0 0), (.s 0 0), .nsl, (.s 0 0), (.i .i64 0)]] fun v7 => newEF h h.next 8 1 v7 fun v8 h => appX Pq o h h.next 66 66 s3 v8 fun v9 h => addF Pq o 3 s9 (.i .i64 1) fun v10 => lp0 s1 s2 v9 s7 s8 v10 h) (faF o 5 s1 fun v11 => storeF o h 1 v11 s3 fun h => loadNF o h 8 s1 fun v12 => storeF o h 8 s2 v12 fun h => on o (resV Pq h [(s2, some 71)]) fun v => k v h)) m
theorem f277_5_ok : R Pq o c n (cA (cB (cA (cB (cB b277))))) (blockK (cI (cB (cA (cB (cB b277))))) (f277_3K o c n k w)) = fun t _ h => f277_5 o c n k n (t 1) (t 2) (t 3) (t 7) (t 8) (t 9) h :=
  c_loop (F := fun m t _ h => f277_5 o c n k m (t 1) (t 2) (t 3) (t 7) (t 8) (t 9) h) (by kernel_rfl) (by kernel_rfl) fun m => by kernel_rfl
noncomputable def f277_4 (s1 s2 s3 s7 s8 s9 : AV) (h : Heap) : α :=
  f277_5 o c n k n s1 s2 s3 s7 s8 s9 h
theorem f277_4_ok : R Pq o c n (cB (cA (cB (cB b277)))) (f277_3K o c n k w) = fun t _ h => f277_4 o c n k (t 1) (t 2) (t 3) (t 7) (t 8) (t 9) h := (kblk (f277_5_ok o c n k w)).tk
noncomputable def f277_2 (s1 s2 s3 : AV) (h : Heap) : α :=
  faF o 5 s1 fun v13 => load1F o h v13 fun v14 => lenF o v14 fun v15 => f277_4 o c n k s1 s2 s3 v14 v15 (.i .i64 0) h
theorem f277_2_ok : R Pq o c n (cB (cB b277)) (kend Pq o c n w rs277 k) = fun t _ h => f277_2 o c n k (t 1) (t 2) (t 3) h := (kseq rfl (kseq (f277_4_ok o c n k w) rfl)).tk
noncomputable def f277_1 (s1 s2 : AV) (h : Heap) : α :=
  f277_2 o c n k s1 s2 .nsl h
theorem f277_1_ok : R Pq o c n (cB b277) (kend Pq o c n w rs277 k) = fun t _ h => f277_1 o c n k (t 1) (t 2) h := (kseq (f277_2_ok o c n k w) rfl).tk
noncomputable def f277 (a0 : AV) (h : Heap) : α :=
  boxF o a0 h h.next fun v16 h => newF h h.next 8 [(.i .i64 0), (.i .i32 0), (.s 0 0), (.s 0 0), (.s 0 0), .nsl, (.s 0 0), (.i .i64 0)] fun v17 h => f277_1 o c n k v16 v17 h
theorem f277_ok : R Pq o c n b277 (kend Pq o c n w rs277 k) = fun t _ h => f277 o c n k (t 0) h := (kseq (f277_1_ok o c n k w) rfl).tk
theorem f277_good : Good Pq (cfg mm) 277 (entF Pq (cfg mm) 277 1 fun α => f277) := entG b277 rs277 22 fun _ => f277_ok
noncomputable def b295 := bdy Tryz.f295
noncomputable def rs295 := Tryz.f295.results.toList
noncomputable def f295_2K : Ex → K α := (nxK (R Pq o c n (cB (cB b295)) (kend Pq o c n w rs295 k)) (kend Pq o c n w rs295 k))
noncomputable def f295_1 {α : Type} (o : α) (c : Call' α) (n : Nat) (k : AV → Heap → α) (s0 : AV) (h : Heap) : α :=
  geqF Pq o 21 s0 (.i .i32 97) fun v1 => bkF o true v1 (leqF Pq o 21 s0 (.i .i32 122) fun v2 => pickF o v1 v2 (.b false) fun v3 => k v3 h) (pickF o v1 (.tup []) (.b false) fun v4 => k v4 h)
theorem f295_1_ok : R Pq o c n (cB b295) (kend Pq o c n w rs295 k) = fun t _ h => f295_1 o c n k (t 0) h := (kseq rfl (r_start 3 (by kernel_rfl) (q_guard 3 5 (2, true) (by kernel_rfl) (by kernel_rfl) (by kernel_rfl) rfl))).tk
noncomputable def f295 (a0 : AV) (h : Heap) : α :=
  f295_1 o c n k a0 h
theorem f295_ok : R Pq o c n b295 (kend Pq o c n w rs295 k) = fun t _ h => f295 o c n k (t 0) h := (kseq (f295_1_ok o c n k w) rfl).tk
theorem f295_good : Good Pq (cfg mm) 295 (entF Pq (cfg mm) 295 1 fun α => f295) := entG b295 rs295 9 fun _ => f295_ok
noncomputable def b296 := bdy Tryz.f296
noncomputable def rs296 := Tryz.f296.results.toList
noncomputable def f296 {α : Type} (o : α) (c : Call' α) (n : Nat) (k : AV → Heap → α) (a0 : AV) (h : Heap) : α :=
  fil1 o 1 24 0 (.s 7 31069335677005666) (lrep [(.s 0 0)] 24) fun v1 => fil1 o 1 24 1 (.s 3 7630441) v1 fun v2 => fil1 o 1 24 2 (.s 4 1684631414) v2 fun v3 => fil1 o 1 24 3 (.s 5 495857003619) v3 fun v4 => fil1 o 1 24 4 (.s 7 32480047633037413) v4 fun v5 => fil1 o 1 24 5 (.s 6 109304575259763) v5 fun v6 => fil1 o 1 24 6 (.s 3 7824750) v6 fun v7 => fil1 o 1 24 7 (.s 4 1936287860) v7 fun v8 => fil1 o 1 24 8 (.s 5 491328140659) v8 fun v9 => fil1 o 1 24 9 (.s 4 1819047278) v9 fun v10 => fil1 o 1 24 10 (.s 4 1702195828) v10 fun v11 => fil1 o 1 24 11 (.s 5 435728179558) v11 fun v12 => fil1 o 1 24 12 (.s 2 26217) v12 fun v13 => fil1 o 1 24 13 (.s 4 1702063205) v13 fun v14 => fil1 o 1 24 14 (.s 5 435610544247) v14 fun v15 => fil1 o 1 24 15 (.s 6 121437875889522) v15 fun v16 => fil1 o 1 24 16 (.s 5 500068610672) v16 fun v17 => fil1 o 1 24 17 (.s 6 128034677158753) v17 fun v18 => fil1 o 1 24 18 (.s 5 512970877044) v18 fun v19 => fil1 o 1 24 19 (.s 3 7959156) v19 fun v20 => fil1 o 1 24 20 (.s 5 448345170275) v20 fun v21 => fil1 o 1 24 21 (.s 7 34177684928883046) v21 fun v22 => fil1 o 1 24 22 (.s 2 29537) v22 fun v23 => fil1 o 1 24 23 (.s 2 29545) v23 fun v24 => newEF h h.next 1 24 v24 fun v25 h => c 53 [v25, a0] h fun v26 h => pk k v26 h <| k v26 h
theorem f296_ok : R Pq o c n b296 (kend Pq o c n w rs296 k) = fun t _ h => f296 o c n k (t 0) h := by kernel_rfl
theorem f296_good : Good Pq (cfg mm) 296 (entF Pq (cfg mm) 296 1 fun α => f296) := entG b296 rs296 6 fun _ => f296_ok
noncomputable def b297 := bdy Tryz.f297
noncomputable def rs297 := Tryz.f297.results.toList
noncomputable def f297_2K : Ex → K α := (nxK (R Pq o c n (cB (cB b297)) (kend Pq o c n w rs297 k)) (kend Pq o c n w rs297 k))
noncomputable def f297_4 {α : Type} (o : α) (c : Call' α) (n : Nat) (k : AV → Heap → α) (m : Nat) : AVs (Heap → α) 4 :=
  Nat.rec (motive := fun _ => AVs (Heap → α) 4) (fun _ _ _ _ _ => o) (fun _ lp0 s0 s1 s7 s8 h => lssF Pq o 3 s8 s7 fun v1 => ifF o v1 (ixF o 8 s0 s8 fun v2 => loadNF o h 8 v2 fun v3 => cfF o s1 [v3] c h fun v4 h => pk k v4 h <| ifF o v4 (k s8 h) (addF Pq o 3 s8 (.i .i64 1) fun v5 => lp0 s0 s1 s7 v5 h)) (k (.i .i64 (-1)) h)) m
theorem f297_4_ok : R Pq o c n (cA (cB (cA (cB b297)))) (blockK (cI (cB (cA (cB b297)))) (f297_2K o c n k w)) = fun t _ h => f297_4 o c n k n (t 0) (t 1) (t 7) (t 8) h :=
  c_loop (F := fun m t _ h => f297_4 o c n k m (t 0) (t 1) (t 7) (t 8) h) (by kernel_rfl) (by kernel_rfl) fun m => by kernel_rfl
noncomputable def f297_3 (s0 s1 s7 s8 : AV) (h : Heap) : α :=
  f297_4 o c n k n s0 s1 s7 s8 h
theorem f297_3_ok : R Pq o c n (cB (cA (cB b297))) (f297_2K o c n k w) = fun t _ h => f297_3 o c n k (t 0) (t 1) (t 7) (t 8) h := (kblk (f297_4_ok o c n k w)).tk
noncomputable def f297_1 (s0 s1 : AV) (h : Heap) : α :=
  lenF o s0 fun v6 => f297_3 o c n k s0 s1 v6 (.i .i64 0) h
theorem f297_1_ok : R Pq o c n (cB b297) (kend Pq o c n w rs297 k) = fun t _ h => f297_1 o c n k (t 0) (t 1) h := (kseq rfl (kseq (f297_3_ok o c n k w) rfl)).tk
noncomputable def f297 (a0 a1 : AV) (h : Heap) : α :=
  f297_1 o c n k a0 a1 h
theorem f297_ok : R Pq o c n b297 (kend Pq o c n w rs297 k) = fun t _ h => f297 o c n k (t 0) (t 1) h := (kseq (f297_1_ok o c n k w) rfl).tk
theorem f297_good : Good Pq (cfg mm) 297 (entF Pq (cfg mm) 297 2 fun α => f297) := entG b297 rs297 19 fun _ => f297_ok
noncomputable def b298 := bdy Tryz.f298
noncomputable def rs298 := Tryz.f298.results.toList
noncomputable def f298 {α : Type} (o : α) (c : Call' α) (n : Nat) (k : AV → Heap → α) (a0 : AV) (h : Heap) : α :=
  newF h h.next 7 [(.b false), (.b false), (.b false), (.b false), (.i .i64 0), (.i .i64 0), (.i .i64 0)] fun v1 h => mapA h h.next fun v2 h => layF o 0 (.b true) [(.b false), (.b false), (.b false), (.b false), (.i .i64 0), (.i .i64 0), (.i .i64 0)] fun v3 => insertN o h .i64 v2 (.i .i64 1) (.agg v3) fun h => layF o 0 (.b true) [(.b false), (.b false), (.b false), (.b false), (.i .i64 0), (.i .i64 0), (.i .i64 0)] fun v4 => insertN o h .i64 v2 (.i .i64 2) (.agg v4) fun h => layF o 1 (.b true) [(.b false), (.b false), (.b false), (.b false), (.i .i64 0), (.i .i64 0), (.i .i64 0)] fun v5 => insertN o h .i64 v2 (.i .i64 3) (.agg v5) fun h => insertN o h .i64 v2 (.i .i64 4) (.agg [(.b false), (.b false), (.b false), (.b false), (.i .i64 0), (.i .i64 0), (.i .i64 0)]) fun h => insertN o h .i64 v2 (.i .i64 5) (.agg [(.b false), (.b false), (.b false), (.b false), (.i .i64 0), (.i .i64 0), (.i .i64 0)]) fun h => layF o 2 (.b true) [(.b false), (.b false), (.b false), (.b false), (.i .i64 0), (.i .i64 0), (.i .i64 0)] fun v6 => insertN o h .i64 v2 (.i .i64 6) (.agg v6) fun h => layF o 2 (.b true) [(.b false), (.b false), (.b false), (.b false), (.i .i64 0), (.i .i64 0), (.i .i64 0)] fun v7 => layF o 4 (.i .i64 1) v7 fun v8 => layF o 5 (.i .i64 1) v8 fun v9 => insertN o h .i64 v2 (.i .i64 7) (.agg v9) fun h => layF o 2 (.b true) [(.b false), (.b false), (.b false), (.b false), (.i .i64 0), (.i .i64 0), (.i .i64 0)] fun v10 => insertN o h .i64 v2 (.i .i64 8) (.agg v10) fun h => layF o 2 (.b true) [(.b false), (.b false), (.b false), (.b false), (.i .i64 0), (.i .i64 0), (.i .i64 0)] fun v11 => layF o 3 (.b true) v11 fun v12 => insertN o h .i64 v2 (.i .i64 9) (.agg v12) fun h => layF o 2 (.b true) [(.b false), (.b false), (.b false), (.b false), (.i .i64 0), (.i .i64 0), (.i .i64 0)] fun v13 => layF o 4 (.i .i64 1) v13 fun v14 => layF o 5 (.i .i64 3000) v14 fun v15 => insertN o h .i64 v2 (.i .i64 10) (.agg v15) fun h => layF o 2 (.b true) [(.b false), (.b false), (.b false), (.b false), (.i .i64 0), (.i .i64 0), (.i .i64 0)] fun v16 => layF o 5 (.i .i64 3000) v16 fun v17 => insertN o h .i64 v2 (.i .i64 11) (.agg v17) fun h => layF o 2 (.b true) [(.b false), (.b false), (.b false), (.b false), (.i .i64 0), (.i .i64 0), (.i .i64 0)] fun v18 => layF o 5 (.i .i64 3000) v18 fun v19 => insertN o h .i64 v2 (.i .i64 12) (.agg v19) fun h => layF o 2 (.b true) [(.b false), (.b false), (.b false), (.b false), (.i .i64 0), (.i .i64 0), (.i .i64 0)] fun v20 => layF o 3 (.b true) v20 fun v21 => layF o 5 (.i .i64 3000) v21 fun v22 => insertN o h .i64 v2 (.i .i64 13) (.agg v22) fun h => layF o 3 (.b true) [(.b false), (.b false), (.b false), (.b false), (.i .i64 0), (.i .i64 0), (.i .i64 0)] fun v23 => layF o 5 (.i .i64 3000) v23 fun v24 => insertN o h .i64 v2 (.i .i64 14) (.agg v24) fun h => layF o 3 (.b true) [(.b false), (.b false), (.b false), (.b false), (.i .i64 0), (.i .i64 0), (.i .i64 0)] fun v25 => layF o 4 (.i .i64 1) v25 fun v26 => layF o 5 (.i .i64 1) v26 fun v27 => insertN o h .i64 v2 (.i .i64 15) (.agg v27) fun h => layF o 3 (.b true) [(.b false), (.b false), (.b false), (.b false), (.i .i64 0), (.i .i64 0), (.i .i64 0)] fun v28 => layF o 4 (.i .i64 1) v28 fun v29 => layF o 5 (.i .i64 1) v29 fun v30 => insertN o h .i64 v2 (.i .i64 16) (.agg v30) fun h => layF o 2 (.b true) [(.b false), (.b false), (.b false), (.b false), (.i .i64 0), (.i .i64 0), (.i .i64 0)] fun v31 => layF o 4 (.i .i64 2) v31 fun v32 => layF o 5 (.i .i64 2) v32 fun v33 => insertN o h .i64 v2 (.i .i64 17) (.agg v33) fun h => layF o 2 (.b true) [(.b false), (.b false), (.b false), (.b false), (.i .i64 0), (.i .i64 0), (.i .i64 0)] fun v34 => layF o 4 (.i .i64 1) v34 fun v35 => layF o 5 (.i .i64 1) v35 fun v36 => insertN o h .i64 v2 (.i .i64 18) (.agg v36) fun h => lookupN o h .i64 (some (.agg [(.b false), (.b false), (.b false), (.b false), (.i .i64 0), (.i .i64 0), (.i .i64 0)])) v2 a0 true fun v37 => exF o v37 0 fun v38 => exF o v37 1 fun v39 => newF h h.next 7 [(.b false), (.b false), (.b false), (.b false), (.i .i64 0), (.i .i64 0), (.i .i64 0)] fun v40 h => storeF o h 7 v40 v38 fun h => loadNF o h 7 v40 fun v41 => storeF o h 7 v1 v41 fun h => on o (resV Pq h [(v1, some 296), (v39, none)]) fun v => k v h
theorem f298_ok : R Pq o c n b298 (kend Pq o c n w rs298 k) = fun t _ h => f298 o c n k (t 0) h := by kernel_rfl
theorem f298_good : Good Pq (cfg mm) 298 (entF Pq (cfg mm) 298 1 fun α => f298) := entG b298 rs298 35 fun _ => f298_ok
noncomputable def b299 := bdy Tryz.f299
noncomputable def rs299 := Tryz.f299.results.toList
noncomputable def f299_2K : Ex → K α := (nxK (R Pq o c n (cB (cB b299)) (kend Pq o c n w rs299 k)) (kend Pq o c n w rs299 k))
noncomputable def f299_9 {α : Type} (o : α) (c : Call' α) (n : Nat) (k : AV → Heap → α) (s5 s6 s41 s45 : AV) (h : Heap) : α :=
  pickF o s41 s45 (.b false) fun v1 => bkF o true v1 (faF o 5 s6 fun v2 => load1F o h v2 fun v3 => leqF Pq o 3 s5 v3 fun v4 => pickF o v1 v4 (.b false) fun v5 => k v5 h) (pickF o v1 (.tup []) (.b false) fun v6 => k v6 h)
theorem f299_9_ok : Q Pq o c (cO (cA (cB b299))) (f299_2K o c n k w) 33 = fun t _ h => f299_9 o c n k (t 5) (t 6) (t 41) (t 45) h := (q_seg 33 35 (by kernel_rfl) (q_guard 35 39 (34, true) (by kernel_rfl) (by kernel_rfl) (by kernel_rfl) rfl)).tk
noncomputable def f299_8 (s5 s6 s34 s39 : AV) (h : Heap) : α :=
  pickF o s34 s39 (.b false) fun v7 => bkF o true v7 (faF o 4 s6 fun v8 => load1F o h v8 fun v9 => geqF Pq o 3 s5 v9 fun v10 => f299_9 o c n k s5 s6 v7 v10 h) (f299_9 o c n k s5 s6 v7 (.tup []) h)
theorem f299_8_ok : Q Pq o c (cO (cA (cB b299))) (f299_2K o c n k w) 27 = fun t _ h => f299_8 o c n k (t 5) (t 6) (t 34) (t 39) h := (q_seg 27 29 (by kernel_rfl) (q_guard 29 33 (28, true) (by kernel_rfl) (by kernel_rfl) (by kernel_rfl) (f299_9_ok o c n k w))).tk
noncomputable def f299_7 (s4 s5 s6 s27 s32 : AV) (h : Heap) : α :=
  pickF o s27 s32 (.b false) fun v11 => bkF o true v11 (faF o 3 s6 fun v12 => load1F o h v12 fun v13 => nesF Pq o 9 s4 (.s 0 0) fun v14 => eqiF Pq o 4 v13 v14 fun v15 => f299_8 o c n k s5 s6 v11 v15 h) (f299_8 o c n k s5 s6 v11 (.tup []) h)
theorem f299_7_ok : Q Pq o c (cO (cA (cB b299))) (f299_2K o c n k w) 20 = fun t _ h => f299_7 o c n k (t 4) (t 5) (t 6) (t 27) (t 32) h := (q_seg 20 22 (by kernel_rfl) (q_guard 22 27 (21, true) (by kernel_rfl) (by kernel_rfl) (by kernel_rfl) (f299_8_ok o c n k w))).tk
noncomputable def f299_6 (s3 s4 s5 s6 s19 s25 : AV) (h : Heap) : α :=
  pickF o s19 s25 (.b false) fun v16 => bkF o true v16 (faF o 2 s6 fun v17 => load1F o h v17 fun v18 => nesF Pq o 9 s3 (.s 0 0) fun v19 => eqiF Pq o 4 v18 v19 fun v20 => f299_7 o c n k s4 s5 s6 v16 v20 h) (f299_7 o c n k s4 s5 s6 v16 (.tup []) h)
theorem f299_6_ok : Q Pq o c (cO (cA (cB b299))) (f299_2K o c n k w) 13 = fun t _ h => f299_6 o c n k (t 3) (t 4) (t 5) (t 6) (t 19) (t 25) h := (q_seg 13 15 (by kernel_rfl) (q_guard 15 20 (14, true) (by kernel_rfl) (by kernel_rfl) (by kernel_rfl) (f299_7_ok o c n k w))).tk
noncomputable def f299_5 (s3 s4 s5 s6 s19 s22 s24 : AV) (h : Heap) : α :=
  bkF o true s19 (pickF o s22 (.b true) s24 fun v21 => f299_6 o c n k s3 s4 s5 s6 s19 v21 h) (f299_6 o c n k s3 s4 s5 s6 s19 (.tup []) h)
theorem f299_5_ok : Q Pq o c (cO (cA (cB b299))) (f299_2K o c n k w) 12 = fun t _ h => f299_5 o c n k (t 3) (t 4) (t 5) (t 6) (t 19) (t 22) (t 24) h := (q_seg 12 12 (by kernel_rfl) (q_guard 12 13 (6, true) (by kernel_rfl) (by kernel_rfl) (by kernel_rfl) (f299_6_ok o c n k w))).tk
noncomputable def f299_4 (s2 s3 s4 s5 s6 s19 s22 : AV) (h : Heap) : α :=
  bkF o false s22 (eqsF Pq o 9 s2 (.s 0 0) fun v22 => f299_5 o c n k s3 s4 s5 s6 s19 s22 v22 h) (f299_5 o c n k s3 s4 s5 s6 s19 s22 (.tup []) h)
theorem f299_4_ok : Q Pq o c (cO (cA (cB b299))) (f299_2K o c n k w) 10 = fun t _ h => f299_4 o c n k (t 2) (t 3) (t 4) (t 5) (t 6) (t 19) (t 22) h := (q_seg 10 10 (by kernel_rfl) (q_guard 10 12 (9, false) (by kernel_rfl) (by kernel_rfl) (by kernel_rfl) (f299_5_ok o c n k w))).tk
noncomputable def f299_3 (s2 s3 s4 s5 s6 s15 s17 : AV) (h : Heap) : α :=
  pickF o s15 (.b true) s17 fun v23 => bkF o true v23 (faF o 1 s6 fun v24 => load1F o h v24 fun v25 => f299_4 o c n k s2 s3 s4 s5 s6 v23 v25 h) (f299_4 o c n k s2 s3 s4 s5 s6 v23 (.tup []) h)
theorem f299_3_ok : Q Pq o c (cO (cA (cB b299))) (f299_2K o c n k w) 5 = fun t _ h => f299_3 o c n k (t 2) (t 3) (t 4) (t 5) (t 6) (t 15) (t 17) h := (q_seg 5 7 (by kernel_rfl) (q_guard 7 10 (6, true) (by kernel_rfl) (by kernel_rfl) (by kernel_rfl) (f299_4_ok o c n k w))).tk
noncomputable def f299_1 (s1 s2 s3 s4 s5 s6 : AV) (h : Heap) : α :=
  faF o 0 s6 fun v26 => load1F o h v26 fun v27 => bkF o false v27 (eqiF Pq o 21 s1 (.i .i32 0) fun v28 => f299_3 o c n k s2 s3 s4 s5 s6 v27 v28 h) (f299_3 o c n k s2 s3 s4 s5 s6 v27 (.tup []) h)
theorem f299_1_ok : R Pq o c n (cB b299) (kend Pq o c n w rs299 k) = fun t _ h => f299_1 o c n k (t 1) (t 2) (t 3) (t 4) (t 5) (t 6) h := (kseq rfl (r_start 3 (by kernel_rfl) (q_guard 3 5 (2, false) (by kernel_rfl) (by kernel_rfl) (by kernel_rfl) (f299_3_ok o c n k w)))).tk
noncomputable def f299 (a0 a1 a2 a3 a4 a5 : AV) (h : Heap) : α :=
  boxF o a0 h h.next fun v29 h => f299_1 o c n k a1 a2 a3 a4 a5 v29 h
theorem f299_ok : R Pq o c n b299 (kend Pq o c n w rs299 k) = fun t _ h => f299 o c n k (t 0) (t 1) (t 2) (t 3) (t 4) (t 5) h := (kseq (f299_1_ok o c n k w) rfl).tk
theorem f299_good : Good Pq (cfg mm) 299 (entF Pq (cfg mm) 299 6 fun α => f299) := entG b299 rs299 53 fun _ => f299_ok
noncomputable def b301 := bdy Tryz.f301
noncomputable def rs301 := Tryz.f301.results.toList
noncomputable def f301 {α : Type} (o : α) (c : Call' α) (n : Nat) (k : AV → Heap → α) (a0 a1 : AV) (h : Heap) : α :=
  eqiF Pq o 3 a0 (.i .i64 17) fun v1 => ifF o v1 (c 346 [a1] h fun v2 h => pk k v2 h <| k v2 h) (eqiF Pq o 3 a0 (.i .i64 18) fun v3 => ifF o v3 (c 347 [a1] h fun v4 h => pk k v4 h <| k v4 h) (c 242 [a1] h fun v5 h => pk k v5 h <| k v5 h))
theorem f301_ok : R Pq o c n b301 (kend Pq o c n w rs301 k) = fun t _ h => f301 o c n k (t 0) (t 1) h := by kernel_rfl
theorem f301_good : Good Pq (cfg mm) 301 (entF Pq (cfg mm) 301 2 fun α => f301) := entG b301 rs301 16 fun _ => f301_ok
noncomputable def b302 := bdy Tryz.f302
noncomputable def rs302 := Tryz.f302.results.toList
noncomputable def f302 {α : Type} (o : α) (c : Call' α) (n : Nat) (k : AV → Heap → α) (a0 a1 : AV) (h : Heap) : α :=
  boxF o a0 h h.next fun v1 h => loadNF o h 8 v1 fun v2 => load1F o h a1 fun v3 => addF Pq o 3 v3 (.i .i64 1) fun v4 => c 245 [v2, v4] h fun v5 h => pk k v5 h <| notF o v5 fun v6 => k v6 h
theorem f302_ok : R Pq o c n b302 (kend Pq o c n w rs302 k) = fun t _ h => f302 o c n k (t 0) (t 1) h := by kernel_rfl
theorem f302_good : Good Pq (cfg mm) 302 (entF Pq (cfg mm) 302 2 fun α => f302) := entG b302 rs302 9 fun _ => f302_ok
end Go.Zev.Cf
