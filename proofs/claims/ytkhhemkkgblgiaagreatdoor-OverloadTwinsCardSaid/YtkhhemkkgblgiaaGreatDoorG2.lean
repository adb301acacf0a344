/-
  Printed by zgen.py: clean forms.
-/
import Derived.Test.YtkhhemkkgblgiaaGreatDoorG1
set_option linter.unusedVariables false
set_option maxRecDepth 20000
namespace Go.Zev.Po
open Go Go.Zev Go.Proofs
variable {mm : FuncId → Option (List AV → Option AV)}
noncomputable def b261 := bdy Tryz.f261
noncomputable def rs261 := Tryz.f261.results.toList
variable {α : Type} (o : α) (c : Call' α) (n : Nat) (k : AV → Heap → α) (w : FuncId → Nat)
noncomputable def f261 {α : Type} (o : α) (c : Call' α) (n : Nat) (k : AV → Heap → α) (a0 a1 : AV) (h : Heap) : α :=
  boxF o a0 h h.next fun v1 h => loadNF o h 1 v1 fun v2 => c 289 [v2, a1] h fun v3 h => pk k v3 h <| assertA Pq o v3 51 true fun v4 => exF o v4 0 fun v5 => exF o v4 1 fun v6 => newF h h.next 4 [(.s 0 0), (.s 0 0), .nsl, .nsl] fun v7 h => storeF o h 4 v7 v5 fun h => notF o v6 fun v8 => ifF o v8 (k .nsl h) (faF o 3 v7 fun v9 => load1F o h v9 fun v10 => k v10 h)
theorem f261_ok : R Pq o c n b261 (kend Pq o c n w rs261 k) = fun t _ h => f261 o c n k (t 0) (t 1) h := by kernel_rfl
theorem f261_good : Good Pq (cfg mm) 261 (entF Pq (cfg mm) 261 2 fun α => f261) := entG b261 rs261 18 fun _ => f261_ok
noncomputable def b263 := bdy Tryz.f263
noncomputable def rs263 := Tryz.f263.results.toList
noncomputable def f263_4K : Ex → K α := (nxK (R Pq o c n (cB (cB (cB (cB b263)))) (kend Pq o c n w rs263 k)) (kend Pq o c n w rs263 k))
noncomputable def f263_6 {α : Type} (o : α) (c : Call' α) (n : Nat) (k : AV → Heap → α) (m : Nat) : AVs (Heap → α) 7 :=
  Nat.rec (motive := fun _ => AVs (Heap → α) 7) (fun _ _ _ _ _ _ _ _ => o) (fun _ lp0 s3 s4 s9 s10 s16 s17 s18 h => lssF Pq o 3 s18 s17 fun v1 => ifF o v1 (ixF o 8 s16 s18 fun v2 => loadNF o h 8 v2 fun v3 => newF h h.next 8 [(.i .i64 0), (.i .i32 0), (.s 0 0), (.s 0 0), (.s 0 0), .nsl, (.s 0 0), (.i .i64 0)] fun v4 h => storeF o h 8 v4 v3 fun h => loadNF o h 1 s3 fun v5 => loadNF o h 3 s4 fun v6 => loadNF o h 8 v4 fun v7 => c 225 [v5, v6, v7] h fun v8 h => pk k v8 h <| exF o v8 0 fun v9 => exF o v8 1 fun v10 => exF o v8 2 fun v11 => newF h h.next 8 [(.i .i64 0), (.i .i32 0), (.s 0 0), (.s 0 0), (.s 0 0), .nsl, (.s 0 0), (.i .i64 0)] fun v12 h => storeF o h 8 v12 v9 fun h => neiF Pq o 3 v11 (.i .i64 0) fun v13 => ifF o v13 (k (.tup [.nsl, .nsl, v11]) h) (loadNF o h 8 v12 fun v14 => fil1 o 8 1 0 v14 [[(.i .i64 0), (.i .i32 0), (.s 0 0), (.s 0 0), (.s 0 0), .nsl, (.s 0 0), (.i .i64 0)]] fun v15 => newEF h h.next 8 1 v15 fun v16 h => appX Pq o h h.next 55 55 s9 v16 fun v17 h => fil1 o 1 1 0 v10 [[(.s 0 0)]] fun v18 => newEF h h.next 1 1 v18 fun v19 h => appX Pq o h h.next 37 37 s10 v19 fun v20 h => addF Pq o 3 s18 (.i .i64 1) fun v21 => lp0 s3 s4 v17 v20 s16 s17 v21 h)) (k (.tup [s9, s10, (.i .i64 0)]) h)) m
theorem f263_6_ok : R Pq o c n (cA (cB (cA (cB (cB (cB b263)))))) (blockK (cI (cB (cA (cB (cB (cB b263)))))) (f263_4K o c n k w)) = fun t _ h => f263_6 o c n k n (t 3) (t 4) (t 9) (t 10) (t 16) (t 17) (t 18) h :=
  c_loop (F := fun m t _ h => f263_6 o c n k m (t 3) (t 4) (t 9) (t 10) (t 16) (t 17) (t 18) h) (by kernel_rfl) (by kernel_rfl) fun m => by kernel_rfl
noncomputable def f263_5 (s3 s4 s9 s10 s16 s17 s18 : AV) (h : Heap) : α :=
  f263_6 o c n k n s3 s4 s9 s10 s16 s17 s18 h
theorem f263_5_ok : R Pq o c n (cB (cA (cB (cB (cB b263))))) (f263_4K o c n k w) = fun t _ h => f263_5 o c n k (t 3) (t 4) (t 9) (t 10) (t 16) (t 17) (t 18) h := (kblk (f263_6_ok o c n k w)).tk
noncomputable def f263_3 (s2 s3 s4 s9 s10 : AV) (h : Heap) : α :=
  lenF o s2 fun v22 => f263_5 o c n k s3 s4 s9 s10 s2 v22 (.i .i64 0) h
theorem f263_3_ok : R Pq o c n (cB (cB (cB b263))) (kend Pq o c n w rs263 k) = fun t _ h => f263_3 o c n k (t 2) (t 3) (t 4) (t 9) (t 10) h := (kseq rfl (kseq (f263_5_ok o c n k w) rfl)).tk
noncomputable def f263_2 (s2 s3 s4 s9 : AV) (h : Heap) : α :=
  f263_3 o c n k s2 s3 s4 s9 .nsl h
theorem f263_2_ok : R Pq o c n (cB (cB b263)) (kend Pq o c n w rs263 k) = fun t _ h => f263_2 o c n k (t 2) (t 3) (t 4) (t 9) h := (kseq (f263_3_ok o c n k w) rfl).tk
noncomputable def f263_1 (s2 s3 s4 : AV) (h : Heap) : α :=
  f263_2 o c n k s2 s3 s4 .nsl h
theorem f263_1_ok : R Pq o c n (cB b263) (kend Pq o c n w rs263 k) = fun t _ h => f263_1 o c n k (t 2) (t 3) (t 4) h := (kseq (f263_2_ok o c n k w) rfl).tk
noncomputable def f263 (a0 a1 a2 : AV) (h : Heap) : α :=
  boxF o a0 h h.next fun v23 h => boxF o a1 h h.next fun v24 h => f263_1 o c n k a2 v23 v24 h
theorem f263_ok : R Pq o c n b263 (kend Pq o c n w rs263 k) = fun t _ h => f263 o c n k (t 0) (t 1) (t 2) h := (kseq (f263_1_ok o c n k w) rfl).tk
theorem f263_good : Good Pq (cfg mm) 263 (entF Pq (cfg mm) 263 3 fun α => f263) := entG b263 rs263 44 fun _ => f263_ok
noncomputable def b265 := bdy Tryz.f265
noncomputable def rs265 := Tryz.f265.results.toList
noncomputable def f265_5K : Ex → K α := (nxK (R Pq o c n (cB (cB (cB (cB (cB b265))))) (kend Pq o c n w rs265 k)) (kend Pq o c n w rs265 k))
noncomputable def f265_7 {α : Type} (o : α) (c : Call' α) (n : Nat) (k : AV → Heap → α) (m : Nat) : AVs (Heap → α) 4 :=
  Nat.rec (motive := fun _ => AVs (Heap → α) 4) (fun _ _ _ _ _ => o) (fun _ lp0 s6 s25 s26 s27 h => lssF Pq o 3 s27 s26 fun v1 => ifF o v1 (ixF o 1 s25 s27 fun v2 => load1F o h v2 fun v3 => appX Pq o h h.next 60 60 s6 v3 fun v4 h => addF Pq o 3 s27 (.i .i64 1) fun v5 => lp0 v4 s25 s26 v5 h) (k s6 h)) m
theorem f265_7_ok : R Pq o c n (cA (cB (cA (cB (cB (cB (cB b265))))))) (blockK (cI (cB (cA (cB (cB (cB (cB b265))))))) (f265_5K o c n k w)) = fun t _ h => f265_7 o c n k n (t 6) (t 25) (t 26) (t 27) h :=
  c_loop (F := fun m t _ h => f265_7 o c n k m (t 6) (t 25) (t 26) (t 27) h) (by kernel_rfl) (by kernel_rfl) fun m => by kernel_rfl
noncomputable def f265_6 (s6 s25 s26 s27 : AV) (h : Heap) : α :=
  f265_7 o c n k n s6 s25 s26 s27 h
theorem f265_6_ok : R Pq o c n (cB (cA (cB (cB (cB (cB b265)))))) (f265_5K o c n k w) = fun t _ h => f265_6 o c n k (t 6) (t 25) (t 26) (t 27) h := (kblk (f265_7_ok o c n k w)).tk
noncomputable def f265_4 (s0 s6 : AV) (h : Heap) : α :=
  lenF o s0 fun v6 => f265_6 o c n k s6 s0 v6 (.i .i64 0) h
theorem f265_4_ok : R Pq o c n (cB (cB (cB (cB b265)))) (kend Pq o c n w rs265 k) = fun t _ h => f265_4 o c n k (t 0) (t 6) h := (kseq rfl (kseq (f265_6_ok o c n k w) rfl)).tk
noncomputable def f265_3 (s0 s3 : AV) (h : Heap) : α :=
  c 298 [.nsl, s3] h fun v7 h => pk k v7 h <| f265_4 o c n k s0 v7 h
theorem f265_3_ok : R Pq o c n (cB (cB (cB b265))) (kend Pq o c n w rs265 k) = fun t _ h => f265_3 o c n k (t 0) (t 3) h := (kseq (f265_4_ok o c n k w) rfl).tk
noncomputable def f265_8K : Ex → K α := (nxK (fun t _ h => f265_3 o c n k (t 0) (t 3) h) (kend Pq o c n w rs265 k))
noncomputable def f265_10 (m : Nat) : AVs (Heap → α) 5 :=
  Nat.rec (motive := fun _ => AVs (Heap → α) 5) (fun _ _ _ _ _ _ => o) (fun _ lp0 s0 s3 s9 s10 s11 h => lssF Pq o 3 s11 s10 fun v8 => ifF o v8 (ixF o 1 s9 s11 fun v9 => load1F o h v9 fun v10 => lenF o v10 fun v11 => addF Pq o 3 s3 v11 fun v12 => lssF Pq o 3 v12 (.i .i64 0) fun v13 => ifF o v13 (panicA o (.ifc 9 (.s 16 134789072936214216453580009062074836332)) fun x => k x.pn h) (addF Pq o 3 s11 (.i .i64 1) fun v14 => lp0 s0 v12 s9 s10 v14 h)) (f265_3 o c n k s0 s3 h)) m
theorem f265_10_ok : R Pq o c n (cA (cB (cA (cB (cB b265))))) (blockK (cI (cB (cA (cB (cB b265))))) (f265_8K o c n k w)) = fun t _ h => f265_10 o c n k n (t 0) (t 3) (t 9) (t 10) (t 11) h :=
  c_loop (F := fun m t _ h => f265_10 o c n k m (t 0) (t 3) (t 9) (t 10) (t 11) h) (by kernel_rfl) (by kernel_rfl) fun m => by kernel_rfl
noncomputable def f265_9 (s0 s3 s9 s10 s11 : AV) (h : Heap) : α :=
  f265_10 o c n k n s0 s3 s9 s10 s11 h
theorem f265_9_ok : R Pq o c n (cB (cA (cB (cB b265)))) (f265_8K o c n k w) = fun t _ h => f265_9 o c n k (t 0) (t 3) (t 9) (t 10) (t 11) h := (kblk (f265_10_ok o c n k w)).tk
noncomputable def f265_2 (s0 s3 : AV) (h : Heap) : α :=
  lenF o s0 fun v15 => f265_9 o c n k s0 s3 s0 v15 (.i .i64 0) h
theorem f265_2_ok : R Pq o c n (cB (cB b265)) (kend Pq o c n w rs265 k) = fun t _ h => f265_2 o c n k (t 0) (t 3) h := (kseq (f265_3_ok o c n k w) (kseq (f265_9_ok o c n k w) rfl)).tk
noncomputable def f265_1 (s0 : AV) (h : Heap) : α :=
  f265_2 o c n k s0 (.i .i64 0) h
theorem f265_1_ok : R Pq o c n (cB b265) (kend Pq o c n w rs265 k) = fun t _ h => f265_1 o c n k (t 0) h := (kseq (f265_2_ok o c n k w) rfl).tk
noncomputable def f265 (a0 : AV) (h : Heap) : α :=
  f265_1 o c n k a0 h
theorem f265_ok : R Pq o c n b265 (kend Pq o c n w rs265 k) = fun t _ h => f265 o c n k (t 0) h := (kseq (f265_1_ok o c n k w) rfl).tk
theorem f265_good : Good Pq (cfg mm) 265 (entF Pq (cfg mm) 265 1 fun α => f265) := entG b265 rs265 36 fun _ => f265_ok
noncomputable def b277 := bdy Tryz.f277
noncomputable def rs277 := Tryz.f277.results.toList
noncomputable def f277_2K : Ex → K α := (nxK (R Pq o c n (cB (cB b277)) (kend Pq o c n w rs277 k)) (kend Pq o c n w rs277 k))
noncomputable def f277_1 {α : Type} (o : α) (c : Call' α) (n : Nat) (k : AV → Heap → α) (s0 : AV) (h : Heap) : α :=
  geqF Pq o 21 s0 (.i .i32 97) fun v1 => bkF o true v1 (leqF Pq o 21 s0 (.i .i32 122) fun v2 => pickF o v1 v2 (.b false) fun v3 => k v3 h) (pickF o v1 (.tup []) (.b false) fun v4 => k v4 h)
theorem f277_1_ok : R Pq o c n (cB b277) (kend Pq o c n w rs277 k) = fun t _ h => f277_1 o c n k (t 0) h := (kseq rfl (r_start 3 (by kernel_rfl) (q_guard 3 5 (2, true) (by kernel_rfl) (by kernel_rfl) (by kernel_rfl) rfl))).tk
noncomputable def f277 (a0 : AV) (h : Heap) : α :=
  f277_1 o c n k a0 h
theorem f277_ok : R Pq o c n b277 (kend Pq o c n w rs277 k) = fun t _ h => f277 o c n k (t 0) h := (kseq (f277_1_ok o c n k w) rfl).tk
theorem f277_good : Good Pq (cfg mm) 277 (entF Pq (cfg mm) 277 1 fun α => f277) := entG b277 rs277 9 fun _ => f277_ok
noncomputable def b278 := bdy Tryz.f278
noncomputable def rs278 := Tryz.f278.results.toList
noncomputable def f278 {α : Type} (o : α) (c : Call' α) (n : Nat) (k : AV → Heap → α) (a0 : AV) (h : Heap) : α :=
  fil1 o 1 24 0 (.s 7 31069335677005666) (lrep [(.s 0 0)] 24) fun v1 => fil1 o 1 24 1 (.s 3 7630441) v1 fun v2 => fil1 o 1 24 2 (.s 4 1684631414) v2 fun v3 => fil1 o 1 24 3 (.s 5 495857003619) v3 fun v4 => fil1 o 1 24 4 (.s 7 32480047633037413) v4 fun v5 => fil1 o 1 24 5 (.s 6 109304575259763) v5 fun v6 => fil1 o 1 24 6 (.s 3 7824750) v6 fun v7 => fil1 o 1 24 7 (.s 4 1936287860) v7 fun v8 => fil1 o 1 24 8 (.s 5 491328140659) v8 fun v9 => fil1 o 1 24 9 (.s 4 1819047278) v9 fun v10 => fil1 o 1 24 10 (.s 4 1702195828) v10 fun v11 => fil1 o 1 24 11 (.s 5 435728179558) v11 fun v12 => fil1 o 1 24 12 (.s 2 26217) v12 fun v13 => fil1 o 1 24 13 (.s 4 1702063205) v13 fun v14 => fil1 o 1 24 14 (.s 5 435610544247) v14 fun v15 => fil1 o 1 24 15 (.s 6 121437875889522) v15 fun v16 => fil1 o 1 24 16 (.s 5 500068610672) v16 fun v17 => fil1 o 1 24 17 (.s 6 128034677158753) v17 fun v18 => fil1 o 1 24 18 (.s 5 512970877044) v18 fun v19 => fil1 o 1 24 19 (.s 3 7959156) v19 fun v20 => fil1 o 1 24 20 (.s 5 448345170275) v20 fun v21 => fil1 o 1 24 21 (.s 7 34177684928883046) v21 fun v22 => fil1 o 1 24 22 (.s 2 29537) v22 fun v23 => fil1 o 1 24 23 (.s 2 29545) v23 fun v24 => newEF h h.next 1 24 v24 fun v25 h => c 17 [v25, a0] h fun v26 h => pk k v26 h <| k v26 h
theorem f278_ok : R Pq o c n b278 (kend Pq o c n w rs278 k) = fun t _ h => f278 o c n k (t 0) h := by kernel_rfl
theorem f278_good : Good Pq (cfg mm) 278 (entF Pq (cfg mm) 278 1 fun α => f278) := entG b278 rs278 6 fun _ => f278_ok
noncomputable def b279 := bdy Tryz.f279
noncomputable def rs279 := Tryz.f279.results.toList
noncomputable def f279_2K : Ex → K α := (nxK (R Pq o c n (cB (cB b279)) (kend Pq o c n w rs279 k)) (kend Pq o c n w rs279 k))
noncomputable def f279_4 {α : Type} (o : α) (c : Call' α) (n : Nat) (k : AV → Heap → α) (m : Nat) : AVs (Heap → α) 4 :=
  Nat.rec (motive := fun _ => AVs (Heap → α) 4) (fun _ _ _ _ _ => o) (fun _ lp0 s0 s1 s7 s8 h => lssF Pq o 3 s8 s7 fun v1 => ifF o v1 (ixF o 8 s0 s8 fun v2 => loadNF o h 8 v2 fun v3 => cfF o s1 [v3] c h fun v4 h => pk k v4 h <| ifF o v4 (k s8 h) (addF Pq o 3 s8 (.i .i64 1) fun v5 => lp0 s0 s1 s7 v5 h)) (k (.i .i64 (-1)) h)) m
theorem f279_4_ok : R Pq o c n (cA (cB (cA (cB b279)))) (blockK (cI (cB (cA (cB b279)))) (f279_2K o c n k w)) = fun t _ h => f279_4 o c n k n (t 0) (t 1) (t 7) (t 8) h :=
  c_loop (F := fun m t _ h => f279_4 o c n k m (t 0) (t 1) (t 7) (t 8) h) (by kernel_rfl) (by kernel_rfl) fun m => by kernel_rfl
noncomputable def f279_3 (s0 s1 s7 s8 : AV) (h : Heap) : α :=
  f279_4 o c n k n s0 s1 s7 s8 h
theorem f279_3_ok : R Pq o c n (cB (cA (cB b279))) (f279_2K o c n k w) = fun t _ h => f279_3 o c n k (t 0) (t 1) (t 7) (t 8) h := (kblk (f279_4_ok o c n k w)).tk
noncomputable def f279_1 (s0 s1 : AV) (h : Heap) : α :=
  lenF o s0 fun v6 => f279_3 o c n k s0 s1 v6 (.i .i64 0) h
theorem f279_1_ok : R Pq o c n (cB b279) (kend Pq o c n w rs279 k) = fun t _ h => f279_1 o c n k (t 0) (t 1) h := (kseq rfl (kseq (f279_3_ok o c n k w) rfl)).tk
noncomputable def f279 (a0 a1 : AV) (h : Heap) : α :=
  f279_1 o c n k a0 a1 h
theorem f279_ok : R Pq o c n b279 (kend Pq o c n w rs279 k) = fun t _ h => f279 o c n k (t 0) (t 1) h := (kseq (f279_1_ok o c n k w) rfl).tk
theorem f279_good : Good Pq (cfg mm) 279 (entF Pq (cfg mm) 279 2 fun α => f279) := entG b279 rs279 19 fun _ => f279_ok
noncomputable def b280 := bdy Tryz.f280
noncomputable def rs280 := Tryz.f280.results.toList
noncomputable def f280 {α : Type} (o : α) (c : Call' α) (n : Nat) (k : AV → Heap → α) (a0 : AV) (h : Heap) : α :=
  newF h h.next 7 [(.b false), (.b false), (.b false), (.b false), (.i .i64 0), (.i .i64 0), (.i .i64 0)] fun v1 h => mapA h h.next fun v2 h => layF o 0 (.b true) [(.b false), (.b false), (.b false), (.b false), (.i .i64 0), (.i .i64 0), (.i .i64 0)] fun v3 => insertN o h .i64 v2 (.i .i64 1) (.agg v3) fun h => layF o 0 (.b true) [(.b false), (.b false), (.b false), (.b false), (.i .i64 0), (.i .i64 0), (.i .i64 0)] fun v4 => insertN o h .i64 v2 (.i .i64 2) (.agg v4) fun h => layF o 1 (.b true) [(.b false), (.b false), (.b false), (.b false), (.i .i64 0), (.i .i64 0), (.i .i64 0)] fun v5 => insertN o h .i64 v2 (.i .i64 3) (.agg v5) fun h => insertN o h .i64 v2 (.i .i64 4) (.agg [(.b false), (.b false), (.b false), (.b false), (.i .i64 0), (.i .i64 0), (.i .i64 0)]) fun h => insertN o h .i64 v2 (.i .i64 5) (.agg [(.b false), (.b false), (.b false), (.b false), (.i .i64 0), (.i .i64 0), (.i .i64 0)]) fun h => layF o 2 (.b true) [(.b false), (.b false), (.b false), (.b false), (.i .i64 0), (.i .i64 0), (.i .i64 0)] fun v6 => insertN o h .i64 v2 (.i .i64 6) (.agg v6) fun h => layF o 2 (.b true) [(.b false), (.b false), (.b false), (.b false), (.i .i64 0), (.i .i64 0), (.i .i64 0)] fun v7 => layF o 4 (.i .i64 1) v7 fun v8 => layF o 5 (.i .i64 1) v8 fun v9 => insertN o h .i64 v2 (.i .i64 7) (.agg v9) fun h => layF o 2 (.b true) [(.b false), (.b false), (.b false), (.b false), (.i .i64 0), (.i .i64 0), (.i .i64 0)] fun v10 => insertN o h .i64 v2 (.i .i64 8) (.agg v10) fun h => layF o 2 (.b true) [(.b false), (.b false), (.b false), (.b false), (.i .i64 0), (.i .i64 0), (.i .i64 0)] fun v11 => layF o 3 (.b true) v11 fun v12 => insertN o h .i64 v2 (.i .i64 9) (.agg v12) fun h => layF o 2 (.b true) [(.b false), (.b false), (.b false), (.b false), (.i .i64 0), (.i .i64 0), (.i .i64 0)] fun v13 => layF o 4 (.i .i64 1) v13 fun v14 => layF o 5 (.i .i64 3000) v14 fun v15 => insertN o h .i64 v2 (.i .i64 10) (.agg v15) fun h => layF o 2 (.b true) [(.b false), (.b false), (.b false), (.b false), (.i .i64 0), (.i .i64 0), (.i .i64 0)] fun v16 => layF o 5 (.i .i64 3000) v16 fun v17 => insertN o h .i64 v2 (.i .i64 11) (.agg v17) fun h => layF o 2 (.b true) [(.b false), (.b false), (.b false), (.b false), (.i .i64 0), (.i .i64 0), (.i .i64 0)] fun v18 => layF o 5 (.i .i64 3000) v18 fun v19 => insertN o h .i64 v2 (.i .i64 12) (.agg v19) fun h => layF o 2 (.b true) [(.b false), (.b false), (.b false), (.b false), (.i .i64 0), (.i .i64 0), (.i .i64 0)] fun v20 => layF o 3 (.b true) v20 fun v21 => layF o 5 (.i .i64 3000) v21 fun v22 => insertN o h .i64 v2 (.i .i64 13) (.agg v22) fun h => layF o 3 (.b true) [(.b false), (.b false), (.b false), (.b false), (.i .i64 0), (.i .i64 0), (.i .i64 0)] fun v23 => layF o 5 (.i .i64 3000) v23 fun v24 => insertN o h .i64 v2 (.i .i64 14) (.agg v24) fun h => layF o 3 (.b true) [(.b false), (.b false), (.b false), (.b false), (.i .i64 0), (.i .i64 0), (.i .i64 0)] fun v25 => layF o 4 (.i .i64 1) v25 fun v26 => layF o 5 (.i .i64 1) v26 fun v27 => insertN o h .i64 v2 (.i .i64 15) (.agg v27) fun h => layF o 3 (.b true) [(.b false), (.b false), (.b false), (.b false), (.i .i64 0), (.i .i64 0), (.i .i64 0)] fun v28 => layF o 4 (.i .i64 1) v28 fun v29 => layF o 5 (.i .i64 1) v29 fun v30 => insertN o h .i64 v2 (.i .i64 16) (.agg v30) fun h => layF o 2 (.b true) [(.b false), (.b false), (.b false), (.b false), (.i .i64 0), (.i .i64 0), (.i .i64 0)] fun v31 => layF o 4 (.i .i64 2) v31 fun v32 => layF o 5 (.i .i64 2) v32 fun v33 => insertN o h .i64 v2 (.i .i64 17) (.agg v33) fun h => layF o 2 (.b true) [(.b false), (.b false), (.b false), (.b false), (.i .i64 0), (.i .i64 0), (.i .i64 0)] fun v34 => layF o 4 (.i .i64 1) v34 fun v35 => layF o 5 (.i .i64 1) v35 fun v36 => insertN o h .i64 v2 (.i .i64 18) (.agg v36) fun h => lookupN o h .i64 (some (.agg [(.b false), (.b false), (.b false), (.b false), (.i .i64 0), (.i .i64 0), (.i .i64 0)])) v2 a0 true fun v37 => exF o v37 0 fun v38 => exF o v37 1 fun v39 => newF h h.next 7 [(.b false), (.b false), (.b false), (.b false), (.i .i64 0), (.i .i64 0), (.i .i64 0)] fun v40 h => storeF o h 7 v40 v38 fun h => loadNF o h 7 v40 fun v41 => storeF o h 7 v1 v41 fun h => on o (resV Pq h [(v1, some 277), (v39, none)]) fun v => k v h
theorem f280_ok : R Pq o c n b280 (kend Pq o c n w rs280 k) = fun t _ h => f280 o c n k (t 0) h := by kernel_rfl
theorem f280_good : Good Pq (cfg mm) 280 (entF Pq (cfg mm) 280 1 fun α => f280) := entG b280 rs280 35 fun _ => f280_ok
noncomputable def b281 := bdy Tryz.f281
noncomputable def rs281 := Tryz.f281.results.toList
noncomputable def f281_2K : Ex → K α := (nxK (R Pq o c n (cB (cB b281)) (kend Pq o c n w rs281 k)) (kend Pq o c n w rs281 k))
noncomputable def f281_9 {α : Type} (o : α) (c : Call' α) (n : Nat) (k : AV → Heap → α) (s5 s6 s41 s45 : AV) (h : Heap) : α :=
  pickF o s41 s45 (.b false) fun v1 => bkF o true v1 (faF o 5 s6 fun v2 => load1F o h v2 fun v3 => leqF Pq o 3 s5 v3 fun v4 => pickF o v1 v4 (.b false) fun v5 => k v5 h) (pickF o v1 (.tup []) (.b false) fun v6 => k v6 h)
theorem f281_9_ok : Q Pq o c (cO (cA (cB b281))) (f281_2K o c n k w) 33 = fun t _ h => f281_9 o c n k (t 5) (t 6) (t 41) (t 45) h := (q_seg 33 35 (by kernel_rfl) (q_guard 35 39 (34, true) (by kernel_rfl) (by kernel_rfl) (by kernel_rfl) rfl)).tk
noncomputable def f281_8 (s5 s6 s34 s39 : AV) (h : Heap) : α :=
  pickF o s34 s39 (.b false) fun v7 => bkF o true v7 (faF o 4 s6 fun v8 => load1F o h v8 fun v9 => geqF Pq o 3 s5 v9 fun v10 => f281_9 o c n k s5 s6 v7 v10 h) (f281_9 o c n k s5 s6 v7 (.tup []) h)
theorem f281_8_ok : Q Pq o c (cO (cA (cB b281))) (f281_2K o c n k w) 27 = fun t _ h => f281_8 o c n k (t 5) (t 6) (t 34) (t 39) h := (q_seg 27 29 (by kernel_rfl) (q_guard 29 33 (28, true) (by kernel_rfl) (by kernel_rfl) (by kernel_rfl) (f281_9_ok o c n k w))).tk
noncomputable def f281_7 (s4 s5 s6 s27 s32 : AV) (h : Heap) : α :=
  pickF o s27 s32 (.b false) fun v11 => bkF o true v11 (faF o 3 s6 fun v12 => load1F o h v12 fun v13 => nesF Pq o 9 s4 (.s 0 0) fun v14 => eqiF Pq o 4 v13 v14 fun v15 => f281_8 o c n k s5 s6 v11 v15 h) (f281_8 o c n k s5 s6 v11 (.tup []) h)
theorem f281_7_ok : Q Pq o c (cO (cA (cB b281))) (f281_2K o c n k w) 20 = fun t _ h => f281_7 o c n k (t 4) (t 5) (t 6) (t 27) (t 32) h := (q_seg 20 22 (by kernel_rfl) (q_guard 22 27 (21, true) (by kernel_rfl) (by kernel_rfl) (by kernel_rfl) (f281_8_ok o c n k w))).tk
noncomputable def f281_6 (s3 s4 s5 s6 s19 s25 : AV) (h : Heap) : α :=
  pickF o s19 s25 (.b false) fun v16 => bkF o true v16 (faF o 2 s6 fun v17 => load1F o h v17 fun v18 => nesF Pq o 9 s3 (.s 0 0) fun v19 => eqiF Pq o 4 v18 v19 fun v20 => f281_7 o c n k s4 s5 s6 v16 v20 h) (f281_7 o c n k s4 s5 s6 v16 (.tup []) h)
theorem f281_6_ok : Q Pq o c (cO (cA (cB b281))) (f281_2K o c n k w) 13 = fun t _ h => f281_6 o c n k (t 3) (t 4) (t 5) (t 6) (t 19) (t 25) h := (q_seg 13 15 (by kernel_rfl) (q_guard 15 20 (14, true) (by kernel_rfl) (by kernel_rfl) (by kernel_rfl) (f281_7_ok o c n k w))).tk
noncomputable def f281_5 (s3 s4 s5 s6 s19 s22 s24 : AV) (h : Heap) : α :=
  bkF o true s19 (pickF o s22 (.b true) s24 fun v21 => f281_6 o c n k s3 s4 s5 s6 s19 v21 h) (f281_6 o c n k s3 s4 s5 s6 s19 (.tup []) h)
theorem f281_5_ok : Q Pq o c (cO (cA (cB b281))) (f281_2K o c n k w) 12 = fun t _ h => f281_5 o c n k (t 3) (t 4) (t 5) (t 6) (t 19) (t 22) (t 24) h := (q_seg 12 12 (by kernel_rfl) (q_guard 12 13 (6, true) (by kernel_rfl) (by kernel_rfl) (by kernel_rfl) (f281_6_ok o c n k w))).tk
noncomputable def f281_4 (s2 s3 s4 s5 s6 s19 s22 : AV) (h : Heap) : α :=
  bkF o false s22 (eqsF Pq o 9 s2 (.s 0 0) fun v22 => f281_5 o c n k s3 s4 s5 s6 s19 s22 v22 h) (f281_5 o c n k s3 s4 s5 s6 s19 s22 (.tup []) h)
theorem f281_4_ok : Q Pq o c (cO (cA (cB b281))) (f281_2K o c n k w) 10 = fun t _ h => f281_4 o c n k (t 2) (t 3) (t 4) (t 5) (t 6) (t 19) (t 22) h := (q_seg 10 10 (by kernel_rfl) (q_guard 10 12 (9, false) (by kernel_rfl) (by kernel_rfl) (by kernel_rfl) (f281_5_ok o c n k w))).tk
noncomputable def f281_3 (s2 s3 s4 s5 s6 s15 s17 : AV) (h : Heap) : α :=
  pickF o s15 (.b true) s17 fun v23 => bkF o true v23 (faF o 1 s6 fun v24 => load1F o h v24 fun v25 => f281_4 o c n k s2 s3 s4 s5 s6 v23 v25 h) (f281_4 o c n k s2 s3 s4 s5 s6 v23 (.tup []) h)
theorem f281_3_ok : Q Pq o c (cO (cA (cB b281))) (f281_2K o c n k w) 5 = fun t _ h => f281_3 o c n k (t 2) (t 3) (t 4) (t 5) (t 6) (t 15) (t 17) h := (q_seg 5 7 (by kernel_rfl) (q_guard 7 10 (6, true) (by kernel_rfl) (by kernel_rfl) (by kernel_rfl) (f281_4_ok o c n k w))).tk
noncomputable def f281_1 (s1 s2 s3 s4 s5 s6 : AV) (h : Heap) : α :=
  faF o 0 s6 fun v26 => load1F o h v26 fun v27 => bkF o false v27 (eqiF Pq o 21 s1 (.i .i32 0) fun v28 => f281_3 o c n k s2 s3 s4 s5 s6 v27 v28 h) (f281_3 o c n k s2 s3 s4 s5 s6 v27 (.tup []) h)
theorem f281_1_ok : R Pq o c n (cB b281) (kend Pq o c n w rs281 k) = fun t _ h => f281_1 o c n k (t 1) (t 2) (t 3) (t 4) (t 5) (t 6) h := (kseq rfl (r_start 3 (by kernel_rfl) (q_guard 3 5 (2, false) (by kernel_rfl) (by kernel_rfl) (by kernel_rfl) (f281_3_ok o c n k w)))).tk
noncomputable def f281 (a0 a1 a2 a3 a4 a5 : AV) (h : Heap) : α :=
  boxF o a0 h h.next fun v29 h => f281_1 o c n k a1 a2 a3 a4 a5 v29 h
theorem f281_ok : R Pq o c n b281 (kend Pq o c n w rs281 k) = fun t _ h => f281 o c n k (t 0) (t 1) (t 2) (t 3) (t 4) (t 5) h := (kseq (f281_1_ok o c n k w) rfl).tk
theorem f281_good : Good Pq (cfg mm) 281 (entF Pq (cfg mm) 281 6 fun α => f281) := entG b281 rs281 53 fun _ => f281_ok
noncomputable def b283 := bdy Tryz.f283
noncomputable def rs283 := Tryz.f283.results.toList
noncomputable def f283 {α : Type} (o : α) (c : Call' α) (n : Nat) (k : AV → Heap → α) (a0 a1 : AV) (h : Heap) : α :=
  eqiF Pq o 3 a0 (.i .i64 17) fun v1 => ifF o v1 (c 311 [a1] h fun v2 h => pk k v2 h <| k v2 h) (eqiF Pq o 3 a0 (.i .i64 18) fun v3 => ifF o v3 (c 312 [a1] h fun v4 h => pk k v4 h <| k v4 h) (c 250 [a1] h fun v5 h => pk k v5 h <| k v5 h))
theorem f283_ok : R Pq o c n b283 (kend Pq o c n w rs283 k) = fun t _ h => f283 o c n k (t 0) (t 1) h := by kernel_rfl
theorem f283_good : Good Pq (cfg mm) 283 (entF Pq (cfg mm) 283 2 fun α => f283) := entG b283 rs283 16 fun _ => f283_ok
noncomputable def b284 := bdy Tryz.f284
noncomputable def rs284 := Tryz.f284.results.toList
noncomputable def f284 {α : Type} (o : α) (c : Call' α) (n : Nat) (k : AV → Heap → α) (a0 a1 : AV) (h : Heap) : α :=
  boxF o a0 h h.next fun v1 h => loadNF o h 8 v1 fun v2 => load1F o h a1 fun v3 => addF Pq o 3 v3 (.i .i64 1) fun v4 => c 253 [v2, v4] h fun v5 h => pk k v5 h <| notF o v5 fun v6 => k v6 h
theorem f284_ok : R Pq o c n b284 (kend Pq o c n w rs284 k) = fun t _ h => f284 o c n k (t 0) (t 1) h := by kernel_rfl
theorem f284_good : Good Pq (cfg mm) 284 (entF Pq (cfg mm) 284 2 fun α => f284) := entG b284 rs284 9 fun _ => f284_ok
noncomputable def b287 := bdy Tryz.f287
noncomputable def rs287 := Tryz.f287.results.toList
noncomputable def f287_3K : Ex → K α := (nxK (R Pq o c n (cB (cB (cB b287))) (kend Pq o c n w rs287 k)) (kend Pq o c n w rs287 k))
noncomputable def f287_5 {α : Type} (o : α) (c : Call' α) (n : Nat) (k : AV → Heap → α) (m : Nat) : AVs (Heap → α) 5 :=
  Nat.rec (motive := fun _ => AVs (Heap → α) 5) (fun _ _ _ _ _ _ => o) (fun _ lp0 s1 s2 s15 s16 s17 h => lssF Pq o 3 s17 s16 fun v1 => ifF o v1 (ixF o 2 s15 s17 fun v2 => loadNF o h 2 v2 fun v3 => newF h h.next 2 [(.s 0 0), (.s 0 0)] fun v4 h => storeF o h 2 v4 v3 fun h => ixF o 2 s1 s17 fun v5 => loadNF o h 2 v5 fun v6 => newF h h.next 2 [(.s 0 0), (.s 0 0)] fun v7 h => storeF o h 2 v7 v6 fun h => loadNF o h 2 v4 fun v8 => loadNF o h 2 v7 fun v9 => cfF o s2 [v8, v9] c h fun v10 h => pk k v10 h <| notF o v10 fun v11 => ifF o v11 (k (.b false) h) (addF Pq o 3 s17 (.i .i64 1) fun v12 => lp0 s1 s2 s15 s16 v12 h)) (k (.b true) h)) m
theorem f287_5_ok : R Pq o c n (cA (cB (cA (cB (cB b287))))) (blockK (cI (cB (cA (cB (cB b287))))) (f287_3K o c n k w)) = fun t _ h => f287_5 o c n k n (t 1) (t 2) (t 15) (t 16) (t 17) h :=
  c_loop (F := fun m t _ h => f287_5 o c n k m (t 1) (t 2) (t 15) (t 16) (t 17) h) (by kernel_rfl) (by kernel_rfl) fun m => by kernel_rfl
noncomputable def f287_4 (s1 s2 s15 s16 s17 : AV) (h : Heap) : α :=
  f287_5 o c n k n s1 s2 s15 s16 s17 h
theorem f287_4_ok : R Pq o c n (cB (cA (cB (cB b287)))) (f287_3K o c n k w) = fun t _ h => f287_4 o c n k (t 1) (t 2) (t 15) (t 16) (t 17) h := (kblk (f287_5_ok o c n k w)).tk
noncomputable def f287_2 (s0 s1 s2 : AV) (h : Heap) : α :=
  lenF o s0 fun v13 => f287_4 o c n k s1 s2 s0 v13 (.i .i64 0) h
theorem f287_2_ok : R Pq o c n (cB (cB b287)) (kend Pq o c n w rs287 k) = fun t _ h => f287_2 o c n k (t 0) (t 1) (t 2) h := (kseq rfl (kseq (f287_4_ok o c n k w) rfl)).tk
noncomputable def f287_1 (s0 s1 s2 : AV) (h : Heap) : α :=
  lenF o s0 fun v14 => lenF o s1 fun v15 => neiF Pq o 3 v14 v15 fun v16 => ifF o v16 (k (.b false) h) (f287_2 o c n k s0 s1 s2 h)
theorem f287_1_ok : R Pq o c n (cB b287) (kend Pq o c n w rs287 k) = fun t _ h => f287_1 o c n k (t 0) (t 1) (t 2) h := (kseq (f287_2_ok o c n k w) rfl).tk
noncomputable def f287 (a0 a1 a2 : AV) (h : Heap) : α :=
  f287_1 o c n k a0 a1 a2 h
theorem f287_ok : R Pq o c n b287 (kend Pq o c n w rs287 k) = fun t _ h => f287 o c n k (t 0) (t 1) (t 2) h := (kseq (f287_1_ok o c n k w) rfl).tk
theorem f287_good : Good Pq (cfg mm) 287 (entF Pq (cfg mm) 287 3 fun α => f287) := entG b287 rs287 32 fun _ => f287_ok
noncomputable def b289 := bdy Tryz.f289
noncomputable def rs289 := Tryz.f289.results.toList
noncomputable def f289 {α : Type} (o : α) (c : Call' α) (n : Nat) (k : AV → Heap → α) (a0 a1 : AV) (h : Heap) : α :=
  boxF o a0 h h.next fun v1 h => loadNF o h 1 v1 fun v2 => c 118 [v2, a1] h fun v3 h => pk k v3 h <| geqF Pq o 3 v3 (.i .i64 0) fun v4 => ifF o v4 (faF o 0 v1 fun v5 => load1F o h v5 fun v6 => ixF o 4 v6 v3 fun v7 => loadNF o h 4 v7 fun v8 => k (.ifc 51 v8) h) (k .nifc h)
theorem f289_ok : R Pq o c n b289 (kend Pq o c n w rs289 k) = fun t _ h => f289 o c n k (t 0) (t 1) h := by kernel_rfl
theorem f289_good : Good Pq (cfg mm) 289 (entF Pq (cfg mm) 289 2 fun α => f289) := entG b289 rs289 17 fun _ => f289_ok
noncomputable def b290 := bdy Tryz.f290
noncomputable def rs290 := Tryz.f290.results.toList
noncomputable def f290 {α : Type} (o : α) (c : Call' α) (n : Nat) (k : AV → Heap → α) (a0 : AV) (h : Heap) : α :=
  layF o 0 a0 [(.s 0 0), (.s 0 0), (.i .i64 0), (.i .i64 0)] fun v1 => k (.ifc 267 (.agg v1)) h
theorem f290_ok : R Pq o c n b290 (kend Pq o c n w rs290 k) = fun t _ h => f290 o c n k (t 0) h := by kernel_rfl
theorem f290_good : Good Pq (cfg mm) 290 (entF Pq (cfg mm) 290 1 fun α => f290) := entG b290 rs290 6 fun _ => f290_ok
noncomputable def b293 := bdy Tryz.f293
noncomputable def rs293 := Tryz.f293.results.toList
noncomputable def f293_5 {α : Type} (o : α) (c : Call' α) (n : Nat) (k : AV → Heap → α) (s1 s3 s5 : AV) (h : Heap) : α :=
  c 295 [s5] h fun v1 h => pk k v1 h <| ifF o v1 (c 291 [(.i .i64 14)] h fun v2 h => pk k v2 h <| k v2 h) (faF o 0 s1 fun v3 => loadNF o h 1 v3 fun v4 => faF o 4 s1 fun v5 => faF o 3 v5 fun v6 => load1F o h v6 fun v7 => c 322 [v4, s3, v7, s5] h fun v8 h => pk k v8 h <| exF o v8 0 fun v9 => exF o v8 1 fun v10 => newF h h.next 2 [(.s 0 0), (.i .i64 0)] fun v11 h => storeF o h 2 v11 v9 fun h => neiF Pq o 3 v10 (.i .i64 0) fun v12 => ifF o v12 (c 291 [v10] h fun v13 h => pk k v13 h <| k v13 h) (faF o 0 s1 fun v14 => loadNF o h 1 v14 fun v15 => loadNF o h 2 v11 fun v16 => c 224 [v15, v16] h fun v17 h => pk k v17 h <| exF o v17 0 fun v18 => exF o v17 1 fun v19 => newF h h.next 6 [(.b false), (.b false), (.s 0 0), (.s 0 0), .nsl, .nsl] fun v20 h => storeF o h 6 v20 v18 fun h => loadNF o h 13 s1 fun v21 => faF o 0 v20 fun v22 => load1F o h v22 fun v23 => c 321 [v21, v23] h fun v24 h => pk k v24 h <| notF o v24 fun v25 => ifF o v25 (c 291 [(.i .i64 13)] h fun v26 h => pk k v26 h <| k v26 h) (faF o 2 v20 fun v27 => load1F o h v27 fun v28 => loadNF o h 2 v11 fun v29 => layF o 0 v28 [(.s 0 0), (.s 0 0), (.i .i64 0), (.i .i64 0)] fun v30 => lay1 o 1 2 v29 v30 fun v31 => k (.ifc 267 (.agg v31)) h)))
theorem f293_5_ok : R Pq o c n (cB (cB (cB (cB (cB b293))))) (kend Pq o c n w rs293 k) = fun t _ h => f293_5 o c n k (t 1) (t 3) (t 5) h := by kernel_rfl
noncomputable def f293_4 (s1 s3 s5 : AV) (h : Heap) : α :=
  faF o 4 s1 fun v32 => faF o 0 v32 fun v33 => load1F o h v33 fun v34 => eqiF Pq o 3 v34 (.i .i64 10) fun v35 => ifF o v35 (slF Pq o 37 s5 (some (.i .i64 1)) none fun v36 => f293_5 o c n k s1 s3 v36 h) (f293_5 o c n k s1 s3 s5 h)
theorem f293_4_ok : R Pq o c n (cB (cB (cB (cB b293)))) (kend Pq o c n w rs293 k) = fun t _ h => f293_4 o c n k (t 1) (t 3) (t 5) h := (kseq (f293_5_ok o c n k w) rfl).tk
noncomputable def f293_3 (s1 s3 : AV) (h : Heap) : α :=
  faF o 12 s1 fun v37 => load1F o h v37 fun v38 => f293_4 o c n k s1 s3 v38 h
theorem f293_3_ok : R Pq o c n (cB (cB (cB b293))) (kend Pq o c n w rs293 k) = fun t _ h => f293_3 o c n k (t 1) (t 3) h := (kseq (f293_4_ok o c n k w) rfl).tk
noncomputable def f293_2 (s1 s3 s4 : AV) (h : Heap) : α :=
  neiF Pq o 3 s4 (.i .i64 0) fun v39 => ifF o v39 (c 291 [s4] h fun v40 h => pk k v40 h <| k v40 h) (f293_3 o c n k s1 s3 h)
theorem f293_2_ok : R Pq o c n (cB (cB b293)) (kend Pq o c n w rs293 k) = fun t _ h => f293_2 o c n k (t 1) (t 3) (t 4) h := (kseq (f293_3_ok o c n k w) rfl).tk
noncomputable def f293_1 (s1 : AV) (h : Heap) : α :=
  loadNF o h 13 s1 fun v41 => c 318 [v41] h fun v42 h => pk k v42 h <| exF o v42 0 fun v43 => exF o v42 1 fun v44 => f293_2 o c n k s1 v43 v44 h
theorem f293_1_ok : R Pq o c n (cB b293) (kend Pq o c n w rs293 k) = fun t _ h => f293_1 o c n k (t 1) h := (kseq (f293_2_ok o c n k w) rfl).tk
noncomputable def f293 (a0 : AV) (h : Heap) : α :=
  boxF o a0 h h.next fun v45 h => f293_1 o c n k v45 h
theorem f293_ok : R Pq o c n b293 (kend Pq o c n w rs293 k) = fun t _ h => f293 o c n k (t 0) h := (kseq (f293_1_ok o c n k w) rfl).tk
theorem f293_good : Good Pq (cfg mm) 293 (entF Pq (cfg mm) 293 1 fun α => f293) := entG b293 rs293 62 fun _ => f293_ok
noncomputable def b298 := bdy Tryz.f298
noncomputable def rs298 := Tryz.f298.results.toList
noncomputable def f298_3 {α : Type} (o : α) (c : Call' α) (n : Nat) (k : AV → Heap → α) (s0 : AV) (h : Heap) : α :=
  k s0 h
theorem f298_3_ok : R Pq o c n (cB (cB (cB b298))) (kend Pq o c n w rs298 k) = fun t _ h => f298_3 o c n k (t 0) h := by kernel_rfl
noncomputable def f298_2 (s0 s1 : AV) (h : Heap) : α :=
  capN o s0 fun v1 => lenF o s0 fun v2 => binA Pq o .sub 3 v1 v2 fun v3 => binA Pq o .sub 3 s1 v3 fun v4 => gtrF Pq o 3 v4 (.i .i64 0) fun v5 => ifF o v5 (capN o s0 fun v6 => slF Pq o 60 s0 none (some v6) fun v7 => appX Pq o h h.next 60 3 v7 v4 fun v8 h => lenF o s0 fun v9 => slF Pq o 60 v8 none (some v9) fun v10 => f298_3 o c n k v10 h) (f298_3 o c n k s0 h)
theorem f298_2_ok : R Pq o c n (cB (cB b298)) (kend Pq o c n w rs298 k) = fun t _ h => f298_2 o c n k (t 0) (t 1) h := (kseq (f298_3_ok o c n k w) rfl).tk
noncomputable def f298_1 (s0 s1 : AV) (h : Heap) : α :=
  lssF Pq o 3 s1 (.i .i64 0) fun v11 => ifF o v11 (panicA o (.ifc 9 (.s 18 8838634371626034279618351153450530198413667)) fun x => k x.pn h) (f298_2 o c n k s0 s1 h)
theorem f298_1_ok : R Pq o c n (cB b298) (kend Pq o c n w rs298 k) = fun t _ h => f298_1 o c n k (t 0) (t 1) h := (kseq (f298_2_ok o c n k w) rfl).tk
noncomputable def f298 (a0 a1 : AV) (h : Heap) : α :=
  f298_1 o c n k a0 a1 h
theorem f298_ok : R Pq o c n b298 (kend Pq o c n w rs298 k) = fun t _ h => f298 o c n k (t 0) (t 1) h := (kseq (f298_1_ok o c n k w) rfl).tk
theorem f298_good : Good Pq (cfg mm) 298 (entF Pq (cfg mm) 298 2 fun α => f298) := entG b298 rs298 27 fun _ => f298_ok
noncomputable def b305 := bdy Tryz.f305
noncomputable def rs305 := Tryz.f305.results.toList
noncomputable def f305 {α : Type} (o : α) (c : Call' α) (n : Nat) (k : AV → Heap → α) (a0 a1 : AV) (h : Heap) : α :=
  boxF o a0 h h.next fun v1 h => boxF o a1 h h.next fun v2 h => loadNF o h 1 v1 fun v3 => loadNF o h 2 v2 fun v4 => c 224 [v3, v4] h fun v5 h => pk k v5 h <| exF o v5 0 fun v6 => exF o v5 1 fun v7 => newF h h.next 6 [(.b false), (.b false), (.s 0 0), (.s 0 0), .nsl, .nsl] fun v8 h => storeF o h 6 v8 v6 fun h => loadNF o h 2 v2 fun v9 => loadNF o h 6 v8 fun v10 => lay1 o 0 2 v9 [(.s 0 0), (.i .i64 0), (.b false), (.b false), (.s 0 0), (.s 0 0), .nsl, .nsl] fun v11 => lay1 o 2 6 v10 v11 fun v12 => k (.ifc 293 (.agg v12)) h
theorem f305_ok : R Pq o c n b305 (kend Pq o c n w rs305 k) = fun t _ h => f305 o c n k (t 0) (t 1) h := by kernel_rfl
theorem f305_good : Good Pq (cfg mm) 305 (entF Pq (cfg mm) 305 2 fun α => f305) := entG b305 rs305 17 fun _ => f305_ok
noncomputable def b306 := bdy Tryz.f306
noncomputable def rs306 := Tryz.f306.results.toList
noncomputable def f306 {α : Type} (o : α) (c : Call' α) (n : Nat) (k : AV → Heap → α) (a0 a1 a2 : AV) (h : Heap) : α :=
  boxF o a0 h h.next fun v1 h => boxF o a1 h h.next fun v2 h => faF o 4 v2 fun v3 => load1F o h v3 fun v4 => c 326 [v4, a2, (.fn (.func 327) [] [v1])] h fun v5 h => pk k v5 h <| k v5 h
theorem f306_ok : R Pq o c n b306 (kend Pq o c n w rs306 k) = fun t _ h => f306 o c n k (t 0) (t 1) (t 2) h := by kernel_rfl
theorem f306_good : Good Pq (cfg mm) 306 (entF Pq (cfg mm) 306 3 fun α => f306) := entG b306 rs306 12 fun _ => f306_ok
noncomputable def b308 := bdy Tryz.f308
noncomputable def rs308 := Tryz.f308.results.toList
noncomputable def f308 {α : Type} (o : α) (c : Call' α) (n : Nat) (k : AV → Heap → α) (a0 a1 a2 : AV) (h : Heap) : α :=
  boxF o a0 h h.next fun v1 h => loadNF o h 1 a1 fun v2 => faF o 2 a2 fun v3 => loadNF o h 6 v3 fun v4 => faF o 2 v1 fun v5 => loadNF o h 6 v5 fun v6 => c 309 [v2, v4, v6] h fun v7 h => pk k v7 h <| notF o v7 fun v8 => k v8 h
theorem f308_ok : R Pq o c n b308 (kend Pq o c n w rs308 k) = fun t _ h => f308 o c n k (t 0) (t 1) (t 2) h := by kernel_rfl
theorem f308_good : Good Pq (cfg mm) 308 (entF Pq (cfg mm) 308 3 fun α => f308) := entG b308 rs308 12 fun _ => f308_ok
noncomputable def b309 := bdy Tryz.f309
noncomputable def rs309 := Tryz.f309.results.toList
noncomputable def f309 {α : Type} (o : α) (c : Call' α) (n : Nat) (k : AV → Heap → α) (a0 a1 a2 : AV) (h : Heap) : α :=
  boxF o a0 h h.next fun v1 h => boxF o a1 h h.next fun v2 h => boxF o a2 h h.next fun v3 h => faF o 4 v2 fun v4 => load1F o h v4 fun v5 => faF o 4 v3 fun v6 => load1F o h v6 fun v7 => c 287 [v5, v7, (.fn (.func 329) [] [v1])] h fun v8 h => pk k v8 h <| k v8 h
theorem f309_ok : R Pq o c n b309 (kend Pq o c n w rs309 k) = fun t _ h => f309 o c n k (t 0) (t 1) (t 2) h := by kernel_rfl
theorem f309_good : Good Pq (cfg mm) 309 (entF Pq (cfg mm) 309 3 fun α => f309) := entG b309 rs309 13 fun _ => f309_ok
noncomputable def b313 := bdy Tryz.f313
noncomputable def rs313 := Tryz.f313.results.toList
noncomputable def f313 {α : Type} (o : α) (c : Call' α) (n : Nat) (k : AV → Heap → α) (a0 : AV) (h : Heap) : α :=
  newF h h.next 7 [(.b false), (.b false), (.b false), (.b false), (.i .i64 0), (.i .i64 0), (.i .i64 0)] fun v1 h => mapA h h.next fun v2 h => layF o 3 (.b true) [(.b false), (.b false), (.b false), (.b false), (.i .i64 0), (.i .i64 0), (.i .i64 0)] fun v3 => layF o 2 (.b true) v3 fun v4 => layF o 4 (.i .i64 1) v4 fun v5 => layF o 5 (.i .i64 1) v5 fun v6 => insertN o h .i64 v2 (.i .i64 1) (.agg v6) fun h => layF o 4 (.i .i64 2) [(.b false), (.b false), (.b false), (.b false), (.i .i64 0), (.i .i64 0), (.i .i64 0)] fun v7 => layF o 5 (.i .i64 2) v7 fun v8 => insertN o h .i64 v2 (.i .i64 2) (.agg v8) fun h => layF o 4 (.i .i64 1) [(.b false), (.b false), (.b false), (.b false), (.i .i64 0), (.i .i64 0), (.i .i64 0)] fun v9 => layF o 5 (.i .i64 1) v9 fun v10 => insertN o h .i64 v2 (.i .i64 3) (.agg v10) fun h => layF o 4 (.i .i64 1) [(.b false), (.b false), (.b false), (.b false), (.i .i64 0), (.i .i64 0), (.i .i64 0)] fun v11 => layF o 5 (.i .i64 1) v11 fun v12 => layF o 6 (.i .i64 2) v12 fun v13 => insertN o h .i64 v2 (.i .i64 4) (.agg v13) fun h => layF o 4 (.i .i64 1) [(.b false), (.b false), (.b false), (.b false), (.i .i64 0), (.i .i64 0), (.i .i64 0)] fun v14 => layF o 5 (.i .i64 1) v14 fun v15 => layF o 6 (.i .i64 1) v15 fun v16 => insertN o h .i64 v2 (.i .i64 5) (.agg v16) fun h => layF o 5 (.i .i64 1) [(.b false), (.b false), (.b false), (.b false), (.i .i64 0), (.i .i64 0), (.i .i64 0)] fun v17 => insertN o h .i64 v2 (.i .i64 6) (.agg v17) fun h => layF o 4 (.i .i64 1) [(.b false), (.b false), (.b false), (.b false), (.i .i64 0), (.i .i64 0), (.i .i64 0)] fun v18 => layF o 5 (.i .i64 1) v18 fun v19 => insertN o h .i64 v2 (.i .i64 7) (.agg v19) fun h => layF o 0 (.b true) [(.b false), (.b false), (.b false), (.b false), (.i .i64 0), (.i .i64 0), (.i .i64 0)] fun v20 => layF o 4 (.i .i64 1) v20 fun v21 => layF o 5 (.i .i64 1) v21 fun v22 => insertN o h .i64 v2 (.i .i64 8) (.agg v22) fun h => layF o 4 (.i .i64 1) [(.b false), (.b false), (.b false), (.b false), (.i .i64 0), (.i .i64 0), (.i .i64 0)] fun v23 => layF o 5 (.i .i64 1) v23 fun v24 => insertN o h .i64 v2 (.i .i64 9) (.agg v24) fun h => layF o 3 (.b true) [(.b false), (.b false), (.b false), (.b false), (.i .i64 0), (.i .i64 0), (.i .i64 0)] fun v25 => layF o 2 (.b true) v25 fun v26 => layF o 6 (.i .i64 3) v26 fun v27 => insertN o h .i64 v2 (.i .i64 10) (.agg v27) fun h => layF o 5 (.i .i64 3000) [(.b false), (.b false), (.b false), (.b false), (.i .i64 0), (.i .i64 0), (.i .i64 0)] fun v28 => insertN o h .i64 v2 (.i .i64 11) (.agg v28) fun h => lookupN o h .i64 (some (.agg [(.b false), (.b false), (.b false), (.b false), (.i .i64 0), (.i .i64 0), (.i .i64 0)])) v2 a0 true fun v29 => exF o v29 0 fun v30 => exF o v29 1 fun v31 => newF h h.next 7 [(.b false), (.b false), (.b false), (.b false), (.i .i64 0), (.i .i64 0), (.i .i64 0)] fun v32 h => storeF o h 7 v32 v30 fun h => loadNF o h 7 v32 fun v33 => storeF o h 7 v1 v33 fun h => on o (resV Pq h [(v1, some 277), (v31, none)]) fun v => k v h
theorem f313_ok : R Pq o c n b313 (kend Pq o c n w rs313 k) = fun t _ h => f313 o c n k (t 0) h := by kernel_rfl
theorem f313_good : Good Pq (cfg mm) 313 (entF Pq (cfg mm) 313 1 fun α => f313) := entG b313 rs313 28 fun _ => f313_ok
noncomputable def b314 := bdy Tryz.f314
noncomputable def rs314 := Tryz.f314.results.toList
noncomputable def f314 {α : Type} (o : α) (c : Call' α) (n : Nat) (k : AV → Heap → α) (a0 a1 : AV) (h : Heap) : α :=
  boxF o a0 h h.next fun v1 h => loadNF o h 8 v1 fun v2 => load1F o h a1 fun v3 => c 253 [v2, v3] h fun v4 h => pk k v4 h <| notF o v4 fun v5 => k v5 h
theorem f314_ok : R Pq o c n b314 (kend Pq o c n w rs314 k) = fun t _ h => f314 o c n k (t 0) (t 1) h := by kernel_rfl
theorem f314_good : Good Pq (cfg mm) 314 (entF Pq (cfg mm) 314 2 fun α => f314) := entG b314 rs314 8 fun _ => f314_ok
noncomputable def b317 := bdy Tryz.f317
noncomputable def rs317 := Tryz.f317.results.toList
noncomputable def f317_2K : Ex → K α := (nxK (R Pq o c n (cB (cB b317)) (kend Pq o c n w rs317 k)) (kend Pq o c n w rs317 k))
noncomputable def f317_4 {α : Type} (o : α) (c : Call' α) (n : Nat) (k : AV → Heap → α) (m : Nat) : AVs (Heap → α) 3 :=
  Nat.rec (motive := fun _ => AVs (Heap → α) 3) (fun _ _ _ _ => o) (fun _ lp0 s1 s2 s5 h => geqF Pq o 3 s5 (.i .i64 0) fun v1 => ifF o v1 (faF o 2 s2 fun v2 => load1F o h v2 fun v3 => ixF o 2 v3 s5 fun v4 => faF o 1 v4 fun v5 => load1F o h v5 fun v6 => eqsF Pq o 9 v6 s1 fun v7 => ifF o v7 (faF o 2 s2 fun v8 => load1F o h v8 fun v9 => ixF o 2 v9 s5 fun v10 => faF o 0 v10 fun v11 => load1F o h v11 fun v12 => k v12 h) (binA Pq o .sub 3 s5 (.i .i64 1) fun v13 => lp0 s1 s2 v13 h)) (k (.s 0 0) h)) m
theorem f317_4_ok : R Pq o c n (cA (cB (cA (cB b317)))) (blockK (cI (cB (cA (cB b317)))) (f317_2K o c n k w)) = fun t _ h => f317_4 o c n k n (t 1) (t 2) (t 5) h :=
  c_loop (F := fun m t _ h => f317_4 o c n k m (t 1) (t 2) (t 5) h) (by kernel_rfl) (by kernel_rfl) fun m => by kernel_rfl
noncomputable def f317_3 (s1 s2 s5 : AV) (h : Heap) : α :=
  f317_4 o c n k n s1 s2 s5 h
theorem f317_3_ok : R Pq o c n (cB (cA (cB b317))) (f317_2K o c n k w) = fun t _ h => f317_3 o c n k (t 1) (t 2) (t 5) h := (kblk (f317_4_ok o c n k w)).tk
noncomputable def f317_1 (s1 s2 : AV) (h : Heap) : α :=
  faF o 2 s2 fun v14 => load1F o h v14 fun v15 => lenF o v15 fun v16 => binA Pq o .sub 3 v16 (.i .i64 1) fun v17 => f317_3 o c n k s1 s2 v17 h
theorem f317_1_ok : R Pq o c n (cB b317) (kend Pq o c n w rs317 k) = fun t _ h => f317_1 o c n k (t 1) (t 2) h := (kseq rfl (kseq (f317_3_ok o c n k w) rfl)).tk
noncomputable def f317 (a0 a1 : AV) (h : Heap) : α :=
  boxF o a0 h h.next fun v18 h => f317_1 o c n k a1 v18 h
theorem f317_ok : R Pq o c n b317 (kend Pq o c n w rs317 k) = fun t _ h => f317 o c n k (t 0) (t 1) h := (kseq (f317_1_ok o c n k w) rfl).tk
theorem f317_good : Good Pq (cfg mm) 317 (entF Pq (cfg mm) 317 2 fun α => f317) := entG b317 rs317 28 fun _ => f317_ok
noncomputable def b322 := bdy Tryz.f322
noncomputable def rs322 := Tryz.f322.results.toList
noncomputable def f322 {α : Type} (o : α) (c : Call' α) (n : Nat) (k : AV → Heap → α) (a0 a1 a2 a3 : AV) (h : Heap) : α :=
  boxF o a0 h h.next fun v1 h => newF h h.next 2 [(.s 0 0), (.i .i64 0)] fun v2 h => dreg o h 11 fun base h => loadNF o (h.look 0) 1 v1 fun v3 => loadNF o (h.look 0) 1 v1 fun v4 => callD o c (hidD false [(.fn (.func 332) [] []), v4, a1, a2] [] (sBlk v1 [])) 332 [v4, a1, a2] (h.look 0) fun v5 h => pnF v5 (fun x => hb h.shut fun hd => k x.pn hd) <| callD o c [] 268 [v3, v5, a3] (h.look 0) fun v6 h => pnF v6 (fun x => hb h.shut fun hd => k x.pn hd) <| exF o v6 0 fun v7 => exF o v6 1 fun v8 => storeF o (h.look 511) 2 v2 v7 fun h => hb h.shut fun h => on o (resV Pq h [(v2, some 168), (v8, none)]) fun v => k v h
theorem f322_ok : R Pq o c n b322 (kend Pq o c n w rs322 k) = fun t _ h => f322 o c n k (t 0) (t 1) (t 2) (t 3) h := by kernel_rfl
theorem f322_good : Good Pq (cfg mm) 322 (entF Pq (cfg mm) 322 4 fun α => f322) := entG b322 rs322 19 fun _ => f322_ok
noncomputable def b326 := bdy Tryz.f326
noncomputable def rs326 := Tryz.f326.results.toList
noncomputable def f326_3K : Ex → K α := (nxK (R Pq o c n (cB (cB (cB b326))) (kend Pq o c n w rs326 k)) (kend Pq o c n w rs326 k))
noncomputable def f326_5 {α : Type} (o : α) (c : Call' α) (n : Nat) (k : AV → Heap → α) (m : Nat) : AVs (Heap → α) 5 :=
  Nat.rec (motive := fun _ => AVs (Heap → α) 5) (fun _ _ _ _ _ _ => o) (fun _ lp0 s1 s2 s15 s16 s17 h => lssF Pq o 3 s17 s16 fun v1 => ifF o v1 (ixF o 2 s15 s17 fun v2 => loadNF o h 2 v2 fun v3 => newF h h.next 2 [(.s 0 0), (.s 0 0)] fun v4 h => storeF o h 2 v4 v3 fun h => ixF o 1 s1 s17 fun v5 => load1F o h v5 fun v6 => loadNF o h 2 v4 fun v7 => cfF o s2 [v7, v6] c h fun v8 h => pk k v8 h <| notF o v8 fun v9 => ifF o v9 (k (.b false) h) (addF Pq o 3 s17 (.i .i64 1) fun v10 => lp0 s1 s2 s15 s16 v10 h)) (k (.b true) h)) m
theorem f326_5_ok : R Pq o c n (cA (cB (cA (cB (cB b326))))) (blockK (cI (cB (cA (cB (cB b326))))) (f326_3K o c n k w)) = fun t _ h => f326_5 o c n k n (t 1) (t 2) (t 15) (t 16) (t 17) h :=
  c_loop (F := fun m t _ h => f326_5 o c n k m (t 1) (t 2) (t 15) (t 16) (t 17) h) (by kernel_rfl) (by kernel_rfl) fun m => by kernel_rfl
noncomputable def f326_4 (s1 s2 s15 s16 s17 : AV) (h : Heap) : α :=
  f326_5 o c n k n s1 s2 s15 s16 s17 h
theorem f326_4_ok : R Pq o c n (cB (cA (cB (cB b326)))) (f326_3K o c n k w) = fun t _ h => f326_4 o c n k (t 1) (t 2) (t 15) (t 16) (t 17) h := (kblk (f326_5_ok o c n k w)).tk
noncomputable def f326_2 (s0 s1 s2 : AV) (h : Heap) : α :=
  lenF o s0 fun v11 => f326_4 o c n k s1 s2 s0 v11 (.i .i64 0) h
theorem f326_2_ok : R Pq o c n (cB (cB b326)) (kend Pq o c n w rs326 k) = fun t _ h => f326_2 o c n k (t 0) (t 1) (t 2) h := (kseq rfl (kseq (f326_4_ok o c n k w) rfl)).tk
noncomputable def f326_1 (s0 s1 s2 : AV) (h : Heap) : α :=
  lenF o s0 fun v12 => lenF o s1 fun v13 => neiF Pq o 3 v12 v13 fun v14 => ifF o v14 (k (.b false) h) (f326_2 o c n k s0 s1 s2 h)
theorem f326_1_ok : R Pq o c n (cB b326) (kend Pq o c n w rs326 k) = fun t _ h => f326_1 o c n k (t 0) (t 1) (t 2) h := (kseq (f326_2_ok o c n k w) rfl).tk
noncomputable def f326 (a0 a1 a2 : AV) (h : Heap) : α :=
  f326_1 o c n k a0 a1 a2 h
theorem f326_ok : R Pq o c n b326 (kend Pq o c n w rs326 k) = fun t _ h => f326 o c n k (t 0) (t 1) (t 2) h := (kseq (f326_1_ok o c n k w) rfl).tk
theorem f326_good : Good Pq (cfg mm) 326 (entF Pq (cfg mm) 326 3 fun α => f326) := entG b326 rs326 32 fun _ => f326_ok
noncomputable def b327 := bdy Tryz.f327
noncomputable def rs327 := Tryz.f327.results.toList
noncomputable def f327 {α : Type} (o : α) (c : Call' α) (n : Nat) (k : AV → Heap → α) (a0 a1 a2 : AV) (h : Heap) : α :=
  boxF o a0 h h.next fun v1 h => loadNF o h 1 a2 fun v2 => faF o 0 v1 fun v3 => load1F o h v3 fun v4 => c 227 [v2, a1, v4] h fun v5 h => pk k v5 h <| k v5 h
theorem f327_ok : R Pq o c n b327 (kend Pq o c n w rs327 k) = fun t _ h => f327 o c n k (t 0) (t 1) (t 2) h := by kernel_rfl
theorem f327_good : Good Pq (cfg mm) 327 (entF Pq (cfg mm) 327 3 fun α => f327) := entG b327 rs327 11 fun _ => f327_ok
noncomputable def b329 := bdy Tryz.f329
noncomputable def rs329 := Tryz.f329.results.toList
noncomputable def f329 {α : Type} (o : α) (c : Call' α) (n : Nat) (k : AV → Heap → α) (a0 a1 a2 : AV) (h : Heap) : α :=
  boxF o a0 h h.next fun v1 h => boxF o a1 h h.next fun v2 h => loadNF o h 1 a2 fun v3 => faF o 0 v1 fun v4 => load1F o h v4 fun v5 => faF o 0 v2 fun v6 => load1F o h v6 fun v7 => c 227 [v3, v5, v7] h fun v8 h => pk k v8 h <| k v8 h
theorem f329_ok : R Pq o c n b329 (kend Pq o c n w rs329 k) = fun t _ h => f329 o c n k (t 0) (t 1) (t 2) h := by kernel_rfl
theorem f329_good : Good Pq (cfg mm) 329 (entF Pq (cfg mm) 329 3 fun α => f329) := entG b329 rs329 12 fun _ => f329_ok
end Go.Zev.Po
