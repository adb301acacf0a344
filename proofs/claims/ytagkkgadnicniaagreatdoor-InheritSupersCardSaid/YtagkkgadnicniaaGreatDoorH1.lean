/-
  Printed by zgen.py: clean forms.
-/
import Derived.Test.YtagkkgadnicniaaGreatDoorH0
set_option linter.unusedVariables false
set_option maxRecDepth 20000
namespace Go.Zev.Is
open Go Go.Zev Go.Proofs
variable {mm : FuncId → Option (List AV → Option AV)}
noncomputable def b143 := bdy Tryz.f143
noncomputable def rs143 := Tryz.f143.results.toList
variable {α : Type} (o : α) (c : Call' α) (n : Nat) (k : AV → Heap → α) (w : FuncId → Nat)
noncomputable def f143_2K : Ex → K α := (nxK (R Pq o c n (cB (cB b143)) (kend Pq o c n w rs143 k)) (kend Pq o c n w rs143 k))
noncomputable def f143_4 {α : Type} (o : α) (c : Call' α) (n : Nat) (k : AV → Heap → α) (m : Nat) : AVs (Heap → α) 3 :=
  Nat.rec (motive := fun _ => AVs (Heap → α) 3) (fun _ _ _ _ => o) (fun _ lp0 s0 s1 s5 h => lenF o s0 fun v1 => lssF Pq o 3 s5 v1 fun v2 => ifF o v2 (ixF o 1 s0 s5 fun v3 => load1F o h v3 fun v4 => eqsF Pq o 9 v4 s1 fun v5 => ifF o v5 (k (.b true) h) (addF Pq o 3 s5 (.i .i64 1) fun v6 => lp0 s0 s1 v6 h)) (k (.b false) h)) m
theorem f143_4_ok : R Pq o c n (cA (cB (cA (cB b143)))) (blockK (cI (cB (cA (cB b143)))) (f143_2K o c n k w)) = fun t _ h => f143_4 o c n k n (t 0) (t 1) (t 5) h :=
  c_loop (F := fun m t _ h => f143_4 o c n k m (t 0) (t 1) (t 5) h) (by kernel_rfl) (by kernel_rfl) fun m => by kernel_rfl
noncomputable def f143_3 (s0 s1 s5 : AV) (h : Heap) : α :=
  f143_4 o c n k n s0 s1 s5 h
theorem f143_3_ok : R Pq o c n (cB (cA (cB b143))) (f143_2K o c n k w) = fun t _ h => f143_3 o c n k (t 0) (t 1) (t 5) h := (kblk (f143_4_ok o c n k w)).tk
noncomputable def f143_1 (s0 s1 : AV) (h : Heap) : α :=
  f143_3 o c n k s0 s1 (.i .i64 0) h
theorem f143_1_ok : R Pq o c n (cB b143) (kend Pq o c n w rs143 k) = fun t _ h => f143_1 o c n k (t 0) (t 1) h := (kseq rfl (kseq (f143_3_ok o c n k w) rfl)).tk
noncomputable def f143 (a0 a1 : AV) (h : Heap) : α :=
  f143_1 o c n k a0 a1 h
theorem f143_ok : R Pq o c n b143 (kend Pq o c n w rs143 k) = fun t _ h => f143 o c n k (t 0) (t 1) h := (kseq (f143_1_ok o c n k w) rfl).tk
theorem f143_good : Good Pq (cfg mm) 143 (entF Pq (cfg mm) 143 2 fun α => f143) := entG b143 rs143 18 fun _ => f143_ok
noncomputable def b144 := bdy Tryz.f144
noncomputable def rs144 := Tryz.f144.results.toList
noncomputable def f144 {α : Type} (o : α) (c : Call' α) (n : Nat) (k : AV → Heap → α) (a0 : AV) (h : Heap) : α :=
  dreg o h 10 fun base h => nilChk o a0 fun v1 => faF o 2 v1 fun v2 => rootF o v2 a0 <| load1F o (h.look 7) v2 fun v3 => nilChk o a0 fun v4 => faF o 0 v4 fun v5 => rootF o v5 a0 <| load1F o (h.look 112) v5 fun v6 => lenF o v6 fun v7 => lssF Pq o 3 v3 v7 fun v8 => hb h.shut fun h => ifF o v8 (dreg o h 12 fun base h => nilChk o a0 fun v9 => faF o 0 v9 fun v10 => rootF o v10 a0 <| load1F o (h.look 7) v10 fun v11 => nilChk o a0 fun v12 => faF o 2 v12 fun v13 => rootF o v13 a0 <| load1F o (h.look 112) v13 fun v14 => ixF o 3 v11 v14 fun v15 => faF o 2 v15 fun v16 => load1F o (h.look 1023) v16 fun v17 => hb h.shut fun h => k v17 h) (nilChk o a0 fun v18 => faF o 1 v18 fun v19 => load1F o h v19 fun v20 => k v20 h)
theorem f144_ok : R Pq o c n b144 (kend Pq o c n w rs144 k) = fun t _ h => f144 o c n k (t 0) h := by kernel_rfl
theorem f144_good : Good Pq (cfg mm) 144 (entF Pq (cfg mm) 144 1 fun α => f144) := entG b144 rs144 28 fun _ => f144_ok
noncomputable def b145 := bdy Tryz.f145
noncomputable def rs145 := Tryz.f145.results.toList
noncomputable def f145_2K : Ex → K α := (nxK (R Pq o c n (cB (cB b145)) (kend Pq o c n w rs145 k)) (kend Pq o c n w rs145 k))
noncomputable def f145_3 {α : Type} (o : α) (c : Call' α) (n : Nat) (k : AV → Heap → α) (s0 s5 s9 : AV) (h : Heap) : α :=
  pickF o s5 s9 (.b false) fun v1 => bkF o true v1 (nesF Pq o 9 s0 (.s 6 113723913172051) fun v2 => pickF o v1 v2 (.b false) fun v3 => k v3 h) (pickF o v1 (.tup []) (.b false) fun v4 => k v4 h)
theorem f145_3_ok : Q Pq o c (cO (cA (cB b145))) (f145_2K o c n k w) 7 = fun t _ h => f145_3 o c n k (t 0) (t 5) (t 9) h := (q_seg 7 9 (by kernel_rfl) (q_guard 9 11 (8, true) (by kernel_rfl) (by kernel_rfl) (by kernel_rfl) rfl)).tk
noncomputable def f145_1 (s0 : AV) (h : Heap) : α :=
  nesF Pq o 9 s0 (.s 0 0) fun v5 => bkF o true v5 (sxF o s0 (.i .i64 0) fun v6 => convA Pq o 5 21 v6 fun v7 => c 154 [v7] h fun v8 h => pk k v8 h <| f145_3 o c n k s0 v5 v8 h) (f145_3 o c n k s0 v5 (.tup []) h)
theorem f145_1_ok : R Pq o c n (cB b145) (kend Pq o c n w rs145 k) = fun t _ h => f145_1 o c n k (t 0) h := (kseq rfl (r_start 3 (by kernel_rfl) (q_guard 3 7 (2, true) (by kernel_rfl) (by kernel_rfl) (by kernel_rfl) (f145_3_ok o c n k w)))).tk
noncomputable def f145 (a0 : AV) (h : Heap) : α :=
  f145_1 o c n k a0 h
theorem f145_ok : R Pq o c n b145 (kend Pq o c n w rs145 k) = fun t _ h => f145 o c n k (t 0) h := (kseq (f145_1_ok o c n k w) rfl).tk
theorem f145_good : Good Pq (cfg mm) 145 (entF Pq (cfg mm) 145 1 fun α => f145) := entG b145 rs145 15 fun _ => f145_ok
noncomputable def b146 := bdy Tryz.f146
noncomputable def rs146 := Tryz.f146.results.toList
noncomputable def f146 {α : Type} (o : α) (c : Call' α) (n : Nat) (k : AV → Heap → α) (a0 : AV) (h : Heap) : α :=
  nilChk o a0 fun v1 => faF o 5 v1 fun v2 => load1F o h v2 fun v3 => gtrF Pq o 3 v3 (.i .i64 40) fun v4 => ifF o v4 (c 63 [a0, (.i .i64 4)] h fun v5 h => pk k v5 h <| k (.b false) h) (nilChk o a0 fun v6 => faF o 5 v6 fun v7 => load1F o h v7 fun v8 => addF Pq o 3 v8 (.i .i64 1) fun v9 => nilChk o a0 fun v10 => faF o 5 v10 fun v11 => storeF o h 1 v11 v9 fun h => k (.b true) h)
theorem f146_ok : R Pq o c n b146 (kend Pq o c n w rs146 k) = fun t _ h => f146 o c n k (t 0) h := by kernel_rfl
theorem f146_good : Good Pq (cfg mm) 146 (entF Pq (cfg mm) 146 1 fun α => f146) := entG b146 rs146 17 fun _ => f146_ok
noncomputable def b148 := bdy Tryz.f148
noncomputable def rs148 := Tryz.f148.results.toList
noncomputable def f148_2K : Ex → K α := (nxK (R Pq o c n (cB (cB b148)) (kend Pq o c n w rs148 k)) (kend Pq o c n w rs148 k))
noncomputable def f148_17 {α : Type} (o : α) (c : Call' α) (n : Nat) (k : AV → Heap → α) (base : Nat) (s8 s22 : AV) (h : Heap) : α :=
  pickF o s8 s22 (.b false) fun v1 => hb h.shut fun h => k v1 h
theorem f148_17_ok (base : Nat) : QD Pq o c (cO (cA (cB b148))) base ((f148_2K o c n k w)) 18 = fun t _ h => f148_17 o c n k base (t 8) (t 22) h := by kernel_rfl
noncomputable def f148_16 (base : Nat) (s8 s21 : AV) (h : Heap) : α :=
  bkF o true s8 (callD o c [] 223 [s21] h fun v2 h => pnF v2 (fun x => hb h.shut fun hd => k x.pn hd) <| f148_17 o c n k base s8 v2 h) (f148_17 o c n k base s8 (.tup []) h)
theorem f148_16_ok (base : Nat) : QD Pq o c (cO (cA (cB b148))) base ((f148_2K o c n k w)) 17 = fun t _ h => f148_16 o c n k base (t 8) (t 21) h := (qd_seg 17 18 (by kernel_rfl) (f148_17_ok o c n k w base)).tk
noncomputable def f148_15 (base : Nat) (s8 s20 : AV) (h : Heap) : α :=
  bkF o true s8 (load1F o (h.look 65535) s20 fun v3 => f148_16 o c n k base s8 v3 (h.look 0)) (f148_16 o c n k base s8 (.tup []) (h.look 0))
theorem f148_15_ok (base : Nat) : QD Pq o c (cO (cA (cB b148))) base ((f148_2K o c n k w)) 16 = fun t _ h => f148_15 o c n k base (t 8) (t 20) h := (qd_seg 16 17 (by kernel_rfl) (f148_16_ok o c n k w base)).tk
noncomputable def f148_14 (base : Nat) (s8 s19 : AV) (h : Heap) : α :=
  bkF o true s8 (faF o 1 s19 fun v4 => f148_15 o c n k base s8 v4 (h.look 0)) (f148_15 o c n k base s8 (.tup []) (h.look 0))
theorem f148_14_ok (base : Nat) : QD Pq o c (cO (cA (cB b148))) base ((f148_2K o c n k w)) 15 = fun t _ h => f148_14 o c n k base (t 8) (t 19) h := (qd_seg 15 16 (by kernel_rfl) (f148_15_ok o c n k w base)).tk
noncomputable def f148_13 (base : Nat) (s8 s12 s18 : AV) (h : Heap) : α :=
  bkF o true s8 (ixF o 3 s12 s18 fun v5 => f148_14 o c n k base s8 v5 (h.look 0)) (f148_14 o c n k base s8 (.tup []) (h.look 0))
theorem f148_13_ok (base : Nat) : QD Pq o c (cO (cA (cB b148))) base ((f148_2K o c n k w)) 14 = fun t _ h => f148_13 o c n k base (t 8) (t 12) (t 18) h := (qd_seg 14 15 (by kernel_rfl) (f148_14_ok o c n k w base)).tk
noncomputable def f148_12 (base : Nat) (s8 s12 s16 s17 : AV) (h : Heap) : α :=
  bkF o true s8 (addF Pq o 3 s16 s17 fun v6 => f148_13 o c n k base s8 s12 v6 (h.look 0)) (f148_13 o c n k base s8 s12 (.tup []) (h.look 0))
theorem f148_12_ok (base : Nat) : QD Pq o c (cO (cA (cB b148))) base ((f148_2K o c n k w)) 13 = fun t _ h => f148_12 o c n k base (t 8) (t 12) (t 16) (t 17) h := (qd_seg 13 14 (by kernel_rfl) (f148_13_ok o c n k w base)).tk
noncomputable def f148_11 (base : Nat) (s1 s8 s12 s16 : AV) (h : Heap) : α :=
  bkF o true s8 (f148_12 o c n k base s8 s12 s16 s1 (h.look 0)) (f148_12 o c n k base s8 s12 s16 (.tup []) (h.look 0))
theorem f148_11_ok (base : Nat) : QD Pq o c (cO (cA (cB b148))) base ((f148_2K o c n k w)) 12 = fun t _ h => f148_11 o c n k base (t 1) (t 8) (t 12) (t 16) h := (qd_seg 12 13 (by kernel_rfl) (f148_12_ok o c n k w base)).tk
noncomputable def f148_10 (base : Nat) (s0 s1 s8 s12 s15 : AV) (h : Heap) : α :=
  rootF o s15 s0 <| bkF o true s8 (load1F o (h.look 1807) s15 fun v7 => f148_11 o c n k base s1 s8 s12 v7 (h.look 0)) (f148_11 o c n k base s1 s8 s12 (.tup []) (h.look 0))
theorem f148_10_ok (base : Nat) : QD Pq o c (cO (cA (cB b148))) base ((f148_2K o c n k w)) 11 = fun t _ h => f148_10 o c n k base (t 0) (t 1) (t 8) (t 12) (t 15) h := (qd_seg 11 12 (by kernel_rfl) (f148_11_ok o c n k w base)).tk
noncomputable def f148_9 (base : Nat) (s0 s1 s8 s12 s14 : AV) (h : Heap) : α :=
  bkF o true s8 (faF o 2 s14 fun v8 => f148_10 o c n k base s0 s1 s8 s12 v8 (h.look 0)) (f148_10 o c n k base s0 s1 s8 s12 (.tup []) (h.look 0))
theorem f148_9_ok (base : Nat) : QD Pq o c (cO (cA (cB b148))) base ((f148_2K o c n k w)) 10 = fun t _ h => f148_9 o c n k base (t 0) (t 1) (t 8) (t 12) (t 14) h := (qd_seg 10 11 (by kernel_rfl) (f148_10_ok o c n k w base)).tk
noncomputable def f148_8 (base : Nat) (s0 s1 s8 s12 s13 : AV) (h : Heap) : α :=
  bkF o true s8 (nilChk o s13 fun v9 => f148_9 o c n k base s0 s1 s8 s12 v9 (h.look 0)) (f148_9 o c n k base s0 s1 s8 s12 (.tup []) (h.look 0))
theorem f148_8_ok (base : Nat) : QD Pq o c (cO (cA (cB b148))) base ((f148_2K o c n k w)) 9 = fun t _ h => f148_8 o c n k base (t 0) (t 1) (t 8) (t 12) (t 13) h := (qd_seg 9 10 (by kernel_rfl) (f148_9_ok o c n k w base)).tk
noncomputable def f148_7 (base : Nat) (s0 s1 s8 s12 : AV) (h : Heap) : α :=
  bkF o true s8 (f148_8 o c n k base s0 s1 s8 s12 s0 (h.look 0)) (f148_8 o c n k base s0 s1 s8 s12 (.tup []) (h.look 0))
theorem f148_7_ok (base : Nat) : QD Pq o c (cO (cA (cB b148))) base ((f148_2K o c n k w)) 8 = fun t _ h => f148_7 o c n k base (t 0) (t 1) (t 8) (t 12) h := (qd_seg 8 9 (by kernel_rfl) (f148_8_ok o c n k w base)).tk
noncomputable def f148_6 (base : Nat) (s0 s1 s8 s11 : AV) (h : Heap) : α :=
  rootF o s11 s0 <| bkF o true s8 (load1F o (h.look 127) s11 fun v10 => f148_7 o c n k base s0 s1 s8 v10 (h.look 0)) (f148_7 o c n k base s0 s1 s8 (.tup []) (h.look 0))
theorem f148_6_ok (base : Nat) : QD Pq o c (cO (cA (cB b148))) base ((f148_2K o c n k w)) 7 = fun t _ h => f148_6 o c n k base (t 0) (t 1) (t 8) (t 11) h := (qd_seg 7 8 (by kernel_rfl) (f148_7_ok o c n k w base)).tk
noncomputable def f148_5 (base : Nat) (s0 s1 s8 s10 : AV) (h : Heap) : α :=
  bkF o true s8 (faF o 0 s10 fun v11 => f148_6 o c n k base s0 s1 s8 v11 (h.look 0)) (f148_6 o c n k base s0 s1 s8 (.tup []) (h.look 0))
theorem f148_5_ok (base : Nat) : QD Pq o c (cO (cA (cB b148))) base ((f148_2K o c n k w)) 6 = fun t _ h => f148_5 o c n k base (t 0) (t 1) (t 8) (t 10) h := (qd_seg 6 7 (by kernel_rfl) (f148_6_ok o c n k w base)).tk
noncomputable def f148_4 (base : Nat) (s0 s1 s8 s9 : AV) (h : Heap) : α :=
  bkF o true s8 (nilChk o s9 fun v12 => f148_5 o c n k base s0 s1 s8 v12 (h.look 0)) (f148_5 o c n k base s0 s1 s8 (.tup []) (h.look 0))
theorem f148_4_ok (base : Nat) : QD Pq o c (cO (cA (cB b148))) base ((f148_2K o c n k w)) 5 = fun t _ h => f148_4 o c n k base (t 0) (t 1) (t 8) (t 9) h := (qd_seg 5 6 (by kernel_rfl) (f148_5_ok o c n k w base)).tk
noncomputable def f148_3 (base : Nat) (s0 s1 s7 : AV) (h : Heap) : α :=
  bkF o true s7 (f148_4 o c n k base s0 s1 s7 s0 (h.look 0)) (f148_4 o c n k base s0 s1 s7 (.tup []) (h.look 0))
theorem f148_3_ok (base : Nat) : QD Pq o c (cO (cA (cB b148))) base ((f148_2K o c n k w)) 3 = fun t _ h => f148_3 o c n k base (t 0) (t 1) (t 7) h := (qd_seg 3 5 (by kernel_rfl) (f148_4_ok o c n k w base)).tk
noncomputable def f148_1 (s0 s1 : AV) (h : Heap) : α :=
  dreg o h 20 fun base h => callD o c [] 67 [s0, s1, (.i .i64 1), (.s 0 0)] (h.look 0) fun v13 h => pnF v13 (fun x => hb h.shut fun hd => k x.pn hd) <| f148_3 o c n k base s0 s1 v13 h
theorem f148_1_ok : R Pq o c n (cB b148) (kend Pq o c n w rs148 k) = fun t _ h => f148_1 o c n k (t 0) (t 1) h := (kseq rfl (r_startD 3 (by kernel_rfl) (by kernel_rfl) (X := fun base => fun t _ h => f148_3 o c n k base (t 0) (t 1) (t 7) h) (fun base => f148_3_ok o c n k w base))).tk
noncomputable def f148 (a0 a1 : AV) (h : Heap) : α :=
  f148_1 o c n k a0 a1 h
theorem f148_ok : R Pq o c n b148 (kend Pq o c n w rs148 k) = fun t _ h => f148 o c n k (t 0) (t 1) h := (kseq (f148_1_ok o c n k w) rfl).tk
theorem f148_good : Good Pq (cfg mm) 148 (entF Pq (cfg mm) 148 2 fun α => f148) := entG b148 rs148 24 fun _ => f148_ok
noncomputable def b150 := bdy Tryz.f150
noncomputable def rs150 := Tryz.f150.results.toList
noncomputable def f150_4K : Ex → K α := (nxK (R Pq o c n (cB (cB (cB (cB b150)))) (kend Pq o c n w rs150 k)) (kend Pq o c n w rs150 k))
noncomputable def f150_6K (lp0 : AVs (Heap → α) 4) : Ex → K α := (nxK (fun t _ h => lp0 (t 0) (t 1) (t 4) (t 5) h) (blockK (cI (cA (cB (cB (cB b150))))) (f150_4K o c n k w)))
noncomputable def f150_7K (lp0 : AVs (Heap → α) 4) : Ex → K α := (nxK (R Pq o c n (cB (cA (cA (cA (cB (cB (cB b150))))))) (f150_6K o c n k w lp0)) (f150_6K o c n k w lp0))
noncomputable def f150_8K (lp0 : AVs (Heap → α) 4) : Ex → K α := (nxK (R Pq o c n (cB (cA (cA (cA (cA (cB (cB (cB b150)))))))) (f150_7K o c n k w lp0)) (f150_7K o c n k w lp0))
noncomputable def f150_23 {α : Type} (o : α) (c : Call' α) (n : Nat) (k : AV → Heap → α) (lp0 : AVs (Heap → α) 4) (base : Nat) (s0 s1 s4 s5 s18 s32 : AV) (h : Heap) : α :=
  pickF o s18 s32 (.b false) fun v1 => hb h.shut fun h => ifF o v1 (dreg o h 12 fun base h => nilChk o s0 fun v2 => faF o 0 v2 fun v3 => rootF o v3 s0 <| load1F o (h.look 7) v3 fun v4 => nilChk o s0 fun v5 => faF o 2 v5 fun v6 => rootF o v6 s0 <| load1F o (h.look 112) v6 fun v7 => ixF o 3 v4 v7 fun v8 => faF o 1 v8 fun v9 => load1F o (h.look 1023) v9 fun v10 => hb h.shut fun h => nilChk o s0 fun v11 => faF o 2 v11 fun v12 => load1F o h v12 fun v13 => addF Pq o 3 v13 (.i .i64 1) fun v14 => nilChk o s0 fun v15 => faF o 2 v15 fun v16 => storeF o h 1 v16 v14 fun h => addF Pq o 3 s1 (.i .i64 1) fun v17 => c 150 [s0, v17] h fun v18 h => pk k v18 h <| newF h h.next 8 [(.i .i64 0), (.i .i32 0), (.s 0 0), (.s 0 0), (.s 0 0), .nsl, (.s 0 0), (.i .i64 0)] fun v19 h => storeF o h 8 v19 v18 fun h => loadNF o h 8 s5 fun v20 => loadNF o h 8 v19 fun v21 => fil1 o 8 2 0 v20 [[(.i .i64 0), (.i .i32 0), (.s 0 0), (.s 0 0), (.s 0 0), .nsl, (.s 0 0), (.i .i64 0)], [(.i .i64 0), (.i .i32 0), (.s 0 0), (.s 0 0), (.s 0 0), .nsl, (.s 0 0), (.i .i64 0)]] fun v22 => fil1 o 8 2 1 v21 v22 fun v23 => newEF h h.next 8 2 v23 fun v24 h => layF o 0 (.i .i64 17) [(.i .i64 0), (.i .i32 0), (.s 0 0), (.s 0 0), (.s 0 0), .nsl, (.s 0 0), (.i .i64 0)] fun v25 => layF o 3 v10 v25 fun v26 => layF o 5 v24 v26 fun v27 => storeF o h 8 s5 (.agg v27) fun h => lp0 s0 s1 s4 s5 h) (loadNF o h 8 s5 fun v28 => storeF o h 8 s4 v28 fun h => on o (resV Pq h [(s4, some 43)]) fun v => k v h)
theorem f150_23_ok (lp0 : AVs (Heap → α) 4) (base : Nat) : QD Pq o c (cO (cA (cA (cA (cA (cA (cB (cB (cB b150))))))))) base ((f150_8K o c n k w lp0)) 17 = fun t _ h => f150_23 o c n k lp0 base (t 0) (t 1) (t 4) (t 5) (t 18) (t 32) h := by kernel_rfl
noncomputable def f150_22 (lp0 : AVs (Heap → α) 4) (base : Nat) (s0 s1 s4 s5 s18 s30 s31 : AV) (h : Heap) : α :=
  bkF o true s18 (eqiF Pq o 3 s30 s31 fun v29 => f150_23 o c n k lp0 base s0 s1 s4 s5 s18 v29 (h.look 0)) (f150_23 o c n k lp0 base s0 s1 s4 s5 s18 (.tup []) (h.look 0))
theorem f150_22_ok (lp0 : AVs (Heap → α) 4) (base : Nat) : QD Pq o c (cO (cA (cA (cA (cA (cA (cB (cB (cB b150))))))))) base ((f150_8K o c n k w lp0)) 16 = fun t _ h => f150_22 o c n k lp0 base (t 0) (t 1) (t 4) (t 5) (t 18) (t 30) (t 31) h := (qd_seg 16 17 (by kernel_rfl) (f150_23_ok o c n k w lp0 base)).tk
noncomputable def f150_21 (lp0 : AVs (Heap → α) 4) (base : Nat) (s0 s1 s4 s5 s18 s30 : AV) (h : Heap) : α :=
  bkF o true s18 (f150_22 o c n k lp0 base s0 s1 s4 s5 s18 s30 s1 (h.look 0)) (f150_22 o c n k lp0 base s0 s1 s4 s5 s18 s30 (.tup []) (h.look 0))
theorem f150_21_ok (lp0 : AVs (Heap → α) 4) (base : Nat) : QD Pq o c (cO (cA (cA (cA (cA (cA (cB (cB (cB b150))))))))) base ((f150_8K o c n k w lp0)) 15 = fun t _ h => f150_21 o c n k lp0 base (t 0) (t 1) (t 4) (t 5) (t 18) (t 30) h := (qd_seg 15 16 (by kernel_rfl) (f150_22_ok o c n k w lp0 base)).tk
noncomputable def f150_20 (lp0 : AVs (Heap → α) 4) (base : Nat) (s0 s1 s4 s5 s18 s29 : AV) (h : Heap) : α :=
  bkF o true s18 (callD o c [] 225 [s29] h fun v30 h => pnF v30 (fun x => hb h.shut fun hd => bkF o true s18 (k x.pn hd) (k x.pn hd)) <| f150_21 o c n k lp0 base s0 s1 s4 s5 s18 v30 h) (f150_21 o c n k lp0 base s0 s1 s4 s5 s18 (.tup []) h)
theorem f150_20_ok (lp0 : AVs (Heap → α) 4) (base : Nat) : QD Pq o c (cO (cA (cA (cA (cA (cA (cB (cB (cB b150))))))))) base ((f150_8K o c n k w lp0)) 14 = fun t _ h => f150_20 o c n k lp0 base (t 0) (t 1) (t 4) (t 5) (t 18) (t 29) h := (qd_seg 14 15 (by kernel_rfl) (f150_21_ok o c n k w lp0 base)).tk
noncomputable def f150_19 (lp0 : AVs (Heap → α) 4) (base : Nat) (s0 s1 s4 s5 s18 s28 : AV) (h : Heap) : α :=
  bkF o true s18 (load1F o (h.look 8191) s28 fun v31 => f150_20 o c n k lp0 base s0 s1 s4 s5 s18 v31 (h.look 0)) (f150_20 o c n k lp0 base s0 s1 s4 s5 s18 (.tup []) (h.look 0))
theorem f150_19_ok (lp0 : AVs (Heap → α) 4) (base : Nat) : QD Pq o c (cO (cA (cA (cA (cA (cA (cB (cB (cB b150))))))))) base ((f150_8K o c n k w lp0)) 13 = fun t _ h => f150_19 o c n k lp0 base (t 0) (t 1) (t 4) (t 5) (t 18) (t 28) h := (qd_seg 13 14 (by kernel_rfl) (f150_20_ok o c n k w lp0 base)).tk
noncomputable def f150_18 (lp0 : AVs (Heap → α) 4) (base : Nat) (s0 s1 s4 s5 s18 s27 : AV) (h : Heap) : α :=
  bkF o true s18 (faF o 1 s27 fun v32 => f150_19 o c n k lp0 base s0 s1 s4 s5 s18 v32 (h.look 0)) (f150_19 o c n k lp0 base s0 s1 s4 s5 s18 (.tup []) (h.look 0))
theorem f150_18_ok (lp0 : AVs (Heap → α) 4) (base : Nat) : QD Pq o c (cO (cA (cA (cA (cA (cA (cB (cB (cB b150))))))))) base ((f150_8K o c n k w lp0)) 12 = fun t _ h => f150_18 o c n k lp0 base (t 0) (t 1) (t 4) (t 5) (t 18) (t 27) h := (qd_seg 12 13 (by kernel_rfl) (f150_19_ok o c n k w lp0 base)).tk
noncomputable def f150_17 (lp0 : AVs (Heap → α) 4) (base : Nat) (s0 s1 s4 s5 s18 s22 s26 : AV) (h : Heap) : α :=
  bkF o true s18 (ixF o 3 s22 s26 fun v33 => f150_18 o c n k lp0 base s0 s1 s4 s5 s18 v33 (h.look 0)) (f150_18 o c n k lp0 base s0 s1 s4 s5 s18 (.tup []) (h.look 0))
theorem f150_17_ok (lp0 : AVs (Heap → α) 4) (base : Nat) : QD Pq o c (cO (cA (cA (cA (cA (cA (cB (cB (cB b150))))))))) base ((f150_8K o c n k w lp0)) 11 = fun t _ h => f150_17 o c n k lp0 base (t 0) (t 1) (t 4) (t 5) (t 18) (t 22) (t 26) h := (qd_seg 11 12 (by kernel_rfl) (f150_18_ok o c n k w lp0 base)).tk
noncomputable def f150_16 (lp0 : AVs (Heap → α) 4) (base : Nat) (s0 s1 s4 s5 s18 s22 s25 : AV) (h : Heap) : α :=
  rootF o s25 s0 <| bkF o true s18 (load1F o (h.look 903) s25 fun v34 => f150_17 o c n k lp0 base s0 s1 s4 s5 s18 s22 v34 (h.look 0)) (f150_17 o c n k lp0 base s0 s1 s4 s5 s18 s22 (.tup []) (h.look 0))
theorem f150_16_ok (lp0 : AVs (Heap → α) 4) (base : Nat) : QD Pq o c (cO (cA (cA (cA (cA (cA (cB (cB (cB b150))))))))) base ((f150_8K o c n k w lp0)) 10 = fun t _ h => f150_16 o c n k lp0 base (t 0) (t 1) (t 4) (t 5) (t 18) (t 22) (t 25) h := (qd_seg 10 11 (by kernel_rfl) (f150_17_ok o c n k w lp0 base)).tk
noncomputable def f150_15 (lp0 : AVs (Heap → α) 4) (base : Nat) (s0 s1 s4 s5 s18 s22 s24 : AV) (h : Heap) : α :=
  bkF o true s18 (faF o 2 s24 fun v35 => f150_16 o c n k lp0 base s0 s1 s4 s5 s18 s22 v35 (h.look 0)) (f150_16 o c n k lp0 base s0 s1 s4 s5 s18 s22 (.tup []) (h.look 0))
theorem f150_15_ok (lp0 : AVs (Heap → α) 4) (base : Nat) : QD Pq o c (cO (cA (cA (cA (cA (cA (cB (cB (cB b150))))))))) base ((f150_8K o c n k w lp0)) 9 = fun t _ h => f150_15 o c n k lp0 base (t 0) (t 1) (t 4) (t 5) (t 18) (t 22) (t 24) h := (qd_seg 9 10 (by kernel_rfl) (f150_16_ok o c n k w lp0 base)).tk
noncomputable def f150_14 (lp0 : AVs (Heap → α) 4) (base : Nat) (s0 s1 s4 s5 s18 s22 s23 : AV) (h : Heap) : α :=
  bkF o true s18 (nilChk o s23 fun v36 => f150_15 o c n k lp0 base s0 s1 s4 s5 s18 s22 v36 (h.look 0)) (f150_15 o c n k lp0 base s0 s1 s4 s5 s18 s22 (.tup []) (h.look 0))
theorem f150_14_ok (lp0 : AVs (Heap → α) 4) (base : Nat) : QD Pq o c (cO (cA (cA (cA (cA (cA (cB (cB (cB b150))))))))) base ((f150_8K o c n k w lp0)) 8 = fun t _ h => f150_14 o c n k lp0 base (t 0) (t 1) (t 4) (t 5) (t 18) (t 22) (t 23) h := (qd_seg 8 9 (by kernel_rfl) (f150_15_ok o c n k w lp0 base)).tk
noncomputable def f150_13 (lp0 : AVs (Heap → α) 4) (base : Nat) (s0 s1 s4 s5 s18 s22 : AV) (h : Heap) : α :=
  bkF o true s18 (f150_14 o c n k lp0 base s0 s1 s4 s5 s18 s22 s0 (h.look 0)) (f150_14 o c n k lp0 base s0 s1 s4 s5 s18 s22 (.tup []) (h.look 0))
theorem f150_13_ok (lp0 : AVs (Heap → α) 4) (base : Nat) : QD Pq o c (cO (cA (cA (cA (cA (cA (cB (cB (cB b150))))))))) base ((f150_8K o c n k w lp0)) 7 = fun t _ h => f150_13 o c n k lp0 base (t 0) (t 1) (t 4) (t 5) (t 18) (t 22) h := (qd_seg 7 8 (by kernel_rfl) (f150_14_ok o c n k w lp0 base)).tk
noncomputable def f150_12 (lp0 : AVs (Heap → α) 4) (base : Nat) (s0 s1 s4 s5 s18 s21 : AV) (h : Heap) : α :=
  rootF o s21 s0 <| bkF o true s18 (load1F o (h.look 63) s21 fun v37 => f150_13 o c n k lp0 base s0 s1 s4 s5 s18 v37 (h.look 0)) (f150_13 o c n k lp0 base s0 s1 s4 s5 s18 (.tup []) (h.look 0))
theorem f150_12_ok (lp0 : AVs (Heap → α) 4) (base : Nat) : QD Pq o c (cO (cA (cA (cA (cA (cA (cB (cB (cB b150))))))))) base ((f150_8K o c n k w lp0)) 6 = fun t _ h => f150_12 o c n k lp0 base (t 0) (t 1) (t 4) (t 5) (t 18) (t 21) h := (qd_seg 6 7 (by kernel_rfl) (f150_13_ok o c n k w lp0 base)).tk
noncomputable def f150_11 (lp0 : AVs (Heap → α) 4) (base : Nat) (s0 s1 s4 s5 s18 s20 : AV) (h : Heap) : α :=
  bkF o true s18 (faF o 0 s20 fun v38 => f150_12 o c n k lp0 base s0 s1 s4 s5 s18 v38 (h.look 0)) (f150_12 o c n k lp0 base s0 s1 s4 s5 s18 (.tup []) (h.look 0))
theorem f150_11_ok (lp0 : AVs (Heap → α) 4) (base : Nat) : QD Pq o c (cO (cA (cA (cA (cA (cA (cB (cB (cB b150))))))))) base ((f150_8K o c n k w lp0)) 5 = fun t _ h => f150_11 o c n k lp0 base (t 0) (t 1) (t 4) (t 5) (t 18) (t 20) h := (qd_seg 5 6 (by kernel_rfl) (f150_12_ok o c n k w lp0 base)).tk
noncomputable def f150_10 (lp0 : AVs (Heap → α) 4) (base : Nat) (s0 s1 s4 s5 s18 s19 : AV) (h : Heap) : α :=
  bkF o true s18 (nilChk o s19 fun v39 => f150_11 o c n k lp0 base s0 s1 s4 s5 s18 v39 (h.look 0)) (f150_11 o c n k lp0 base s0 s1 s4 s5 s18 (.tup []) (h.look 0))
theorem f150_10_ok (lp0 : AVs (Heap → α) 4) (base : Nat) : QD Pq o c (cO (cA (cA (cA (cA (cA (cB (cB (cB b150))))))))) base ((f150_8K o c n k w lp0)) 4 = fun t _ h => f150_10 o c n k lp0 base (t 0) (t 1) (t 4) (t 5) (t 18) (t 19) h := (qd_seg 4 5 (by kernel_rfl) (f150_11_ok o c n k w lp0 base)).tk
noncomputable def f150_9 (lp0 : AVs (Heap → α) 4) (base : Nat) (s0 s1 s4 s5 s17 : AV) (h : Heap) : α :=
  bkF o true s17 (f150_10 o c n k lp0 base s0 s1 s4 s5 s17 s0 (h.look 0)) (f150_10 o c n k lp0 base s0 s1 s4 s5 s17 (.tup []) (h.look 0))
theorem f150_9_ok (lp0 : AVs (Heap → α) 4) (base : Nat) : QD Pq o c (cO (cA (cA (cA (cA (cA (cB (cB (cB b150))))))))) base ((f150_8K o c n k w lp0)) 2 = fun t _ h => f150_9 o c n k lp0 base (t 0) (t 1) (t 4) (t 5) (t 17) h := (qd_seg 2 4 (by kernel_rfl) (f150_10_ok o c n k w lp0 base)).tk
noncomputable def f150_5 (m : Nat) : AVs (Heap → α) 4 :=
  Nat.rec (motive := fun _ => AVs (Heap → α) 4) (fun _ _ _ _ _ => o) (fun _ lp0 s0 s1 s4 s5 h => dreg o h 18 fun base h => callD o c [] 67 [s0, (.i .i64 0), (.i .i64 4), (.s 0 0)] (h.look 0) fun v40 h => pnF v40 (fun x => hb h.shut fun hd => k x.pn hd) <| f150_9 o c n k lp0 base s0 s1 s4 s5 v40 h) m
theorem f150_5_ok : R Pq o c n (cA (cA (cB (cB (cB b150))))) (blockK (cI (cA (cB (cB (cB b150))))) (f150_4K o c n k w)) = fun t _ h => f150_5 o c n k n (t 0) (t 1) (t 4) (t 5) h :=
  c_loop (F := fun m t _ h => f150_5 o c n k m (t 0) (t 1) (t 4) (t 5) h) (by kernel_rfl) (by kernel_rfl) fun m => (kseq rfl (kseq rfl (r_startD 2 (by kernel_rfl) (by kernel_rfl) (X := fun base => fun t _ h => f150_9 o c n k (f150_5 o c n k m) base (t 0) (t 1) (t 4) (t 5) (t 17) h) (fun base => f150_9_ok o c n k w (f150_5 o c n k m) base)))).tk
noncomputable def f150_3 (s0 s1 s4 s5 : AV) (h : Heap) : α :=
  f150_5 o c n k n s0 s1 s4 s5 h
theorem f150_3_ok : R Pq o c n (cB (cB (cB b150))) (kend Pq o c n w rs150 k) = fun t _ h => f150_3 o c n k (t 0) (t 1) (t 4) (t 5) h := (kseq rfl (kblk (f150_5_ok o c n k w))).tk
noncomputable def f150_2 (s0 s1 s4 : AV) (h : Heap) : α :=
  addF Pq o 3 s1 (.i .i64 1) fun v41 => c 150 [s0, v41] h fun v42 h => pk k v42 h <| newF h h.next 8 [(.i .i64 0), (.i .i32 0), (.s 0 0), (.s 0 0), (.s 0 0), .nsl, (.s 0 0), (.i .i64 0)] fun v43 h => storeF o h 8 v43 v42 fun h => f150_3 o c n k s0 s1 s4 v43 h
theorem f150_2_ok : R Pq o c n (cB (cB b150)) (kend Pq o c n w rs150 k) = fun t _ h => f150_2 o c n k (t 0) (t 1) (t 4) h := (kseq (f150_3_ok o c n k w) rfl).tk
noncomputable def f150_1 (s0 s1 s4 : AV) (h : Heap) : α :=
  gtrF Pq o 3 s1 (.i .i64 6) fun v44 => ifF o v44 (c 224 [s0] h fun v45 h => pk k v45 h <| storeF o h 8 s4 v45 fun h => on o (resV Pq h [(s4, some 43)]) fun v => k v h) (f150_2 o c n k s0 s1 s4 h)
theorem f150_1_ok : R Pq o c n (cB b150) (kend Pq o c n w rs150 k) = fun t _ h => f150_1 o c n k (t 0) (t 1) (t 4) h := (kseq (f150_2_ok o c n k w) rfl).tk
noncomputable def f150 (a0 a1 : AV) (h : Heap) : α :=
  newF h h.next 8 [(.i .i64 0), (.i .i32 0), (.s 0 0), (.s 0 0), (.s 0 0), .nsl, (.s 0 0), (.i .i64 0)] fun v46 h => f150_1 o c n k a0 a1 v46 h
theorem f150_ok : R Pq o c n b150 (kend Pq o c n w rs150 k) = fun t _ h => f150 o c n k (t 0) (t 1) h := (kseq (f150_1_ok o c n k w) rfl).tk
theorem f150_good : Good Pq (cfg mm) 150 (entF Pq (cfg mm) 150 2 fun α => f150) := entG b150 rs150 62 fun _ => f150_ok
noncomputable def b151 := bdy Tryz.f151
noncomputable def rs151 := Tryz.f151.results.toList
noncomputable def f151_3K : Ex → K α := (nxK (R Pq o c n (cB (cB (cB b151))) (kend Pq o c n w rs151 k)) (kend Pq o c n w rs151 k))
noncomputable def f151_5 {α : Type} (o : α) (c : Call' α) (n : Nat) (k : AV → Heap → α) (m : Nat) : AVs (Heap → α) 3 :=
  Nat.rec (motive := fun _ => AVs (Heap → α) 3) (fun _ _ _ _ => o) (fun _ lp0 s0 s3 s4 h => lenF o s0 fun v1 => lssF Pq o 3 s4 v1 fun v2 => ifF o v2 (ixF o 8 s0 s4 fun v3 => loadNF o h 8 v3 fun v4 => c 226 [v4] h fun v5 h => pk k v5 h <| addF Pq o 3 s3 v5 fun v6 => addF Pq o 3 s4 (.i .i64 1) fun v7 => lp0 s0 v6 v7 h) (k s3 h)) m
theorem f151_5_ok : R Pq o c n (cA (cB (cA (cB (cB b151))))) (blockK (cI (cB (cA (cB (cB b151))))) (f151_3K o c n k w)) = fun t _ h => f151_5 o c n k n (t 0) (t 3) (t 4) h :=
  c_loop (F := fun m t _ h => f151_5 o c n k m (t 0) (t 3) (t 4) h) (by kernel_rfl) (by kernel_rfl) fun m => by kernel_rfl
noncomputable def f151_4 (s0 s3 s4 : AV) (h : Heap) : α :=
  f151_5 o c n k n s0 s3 s4 h
theorem f151_4_ok : R Pq o c n (cB (cA (cB (cB b151)))) (f151_3K o c n k w) = fun t _ h => f151_4 o c n k (t 0) (t 3) (t 4) h := (kblk (f151_5_ok o c n k w)).tk
noncomputable def f151_2 (s0 s3 : AV) (h : Heap) : α :=
  f151_4 o c n k s0 s3 (.i .i64 0) h
theorem f151_2_ok : R Pq o c n (cB (cB b151)) (kend Pq o c n w rs151 k) = fun t _ h => f151_2 o c n k (t 0) (t 3) h := (kseq rfl (kseq (f151_4_ok o c n k w) rfl)).tk
noncomputable def f151_1 (s0 : AV) (h : Heap) : α :=
  f151_2 o c n k s0 (.i .i64 0) h
theorem f151_1_ok : R Pq o c n (cB b151) (kend Pq o c n w rs151 k) = fun t _ h => f151_1 o c n k (t 0) h := (kseq (f151_2_ok o c n k w) rfl).tk
noncomputable def f151 (a0 : AV) (h : Heap) : α :=
  f151_1 o c n k a0 h
theorem f151_ok : R Pq o c n b151 (kend Pq o c n w rs151 k) = fun t _ h => f151 o c n k (t 0) h := (kseq (f151_1_ok o c n k w) rfl).tk
theorem f151_good : Good Pq (cfg mm) 151 (entF Pq (cfg mm) 151 1 fun α => f151) := entG b151 rs151 19 fun _ => f151_ok
noncomputable def b152 := bdy Tryz.f152
noncomputable def rs152 := Tryz.f152.results.toList
noncomputable def f152_3K : Ex → K α := (nxK (R Pq o c n (cB (cB (cB b152))) (kend Pq o c n w rs152 k)) (kend Pq o c n w rs152 k))
noncomputable def f152_6K (lp0 : AVs (Heap → α) 3) : Ex → K α := (nxK (fun t _ h => lp0 (t 0) (t 3) (t 4) h) (blockK (cI (cB (cA (cB (cB b152))))) (f152_3K o c n k w)))
noncomputable def f152_8K (lp0 : AVs (Heap → α) 3) : Ex → K α := (nxK (R Pq o c n (cB (cB (cA (cA (cB (cA (cB (cB b152)))))))) (f152_6K o c n k w lp0)) (f152_6K o c n k w lp0))
noncomputable def f152_12 {α : Type} (o : α) (c : Call' α) (n : Nat) (k : AV → Heap → α) (lp0 : AVs (Heap → α) 3) (base : Nat) (s0 s4 s33 s39 : AV) (h : Heap) : α :=
  addF Pq o 3 s33 s39 fun v1 => hb h.shut fun h => addF Pq o 3 s4 (.i .i64 1) fun v2 => lp0 s0 v1 v2 h
theorem f152_12_ok (lp0 : AVs (Heap → α) 3) (base : Nat) : QD Pq o c (cO (cA (cA (cB (cA (cA (cB (cA (cB (cB b152)))))))))) base ((blockK (cI (cA (cB (cA (cA (cB (cA (cB (cB b152))))))))) (f152_8K o c n k w lp0))) 29 = fun t _ h => f152_12 o c n k lp0 base (t 0) (t 4) (t 33) (t 39) h := by kernel_rfl
noncomputable def f152_11 (lp0 : AVs (Heap → α) 3) (base : Nat) (s0 s4 s26 s32 : AV) (h : Heap) : α :=
  addF Pq o 3 s26 s32 fun v3 => ixF o 9 s0 s4 fun v4 => faF o 7 v4 fun v5 => rootF o v5 s0 <| load1F o (h.look 125829120) v5 fun v6 => callD o c [] 152 [v6] (h.look 0) fun v7 h => pnF v7 (fun x => hb h.shut fun hd => k x.pn hd) <| f152_12 o c n k lp0 base s0 s4 v3 v7 h
theorem f152_11_ok (lp0 : AVs (Heap → α) 3) (base : Nat) : QD Pq o c (cO (cA (cA (cB (cA (cA (cB (cA (cB (cB b152)))))))))) base ((blockK (cI (cA (cB (cA (cA (cB (cA (cB (cB b152))))))))) (f152_8K o c n k w lp0))) 22 = fun t _ h => f152_11 o c n k lp0 base (t 0) (t 4) (t 26) (t 32) h := (qd_seg 22 29 (by kernel_rfl) (f152_12_ok o c n k w lp0 base)).tk
noncomputable def f152_10 (lp0 : AVs (Heap → α) 3) (base : Nat) (s0 s4 s19 s25 : AV) (h : Heap) : α :=
  addF Pq o 3 s19 s25 fun v8 => ixF o 9 s0 s4 fun v9 => faF o 6 v9 fun v10 => rootF o v10 s0 <| load1F o (h.look 983040) v10 fun v11 => callD o c (hidD false [(.fn (.func 152) [] []), v11] [] (sBlk s0 [])) 152 [v11] (h.look 0) fun v12 h => pnF v12 (fun x => hb h.shut fun hd => ixF o 9 s0 s4 fun v13 => faF o 7 v13 fun v14 => rootF o v14 s0 <| load1F o (h.look 125829120) v14 fun v15 => k x.pn hd) <| f152_11 o c n k lp0 base s0 s4 v8 v12 h
theorem f152_10_ok (lp0 : AVs (Heap → α) 3) (base : Nat) : QD Pq o c (cO (cA (cA (cB (cA (cA (cB (cA (cB (cB b152)))))))))) base ((blockK (cI (cA (cB (cA (cA (cB (cA (cB (cB b152))))))))) (f152_8K o c n k w lp0))) 15 = fun t _ h => f152_10 o c n k lp0 base (t 0) (t 4) (t 19) (t 25) h := (qd_seg 15 22 (by kernel_rfl) (f152_11_ok o c n k w lp0 base)).tk
noncomputable def f152_9 (lp0 : AVs (Heap → α) 3) (base : Nat) (s0 s4 s12 s18 : AV) (h : Heap) : α :=
  addF Pq o 3 s12 s18 fun v16 => ixF o 9 s0 s4 fun v17 => faF o 5 v17 fun v18 => rootF o v18 s0 <| load1F o (h.look 7680) v18 fun v19 => callD o c (hidD false [(.fn (.func 152) [] []), v19] [] (sBlk s0 (sBlk s0 []))) 152 [v19] (h.look 0) fun v20 h => pnF v20 (fun x => hb h.shut fun hd => ixF o 9 s0 s4 fun v21 => faF o 6 v21 fun v22 => rootF o v22 s0 <| load1F o (h.look 983040) v22 fun v23 => ixF o 9 s0 s4 fun v24 => faF o 7 v24 fun v25 => rootF o v25 s0 <| load1F o (h.look 125829120) v25 fun v26 => k x.pn hd) <| f152_10 o c n k lp0 base s0 s4 v16 v20 h
theorem f152_9_ok (lp0 : AVs (Heap → α) 3) (base : Nat) : QD Pq o c (cO (cA (cA (cB (cA (cA (cB (cA (cB (cB b152)))))))))) base ((blockK (cI (cA (cB (cA (cA (cB (cA (cB (cB b152))))))))) (f152_8K o c n k w lp0))) 8 = fun t _ h => f152_9 o c n k lp0 base (t 0) (t 4) (t 12) (t 18) h := (qd_seg 8 15 (by kernel_rfl) (f152_10_ok o c n k w lp0 base)).tk
noncomputable def f152_7 (lp0 : AVs (Heap → α) 3) (s0 s3 s4 : AV) (h : Heap) : α :=
  dreg o h 31 fun base h => addF Pq o 3 s3 (.i .i64 1) fun v27 => ixF o 9 s0 s4 fun v28 => faF o 4 v28 fun v29 => rootF o v29 s0 <| load1F o (h.look 60) v29 fun v30 => callD o c (hidD false [(.fn (.func 151) [] []), v30] [] (sBlk s0 (sBlk s0 (sBlk s0 [])))) 151 [v30] (h.look 0) fun v31 h => pnF v31 (fun x => hb h.shut fun hd => ixF o 9 s0 s4 fun v32 => faF o 5 v32 fun v33 => rootF o v33 s0 <| load1F o (h.look 7680) v33 fun v34 => ixF o 9 s0 s4 fun v35 => faF o 6 v35 fun v36 => rootF o v36 s0 <| load1F o (h.look 983040) v36 fun v37 => ixF o 9 s0 s4 fun v38 => faF o 7 v38 fun v39 => rootF o v39 s0 <| load1F o (h.look 125829120) v39 fun v40 => k x.pn hd) <| f152_9 o c n k lp0 base s0 s4 v27 v31 h
theorem f152_7_ok (lp0 : AVs (Heap → α) 3) : R Pq o c n (cB (cA (cA (cB (cA (cB (cB b152))))))) (f152_6K o c n k w lp0) = fun t _ h => f152_7 o c n k lp0 (t 0) (t 3) (t 4) h := (kseq rfl (kblk (r_startD 8 (by kernel_rfl) (by kernel_rfl) (X := fun base => fun t _ h => f152_9 o c n k lp0 base (t 0) (t 4) (t 12) (t 18) h) (fun base => f152_9_ok o c n k w lp0 base)))).tk
noncomputable def f152_5 (m : Nat) : AVs (Heap → α) 3 :=
  Nat.rec (motive := fun _ => AVs (Heap → α) 3) (fun _ _ _ _ => o) (fun _ lp0 s0 s3 s4 h => lenF o s0 fun v41 => lssF Pq o 3 s4 v41 fun v42 => ifF o v42 (f152_7 o c n k lp0 s0 s3 s4 h) (k s3 h)) m
theorem f152_5_ok : R Pq o c n (cA (cB (cA (cB (cB b152))))) (blockK (cI (cB (cA (cB (cB b152))))) (f152_3K o c n k w)) = fun t _ h => f152_5 o c n k n (t 0) (t 3) (t 4) h :=
  c_loop (F := fun m t _ h => f152_5 o c n k m (t 0) (t 3) (t 4) h) (by kernel_rfl) (by kernel_rfl) fun m => (kseq (f152_7_ok o c n k w (f152_5 o c n k m)) rfl).tk
noncomputable def f152_4 (s0 s3 s4 : AV) (h : Heap) : α :=
  f152_5 o c n k n s0 s3 s4 h
theorem f152_4_ok : R Pq o c n (cB (cA (cB (cB b152)))) (f152_3K o c n k w) = fun t _ h => f152_4 o c n k (t 0) (t 3) (t 4) h := (kblk (f152_5_ok o c n k w)).tk
noncomputable def f152_2 (s0 s3 : AV) (h : Heap) : α :=
  f152_4 o c n k s0 s3 (.i .i64 0) h
theorem f152_2_ok : R Pq o c n (cB (cB b152)) (kend Pq o c n w rs152 k) = fun t _ h => f152_2 o c n k (t 0) (t 3) h := (kseq rfl (kseq (f152_4_ok o c n k w) rfl)).tk
noncomputable def f152_1 (s0 : AV) (h : Heap) : α :=
  f152_2 o c n k s0 (.i .i64 0) h
theorem f152_1_ok : R Pq o c n (cB b152) (kend Pq o c n w rs152 k) = fun t _ h => f152_1 o c n k (t 0) h := (kseq (f152_2_ok o c n k w) rfl).tk
noncomputable def f152 (a0 : AV) (h : Heap) : α :=
  f152_1 o c n k a0 h
theorem f152_ok : R Pq o c n b152 (kend Pq o c n w rs152 k) = fun t _ h => f152 o c n k (t 0) h := (kseq (f152_1_ok o c n k w) rfl).tk
theorem f152_good : Good Pq (cfg mm) 152 (entF Pq (cfg mm) 152 1 fun α => f152) := entG b152 rs152 42 fun _ => f152_ok
noncomputable def b153 := bdy Tryz.f153
noncomputable def rs153 := Tryz.f153.results.toList
noncomputable def f153_3K : Ex → K α := (nxK (R Pq o c n (cB (cB (cB b153))) (kend Pq o c n w rs153 k)) (kend Pq o c n w rs153 k))
noncomputable def f153_2 {α : Type} (o : α) (c : Call' α) (n : Nat) (k : AV → Heap → α) (s0 s1 : AV) (h : Heap) : α :=
  lensF o s0 fun v1 => geqF Pq o 3 v1 (.i .i64 1) fun v2 => bkF o true v2 (lensF o s0 fun v3 => leqF Pq o 3 v3 s1 fun v4 => pickF o v2 v4 (.b false) fun v5 => k v5 h) (pickF o v2 (.tup []) (.b false) fun v6 => k v6 h)
theorem f153_2_ok : R Pq o c n (cB (cB b153)) (kend Pq o c n w rs153 k) = fun t _ h => f153_2 o c n k (t 0) (t 1) h := (kseq rfl (r_start 4 (by kernel_rfl) (q_guard 4 8 (3, true) (by kernel_rfl) (by kernel_rfl) (by kernel_rfl) rfl))).tk
noncomputable def f153_4K : Ex → K α := (nxK (fun t _ h => f153_2 o c n k (t 0) (t 1) h) (kend Pq o c n w rs153 k))
noncomputable def f153_7K (lp0 : AVs (Heap → α) 3) : Ex → K α := (nxK (fun t _ h => lp0 (t 0) (t 1) (t 5) h) (blockK (cI (cB (cA (cB b153)))) (f153_4K o c n k w)))
noncomputable def f153_9 {α : Type} (o : α) (c : Call' α) (n : Nat) (k : AV → Heap → α) (lp0 : AVs (Heap → α) 3) (s0 s1 s5 : AV) (h : Heap) : α :=
  addF Pq o 3 s5 (.i .i64 1) fun v7 => lp0 s0 s1 v7 h
theorem f153_9_ok (lp0 : AVs (Heap → α) 3) : R Pq o c n (cB (cB (cA (cA (cB (cA (cB b153))))))) (f153_7K o c n k w lp0) = fun t _ h => f153_9 o c n k lp0 (t 0) (t 1) (t 5) h := by kernel_rfl
noncomputable def f153_10K (lp0 : AVs (Heap → α) 3) : Ex → K α := (nxK (fun t _ h => f153_9 o c n k lp0 (t 0) (t 1) (t 5) h) (f153_7K o c n k w lp0))
noncomputable def f153_12 (lp0 : AVs (Heap → α) 3) (s0 s1 s5 s29 : AV) (h : Heap) : α :=
  ifF o s29 (k (.b false) h) (f153_9 o c n k lp0 s0 s1 s5 h)
theorem f153_12_ok (lp0 : AVs (Heap → α) 3) : R Pq o c n (cB (cB (cA (cA (cB (cA (cA (cB (cA (cB b153)))))))))) (blockK (cI (cA (cB (cA (cA (cB (cA (cB b153)))))))) (f153_10K o c n k w lp0)) = fun t _ h => f153_12 o c n k lp0 (t 0) (t 1) (t 5) (t 29) h := by kernel_rfl
noncomputable def f153_13K (lp0 : AVs (Heap → α) 3) : Ex → K α := (nxK (fun t _ h => f153_12 o c n k lp0 (t 0) (t 1) (t 5) (t 29) h) (blockK (cI (cA (cB (cA (cA (cB (cA (cB b153)))))))) (f153_10K o c n k w lp0)))
noncomputable def f153_14 (lp0 : AVs (Heap → α) 3) (s0 s1 s5 s6 s20 s23 : AV) (h : Heap) : α :=
  pickF o s20 s23 (.b false) fun v8 => bkF o true v8 (c 139 [s6] h fun v9 h => pk k v9 h <| notF o v9 fun v10 => pickF o v8 v10 (.b false) fun v11 => f153_12 o c n k lp0 s0 s1 s5 v11 h) (pickF o v8 (.tup []) (.b false) fun v12 => f153_12 o c n k lp0 s0 s1 s5 v12 h)
theorem f153_14_ok (lp0 : AVs (Heap → α) 3) : Q Pq o c (cO (cA (cB (cA (cA (cB (cA (cA (cB (cA (cB b153))))))))))) (f153_13K o c n k w lp0) 7 = fun t _ h => f153_14 o c n k lp0 (t 0) (t 1) (t 5) (t 6) (t 20) (t 23) h := (q_seg 7 9 (by kernel_rfl) (q_guard 9 12 (8, true) (by kernel_rfl) (by kernel_rfl) (by kernel_rfl) rfl)).tk
noncomputable def f153_11 (lp0 : AVs (Heap → α) 3) (s0 s1 s5 s6 : AV) (h : Heap) : α :=
  c 155 [s6] h fun v13 h => pk k v13 h <| notF o v13 fun v14 => bkF o true v14 (c 154 [s6] h fun v15 h => pk k v15 h <| notF o v15 fun v16 => f153_14 o c n k lp0 s0 s1 s5 s6 v14 v16 h) (f153_14 o c n k lp0 s0 s1 s5 s6 v14 (.tup []) h)
theorem f153_11_ok (lp0 : AVs (Heap → α) 3) : R Pq o c n (cB (cA (cA (cB (cA (cA (cB (cA (cB b153))))))))) (blockK (cI (cA (cB (cA (cA (cB (cA (cB b153)))))))) (f153_10K o c n k w lp0)) = fun t _ h => f153_11 o c n k lp0 (t 0) (t 1) (t 5) (t 6) h := (kseq (f153_12_ok o c n k w lp0) (r_start 4 (by kernel_rfl) (q_guard 4 7 (3, true) (by kernel_rfl) (by kernel_rfl) (by kernel_rfl) (f153_14_ok o c n k w lp0)))).tk
noncomputable def f153_8 (lp0 : AVs (Heap → α) 3) (s0 s1 s5 : AV) (h : Heap) : α :=
  sxF o s0 s5 fun v17 => convA Pq o 5 21 v17 fun v18 => f153_11 o c n k lp0 s0 s1 s5 v18 h
theorem f153_8_ok (lp0 : AVs (Heap → α) 3) : R Pq o c n (cB (cA (cA (cB (cA (cB b153)))))) (f153_7K o c n k w lp0) = fun t _ h => f153_8 o c n k lp0 (t 0) (t 1) (t 5) h := (kseq (f153_9_ok o c n k w lp0) (kblk (kseq (f153_11_ok o c n k w lp0) rfl))).tk
noncomputable def f153_6 (m : Nat) : AVs (Heap → α) 3 :=
  Nat.rec (motive := fun _ => AVs (Heap → α) 3) (fun _ _ _ _ => o) (fun _ lp0 s0 s1 s5 h => lensF o s0 fun v19 => lssF Pq o 3 s5 v19 fun v20 => ifF o v20 (f153_8 o c n k lp0 s0 s1 s5 h) (f153_2 o c n k s0 s1 h)) m
theorem f153_6_ok : R Pq o c n (cA (cB (cA (cB b153)))) (blockK (cI (cB (cA (cB b153)))) (f153_4K o c n k w)) = fun t _ h => f153_6 o c n k n (t 0) (t 1) (t 5) h :=
  c_loop (F := fun m t _ h => f153_6 o c n k m (t 0) (t 1) (t 5) h) (by kernel_rfl) (by kernel_rfl) fun m => (kseq (f153_8_ok o c n k w (f153_6 o c n k m)) rfl).tk
noncomputable def f153_5 (s0 s1 s5 : AV) (h : Heap) : α :=
  f153_6 o c n k n s0 s1 s5 h
theorem f153_5_ok : R Pq o c n (cB (cA (cB b153))) (f153_4K o c n k w) = fun t _ h => f153_5 o c n k (t 0) (t 1) (t 5) h := (kblk (f153_6_ok o c n k w)).tk
noncomputable def f153_1 (s0 s1 : AV) (h : Heap) : α :=
  f153_5 o c n k s0 s1 (.i .i64 0) h
theorem f153_1_ok : R Pq o c n (cB b153) (kend Pq o c n w rs153 k) = fun t _ h => f153_1 o c n k (t 0) (t 1) h := (kseq (f153_2_ok o c n k w) (kseq (f153_5_ok o c n k w) rfl)).tk
noncomputable def f153 (a0 a1 : AV) (h : Heap) : α :=
  f153_1 o c n k a0 a1 h
theorem f153_ok : R Pq o c n b153 (kend Pq o c n w rs153 k) = fun t _ h => f153 o c n k (t 0) (t 1) h := (kseq (f153_1_ok o c n k w) rfl).tk
theorem f153_good : Good Pq (cfg mm) 153 (entF Pq (cfg mm) 153 2 fun α => f153) := entG b153 rs153 39 fun _ => f153_ok
noncomputable def b154 := bdy Tryz.f154
noncomputable def rs154 := Tryz.f154.results.toList
noncomputable def f154_2K : Ex → K α := (nxK (R Pq o c n (cB (cB b154)) (kend Pq o c n w rs154 k)) (kend Pq o c n w rs154 k))
noncomputable def f154_1 {α : Type} (o : α) (c : Call' α) (n : Nat) (k : AV → Heap → α) (s0 : AV) (h : Heap) : α :=
  geqF Pq o 21 s0 (.i .i32 65) fun v1 => bkF o true v1 (leqF Pq o 21 s0 (.i .i32 90) fun v2 => pickF o v1 v2 (.b false) fun v3 => k v3 h) (pickF o v1 (.tup []) (.b false) fun v4 => k v4 h)
theorem f154_1_ok : R Pq o c n (cB b154) (kend Pq o c n w rs154 k) = fun t _ h => f154_1 o c n k (t 0) h := (kseq rfl (r_start 3 (by kernel_rfl) (q_guard 3 5 (2, true) (by kernel_rfl) (by kernel_rfl) (by kernel_rfl) rfl))).tk
noncomputable def f154 (a0 : AV) (h : Heap) : α :=
  f154_1 o c n k a0 h
theorem f154_ok : R Pq o c n b154 (kend Pq o c n w rs154 k) = fun t _ h => f154 o c n k (t 0) h := (kseq (f154_1_ok o c n k w) rfl).tk
theorem f154_good : Good Pq (cfg mm) 154 (entF Pq (cfg mm) 154 1 fun α => f154) := entG b154 rs154 9 fun _ => f154_ok
noncomputable def b155 := bdy Tryz.f155
noncomputable def rs155 := Tryz.f155.results.toList
noncomputable def f155_2K : Ex → K α := (nxK (R Pq o c n (cB (cB b155)) (kend Pq o c n w rs155 k)) (kend Pq o c n w rs155 k))
noncomputable def f155_1 {α : Type} (o : α) (c : Call' α) (n : Nat) (k : AV → Heap → α) (s0 : AV) (h : Heap) : α :=
  geqF Pq o 21 s0 (.i .i32 97) fun v1 => bkF o true v1 (leqF Pq o 21 s0 (.i .i32 122) fun v2 => pickF o v1 v2 (.b false) fun v3 => k v3 h) (pickF o v1 (.tup []) (.b false) fun v4 => k v4 h)
theorem f155_1_ok : R Pq o c n (cB b155) (kend Pq o c n w rs155 k) = fun t _ h => f155_1 o c n k (t 0) h := (kseq rfl (r_start 3 (by kernel_rfl) (q_guard 3 5 (2, true) (by kernel_rfl) (by kernel_rfl) (by kernel_rfl) rfl))).tk
noncomputable def f155 (a0 : AV) (h : Heap) : α :=
  f155_1 o c n k a0 h
theorem f155_ok : R Pq o c n b155 (kend Pq o c n w rs155 k) = fun t _ h => f155 o c n k (t 0) h := (kseq (f155_1_ok o c n k w) rfl).tk
theorem f155_good : Good Pq (cfg mm) 155 (entF Pq (cfg mm) 155 1 fun α => f155) := entG b155 rs155 9 fun _ => f155_ok
noncomputable def b156 := bdy Tryz.f156
noncomputable def rs156 := Tryz.f156.results.toList
noncomputable def f156 {α : Type} (o : α) (c : Call' α) (n : Nat) (k : AV → Heap → α) (a0 : AV) (h : Heap) : α :=
  fil1 o 1 24 0 (.s 7 31069335677005666) (lrep [(.s 0 0)] 24) fun v1 => fil1 o 1 24 1 (.s 3 7630441) v1 fun v2 => fil1 o 1 24 2 (.s 4 1684631414) v2 fun v3 => fil1 o 1 24 3 (.s 5 495857003619) v3 fun v4 => fil1 o 1 24 4 (.s 7 32480047633037413) v4 fun v5 => fil1 o 1 24 5 (.s 6 109304575259763) v5 fun v6 => fil1 o 1 24 6 (.s 3 7824750) v6 fun v7 => fil1 o 1 24 7 (.s 4 1936287860) v7 fun v8 => fil1 o 1 24 8 (.s 5 491328140659) v8 fun v9 => fil1 o 1 24 9 (.s 4 1819047278) v9 fun v10 => fil1 o 1 24 10 (.s 4 1702195828) v10 fun v11 => fil1 o 1 24 11 (.s 5 435728179558) v11 fun v12 => fil1 o 1 24 12 (.s 2 26217) v12 fun v13 => fil1 o 1 24 13 (.s 4 1702063205) v13 fun v14 => fil1 o 1 24 14 (.s 5 435610544247) v14 fun v15 => fil1 o 1 24 15 (.s 6 121437875889522) v15 fun v16 => fil1 o 1 24 16 (.s 5 500068610672) v16 fun v17 => fil1 o 1 24 17 (.s 6 128034677158753) v17 fun v18 => fil1 o 1 24 18 (.s 5 512970877044) v18 fun v19 => fil1 o 1 24 19 (.s 3 7959156) v19 fun v20 => fil1 o 1 24 20 (.s 5 448345170275) v20 fun v21 => fil1 o 1 24 21 (.s 7 34177684928883046) v21 fun v22 => fil1 o 1 24 22 (.s 2 29537) v22 fun v23 => fil1 o 1 24 23 (.s 2 29545) v23 fun v24 => newEF h h.next 1 24 v24 fun v25 h => c 143 [v25, a0] h fun v26 h => pk k v26 h <| k v26 h
theorem f156_ok : R Pq o c n b156 (kend Pq o c n w rs156 k) = fun t _ h => f156 o c n k (t 0) h := by kernel_rfl
theorem f156_good : Good Pq (cfg mm) 156 (entF Pq (cfg mm) 156 1 fun α => f156) := entG b156 rs156 6 fun _ => f156_ok
noncomputable def b160 := bdy Tryz.f160
noncomputable def rs160 := Tryz.f160.results.toList
noncomputable def f160_2K : Ex → K α := (nxK (R Pq o c n (cB (cB b160)) (kend Pq o c n w rs160 k)) (kend Pq o c n w rs160 k))
noncomputable def f160_5 {α : Type} (o : α) (c : Call' α) (n : Nat) (k : AV → Heap → α) (s0 s13 s15 : AV) (h : Heap) : α :=
  pickF o s13 (.b true) s15 fun v1 => bkF o false v1 (eqiF Pq o 3 s0 (.i .i64 16) fun v2 => pickF o v1 (.b true) v2 fun v3 => k v3 h) (pickF o v1 (.b true) (.tup []) fun v4 => k v4 h)
theorem f160_5_ok : Q Pq o c (cO (cA (cB b160))) (f160_2K o c n k w) 13 = fun t _ h => f160_5 o c n k (t 0) (t 13) (t 15) h := (q_seg 13 15 (by kernel_rfl) (q_guard 15 17 (14, false) (by kernel_rfl) (by kernel_rfl) (by kernel_rfl) rfl)).tk
noncomputable def f160_4 (s0 s9 s11 : AV) (h : Heap) : α :=
  pickF o s9 (.b true) s11 fun v5 => bkF o false v5 (eqiF Pq o 3 s0 (.i .i64 15) fun v6 => f160_5 o c n k s0 v5 v6 h) (f160_5 o c n k s0 v5 (.tup []) h)
theorem f160_4_ok : Q Pq o c (cO (cA (cB b160))) (f160_2K o c n k w) 9 = fun t _ h => f160_4 o c n k (t 0) (t 9) (t 11) h := (q_seg 9 11 (by kernel_rfl) (q_guard 11 13 (10, false) (by kernel_rfl) (by kernel_rfl) (by kernel_rfl) (f160_5_ok o c n k w))).tk
noncomputable def f160_3 (s0 s5 s7 : AV) (h : Heap) : α :=
  pickF o s5 (.b true) s7 fun v7 => bkF o false v7 (eqiF Pq o 3 s0 (.i .i64 14) fun v8 => f160_4 o c n k s0 v7 v8 h) (f160_4 o c n k s0 v7 (.tup []) h)
theorem f160_3_ok : Q Pq o c (cO (cA (cB b160))) (f160_2K o c n k w) 5 = fun t _ h => f160_3 o c n k (t 0) (t 5) (t 7) h := (q_seg 5 7 (by kernel_rfl) (q_guard 7 9 (6, false) (by kernel_rfl) (by kernel_rfl) (by kernel_rfl) (f160_4_ok o c n k w))).tk
noncomputable def f160_1 (s0 : AV) (h : Heap) : α :=
  eqiF Pq o 3 s0 (.i .i64 9) fun v9 => bkF o false v9 (eqiF Pq o 3 s0 (.i .i64 13) fun v10 => f160_3 o c n k s0 v9 v10 h) (f160_3 o c n k s0 v9 (.tup []) h)
theorem f160_1_ok : R Pq o c n (cB b160) (kend Pq o c n w rs160 k) = fun t _ h => f160_1 o c n k (t 0) h := (kseq rfl (r_start 3 (by kernel_rfl) (q_guard 3 5 (2, false) (by kernel_rfl) (by kernel_rfl) (by kernel_rfl) (f160_3_ok o c n k w)))).tk
noncomputable def f160 (a0 : AV) (h : Heap) : α :=
  f160_1 o c n k a0 h
theorem f160_ok : R Pq o c n b160 (kend Pq o c n w rs160 k) = fun t _ h => f160 o c n k (t 0) h := (kseq (f160_1_ok o c n k w) rfl).tk
theorem f160_good : Good Pq (cfg mm) 160 (entF Pq (cfg mm) 160 1 fun α => f160) := entG b160 rs160 21 fun _ => f160_ok
noncomputable def b161 := bdy Tryz.f161
noncomputable def rs161 := Tryz.f161.results.toList
noncomputable def f161_2K : Ex → K α := (nxK (R Pq o c n (cB (cB b161)) (kend Pq o c n w rs161 k)) (kend Pq o c n w rs161 k))
noncomputable def f161_5K (lp0 : AVs (Heap → α) 4) : Ex → K α := (nxK (fun t _ h => lp0 (t 0) (t 1) (t 2) (t 7) h) (blockK (cI (cB (cA (cB b161)))) (f161_2K o c n k w)))
noncomputable def f161_7 {α : Type} (o : α) (c : Call' α) (n : Nat) (k : AV → Heap → α) (lp0 : AVs (Heap → α) 4) (s0 s1 s2 s7 : AV) (h : Heap) : α :=
  addF Pq o 3 s7 (.i .i64 1) fun v1 => lp0 s0 s1 s2 v1 h
theorem f161_7_ok (lp0 : AVs (Heap → α) 4) : R Pq o c n (cB (cB (cA (cA (cB (cA (cB b161))))))) (f161_5K o c n k w lp0) = fun t _ h => f161_7 o c n k lp0 (t 0) (t 1) (t 2) (t 7) h := by kernel_rfl
noncomputable def f161_8K (lp0 : AVs (Heap → α) 4) : Ex → K α := (nxK (fun t _ h => f161_7 o c n k lp0 (t 0) (t 1) (t 2) (t 7) h) (f161_5K o c n k w lp0))
noncomputable def f161_12 (lp0 : AVs (Heap → α) 4) (s0 s1 s2 s7 s76 : AV) (h : Heap) : α :=
  ifF o s76 (k (.b false) h) (f161_7 o c n k lp0 s0 s1 s2 s7 h)
theorem f161_12_ok (lp0 : AVs (Heap → α) 4) : R Pq o c n (cB (cB (cB (cB (cA (cA (cB (cA (cA (cB (cA (cB b161)))))))))))) (blockK (cI (cA (cB (cA (cA (cB (cA (cB b161)))))))) (f161_8K o c n k w lp0)) = fun t _ h => f161_12 o c n k lp0 (t 0) (t 1) (t 2) (t 7) (t 76) h := by kernel_rfl
noncomputable def f161_13K (lp0 : AVs (Heap → α) 4) : Ex → K α := (nxK (fun t _ h => f161_12 o c n k lp0 (t 0) (t 1) (t 2) (t 7) (t 76) h) (blockK (cI (cA (cB (cA (cA (cB (cA (cB b161)))))))) (f161_8K o c n k w lp0)))
noncomputable def f161_14 (lp0 : AVs (Heap → α) 4) (s0 s1 s2 s7 s8 s61 s67 : AV) (h : Heap) : α :=
  pickF o s61 (.b true) s67 fun v2 => bkF o false v2 (faF o 7 s8 fun v3 => load1F o h v3 fun v4 => addF Pq o 3 s1 (.i .i64 1) fun v5 => c 161 [v4, v5, (.b false)] h fun v6 h => pk k v6 h <| notF o v6 fun v7 => pickF o v2 (.b true) v7 fun v8 => f161_12 o c n k lp0 s0 s1 s2 s7 v8 h) (pickF o v2 (.b true) (.tup []) fun v9 => f161_12 o c n k lp0 s0 s1 s2 s7 v9 h)
theorem f161_14_ok (lp0 : AVs (Heap → α) 4) : Q Pq o c (cO (cA (cB (cB (cB (cA (cA (cB (cA (cA (cB (cA (cB b161))))))))))))) (f161_13K o c n k w lp0) 13 = fun t _ h => f161_14 o c n k lp0 (t 0) (t 1) (t 2) (t 7) (t 8) (t 61) (t 67) h := (q_seg 13 15 (by kernel_rfl) (q_guard 15 21 (14, false) (by kernel_rfl) (by kernel_rfl) (by kernel_rfl) rfl)).tk
noncomputable def f161_11 (lp0 : AVs (Heap → α) 4) (s0 s1 s2 s7 s8 : AV) (h : Heap) : α :=
  faF o 5 s8 fun v10 => load1F o h v10 fun v11 => addF Pq o 3 s1 (.i .i64 1) fun v12 => c 161 [v11, v12, (.b false)] h fun v13 h => pk k v13 h <| notF o v13 fun v14 => bkF o false v14 (faF o 6 s8 fun v15 => load1F o h v15 fun v16 => addF Pq o 3 s1 (.i .i64 1) fun v17 => c 161 [v16, v17, (.b false)] h fun v18 h => pk k v18 h <| notF o v18 fun v19 => f161_14 o c n k lp0 s0 s1 s2 s7 s8 v14 v19 h) (f161_14 o c n k lp0 s0 s1 s2 s7 s8 v14 (.tup []) h)
theorem f161_11_ok (lp0 : AVs (Heap → α) 4) : R Pq o c n (cB (cB (cB (cA (cA (cB (cA (cA (cB (cA (cB b161))))))))))) (blockK (cI (cA (cB (cA (cA (cB (cA (cB b161)))))))) (f161_8K o c n k w lp0)) = fun t _ h => f161_11 o c n k lp0 (t 0) (t 1) (t 2) (t 7) (t 8) h := (kseq (f161_12_ok o c n k w lp0) (r_start 7 (by kernel_rfl) (q_guard 7 13 (6, false) (by kernel_rfl) (by kernel_rfl) (by kernel_rfl) (f161_14_ok o c n k w lp0)))).tk
noncomputable def f161_15K (lp0 : AVs (Heap → α) 4) : Ex → K α := (nxK (fun t _ h => f161_11 o c n k lp0 (t 0) (t 1) (t 2) (t 7) (t 8) h) (blockK (cI (cA (cB (cA (cA (cB (cA (cB b161)))))))) (f161_8K o c n k w lp0)))
noncomputable def f161_17 (lp0 : AVs (Heap → α) 4) (m : Nat) : AVs (Heap → α) 6 :=
  Nat.rec (motive := fun _ => AVs (Heap → α) 6) (fun _ _ _ _ _ _ _ => o) (fun _ lp1 s0 s1 s2 s7 s8 s9 h => faF o 4 s8 fun v20 => load1F o h v20 fun v21 => lenF o v21 fun v22 => lssF Pq o 3 s9 v22 fun v23 => ifF o v23 (faF o 4 s8 fun v24 => load1F o h v24 fun v25 => ixF o 8 v25 s9 fun v26 => loadNF o h 8 v26 fun v27 => c 77 [v27, s1] h fun v28 h => pk k v28 h <| notF o v28 fun v29 => ifF o v29 (k (.b false) h) (addF Pq o 3 s9 (.i .i64 1) fun v30 => lp1 s0 s1 s2 s7 s8 v30 h)) (f161_11 o c n k lp0 s0 s1 s2 s7 s8 h)) m
theorem f161_17_ok (lp0 : AVs (Heap → α) 4) : R Pq o c n (cA (cB (cA (cB (cB (cA (cA (cB (cA (cA (cB (cA (cB b161))))))))))))) (blockK (cI (cB (cA (cB (cB (cA (cA (cB (cA (cA (cB (cA (cB b161))))))))))))) (f161_15K o c n k w lp0)) = fun t _ h => f161_17 o c n k lp0 n (t 0) (t 1) (t 2) (t 7) (t 8) (t 9) h :=
  c_loop (F := fun m t _ h => f161_17 o c n k lp0 m (t 0) (t 1) (t 2) (t 7) (t 8) (t 9) h) (by kernel_rfl) (by kernel_rfl) fun m => by kernel_rfl
noncomputable def f161_16 (lp0 : AVs (Heap → α) 4) (s0 s1 s2 s7 s8 s9 : AV) (h : Heap) : α :=
  f161_17 o c n k lp0 n s0 s1 s2 s7 s8 s9 h
theorem f161_16_ok (lp0 : AVs (Heap → α) 4) : R Pq o c n (cB (cA (cB (cB (cA (cA (cB (cA (cA (cB (cA (cB b161)))))))))))) (f161_15K o c n k w lp0) = fun t _ h => f161_16 o c n k lp0 (t 0) (t 1) (t 2) (t 7) (t 8) (t 9) h := (kblk (f161_17_ok o c n k w lp0)).tk
noncomputable def f161_10 (lp0 : AVs (Heap → α) 4) (s0 s1 s2 s7 s8 : AV) (h : Heap) : α :=
  f161_16 o c n k lp0 s0 s1 s2 s7 s8 (.i .i64 0) h
theorem f161_10_ok (lp0 : AVs (Heap → α) 4) : R Pq o c n (cB (cB (cA (cA (cB (cA (cA (cB (cA (cB b161)))))))))) (blockK (cI (cA (cB (cA (cA (cB (cA (cB b161)))))))) (f161_8K o c n k w lp0)) = fun t _ h => f161_10 o c n k lp0 (t 0) (t 1) (t 2) (t 7) (t 8) h := (kseq (f161_11_ok o c n k w lp0) (kseq (f161_16_ok o c n k w lp0) rfl)).tk
noncomputable def f161_18K (lp0 : AVs (Heap → α) 4) : Ex → K α := (nxK (fun t _ h => f161_10 o c n k lp0 (t 0) (t 1) (t 2) (t 7) (t 8) h) (blockK (cI (cA (cB (cA (cA (cB (cA (cB b161)))))))) (f161_8K o c n k w lp0)))
noncomputable def f161_19 (lp0 : AVs (Heap → α) 4) (s0 s1 s2 s7 s8 s39 : AV) (h : Heap) : α :=
  ifF o s39 (k (.b false) h) (f161_10 o c n k lp0 s0 s1 s2 s7 s8 h)
theorem f161_19_ok (lp0 : AVs (Heap → α) 4) : R Pq o c n (cB (cA (cB (cA (cA (cB (cA (cA (cB (cA (cB b161))))))))))) (f161_18K o c n k w lp0) = fun t _ h => f161_19 o c n k lp0 (t 0) (t 1) (t 2) (t 7) (t 8) (t 39) h := by kernel_rfl
noncomputable def f161_20K (lp0 : AVs (Heap → α) 4) : Ex → K α := (nxK (fun t _ h => f161_19 o c n k lp0 (t 0) (t 1) (t 2) (t 7) (t 8) (t 39) h) (f161_18K o c n k w lp0))
noncomputable def f161_25 (lp0 : AVs (Heap → α) 4) (s0 s1 s2 s7 s8 s22 s33 : AV) (h : Heap) : α :=
  pickF o s22 (.b true) s33 fun v31 => bkF o false v31 (loadNF o h 9 s8 fun v32 => c 227 [v32] h fun v33 h => pk k v33 h <| notF o v33 fun v34 => pickF o v31 (.b true) v34 fun v35 => f161_19 o c n k lp0 s0 s1 s2 s7 s8 v35 h) (pickF o v31 (.b true) (.tup []) fun v36 => f161_19 o c n k lp0 s0 s1 s2 s7 s8 v36 h)
theorem f161_25_ok (lp0 : AVs (Heap → α) 4) : Q Pq o c (cO (cA (cA (cB (cA (cA (cB (cA (cA (cB (cA (cB b161)))))))))))) (f161_20K o c n k w lp0) 14 = fun t _ h => f161_25 o c n k lp0 (t 0) (t 1) (t 2) (t 7) (t 8) (t 22) (t 33) h := (q_seg 14 16 (by kernel_rfl) (q_guard 16 19 (15, false) (by kernel_rfl) (by kernel_rfl) (by kernel_rfl) rfl)).tk
noncomputable def f161_24 (lp0 : AVs (Heap → α) 4) (s0 s1 s2 s7 s8 s22 s26 s32 : AV) (h : Heap) : α :=
  bkF o false s22 (pickF o s26 s32 (.b false) fun v37 => f161_25 o c n k lp0 s0 s1 s2 s7 s8 s22 v37 h) (f161_25 o c n k lp0 s0 s1 s2 s7 s8 s22 (.tup []) h)
theorem f161_24_ok (lp0 : AVs (Heap → α) 4) : Q Pq o c (cO (cA (cA (cB (cA (cA (cB (cA (cA (cB (cA (cB b161)))))))))))) (f161_20K o c n k w lp0) 13 = fun t _ h => f161_24 o c n k lp0 (t 0) (t 1) (t 2) (t 7) (t 8) (t 22) (t 26) (t 32) h := (q_seg 13 13 (by kernel_rfl) (q_guard 13 14 (2, false) (by kernel_rfl) (by kernel_rfl) (by kernel_rfl) (f161_25_ok o c n k w lp0))).tk
noncomputable def f161_23 (lp0 : AVs (Heap → α) 4) (s0 s1 s2 s7 s8 s22 s26 s29 s31 : AV) (h : Heap) : α :=
  bkF o true s26 (pickF o s29 (.b true) s31 fun v38 => f161_24 o c n k lp0 s0 s1 s2 s7 s8 s22 s26 v38 h) (f161_24 o c n k lp0 s0 s1 s2 s7 s8 s22 s26 (.tup []) h)
theorem f161_23_ok (lp0 : AVs (Heap → α) 4) : Q Pq o c (cO (cA (cA (cB (cA (cA (cB (cA (cA (cB (cA (cB b161)))))))))))) (f161_20K o c n k w lp0) 12 = fun t _ h => f161_23 o c n k lp0 (t 0) (t 1) (t 2) (t 7) (t 8) (t 22) (t 26) (t 29) (t 31) h := (q_seg 12 12 (by kernel_rfl) (q_guard 12 13 (6, true) (by kernel_rfl) (by kernel_rfl) (by kernel_rfl) (f161_24_ok o c n k w lp0))).tk
noncomputable def f161_22 (lp0 : AVs (Heap → α) 4) (s0 s1 s2 s7 s8 s22 s26 s29 : AV) (h : Heap) : α :=
  bkF o false s29 (gtrF Pq o 3 s7 (.i .i64 0) fun v39 => f161_23 o c n k lp0 s0 s1 s2 s7 s8 s22 s26 s29 v39 h) (f161_23 o c n k lp0 s0 s1 s2 s7 s8 s22 s26 s29 (.tup []) h)
theorem f161_22_ok (lp0 : AVs (Heap → α) 4) : Q Pq o c (cO (cA (cA (cB (cA (cA (cB (cA (cA (cB (cA (cB b161)))))))))))) (f161_20K o c n k w lp0) 10 = fun t _ h => f161_22 o c n k lp0 (t 0) (t 1) (t 2) (t 7) (t 8) (t 22) (t 26) (t 29) h := (q_seg 10 10 (by kernel_rfl) (q_guard 10 12 (9, false) (by kernel_rfl) (by kernel_rfl) (by kernel_rfl) (f161_23_ok o c n k w lp0))).tk
noncomputable def f161_21 (lp0 : AVs (Heap → α) 4) (s0 s1 s2 s7 s8 s22 s26 : AV) (h : Heap) : α :=
  bkF o true s26 (notF o s2 fun v40 => f161_22 o c n k lp0 s0 s1 s2 s7 s8 s22 s26 v40 h) (f161_22 o c n k lp0 s0 s1 s2 s7 s8 s22 s26 (.tup []) h)
theorem f161_21_ok (lp0 : AVs (Heap → α) 4) : Q Pq o c (cO (cA (cA (cB (cA (cA (cB (cA (cA (cB (cA (cB b161)))))))))))) (f161_20K o c n k w lp0) 7 = fun t _ h => f161_21 o c n k lp0 (t 0) (t 1) (t 2) (t 7) (t 8) (t 22) (t 26) h := (q_seg 7 7 (by kernel_rfl) (q_guard 7 10 (6, true) (by kernel_rfl) (by kernel_rfl) (by kernel_rfl) (f161_22_ok o c n k w lp0))).tk
noncomputable def f161_9 (lp0 : AVs (Heap → α) 4) (s0 s1 s2 s7 s8 : AV) (h : Heap) : α :=
  gtrF Pq o 3 s1 (.i .i64 40) fun v41 => bkF o false v41 (faF o 0 s8 fun v42 => load1F o h v42 fun v43 => eqiF Pq o 3 v43 (.i .i64 11) fun v44 => f161_21 o c n k lp0 s0 s1 s2 s7 s8 v41 v44 h) (f161_21 o c n k lp0 s0 s1 s2 s7 s8 v41 (.tup []) h)
theorem f161_9_ok (lp0 : AVs (Heap → α) 4) : R Pq o c n (cB (cA (cA (cB (cA (cA (cB (cA (cB b161))))))))) (blockK (cI (cA (cB (cA (cA (cB (cA (cB b161)))))))) (f161_8K o c n k w lp0)) = fun t _ h => f161_9 o c n k lp0 (t 0) (t 1) (t 2) (t 7) (t 8) h := (kseq (f161_10_ok o c n k w lp0) (kseq (f161_19_ok o c n k w lp0) (r_start 3 (by kernel_rfl) (q_guard 3 7 (2, false) (by kernel_rfl) (by kernel_rfl) (by kernel_rfl) (f161_21_ok o c n k w lp0))))).tk
noncomputable def f161_6 (lp0 : AVs (Heap → α) 4) (s0 s1 s2 s7 : AV) (h : Heap) : α :=
  ixF o 9 s0 s7 fun v45 => loadNF o h 9 v45 fun v46 => newF h h.next 9 [(.i .i64 0), (.i .i32 0), (.s 0 0), (.s 0 0), .nsl, .nsl, .nsl, .nsl, (.i .i64 0)] fun v47 h => storeF o h 9 v47 v46 fun h => f161_9 o c n k lp0 s0 s1 s2 s7 v47 h
theorem f161_6_ok (lp0 : AVs (Heap → α) 4) : R Pq o c n (cB (cA (cA (cB (cA (cB b161)))))) (f161_5K o c n k w lp0) = fun t _ h => f161_6 o c n k lp0 (t 0) (t 1) (t 2) (t 7) h := (kseq (f161_7_ok o c n k w lp0) (kblk (kseq (f161_9_ok o c n k w lp0) rfl))).tk
noncomputable def f161_4 (m : Nat) : AVs (Heap → α) 4 :=
  Nat.rec (motive := fun _ => AVs (Heap → α) 4) (fun _ _ _ _ _ => o) (fun _ lp0 s0 s1 s2 s7 h => lenF o s0 fun v48 => lssF Pq o 3 s7 v48 fun v49 => ifF o v49 (f161_6 o c n k lp0 s0 s1 s2 s7 h) (k (.b true) h)) m
theorem f161_4_ok : R Pq o c n (cA (cB (cA (cB b161)))) (blockK (cI (cB (cA (cB b161)))) (f161_2K o c n k w)) = fun t _ h => f161_4 o c n k n (t 0) (t 1) (t 2) (t 7) h :=
  c_loop (F := fun m t _ h => f161_4 o c n k m (t 0) (t 1) (t 2) (t 7) h) (by kernel_rfl) (by kernel_rfl) fun m => (kseq (f161_6_ok o c n k w (f161_4 o c n k m)) rfl).tk
noncomputable def f161_3 (s0 s1 s2 s7 : AV) (h : Heap) : α :=
  f161_4 o c n k n s0 s1 s2 s7 h
theorem f161_3_ok : R Pq o c n (cB (cA (cB b161))) (f161_2K o c n k w) = fun t _ h => f161_3 o c n k (t 0) (t 1) (t 2) (t 7) h := (kblk (f161_4_ok o c n k w)).tk
noncomputable def f161_1 (s0 s1 s2 : AV) (h : Heap) : α :=
  f161_3 o c n k s0 s1 s2 (.i .i64 0) h
theorem f161_1_ok : R Pq o c n (cB b161) (kend Pq o c n w rs161 k) = fun t _ h => f161_1 o c n k (t 0) (t 1) (t 2) h := (kseq rfl (kseq (f161_3_ok o c n k w) rfl)).tk
noncomputable def f161 (a0 a1 a2 : AV) (h : Heap) : α :=
  f161_1 o c n k a0 a1 a2 h
theorem f161_ok : R Pq o c n b161 (kend Pq o c n w rs161 k) = fun t _ h => f161 o c n k (t 0) (t 1) (t 2) h := (kseq (f161_1_ok o c n k w) rfl).tk
theorem f161_good : Good Pq (cfg mm) 161 (entF Pq (cfg mm) 161 3 fun α => f161) := entG b161 rs161 77 fun _ => f161_ok
noncomputable def b164 := bdy Tryz.f164
noncomputable def rs164 := Tryz.f164.results.toList
noncomputable def f164_2K : Ex → K α := (nxK (R Pq o c n (cB (cB b164)) (kend Pq o c n w rs164 k)) (kend Pq o c n w rs164 k))
noncomputable def f164_1 {α : Type} (o : α) (c : Call' α) (n : Nat) (k : AV → Heap → α) (s0 : AV) (h : Heap) : α :=
  c 235 [s0, (.fn (.func 236) [] [])] h fun v1 h => pk k v1 h <| bkF o true v1 (nesF Pq o 9 s0 (.s 6 113723913172051) fun v2 => pickF o v1 v2 (.b false) fun v3 => k v3 h) (pickF o v1 (.tup []) (.b false) fun v4 => k v4 h)
theorem f164_1_ok : R Pq o c n (cB b164) (kend Pq o c n w rs164 k) = fun t _ h => f164_1 o c n k (t 0) h := (kseq rfl (r_start 3 (by kernel_rfl) (q_guard 3 5 (2, true) (by kernel_rfl) (by kernel_rfl) (by kernel_rfl) rfl))).tk
noncomputable def f164 (a0 : AV) (h : Heap) : α :=
  f164_1 o c n k a0 h
theorem f164_ok : R Pq o c n b164 (kend Pq o c n w rs164 k) = fun t _ h => f164 o c n k (t 0) h := (kseq (f164_1_ok o c n k w) rfl).tk
theorem f164_good : Good Pq (cfg mm) 164 (entF Pq (cfg mm) 164 1 fun α => f164) := entG b164 rs164 9 fun _ => f164_ok
noncomputable def b165 := bdy Tryz.f165
noncomputable def rs165 := Tryz.f165.results.toList
noncomputable def f165_3K : Ex → K α := (nxK (R Pq o c n (cB (cB (cB b165))) (kend Pq o c n w rs165 k)) (kend Pq o c n w rs165 k))
noncomputable def f165_5 {α : Type} (o : α) (c : Call' α) (n : Nat) (k : AV → Heap → α) (m : Nat) : AVs (Heap → α) 4 :=
  Nat.rec (motive := fun _ => AVs (Heap → α) 4) (fun _ _ _ _ _ => o) (fun _ lp0 s3 s6 s7 s8 h => lssF Pq o 3 s8 s7 fun v1 => ifF o v1 (ixF o 8 s6 s8 fun v2 => loadNF o h 8 v2 fun v3 => newF h h.next 8 [(.i .i64 0), (.i .i32 0), (.s 0 0), (.s 0 0), (.s 0 0), .nsl, (.s 0 0), (.i .i64 0)] fun v4 h => storeF o h 8 v4 v3 fun h => loadNF o h 8 v4 fun v5 => c 237 [v5] h fun v6 h => pk k v6 h <| addF Pq o 3 s3 v6 fun v7 => addF Pq o 3 s8 (.i .i64 1) fun v8 => lp0 v7 s6 s7 v8 h) (k s3 h)) m
theorem f165_5_ok : R Pq o c n (cA (cB (cA (cB (cB b165))))) (blockK (cI (cB (cA (cB (cB b165))))) (f165_3K o c n k w)) = fun t _ h => f165_5 o c n k n (t 3) (t 6) (t 7) (t 8) h :=
  c_loop (F := fun m t _ h => f165_5 o c n k m (t 3) (t 6) (t 7) (t 8) h) (by kernel_rfl) (by kernel_rfl) fun m => by kernel_rfl
noncomputable def f165_4 (s3 s6 s7 s8 : AV) (h : Heap) : α :=
  f165_5 o c n k n s3 s6 s7 s8 h
theorem f165_4_ok : R Pq o c n (cB (cA (cB (cB b165)))) (f165_3K o c n k w) = fun t _ h => f165_4 o c n k (t 3) (t 6) (t 7) (t 8) h := (kblk (f165_5_ok o c n k w)).tk
noncomputable def f165_2 (s0 s3 : AV) (h : Heap) : α :=
  lenF o s0 fun v9 => f165_4 o c n k s3 s0 v9 (.i .i64 0) h
theorem f165_2_ok : R Pq o c n (cB (cB b165)) (kend Pq o c n w rs165 k) = fun t _ h => f165_2 o c n k (t 0) (t 3) h := (kseq rfl (kseq (f165_4_ok o c n k w) rfl)).tk
noncomputable def f165_1 (s0 : AV) (h : Heap) : α :=
  f165_2 o c n k s0 (.i .i64 0) h
theorem f165_1_ok : R Pq o c n (cB b165) (kend Pq o c n w rs165 k) = fun t _ h => f165_1 o c n k (t 0) h := (kseq (f165_2_ok o c n k w) rfl).tk
noncomputable def f165 (a0 : AV) (h : Heap) : α :=
  f165_1 o c n k a0 h
theorem f165_ok : R Pq o c n b165 (kend Pq o c n w rs165 k) = fun t _ h => f165 o c n k (t 0) h := (kseq (f165_1_ok o c n k w) rfl).tk
theorem f165_good : Good Pq (cfg mm) 165 (entF Pq (cfg mm) 165 1 fun α => f165) := entG b165 rs165 18 fun _ => f165_ok
noncomputable def b166 := bdy Tryz.f166
noncomputable def rs166 := Tryz.f166.results.toList
noncomputable def f166_3K : Ex → K α := (nxK (R Pq o c n (cB (cB (cB b166))) (kend Pq o c n w rs166 k)) (kend Pq o c n w rs166 k))
noncomputable def f166_6K (lp0 : AVs (Heap → α) 4) : Ex → K α := (nxK (fun t _ h => lp0 (t 3) (t 6) (t 7) (t 8) h) (blockK (cI (cB (cA (cB (cB b166))))) (f166_3K o c n k w)))
noncomputable def f166_9K (lp0 : AVs (Heap → α) 4) : Ex → K α := (nxK (R Pq o c n (cB (cB (cB (cA (cA (cB (cA (cB (cB b166))))))))) (f166_6K o c n k w lp0)) (f166_6K o c n k w lp0))
noncomputable def f166_14 {α : Type} (o : α) (c : Call' α) (n : Nat) (k : AV → Heap → α) (lp0 : AVs (Heap → α) 4) (base : Nat) (s6 s7 s8 s25 s28 : AV) (h : Heap) : α :=
  addF Pq o 3 s25 s28 fun v1 => hb h.shut fun h => addF Pq o 3 s8 (.i .i64 1) fun v2 => lp0 v1 s6 s7 v2 h
theorem f166_14_ok (lp0 : AVs (Heap → α) 4) (base : Nat) : QD Pq o c (cO (cB (cA (cA (cB (cB (cA (cA (cB (cA (cB (cB b166)))))))))))) base ((blockK (cI (cA (cB (cB (cA (cA (cB (cA (cB (cB b166)))))))))) (f166_9K o c n k w lp0))) 17 = fun t _ h => f166_14 o c n k lp0 base (t 6) (t 7) (t 8) (t 25) (t 28) h := by kernel_rfl
noncomputable def f166_13 (lp0 : AVs (Heap → α) 4) (base : Nat) (s5 s6 s7 s8 s21 s24 : AV) (h : Heap) : α :=
  addF Pq o 3 s21 s24 fun v3 => faF o 7 s5 fun v4 => rootF o v4 s5 <| load1F o (h.look 16384) v4 fun v5 => callD o c [] 166 [v5] (h.look 0) fun v6 h => pnF v6 (fun x => hb h.shut fun hd => k x.pn hd) <| f166_14 o c n k lp0 base s6 s7 s8 v3 v6 h
theorem f166_13_ok (lp0 : AVs (Heap → α) 4) (base : Nat) : QD Pq o c (cO (cB (cA (cA (cB (cB (cA (cA (cB (cA (cB (cB b166)))))))))))) base ((blockK (cI (cA (cB (cB (cA (cA (cB (cA (cB (cB b166)))))))))) (f166_9K o c n k w lp0))) 13 = fun t _ h => f166_13 o c n k lp0 base (t 5) (t 6) (t 7) (t 8) (t 21) (t 24) h := (qd_seg 13 17 (by kernel_rfl) (f166_14_ok o c n k w lp0 base)).tk
noncomputable def f166_12 (lp0 : AVs (Heap → α) 4) (base : Nat) (s5 s6 s7 s8 s17 s20 : AV) (h : Heap) : α :=
  addF Pq o 3 s17 s20 fun v7 => faF o 6 s5 fun v8 => rootF o v8 s5 <| load1F o (h.look 1024) v8 fun v9 => callD o c (hidD false [(.fn (.func 166) [] []), v9] [] (sBlk s5 [])) 166 [v9] (h.look 0) fun v10 h => pnF v10 (fun x => hb h.shut fun hd => faF o 7 s5 fun v11 => rootF o v11 s5 <| load1F o (h.look 16384) v11 fun v12 => k x.pn hd) <| f166_13 o c n k lp0 base s5 s6 s7 s8 v7 v10 h
theorem f166_12_ok (lp0 : AVs (Heap → α) 4) (base : Nat) : QD Pq o c (cO (cB (cA (cA (cB (cB (cA (cA (cB (cA (cB (cB b166)))))))))))) base ((blockK (cI (cA (cB (cB (cA (cA (cB (cA (cB (cB b166)))))))))) (f166_9K o c n k w lp0))) 9 = fun t _ h => f166_12 o c n k lp0 base (t 5) (t 6) (t 7) (t 8) (t 17) (t 20) h := (qd_seg 9 13 (by kernel_rfl) (f166_13_ok o c n k w lp0 base)).tk
noncomputable def f166_11 (lp0 : AVs (Heap → α) 4) (base : Nat) (s5 s6 s7 s8 s13 s16 : AV) (h : Heap) : α :=
  addF Pq o 3 s13 s16 fun v13 => faF o 5 s5 fun v14 => rootF o v14 s5 <| load1F o (h.look 64) v14 fun v15 => callD o c (hidD false [(.fn (.func 166) [] []), v15] [] (sBlk s5 (sBlk s5 []))) 166 [v15] (h.look 0) fun v16 h => pnF v16 (fun x => hb h.shut fun hd => faF o 6 s5 fun v17 => rootF o v17 s5 <| load1F o (h.look 1024) v17 fun v18 => faF o 7 s5 fun v19 => rootF o v19 s5 <| load1F o (h.look 16384) v19 fun v20 => k x.pn hd) <| f166_12 o c n k lp0 base s5 s6 s7 s8 v13 v16 h
theorem f166_11_ok (lp0 : AVs (Heap → α) 4) (base : Nat) : QD Pq o c (cO (cB (cA (cA (cB (cB (cA (cA (cB (cA (cB (cB b166)))))))))))) base ((blockK (cI (cA (cB (cB (cA (cA (cB (cA (cB (cB b166)))))))))) (f166_9K o c n k w lp0))) 5 = fun t _ h => f166_11 o c n k lp0 base (t 5) (t 6) (t 7) (t 8) (t 13) (t 16) h := (qd_seg 5 9 (by kernel_rfl) (f166_12_ok o c n k w lp0 base)).tk
noncomputable def f166_10 (lp0 : AVs (Heap → α) 4) (s3 s5 s6 s7 s8 : AV) (h : Heap) : α :=
  dreg o h 19 fun base h => addF Pq o 3 s3 (.i .i64 1) fun v21 => faF o 4 s5 fun v22 => rootF o v22 s5 <| load1F o (h.look 4) v22 fun v23 => callD o c (hidD false [(.fn (.func 165) [] []), v23] [] (sBlk s5 (sBlk s5 (sBlk s5 [])))) 165 [v23] (h.look 0) fun v24 h => pnF v24 (fun x => hb h.shut fun hd => faF o 5 s5 fun v25 => rootF o v25 s5 <| load1F o (h.look 64) v25 fun v26 => faF o 6 s5 fun v27 => rootF o v27 s5 <| load1F o (h.look 1024) v27 fun v28 => faF o 7 s5 fun v29 => rootF o v29 s5 <| load1F o (h.look 16384) v29 fun v30 => k x.pn hd) <| f166_11 o c n k lp0 base s5 s6 s7 s8 v21 v24 h
theorem f166_10_ok (lp0 : AVs (Heap → α) 4) : R Pq o c n (cB (cA (cA (cB (cB (cA (cA (cB (cA (cB (cB b166))))))))))) (blockK (cI (cA (cB (cB (cA (cA (cB (cA (cB (cB b166)))))))))) (f166_9K o c n k w lp0)) = fun t _ h => f166_10 o c n k lp0 (t 3) (t 5) (t 6) (t 7) (t 8) h := (r_startD 5 (by kernel_rfl) (by kernel_rfl) (X := fun base => fun t _ h => f166_11 o c n k lp0 base (t 5) (t 6) (t 7) (t 8) (t 13) (t 16) h) (fun base => f166_11_ok o c n k w lp0 base)).tk
noncomputable def f166_8 (lp0 : AVs (Heap → α) 4) (s3 s6 s7 s8 : AV) (h : Heap) : α :=
  ixF o 9 s6 s8 fun v31 => loadNF o h 9 v31 fun v32 => newF h h.next 9 [(.i .i64 0), (.i .i32 0), (.s 0 0), (.s 0 0), .nsl, .nsl, .nsl, .nsl, (.i .i64 0)] fun v33 h => storeF o h 9 v33 v32 fun h => f166_10 o c n k lp0 s3 v33 s6 s7 s8 h
theorem f166_8_ok (lp0 : AVs (Heap → α) 4) : R Pq o c n (cB (cB (cA (cA (cB (cA (cB (cB b166)))))))) (f166_6K o c n k w lp0) = fun t _ h => f166_8 o c n k lp0 (t 3) (t 6) (t 7) (t 8) h := (kseq rfl (kblk (kseq (f166_10_ok o c n k w lp0) rfl))).tk
noncomputable def f166_7 (lp0 : AVs (Heap → α) 4) (s3 s6 s7 s8 s9 : AV) (h : Heap) : α :=
  ifF o s9 (f166_8 o c n k lp0 s3 s6 s7 s8 h) (k s3 h)
theorem f166_7_ok (lp0 : AVs (Heap → α) 4) : R Pq o c n (cB (cA (cA (cB (cA (cB (cB b166))))))) (f166_6K o c n k w lp0) = fun t _ h => f166_7 o c n k lp0 (t 3) (t 6) (t 7) (t 8) (t 9) h := (kseq (f166_8_ok o c n k w lp0) rfl).tk
noncomputable def f166_5 (m : Nat) : AVs (Heap → α) 4 :=
  Nat.rec (motive := fun _ => AVs (Heap → α) 4) (fun _ _ _ _ _ => o) (fun _ lp0 s3 s6 s7 s8 h => lssF Pq o 3 s8 s7 fun v34 => f166_7 o c n k lp0 s3 s6 s7 s8 v34 h) m
theorem f166_5_ok : R Pq o c n (cA (cB (cA (cB (cB b166))))) (blockK (cI (cB (cA (cB (cB b166))))) (f166_3K o c n k w)) = fun t _ h => f166_5 o c n k n (t 3) (t 6) (t 7) (t 8) h :=
  c_loop (F := fun m t _ h => f166_5 o c n k m (t 3) (t 6) (t 7) (t 8) h) (by kernel_rfl) (by kernel_rfl) fun m => (kseq (f166_7_ok o c n k w (f166_5 o c n k m)) rfl).tk
noncomputable def f166_4 (s3 s6 s7 s8 : AV) (h : Heap) : α :=
  f166_5 o c n k n s3 s6 s7 s8 h
theorem f166_4_ok : R Pq o c n (cB (cA (cB (cB b166)))) (f166_3K o c n k w) = fun t _ h => f166_4 o c n k (t 3) (t 6) (t 7) (t 8) h := (kblk (f166_5_ok o c n k w)).tk
noncomputable def f166_2 (s0 s3 : AV) (h : Heap) : α :=
  lenF o s0 fun v35 => f166_4 o c n k s3 s0 v35 (.i .i64 0) h
theorem f166_2_ok : R Pq o c n (cB (cB b166)) (kend Pq o c n w rs166 k) = fun t _ h => f166_2 o c n k (t 0) (t 3) h := (kseq rfl (kseq (f166_4_ok o c n k w) rfl)).tk
noncomputable def f166_1 (s0 : AV) (h : Heap) : α :=
  f166_2 o c n k s0 (.i .i64 0) h
theorem f166_1_ok : R Pq o c n (cB b166) (kend Pq o c n w rs166 k) = fun t _ h => f166_1 o c n k (t 0) h := (kseq (f166_2_ok o c n k w) rfl).tk
noncomputable def f166 (a0 : AV) (h : Heap) : α :=
  f166_1 o c n k a0 h
theorem f166_ok : R Pq o c n b166 (kend Pq o c n w rs166 k) = fun t _ h => f166 o c n k (t 0) h := (kseq (f166_1_ok o c n k w) rfl).tk
theorem f166_good : Good Pq (cfg mm) 166 (entF Pq (cfg mm) 166 1 fun α => f166) := entG b166 rs166 32 fun _ => f166_ok
noncomputable def b167 := bdy Tryz.f167
noncomputable def rs167 := Tryz.f167.results.toList
noncomputable def f167_2K : Ex → K α := (nxK (R Pq o c n (cB (cB b167)) (kend Pq o c n w rs167 k)) (kend Pq o c n w rs167 k))
noncomputable def f167_4 {α : Type} (o : α) (c : Call' α) (n : Nat) (k : AV → Heap → α) (m : Nat) : AVs (Heap → α) 4 :=
  Nat.rec (motive := fun _ => AVs (Heap → α) 4) (fun _ _ _ _ _ => o) (fun _ lp0 s0 s1 s7 s8 h => lssF Pq o 3 s8 s7 fun v1 => ifF o v1 (ixF o 4 s0 s8 fun v2 => loadNF o h 4 v2 fun v3 => cfF o s1 [v3] c h fun v4 h => pk k v4 h <| ifF o v4 (k s8 h) (addF Pq o 3 s8 (.i .i64 1) fun v5 => lp0 s0 s1 s7 v5 h)) (k (.i .i64 (-1)) h)) m
theorem f167_4_ok : R Pq o c n (cA (cB (cA (cB b167)))) (blockK (cI (cB (cA (cB b167)))) (f167_2K o c n k w)) = fun t _ h => f167_4 o c n k n (t 0) (t 1) (t 7) (t 8) h :=
  c_loop (F := fun m t _ h => f167_4 o c n k m (t 0) (t 1) (t 7) (t 8) h) (by kernel_rfl) (by kernel_rfl) fun m => by kernel_rfl
noncomputable def f167_3 (s0 s1 s7 s8 : AV) (h : Heap) : α :=
  f167_4 o c n k n s0 s1 s7 s8 h
theorem f167_3_ok : R Pq o c n (cB (cA (cB b167))) (f167_2K o c n k w) = fun t _ h => f167_3 o c n k (t 0) (t 1) (t 7) (t 8) h := (kblk (f167_4_ok o c n k w)).tk
noncomputable def f167_1 (s0 s1 : AV) (h : Heap) : α :=
  lenF o s0 fun v6 => f167_3 o c n k s0 s1 v6 (.i .i64 0) h
theorem f167_1_ok : R Pq o c n (cB b167) (kend Pq o c n w rs167 k) = fun t _ h => f167_1 o c n k (t 0) (t 1) h := (kseq rfl (kseq (f167_3_ok o c n k w) rfl)).tk
noncomputable def f167 (a0 a1 : AV) (h : Heap) : α :=
  f167_1 o c n k a0 a1 h
theorem f167_ok : R Pq o c n b167 (kend Pq o c n w rs167 k) = fun t _ h => f167 o c n k (t 0) (t 1) h := (kseq (f167_1_ok o c n k w) rfl).tk
theorem f167_good : Good Pq (cfg mm) 167 (entF Pq (cfg mm) 167 2 fun α => f167) := entG b167 rs167 19 fun _ => f167_ok
noncomputable def b168 := bdy Tryz.f168
noncomputable def rs168 := Tryz.f168.results.toList
noncomputable def f168 {α : Type} (o : α) (c : Call' α) (n : Nat) (k : AV → Heap → α) (a0 a1 : AV) (h : Heap) : α :=
  boxF o a0 h h.next fun v1 h => faF o 0 v1 fun v2 => load1F o h v2 fun v3 => load1F o h a1 fun v4 => eqsF Pq o 9 v3 v4 fun v5 => k v5 h
theorem f168_ok : R Pq o c n b168 (kend Pq o c n w rs168 k) = fun t _ h => f168 o c n k (t 0) (t 1) h := by kernel_rfl
theorem f168_good : Good Pq (cfg mm) 168 (entF Pq (cfg mm) 168 2 fun α => f168) := entG b168 rs168 8 fun _ => f168_ok
noncomputable def b169 := bdy Tryz.f169
noncomputable def rs169 := Tryz.f169.results.toList
noncomputable def f169_2K : Ex → K α := (nxK (R Pq o c n (cB (cB b169)) (kend Pq o c n w rs169 k)) (kend Pq o c n w rs169 k))
noncomputable def f169_4 {α : Type} (o : α) (c : Call' α) (n : Nat) (k : AV → Heap → α) (m : Nat) : AVs (Heap → α) 4 :=
  Nat.rec (motive := fun _ => AVs (Heap → α) 4) (fun _ _ _ _ _ => o) (fun _ lp0 s0 s1 s7 s8 h => lssF Pq o 3 s8 s7 fun v1 => ifF o v1 (ixF o 4 s0 s8 fun v2 => loadNF o h 4 v2 fun v3 => cfF o s1 [v3] c h fun v4 h => pk k v4 h <| ifF o v4 (k s8 h) (addF Pq o 3 s8 (.i .i64 1) fun v5 => lp0 s0 s1 s7 v5 h)) (k (.i .i64 (-1)) h)) m
theorem f169_4_ok : R Pq o c n (cA (cB (cA (cB b169)))) (blockK (cI (cB (cA (cB b169)))) (f169_2K o c n k w)) = fun t _ h => f169_4 o c n k n (t 0) (t 1) (t 7) (t 8) h :=
  c_loop (F := fun m t _ h => f169_4 o c n k m (t 0) (t 1) (t 7) (t 8) h) (by kernel_rfl) (by kernel_rfl) fun m => by kernel_rfl
noncomputable def f169_3 (s0 s1 s7 s8 : AV) (h : Heap) : α :=
  f169_4 o c n k n s0 s1 s7 s8 h
theorem f169_3_ok : R Pq o c n (cB (cA (cB b169))) (f169_2K o c n k w) = fun t _ h => f169_3 o c n k (t 0) (t 1) (t 7) (t 8) h := (kblk (f169_4_ok o c n k w)).tk
noncomputable def f169_1 (s0 s1 : AV) (h : Heap) : α :=
  lenF o s0 fun v6 => f169_3 o c n k s0 s1 v6 (.i .i64 0) h
theorem f169_1_ok : R Pq o c n (cB b169) (kend Pq o c n w rs169 k) = fun t _ h => f169_1 o c n k (t 0) (t 1) h := (kseq rfl (kseq (f169_3_ok o c n k w) rfl)).tk
noncomputable def f169 (a0 a1 : AV) (h : Heap) : α :=
  f169_1 o c n k a0 a1 h
theorem f169_ok : R Pq o c n b169 (kend Pq o c n w rs169 k) = fun t _ h => f169 o c n k (t 0) (t 1) h := (kseq (f169_1_ok o c n k w) rfl).tk
theorem f169_good : Good Pq (cfg mm) 169 (entF Pq (cfg mm) 169 2 fun α => f169) := entG b169 rs169 19 fun _ => f169_ok
noncomputable def b170 := bdy Tryz.f170
noncomputable def rs170 := Tryz.f170.results.toList
noncomputable def f170 {α : Type} (o : α) (c : Call' α) (n : Nat) (k : AV → Heap → α) (a0 a1 : AV) (h : Heap) : α :=
  boxF o a0 h h.next fun v1 h => loadNF o h 1 v1 fun v2 => c 238 [v2, a1] h fun v3 h => pk k v3 h <| assertA Pq o v3 34 true fun v4 => exF o v4 0 fun v5 => exF o v4 1 fun v6 => newF h h.next 4 [(.s 0 0), (.s 0 0), .nsl, .nsl] fun v7 h => storeF o h 4 v7 v5 fun h => notF o v6 fun v8 => ifF o v8 (k .nsl h) (faF o 2 v7 fun v9 => load1F o h v9 fun v10 => k v10 h)
theorem f170_ok : R Pq o c n b170 (kend Pq o c n w rs170 k) = fun t _ h => f170 o c n k (t 0) (t 1) h := by kernel_rfl
theorem f170_good : Good Pq (cfg mm) 170 (entF Pq (cfg mm) 170 2 fun α => f170) := entG b170 rs170 18 fun _ => f170_ok
noncomputable def b171 := bdy Tryz.f171
noncomputable def rs171 := Tryz.f171.results.toList
noncomputable def f171 {α : Type} (o : α) (c : Call' α) (n : Nat) (k : AV → Heap → α) (a0 a1 : AV) (h : Heap) : α :=
  boxF o a0 h h.next fun v1 h => faF o 2 v1 fun v2 => load1F o h v2 fun v3 => load1F o h a1 fun v4 => eqsF Pq o 9 v3 v4 fun v5 => k v5 h
theorem f171_ok : R Pq o c n b171 (kend Pq o c n w rs171 k) = fun t _ h => f171 o c n k (t 0) (t 1) h := by kernel_rfl
theorem f171_good : Good Pq (cfg mm) 171 (entF Pq (cfg mm) 171 2 fun α => f171) := entG b171 rs171 8 fun _ => f171_ok
noncomputable def b175 := bdy Tryz.f175
noncomputable def rs175 := Tryz.f175.results.toList
noncomputable def f175_2K : Ex → K α := (nxK (R Pq o c n (cB (cB b175)) (kend Pq o c n w rs175 k)) (kend Pq o c n w rs175 k))
noncomputable def f175_1 {α : Type} (o : α) (c : Call' α) (n : Nat) (k : AV → Heap → α) (s2 s3 : AV) (h : Heap) : α :=
  faF o 3 s2 fun v1 => load1F o h v1 fun v2 => faF o 3 s3 fun v3 => load1F o h v3 fun v4 => eqsF Pq o 9 v2 v4 fun v5 => bkF o true v5 (loadNF o h 6 s2 fun v6 => loadNF o h 6 s3 fun v7 => c 239 [v6, v7] h fun v8 h => pk k v8 h <| pickF o v5 v8 (.b false) fun v9 => k v9 h) (pickF o v5 (.tup []) (.b false) fun v10 => k v10 h)
theorem f175_1_ok : R Pq o c n (cB b175) (kend Pq o c n w rs175 k) = fun t _ h => f175_1 o c n k (t 2) (t 3) h := (kseq rfl (r_start 6 (by kernel_rfl) (q_guard 6 9 (5, true) (by kernel_rfl) (by kernel_rfl) (by kernel_rfl) rfl))).tk
noncomputable def f175 (a0 a1 : AV) (h : Heap) : α :=
  boxF o a0 h h.next fun v11 h => boxF o a1 h h.next fun v12 h => f175_1 o c n k v11 v12 h
theorem f175_ok : R Pq o c n b175 (kend Pq o c n w rs175 k) = fun t _ h => f175 o c n k (t 0) (t 1) h := (kseq (f175_1_ok o c n k w) rfl).tk
theorem f175_good : Good Pq (cfg mm) 175 (entF Pq (cfg mm) 175 2 fun α => f175) := entG b175 rs175 15 fun _ => f175_ok
noncomputable def b176 := bdy Tryz.f176
noncomputable def rs176 := Tryz.f176.results.toList
noncomputable def f176 {α : Type} (o : α) (c : Call' α) (n : Nat) (k : AV → Heap → α) (a0 a1 : AV) (h : Heap) : α :=
  c 173 [a0, a1] h fun v1 h => pk k v1 h <| geqF Pq o 3 v1 (.i .i64 0) fun v2 => k v2 h
theorem f176_ok : R Pq o c n b176 (kend Pq o c n w rs176 k) = fun t _ h => f176 o c n k (t 0) (t 1) h := by kernel_rfl
theorem f176_good : Good Pq (cfg mm) 176 (entF Pq (cfg mm) 176 2 fun α => f176) := entG b176 rs176 9 fun _ => f176_ok
noncomputable def b178 := bdy Tryz.f178
noncomputable def rs178 := Tryz.f178.results.toList
noncomputable def f178_3 {α : Type} (o : α) (c : Call' α) (n : Nat) (k : AV → Heap → α) (s3 s4 s6 : AV) (h : Heap) : α :=
  faF o 1 s3 fun v1 => load1F o h v1 fun v2 => ixF o 6 s6 v2 fun v3 => loadNF o h 6 v3 fun v4 => storeF o h 6 s4 v4 fun h => on o (resV Pq h [(s4, some 38), ((.b true), none)]) fun v => k v h
theorem f178_3_ok : R Pq o c n (cB (cB (cB b178))) (kend Pq o c n w rs178 k) = fun t _ h => f178_3 o c n k (t 3) (t 4) (t 6) h := by kernel_rfl
noncomputable def f178_4K : Ex → K α := (nxK (fun t _ h => f178_3 o c n k (t 3) (t 4) (t 6) h) (kend Pq o c n w rs178 k))
noncomputable def f178_5 (s3 s4 s6 s20 : AV) (h : Heap) : α :=
  ifF o s20 (storeF o h 6 s4 (.agg [(.b false), (.b false), (.s 0 0), (.s 0 0), .nsl, .nsl]) fun h => on o (resV Pq h [(s4, some 38), ((.b false), none)]) fun v => k v h) (f178_3 o c n k s3 s4 s6 h)
theorem f178_5_ok : R Pq o c n (cB (cA (cB (cB b178)))) (f178_4K o c n k w) = fun t _ h => f178_5 o c n k (t 3) (t 4) (t 6) (t 20) h := by kernel_rfl
noncomputable def f178_6K : Ex → K α := (nxK (fun t _ h => f178_5 o c n k (t 3) (t 4) (t 6) (t 20) h) (f178_4K o c n k w))
noncomputable def f178_2 (s3 s4 s6 : AV) (h : Heap) : α :=
  faF o 1 s3 fun v5 => load1F o h v5 fun v6 => lssF Pq o 3 v6 (.i .i64 0) fun v7 => bkF o false v7 (faF o 1 s3 fun v8 => load1F o h v8 fun v9 => lenF o s6 fun v10 => geqF Pq o 3 v9 v10 fun v11 => pickF o v7 (.b true) v11 fun v12 => f178_5 o c n k s3 s4 s6 v12 h) (pickF o v7 (.b true) (.tup []) fun v13 => f178_5 o c n k s3 s4 s6 v13 h)
theorem f178_2_ok : R Pq o c n (cB (cB b178)) (kend Pq o c n w rs178 k) = fun t _ h => f178_2 o c n k (t 3) (t 4) (t 6) h := (kseq (f178_3_ok o c n k w) (kseq (f178_5_ok o c n k w) (r_start 4 (by kernel_rfl) (q_guard 4 9 (3, false) (by kernel_rfl) (by kernel_rfl) (by kernel_rfl) rfl)))).tk
noncomputable def f178_1 (s2 s3 s4 : AV) (h : Heap) : α :=
  loadNF o h 1 s2 fun v14 => faF o 0 s3 fun v15 => load1F o h v15 fun v16 => c 193 [v14, v16] h fun v17 h => pk k v17 h <| f178_2 o c n k s3 s4 v17 h
theorem f178_1_ok : R Pq o c n (cB b178) (kend Pq o c n w rs178 k) = fun t _ h => f178_1 o c n k (t 2) (t 3) (t 4) h := (kseq (f178_2_ok o c n k w) rfl).tk
noncomputable def f178 (a0 a1 : AV) (h : Heap) : α :=
  boxF o a0 h h.next fun v18 h => boxF o a1 h h.next fun v19 h => newF h h.next 6 [(.b false), (.b false), (.s 0 0), (.s 0 0), .nsl, .nsl] fun v20 h => f178_1 o c n k v18 v19 v20 h
theorem f178_ok : R Pq o c n b178 (kend Pq o c n w rs178 k) = fun t _ h => f178 o c n k (t 0) (t 1) h := (kseq (f178_1_ok o c n k w) rfl).tk
theorem f178_good : Good Pq (cfg mm) 178 (entF Pq (cfg mm) 178 2 fun α => f178) := entG b178 rs178 27 fun _ => f178_ok
noncomputable def b179 := bdy Tryz.f179
noncomputable def rs179 := Tryz.f179.results.toList
noncomputable def f179_6 {α : Type} (o : α) (c : Call' α) (n : Nat) (k : AV → Heap → α) (s5 s6 s9 s13 : AV) (h : Heap) : α :=
  dreg o h 13 fun base h => faF o 1 s13 fun v1 => faF o 0 v1 fun v2 => rootF o v2 s13 <| load1F o (h.look 6) v2 fun v3 => faF o 1 s13 fun v4 => faF o 1 v4 fun v5 => rootF o v5 s13 <| load1F o (h.look 48) v5 fun v6 => faF o 5 s5 fun v7 => lb (sBlk v2 (sBlk v5 [])) fun ids => rootF o v7 s5 <| storeF o (hide ids (h.look 129)) 1 v7 s9 fun g => hb (back h ids g) fun h => faF o 6 s5 fun v8 => lb (sBlk v5 []) fun ids => rootF o v8 s5 <| storeF o (hide ids (h.look 911)) 1 v8 v3 fun g => hb (back h ids g) fun h => faF o 7 s5 fun v9 => rootF o v9 s5 <| storeF o (h.look 4095) 1 v9 v6 fun h => hb h.shut fun h => dreg o h 6 fun base h => loadNF o (h.look 0) 8 s5 fun v10 => faF o 0 s13 fun v11 => rootF o v11 s13 <| load1F o (h.look 2) v11 fun v12 => lb (sBlk v11 []) fun ids => storeF o (hide ids (h.look 1)) 8 s6 v10 fun g => hb (back h ids g) fun h => hb h.shut fun h => on o (resV Pq h [(s6, some 43), (v12, none), ((.i .i64 0), none)]) fun v => k v h
theorem f179_6_ok : R Pq o c n (cB (cB (cB (cB (cB (cB b179)))))) (kend Pq o c n w rs179 k) = fun t _ h => f179_6 o c n k (t 5) (t 6) (t 9) (t 13) h := by kernel_rfl
noncomputable def f179_7K : Ex → K α := (nxK (fun t _ h => f179_6 o c n k (t 5) (t 6) (t 9) (t 13) h) (kend Pq o c n w rs179 k))
noncomputable def f179_8 (s5 s6 s9 s13 s45 : AV) (h : Heap) : α :=
  ifF o s45 (dreg o h 6 fun base h => faF o 3 s13 fun v13 => rootF o v13 s13 <| load1F o (h.look 2) v13 fun v14 => lb (sBlk v13 []) fun ids => storeF o (hide ids (h.look 1)) 8 s6 (.agg [(.i .i64 0), (.i .i32 0), (.s 0 0), (.s 0 0), (.s 0 0), .nsl, (.s 0 0), (.i .i64 0)]) fun g => hb (back h ids g) fun h => hb h.shut fun h => on o (resV Pq h [(s6, some 43), ((.s 0 0), none), (v14, none)]) fun v => k v h) (f179_6 o c n k s5 s6 s9 s13 h)
theorem f179_8_ok : R Pq o c n (cB (cA (cB (cB (cB (cB (cB b179))))))) (f179_7K o c n k w) = fun t _ h => f179_8 o c n k (t 5) (t 6) (t 9) (t 13) (t 45) h := by kernel_rfl
noncomputable def f179_9K : Ex → K α := (nxK (fun t _ h => f179_8 o c n k (t 5) (t 6) (t 9) (t 13) (t 45) h) (f179_7K o c n k w))
noncomputable def f179_5 (s5 s6 s9 s13 s14 : AV) (h : Heap) : α :=
  notF o s14 fun v15 => bkF o false v15 (faF o 3 s13 fun v16 => load1F o h v16 fun v17 => neiF Pq o 3 v17 (.i .i64 0) fun v18 => pickF o v15 (.b true) v18 fun v19 => f179_8 o c n k s5 s6 s9 s13 v19 h) (pickF o v15 (.b true) (.tup []) fun v20 => f179_8 o c n k s5 s6 s9 s13 v20 h)
theorem f179_5_ok : R Pq o c n (cB (cB (cB (cB (cB b179))))) (kend Pq o c n w rs179 k) = fun t _ h => f179_5 o c n k (t 5) (t 6) (t 9) (t 13) (t 14) h := (kseq (f179_6_ok o c n k w) (kseq (f179_8_ok o c n k w) (r_start 3 (by kernel_rfl) (q_guard 3 6 (2, false) (by kernel_rfl) (by kernel_rfl) (by kernel_rfl) rfl)))).tk
noncomputable def f179_4 (s5 s6 s9 s12 : AV) (h : Heap) : α :=
  loadNF o h 13 s12 fun v21 => c 241 [v21] h fun v22 h => pk k v22 h <| assertA Pq o v22 249 true fun v23 => exF o v23 0 fun v24 => exF o v23 1 fun v25 => newF h h.next 4 [(.s 0 0), (.s 0 0), (.i .i64 0), (.i .i64 0)] fun v26 h => storeF o h 4 v26 v24 fun h => f179_5 o c n k s5 s6 s9 v26 v25 h
theorem f179_4_ok : R Pq o c n (cB (cB (cB (cB b179)))) (kend Pq o c n w rs179 k) = fun t _ h => f179_4 o c n k (t 5) (t 6) (t 9) (t 12) h := (kseq (f179_5_ok o c n k w) rfl).tk
noncomputable def f179_3 (s3 s4 s5 s6 s9 s10 : AV) (h : Heap) : α :=
  loadNF o h 1 s3 fun v27 => loadNF o h 3 s4 fun v28 => loadNF o h 8 s5 fun v29 => layF o 0 v27 [.nsl, (.s 0 0), (.b false), .nsl, (.i .i64 0), (.i .i32 0), (.s 0 0), (.s 0 0), (.s 0 0), .nsl, (.s 0 0), (.i .i64 0), .nsl] fun v30 => lay1 o 1 3 v28 v30 fun v31 => lay1 o 4 8 v29 v31 fun v32 => layF o 12 s10 v32 fun v33 => newF h h.next 13 [.nsl, (.s 0 0), (.b false), .nsl, (.i .i64 0), (.i .i32 0), (.s 0 0), (.s 0 0), (.s 0 0), .nsl, (.s 0 0), (.i .i64 0), .nsl] fun v34 h => storeF o h 13 v34 (.agg v33) fun h => f179_4 o c n k s5 s6 s9 v34 h
theorem f179_3_ok : R Pq o c n (cB (cB (cB b179))) (kend Pq o c n w rs179 k) = fun t _ h => f179_3 o c n k (t 3) (t 4) (t 5) (t 6) (t 9) (t 10) h := (kseq (f179_4_ok o c n k w) rfl).tk
noncomputable def f179_2 (s3 s4 s5 s6 s9 s10 s11 : AV) (h : Heap) : α :=
  neiF Pq o 3 s11 (.i .i64 0) fun v35 => ifF o v35 (storeF o h 8 s6 (.agg [(.i .i64 0), (.i .i32 0), (.s 0 0), (.s 0 0), (.s 0 0), .nsl, (.s 0 0), (.i .i64 0)]) fun h => on o (resV Pq h [(s6, some 43), ((.s 0 0), none), (s11, none)]) fun v => k v h) (f179_3 o c n k s3 s4 s5 s6 s9 s10 h)
theorem f179_2_ok : R Pq o c n (cB (cB b179)) (kend Pq o c n w rs179 k) = fun t _ h => f179_2 o c n k (t 3) (t 4) (t 5) (t 6) (t 9) (t 10) (t 11) h := (kseq (f179_3_ok o c n k w) rfl).tk
noncomputable def f179_1 (s3 s4 s5 s6 : AV) (h : Heap) : α :=
  loadNF o h 1 s3 fun v36 => loadNF o h 3 s4 fun v37 => faF o 5 s5 fun v38 => load1F o h v38 fun v39 => c 240 [v36, v37, v39] h fun v40 h => pk k v40 h <| exF o v40 0 fun v41 => exF o v40 1 fun v42 => exF o v40 2 fun v43 => f179_2 o c n k s3 s4 s5 s6 v41 v42 v43 h
theorem f179_1_ok : R Pq o c n (cB b179) (kend Pq o c n w rs179 k) = fun t _ h => f179_1 o c n k (t 3) (t 4) (t 5) (t 6) h := (kseq (f179_2_ok o c n k w) rfl).tk
noncomputable def f179 (a0 a1 a2 : AV) (h : Heap) : α :=
  boxF o a0 h h.next fun v44 h => boxF o a1 h h.next fun v45 h => boxF o a2 h h.next fun v46 h => newF h h.next 8 [(.i .i64 0), (.i .i32 0), (.s 0 0), (.s 0 0), (.s 0 0), .nsl, (.s 0 0), (.i .i64 0)] fun v47 h => f179_1 o c n k v44 v45 v46 v47 h
theorem f179_ok : R Pq o c n b179 (kend Pq o c n w rs179 k) = fun t _ h => f179 o c n k (t 0) (t 1) (t 2) h := (kseq (f179_1_ok o c n k w) rfl).tk
theorem f179_good : Good Pq (cfg mm) 179 (entF Pq (cfg mm) 179 3 fun α => f179) := entG b179 rs179 62 fun _ => f179_ok
noncomputable def b180 := bdy Tryz.f180
noncomputable def rs180 := Tryz.f180.results.toList
noncomputable def f180 {α : Type} (o : α) (c : Call' α) (n : Nat) (k : AV → Heap → α) (a0 a1 : AV) (h : Heap) : α :=
  notF o a0 fun v1 => ifF o v1 (c 30 [a1] h fun v2 h => pk k v2 h <| k (.tup []) h) (k (.tup []) h)
theorem f180_ok : R Pq o c n b180 (kend Pq o c n w rs180 k) = fun t _ h => f180 o c n k (t 0) (t 1) h := by kernel_rfl
theorem f180_good : Good Pq (cfg mm) 180 (entF Pq (cfg mm) 180 2 fun α => f180) := entG b180 rs180 8 fun _ => f180_ok
noncomputable def b182 := bdy Tryz.f182
noncomputable def rs182 := Tryz.f182.results.toList
noncomputable def f182 {α : Type} (o : α) (c : Call' α) (n : Nat) (k : AV → Heap → α) (a0 : AV) (h : Heap) : α :=
  eqiF Pq o 35 a0 .nsl fun v1 => ifF o v1 (k .nsl h) (newEF h h.next 2 0 [] fun v2 h => appX Pq o h h.next 35 35 v2 a0 fun v3 h => k v3 h)
theorem f182_ok : R Pq o c n b182 (kend Pq o c n w rs182 k) = fun t _ h => f182 o c n k (t 0) h := by kernel_rfl
theorem f182_good : Good Pq (cfg mm) 182 (entF Pq (cfg mm) 182 1 fun α => f182) := entG b182 rs182 8 fun _ => f182_ok
noncomputable def b184 := bdy Tryz.f184
noncomputable def rs184 := Tryz.f184.results.toList
noncomputable def f184_5K : Ex → K α := (nxK (R Pq o c n (cB (cB (cB (cB (cB b184))))) (kend Pq o c n w rs184 k)) (kend Pq o c n w rs184 k))
noncomputable def f184_7 {α : Type} (o : α) (c : Call' α) (n : Nat) (k : AV → Heap → α) (m : Nat) : AVs (Heap → α) 6 :=
  Nat.rec (motive := fun _ => AVs (Heap → α) 6) (fun _ _ _ _ _ _ _ => o) (fun _ lp0 s0 s7 s8 s24 s25 s26 h => lssF Pq o 3 s26 s25 fun v1 => ifF o v1 (ixF o 9 s24 s26 fun v2 => loadNF o h 9 v2 fun v3 => newF h h.next 9 [(.i .i64 0), (.i .i32 0), (.s 0 0), (.s 0 0), .nsl, .nsl, .nsl, .nsl, (.i .i64 0)] fun v4 h => storeF o h 9 v4 v3 fun h => loadNF o h 9 v4 fun v5 => c 243 [s0, v5] h fun v6 h => pk k v6 h <| fil1 o 9 1 0 v6 [[(.i .i64 0), (.i .i32 0), (.s 0 0), (.s 0 0), .nsl, .nsl, .nsl, .nsl, (.i .i64 0)]] fun v7 => newEF h h.next 9 1 v7 fun v8 h => appX Pq o h h.next 36 36 s8 v8 fun v9 h => addF Pq o 3 s26 (.i .i64 1) fun v10 => lp0 s0 s7 v9 s24 s25 v10 h) (nilChk o s0 fun v11 => faF o 1 v11 fun v12 => faF o 2 v12 fun v13 => storeF o h 1 v13 s7 fun h => k s8 h)) m
theorem f184_7_ok : R Pq o c n (cA (cB (cA (cB (cB (cB (cB b184))))))) (blockK (cI (cB (cA (cB (cB (cB (cB b184))))))) (f184_5K o c n k w)) = fun t _ h => f184_7 o c n k n (t 0) (t 7) (t 8) (t 24) (t 25) (t 26) h :=
  c_loop (F := fun m t _ h => f184_7 o c n k m (t 0) (t 7) (t 8) (t 24) (t 25) (t 26) h) (by kernel_rfl) (by kernel_rfl) fun m => by kernel_rfl
noncomputable def f184_6 (s0 s7 s8 s24 s25 s26 : AV) (h : Heap) : α :=
  f184_7 o c n k n s0 s7 s8 s24 s25 s26 h
theorem f184_6_ok : R Pq o c n (cB (cA (cB (cB (cB (cB b184)))))) (f184_5K o c n k w) = fun t _ h => f184_6 o c n k (t 0) (t 7) (t 8) (t 24) (t 25) (t 26) h := (kblk (f184_7_ok o c n k w)).tk
noncomputable def f184_4 (s0 s1 s7 s8 : AV) (h : Heap) : α :=
  lenF o s1 fun v14 => f184_6 o c n k s0 s7 s8 s1 v14 (.i .i64 0) h
theorem f184_4_ok : R Pq o c n (cB (cB (cB (cB b184)))) (kend Pq o c n w rs184 k) = fun t _ h => f184_4 o c n k (t 0) (t 1) (t 7) (t 8) h := (kseq rfl (kseq (f184_6_ok o c n k w) rfl)).tk
noncomputable def f184_3 (s0 s1 s7 : AV) (h : Heap) : α :=
  f184_4 o c n k s0 s1 s7 .nsl h
theorem f184_3_ok : R Pq o c n (cB (cB (cB b184))) (kend Pq o c n w rs184 k) = fun t _ h => f184_3 o c n k (t 0) (t 1) (t 7) h := (kseq (f184_4_ok o c n k w) rfl).tk
noncomputable def f184_2 (s0 s1 s2 s7 : AV) (h : Heap) : α :=
  fil1 o 1 2 0 s7 [[.nsl], [.nsl]] fun v15 => fil1 o 1 2 1 s2 v15 fun v16 => newEF h h.next 1 2 v16 fun v17 h => c 242 [v17] h fun v18 h => pk k v18 h <| nilChk o s0 fun v19 => faF o 1 v19 fun v20 => faF o 2 v20 fun v21 => storeF o h 1 v21 v18 fun h => f184_3 o c n k s0 s1 s7 h
theorem f184_2_ok : R Pq o c n (cB (cB b184)) (kend Pq o c n w rs184 k) = fun t _ h => f184_2 o c n k (t 0) (t 1) (t 2) (t 7) h := (kseq (f184_3_ok o c n k w) rfl).tk
noncomputable def f184_1 (s0 s1 s2 : AV) (h : Heap) : α :=
  nilChk o s0 fun v22 => faF o 1 v22 fun v23 => faF o 2 v23 fun v24 => load1F o h v24 fun v25 => f184_2 o c n k s0 s1 s2 v25 h
theorem f184_1_ok : R Pq o c n (cB b184) (kend Pq o c n w rs184 k) = fun t _ h => f184_1 o c n k (t 0) (t 1) (t 2) h := (kseq (f184_2_ok o c n k w) rfl).tk
noncomputable def f184 (a0 a1 a2 : AV) (h : Heap) : α :=
  f184_1 o c n k a0 a1 a2 h
theorem f184_ok : R Pq o c n b184 (kend Pq o c n w rs184 k) = fun t _ h => f184 o c n k (t 0) (t 1) (t 2) h := (kseq (f184_1_ok o c n k w) rfl).tk
theorem f184_good : Good Pq (cfg mm) 184 (entF Pq (cfg mm) 184 3 fun α => f184) := entG b184 rs184 43 fun _ => f184_ok
noncomputable def b185 := bdy Tryz.f185
noncomputable def rs185 := Tryz.f185.results.toList
noncomputable def f185_2K : Ex → K α := (nxK (R Pq o c n (cB (cB b185)) (kend Pq o c n w rs185 k)) (kend Pq o c n w rs185 k))
noncomputable def f185_3 {α : Type} (o : α) (c : Call' α) (n : Nat) (k : AV → Heap → α) (s1 s5 s8 : AV) (h : Heap) : α :=
  pickF o s5 (.b true) s8 fun v1 => bkF o false v1 (faF o 5 s1 fun v2 => load1F o h v2 fun v3 => c 244 [v3] h fun v4 h => pk k v4 h <| notF o v4 fun v5 => pickF o v1 (.b true) v5 fun v6 => k v6 h) (pickF o v1 (.b true) (.tup []) fun v7 => k v7 h)
theorem f185_3_ok : Q Pq o c (cO (cA (cB b185))) (f185_2K o c n k w) 6 = fun t _ h => f185_3 o c n k (t 1) (t 5) (t 8) h := (q_seg 6 8 (by kernel_rfl) (q_guard 8 12 (7, false) (by kernel_rfl) (by kernel_rfl) (by kernel_rfl) rfl)).tk
noncomputable def f185_1 (s1 : AV) (h : Heap) : α :=
  faF o 1 s1 fun v8 => load1F o h v8 fun v9 => bkF o false v9 (faF o 2 s1 fun v10 => load1F o h v10 fun v11 => eqsF Pq o 9 v11 (.s 4 1684631414) fun v12 => f185_3 o c n k s1 v9 v12 h) (f185_3 o c n k s1 v9 (.tup []) h)
theorem f185_1_ok : R Pq o c n (cB b185) (kend Pq o c n w rs185 k) = fun t _ h => f185_1 o c n k (t 1) h := (kseq rfl (r_start 3 (by kernel_rfl) (q_guard 3 6 (2, false) (by kernel_rfl) (by kernel_rfl) (by kernel_rfl) (f185_3_ok o c n k w)))).tk
noncomputable def f185 (a0 : AV) (h : Heap) : α :=
  boxF o a0 h h.next fun v13 h => f185_1 o c n k v13 h
theorem f185_ok : R Pq o c n b185 (kend Pq o c n w rs185 k) = fun t _ h => f185 o c n k (t 0) h := (kseq (f185_1_ok o c n k w) rfl).tk
theorem f185_good : Good Pq (cfg mm) 185 (entF Pq (cfg mm) 185 1 fun α => f185) := entG b185 rs185 16 fun _ => f185_ok
noncomputable def b186 := bdy Tryz.f186
noncomputable def rs186 := Tryz.f186.results.toList
noncomputable def f186_2K : Ex → K α := (nxK (R Pq o c n (cB (cB b186)) (kend Pq o c n w rs186 k)) (kend Pq o c n w rs186 k))
noncomputable def f186_4 {α : Type} (o : α) (c : Call' α) (n : Nat) (k : AV → Heap → α) (m : Nat) : AVs (Heap → α) 4 :=
  Nat.rec (motive := fun _ => AVs (Heap → α) 4) (fun _ _ _ _ _ => o) (fun _ lp0 s0 s1 s7 s8 h => lssF Pq o 3 s8 s7 fun v1 => ifF o v1 (ixF o 6 s0 s8 fun v2 => loadNF o h 6 v2 fun v3 => cfF o s1 [v3] c h fun v4 h => pk k v4 h <| ifF o v4 (k s8 h) (addF Pq o 3 s8 (.i .i64 1) fun v5 => lp0 s0 s1 s7 v5 h)) (k (.i .i64 (-1)) h)) m
theorem f186_4_ok : R Pq o c n (cA (cB (cA (cB b186)))) (blockK (cI (cB (cA (cB b186)))) (f186_2K o c n k w)) = fun t _ h => f186_4 o c n k n (t 0) (t 1) (t 7) (t 8) h :=
  c_loop (F := fun m t _ h => f186_4 o c n k m (t 0) (t 1) (t 7) (t 8) h) (by kernel_rfl) (by kernel_rfl) fun m => by kernel_rfl
noncomputable def f186_3 (s0 s1 s7 s8 : AV) (h : Heap) : α :=
  f186_4 o c n k n s0 s1 s7 s8 h
theorem f186_3_ok : R Pq o c n (cB (cA (cB b186))) (f186_2K o c n k w) = fun t _ h => f186_3 o c n k (t 0) (t 1) (t 7) (t 8) h := (kblk (f186_4_ok o c n k w)).tk
noncomputable def f186_1 (s0 s1 : AV) (h : Heap) : α :=
  lenF o s0 fun v6 => f186_3 o c n k s0 s1 v6 (.i .i64 0) h
theorem f186_1_ok : R Pq o c n (cB b186) (kend Pq o c n w rs186 k) = fun t _ h => f186_1 o c n k (t 0) (t 1) h := (kseq rfl (kseq (f186_3_ok o c n k w) rfl)).tk
noncomputable def f186 (a0 a1 : AV) (h : Heap) : α :=
  f186_1 o c n k a0 a1 h
theorem f186_ok : R Pq o c n b186 (kend Pq o c n w rs186 k) = fun t _ h => f186 o c n k (t 0) (t 1) h := (kseq (f186_1_ok o c n k w) rfl).tk
theorem f186_good : Good Pq (cfg mm) 186 (entF Pq (cfg mm) 186 2 fun α => f186) := entG b186 rs186 19 fun _ => f186_ok
noncomputable def b189 := bdy Tryz.f189
noncomputable def rs189 := Tryz.f189.results.toList
noncomputable def f189_3K : Ex → K α := (nxK (R Pq o c n (cB (cB (cB b189))) (kend Pq o c n w rs189 k)) (kend Pq o c n w rs189 k))
noncomputable def f189_6K (lp0 : AVs (Heap → α) 7) : Ex → K α := (nxK (fun t _ h => lp0 (t 1) (t 2) (t 6) (t 7) (t 15) (t 16) (t 17) h) (blockK (cI (cB (cA (cB (cB b189))))) (f189_3K o c n k w)))
noncomputable def f189_9K (lp0 : AVs (Heap → α) 7) : Ex → K α := (nxK (R Pq o c n (cB (cB (cB (cA (cA (cB (cA (cB (cB b189))))))))) (f189_6K o c n k w lp0)) (f189_6K o c n k w lp0))
noncomputable def f189_14K (lp0 : AVs (Heap → α) 7) : Ex → K α := (nxK (R Pq o c n (cB (cB (cB (cB (cB (cA (cA (cB (cB (cA (cA (cB (cA (cB (cB b189))))))))))))))) (blockK (cI (cA (cB (cB (cA (cA (cB (cA (cB (cB b189)))))))))) (f189_9K o c n k w lp0))) (blockK (cI (cA (cB (cB (cA (cA (cB (cA (cB (cB b189)))))))))) (f189_9K o c n k w lp0)))
noncomputable def f189_16 {α : Type} (o : α) (c : Call' α) (n : Nat) (k : AV → Heap → α) (lp0 : AVs (Heap → α) 7) (m : Nat) : AVs (Heap → α) 12 :=
  Nat.rec (motive := fun _ => AVs (Heap → α) 12) (fun _ _ _ _ _ _ _ _ _ _ _ _ _ => o) (fun _ lp1 s1 s2 s6 s7 s9 s10 s12 s15 s16 s17 s45 s46 h => lssF Pq o 3 s46 s45 fun v1 => ifF o v1 (ixF o 6 s12 s46 fun v2 => faF o 4 v2 fun v3 => load1F o h v3 fun v4 => c 182 [v4] h fun v5 h => pk k v5 h <| ixF o 6 s12 s46 fun v6 => faF o 4 v6 fun v7 => storeF o h 1 v7 v5 fun h => ixF o 6 s12 s46 fun v8 => faF o 5 v8 fun v9 => load1F o h v9 fun v10 => c 248 [v10, s1, s2] h fun v11 h => pk k v11 h <| ixF o 6 s12 s46 fun v12 => faF o 5 v12 fun v13 => storeF o h 1 v13 v11 fun h => addF Pq o 3 s46 (.i .i64 1) fun v14 => lp1 s1 s2 s6 s7 s9 s10 s12 s15 s16 s17 s45 v14 h) (faF o 2 s9 fun v15 => storeF o h 1 v15 s10 fun h => faF o 3 s9 fun v16 => storeF o h 1 v16 s12 fun h => faF o 0 s7 fun v17 => load1F o h v17 fun v18 => loadNF o h 4 s9 fun v19 => fil1 o 4 1 0 v19 [[(.s 0 0), (.s 0 0), .nsl, .nsl]] fun v20 => newEF h h.next 4 1 v20 fun v21 h => appX Pq o h h.next 23 23 v18 v21 fun v22 h => faF o 0 s7 fun v23 => storeF o h 1 v23 v22 fun h => addF Pq o 3 s17 (.i .i64 1) fun v24 => lp0 s1 s2 s6 s7 s15 s16 v24 h)) m
theorem f189_16_ok (lp0 : AVs (Heap → α) 7) : R Pq o c n (cA (cB (cA (cB (cB (cB (cB (cA (cA (cB (cB (cA (cA (cB (cA (cB (cB b189))))))))))))))))) (blockK (cI (cB (cA (cB (cB (cB (cB (cA (cA (cB (cB (cA (cA (cB (cA (cB (cB b189))))))))))))))))) (f189_14K o c n k w lp0)) = fun t _ h => f189_16 o c n k lp0 n (t 1) (t 2) (t 6) (t 7) (t 9) (t 10) (t 12) (t 15) (t 16) (t 17) (t 45) (t 46) h :=
  c_loop (F := fun m t _ h => f189_16 o c n k lp0 m (t 1) (t 2) (t 6) (t 7) (t 9) (t 10) (t 12) (t 15) (t 16) (t 17) (t 45) (t 46) h) (by kernel_rfl) (by kernel_rfl) fun m => by kernel_rfl
noncomputable def f189_15 (lp0 : AVs (Heap → α) 7) (s1 s2 s6 s7 s9 s10 s12 s15 s16 s17 s45 s46 : AV) (h : Heap) : α :=
  f189_16 o c n k lp0 n s1 s2 s6 s7 s9 s10 s12 s15 s16 s17 s45 s46 h
theorem f189_15_ok (lp0 : AVs (Heap → α) 7) : R Pq o c n (cB (cA (cB (cB (cB (cB (cA (cA (cB (cB (cA (cA (cB (cA (cB (cB b189)))))))))))))))) (f189_14K o c n k w lp0) = fun t _ h => f189_15 o c n k lp0 (t 1) (t 2) (t 6) (t 7) (t 9) (t 10) (t 12) (t 15) (t 16) (t 17) (t 45) (t 46) h := (kblk (f189_16_ok o c n k w lp0)).tk
noncomputable def f189_13 (lp0 : AVs (Heap → α) 7) (s1 s2 s6 s7 s9 s10 s12 s15 s16 s17 : AV) (h : Heap) : α :=
  lenF o s12 fun v25 => f189_15 o c n k lp0 s1 s2 s6 s7 s9 s10 s12 s15 s16 s17 v25 (.i .i64 0) h
theorem f189_13_ok (lp0 : AVs (Heap → α) 7) : R Pq o c n (cB (cB (cB (cB (cA (cA (cB (cB (cA (cA (cB (cA (cB (cB b189)))))))))))))) (blockK (cI (cA (cB (cB (cA (cA (cB (cA (cB (cB b189)))))))))) (f189_9K o c n k w lp0)) = fun t _ h => f189_13 o c n k lp0 (t 1) (t 2) (t 6) (t 7) (t 9) (t 10) (t 12) (t 15) (t 16) (t 17) h := (kseq rfl (kseq (f189_15_ok o c n k w lp0) rfl)).tk
noncomputable def f189_12 (lp0 : AVs (Heap → α) 7) (s1 s2 s6 s7 s9 s10 s15 s16 s17 : AV) (h : Heap) : α :=
  faF o 3 s9 fun v26 => load1F o h v26 fun v27 => c 35 [v27] h fun v28 h => pk k v28 h <| f189_13 o c n k lp0 s1 s2 s6 s7 s9 s10 v28 s15 s16 s17 h
theorem f189_12_ok (lp0 : AVs (Heap → α) 7) : R Pq o c n (cB (cB (cB (cA (cA (cB (cB (cA (cA (cB (cA (cB (cB b189))))))))))))) (blockK (cI (cA (cB (cB (cA (cA (cB (cA (cB (cB b189)))))))))) (f189_9K o c n k w lp0)) = fun t _ h => f189_12 o c n k lp0 (t 1) (t 2) (t 6) (t 7) (t 9) (t 10) (t 15) (t 16) (t 17) h := (kseq (f189_13_ok o c n k w lp0) rfl).tk
noncomputable def f189_17K (lp0 : AVs (Heap → α) 7) : Ex → K α := (nxK (fun t _ h => f189_12 o c n k lp0 (t 1) (t 2) (t 6) (t 7) (t 9) (t 10) (t 15) (t 16) (t 17) h) (blockK (cI (cA (cB (cB (cA (cA (cB (cA (cB (cB b189)))))))))) (f189_9K o c n k w lp0)))
noncomputable def f189_19 (lp0 : AVs (Heap → α) 7) (m : Nat) : AVs (Heap → α) 11 :=
  Nat.rec (motive := fun _ => AVs (Heap → α) 11) (fun _ _ _ _ _ _ _ _ _ _ _ _ => o) (fun _ lp1 s1 s2 s6 s7 s9 s10 s15 s16 s17 s25 s26 h => lssF Pq o 3 s26 s25 fun v29 => ifF o v29 (ixF o 4 s10 s26 fun v30 => faF o 3 v30 fun v31 => load1F o h v31 fun v32 => c 247 [v32, s1] h fun v33 h => pk k v33 h <| ixF o 4 s10 s26 fun v34 => faF o 3 v34 fun v35 => storeF o h 1 v35 v33 fun h => addF Pq o 3 s26 (.i .i64 1) fun v36 => lp1 s1 s2 s6 s7 s9 s10 s15 s16 s17 s25 v36 h) (f189_12 o c n k lp0 s1 s2 s6 s7 s9 s10 s15 s16 s17 h)) m
theorem f189_19_ok (lp0 : AVs (Heap → α) 7) : R Pq o c n (cA (cB (cA (cB (cB (cA (cA (cB (cB (cA (cA (cB (cA (cB (cB b189))))))))))))))) (blockK (cI (cB (cA (cB (cB (cA (cA (cB (cB (cA (cA (cB (cA (cB (cB b189))))))))))))))) (f189_17K o c n k w lp0)) = fun t _ h => f189_19 o c n k lp0 n (t 1) (t 2) (t 6) (t 7) (t 9) (t 10) (t 15) (t 16) (t 17) (t 25) (t 26) h :=
  c_loop (F := fun m t _ h => f189_19 o c n k lp0 m (t 1) (t 2) (t 6) (t 7) (t 9) (t 10) (t 15) (t 16) (t 17) (t 25) (t 26) h) (by kernel_rfl) (by kernel_rfl) fun m => by kernel_rfl
noncomputable def f189_18 (lp0 : AVs (Heap → α) 7) (s1 s2 s6 s7 s9 s10 s15 s16 s17 s25 s26 : AV) (h : Heap) : α :=
  f189_19 o c n k lp0 n s1 s2 s6 s7 s9 s10 s15 s16 s17 s25 s26 h
theorem f189_18_ok (lp0 : AVs (Heap → α) 7) : R Pq o c n (cB (cA (cB (cB (cA (cA (cB (cB (cA (cA (cB (cA (cB (cB b189)))))))))))))) (f189_17K o c n k w lp0) = fun t _ h => f189_18 o c n k lp0 (t 1) (t 2) (t 6) (t 7) (t 9) (t 10) (t 15) (t 16) (t 17) (t 25) (t 26) h := (kblk (f189_19_ok o c n k w lp0)).tk
noncomputable def f189_11 (lp0 : AVs (Heap → α) 7) (s1 s2 s6 s7 s9 s10 s15 s16 s17 : AV) (h : Heap) : α :=
  lenF o s10 fun v37 => f189_18 o c n k lp0 s1 s2 s6 s7 s9 s10 s15 s16 s17 v37 (.i .i64 0) h
theorem f189_11_ok (lp0 : AVs (Heap → α) 7) : R Pq o c n (cB (cB (cA (cA (cB (cB (cA (cA (cB (cA (cB (cB b189)))))))))))) (blockK (cI (cA (cB (cB (cA (cA (cB (cA (cB (cB b189)))))))))) (f189_9K o c n k w lp0)) = fun t _ h => f189_11 o c n k lp0 (t 1) (t 2) (t 6) (t 7) (t 9) (t 10) (t 15) (t 16) (t 17) h := (kseq (f189_12_ok o c n k w lp0) (kseq (f189_18_ok o c n k w lp0) rfl)).tk
noncomputable def f189_10 (lp0 : AVs (Heap → α) 7) (s1 s2 s6 s7 s9 s15 s16 s17 : AV) (h : Heap) : α :=
  faF o 2 s9 fun v38 => load1F o h v38 fun v39 => c 34 [v39] h fun v40 h => pk k v40 h <| f189_11 o c n k lp0 s1 s2 s6 s7 s9 v40 s15 s16 s17 h
theorem f189_10_ok (lp0 : AVs (Heap → α) 7) : R Pq o c n (cB (cA (cA (cB (cB (cA (cA (cB (cA (cB (cB b189))))))))))) (blockK (cI (cA (cB (cB (cA (cA (cB (cA (cB (cB b189)))))))))) (f189_9K o c n k w lp0)) = fun t _ h => f189_10 o c n k lp0 (t 1) (t 2) (t 6) (t 7) (t 9) (t 15) (t 16) (t 17) h := (kseq (f189_11_ok o c n k w lp0) rfl).tk
noncomputable def f189_8 (lp0 : AVs (Heap → α) 7) (s1 s2 s6 s7 s15 s16 s17 : AV) (h : Heap) : α :=
  ixF o 4 s15 s17 fun v41 => loadNF o h 4 v41 fun v42 => newF h h.next 4 [(.s 0 0), (.s 0 0), .nsl, .nsl] fun v43 h => storeF o h 4 v43 v42 fun h => f189_10 o c n k lp0 s1 s2 s6 s7 v43 s15 s16 s17 h
theorem f189_8_ok (lp0 : AVs (Heap → α) 7) : R Pq o c n (cB (cB (cA (cA (cB (cA (cB (cB b189)))))))) (f189_6K o c n k w lp0) = fun t _ h => f189_8 o c n k lp0 (t 1) (t 2) (t 6) (t 7) (t 15) (t 16) (t 17) h := (kseq rfl (kblk (kseq (f189_10_ok o c n k w lp0) rfl))).tk
noncomputable def f189_7 (lp0 : AVs (Heap → α) 7) (s1 s2 s6 s7 s15 s16 s17 s18 : AV) (h : Heap) : α :=
  ifF o s18 (f189_8 o c n k lp0 s1 s2 s6 s7 s15 s16 s17 h) (loadNF o h 1 s7 fun v44 => storeF o h 1 s6 v44 fun h => on o (resV Pq h [(s6, some 25)]) fun v => k v h)
theorem f189_7_ok (lp0 : AVs (Heap → α) 7) : R Pq o c n (cB (cA (cA (cB (cA (cB (cB b189))))))) (f189_6K o c n k w lp0) = fun t _ h => f189_7 o c n k lp0 (t 1) (t 2) (t 6) (t 7) (t 15) (t 16) (t 17) (t 18) h := (kseq (f189_8_ok o c n k w lp0) rfl).tk
noncomputable def f189_5 (m : Nat) : AVs (Heap → α) 7 :=
  Nat.rec (motive := fun _ => AVs (Heap → α) 7) (fun _ _ _ _ _ _ _ _ => o) (fun _ lp0 s1 s2 s6 s7 s15 s16 s17 h => lssF Pq o 3 s17 s16 fun v45 => f189_7 o c n k lp0 s1 s2 s6 s7 s15 s16 s17 v45 h) m
theorem f189_5_ok : R Pq o c n (cA (cB (cA (cB (cB b189))))) (blockK (cI (cB (cA (cB (cB b189))))) (f189_3K o c n k w)) = fun t _ h => f189_5 o c n k n (t 1) (t 2) (t 6) (t 7) (t 15) (t 16) (t 17) h :=
  c_loop (F := fun m t _ h => f189_5 o c n k m (t 1) (t 2) (t 6) (t 7) (t 15) (t 16) (t 17) h) (by kernel_rfl) (by kernel_rfl) fun m => (kseq (f189_7_ok o c n k w (f189_5 o c n k m)) rfl).tk
noncomputable def f189_4 (s1 s2 s6 s7 s15 s16 s17 : AV) (h : Heap) : α :=
  f189_5 o c n k n s1 s2 s6 s7 s15 s16 s17 h
theorem f189_4_ok : R Pq o c n (cB (cA (cB (cB b189)))) (f189_3K o c n k w) = fun t _ h => f189_4 o c n k (t 1) (t 2) (t 6) (t 7) (t 15) (t 16) (t 17) h := (kblk (f189_5_ok o c n k w)).tk
noncomputable def f189_2 (s1 s2 s3 s6 s7 : AV) (h : Heap) : α :=
  faF o 0 s3 fun v46 => load1F o h v46 fun v47 => lenF o v47 fun v48 => f189_4 o c n k s1 s2 s6 s7 v47 v48 (.i .i64 0) h
theorem f189_2_ok : R Pq o c n (cB (cB b189)) (kend Pq o c n w rs189 k) = fun t _ h => f189_2 o c n k (t 1) (t 2) (t 3) (t 6) (t 7) h := (kseq rfl (kseq (f189_4_ok o c n k w) rfl)).tk
noncomputable def f189_1 (s1 s2 s3 s6 : AV) (h : Heap) : α :=
  newF h h.next 1 [.nsl] fun v49 h => f189_2 o c n k s1 s2 s3 s6 v49 h
theorem f189_1_ok : R Pq o c n (cB b189) (kend Pq o c n w rs189 k) = fun t _ h => f189_1 o c n k (t 1) (t 2) (t 3) (t 6) h := (kseq (f189_2_ok o c n k w) rfl).tk
noncomputable def f189 (a0 a1 a2 : AV) (h : Heap) : α :=
  boxF o a0 h h.next fun v50 h => newF h h.next 1 [.nsl] fun v51 h => f189_1 o c n k a1 a2 v50 v51 h
theorem f189_ok : R Pq o c n b189 (kend Pq o c n w rs189 k) = fun t _ h => f189 o c n k (t 0) (t 1) (t 2) h := (kseq (f189_1_ok o c n k w) rfl).tk
theorem f189_good : Good Pq (cfg mm) 189 (entF Pq (cfg mm) 189 3 fun α => f189) := entG b189 rs189 84 fun _ => f189_ok
noncomputable def b193 := bdy Tryz.f193
noncomputable def rs193 := Tryz.f193.results.toList
noncomputable def f193 {α : Type} (o : α) (c : Call' α) (n : Nat) (k : AV → Heap → α) (a0 a1 : AV) (h : Heap) : α :=
  boxF o a0 h h.next fun v1 h => loadNF o h 1 v1 fun v2 => c 250 [v2, a1] h fun v3 h => pk k v3 h <| assertA Pq o v3 34 true fun v4 => exF o v4 0 fun v5 => exF o v4 1 fun v6 => newF h h.next 4 [(.s 0 0), (.s 0 0), .nsl, .nsl] fun v7 h => storeF o h 4 v7 v5 fun h => notF o v6 fun v8 => ifF o v8 (k .nsl h) (faF o 3 v7 fun v9 => load1F o h v9 fun v10 => k v10 h)
theorem f193_ok : R Pq o c n b193 (kend Pq o c n w rs193 k) = fun t _ h => f193 o c n k (t 0) (t 1) h := by kernel_rfl
theorem f193_good : Good Pq (cfg mm) 193 (entF Pq (cfg mm) 193 2 fun α => f193) := entG b193 rs193 18 fun _ => f193_ok
noncomputable def b198 := bdy Tryz.f198
noncomputable def rs198 := Tryz.f198.results.toList
noncomputable def f198_3K : Ex → K α := (nxK (R Pq o c n (cB (cB (cB b198))) (kend Pq o c n w rs198 k)) (kend Pq o c n w rs198 k))
noncomputable def f198_5 {α : Type} (o : α) (c : Call' α) (n : Nat) (k : AV → Heap → α) (m : Nat) : AVs (Heap → α) 6 :=
  Nat.rec (motive := fun _ => AVs (Heap → α) 6) (fun _ _ _ _ _ _ _ => o) (fun _ lp0 s1 s2 s3 s7 s8 s9 h => lssF Pq o 3 s9 s8 fun v1 => ifF o v1 (ixF o 8 s7 s9 fun v2 => loadNF o h 8 v2 fun v3 => newF h h.next 8 [(.i .i64 0), (.i .i32 0), (.s 0 0), (.s 0 0), (.s 0 0), .nsl, (.s 0 0), (.i .i64 0)] fun v4 h => storeF o h 8 v4 v3 fun h => loadNF o h 8 v4 fun v5 => c 198 [v5] h fun v6 h => pk k v6 h <| fil1 o 8 1 0 v6 [[(.i .i64 0), (.i .i32 0), (.s 0 0), (.s 0 0), (.s 0 0), .nsl, (.s 0 0), (.i .i64 0)]] fun v7 => newEF h h.next 8 1 v7 fun v8 h => appX Pq o h h.next 39 39 s3 v8 fun v9 h => addF Pq o 3 s9 (.i .i64 1) fun v10 => lp0 s1 s2 v9 s7 s8 v10 h) (faF o 5 s1 fun v11 => storeF o h 1 v11 s3 fun h => loadNF o h 8 s1 fun v12 => storeF o h 8 s2 v12 fun h => on o (resV Pq h [(s2, some 43)]) fun v => k v h)) m
theorem f198_5_ok : R Pq o c n (cA (cB (cA (cB (cB b198))))) (blockK (cI (cB (cA (cB (cB b198))))) (f198_3K o c n k w)) = fun t _ h => f198_5 o c n k n (t 1) (t 2) (t 3) (t 7) (t 8) (t 9) h :=
  c_loop (F := fun m t _ h => f198_5 o c n k m (t 1) (t 2) (t 3) (t 7) (t 8) (t 9) h) (by kernel_rfl) (by kernel_rfl) fun m => by kernel_rfl
noncomputable def f198_4 (s1 s2 s3 s7 s8 s9 : AV) (h : Heap) : α :=
  f198_5 o c n k n s1 s2 s3 s7 s8 s9 h
theorem f198_4_ok : R Pq o c n (cB (cA (cB (cB b198)))) (f198_3K o c n k w) = fun t _ h => f198_4 o c n k (t 1) (t 2) (t 3) (t 7) (t 8) (t 9) h := (kblk (f198_5_ok o c n k w)).tk
noncomputable def f198_2 (s1 s2 s3 : AV) (h : Heap) : α :=
  faF o 5 s1 fun v13 => load1F o h v13 fun v14 => lenF o v14 fun v15 => f198_4 o c n k s1 s2 s3 v14 v15 (.i .i64 0) h
theorem f198_2_ok : R Pq o c n (cB (cB b198)) (kend Pq o c n w rs198 k) = fun t _ h => f198_2 o c n k (t 1) (t 2) (t 3) h := (kseq rfl (kseq (f198_4_ok o c n k w) rfl)).tk
noncomputable def f198_1 (s1 s2 : AV) (h : Heap) : α :=
  f198_2 o c n k s1 s2 .nsl h
theorem f198_1_ok : R Pq o c n (cB b198) (kend Pq o c n w rs198 k) = fun t _ h => f198_1 o c n k (t 1) (t 2) h := (kseq (f198_2_ok o c n k w) rfl).tk
noncomputable def f198 (a0 : AV) (h : Heap) : α :=
  boxF o a0 h h.next fun v16 h => newF h h.next 8 [(.i .i64 0), (.i .i32 0), (.s 0 0), (.s 0 0), (.s 0 0), .nsl, (.s 0 0), (.i .i64 0)] fun v17 h => f198_1 o c n k v16 v17 h
theorem f198_ok : R Pq o c n b198 (kend Pq o c n w rs198 k) = fun t _ h => f198 o c n k (t 0) h := (kseq (f198_1_ok o c n k w) rfl).tk
theorem f198_good : Good Pq (cfg mm) 198 (entF Pq (cfg mm) 198 1 fun α => f198) := entG b198 rs198 22 fun _ => f198_ok
noncomputable def b199 := bdy Tryz.f199
noncomputable def rs199 := Tryz.f199.results.toList
noncomputable def f199_4K : Ex → K α := (nxK (R Pq o c n (cB (cB (cB (cB b199)))) (kend Pq o c n w rs199 k)) (kend Pq o c n w rs199 k))
noncomputable def f199_6 {α : Type} (o : α) (c : Call' α) (n : Nat) (k : AV → Heap → α) (m : Nat) : AVs (Heap → α) 7 :=
  Nat.rec (motive := fun _ => AVs (Heap → α) 7) (fun _ _ _ _ _ _ _ _ => o) (fun _ lp0 s0 s3 s4 s5 s16 s17 s18 h => lssF Pq o 3 s18 s17 fun v1 => ifF o v1 (ixF o 8 s16 s18 fun v2 => loadNF o h 8 v2 fun v3 => newF h h.next 8 [(.i .i64 0), (.i .i32 0), (.s 0 0), (.s 0 0), (.s 0 0), .nsl, (.s 0 0), (.i .i64 0)] fun v4 h => storeF o h 8 v4 v3 fun h => loadNF o h 8 v4 fun v5 => c 199 [s0, v5] h fun v6 h => pk k v6 h <| fil1 o 8 1 0 v6 [[(.i .i64 0), (.i .i32 0), (.s 0 0), (.s 0 0), (.s 0 0), .nsl, (.s 0 0), (.i .i64 0)]] fun v7 => newEF h h.next 8 1 v7 fun v8 h => appX Pq o h h.next 39 39 s5 v8 fun v9 h => addF Pq o 3 s18 (.i .i64 1) fun v10 => lp0 s0 s3 s4 v9 s16 s17 v10 h) (faF o 5 s3 fun v11 => storeF o h 1 v11 s5 fun h => loadNF o h 8 s3 fun v12 => storeF o h 8 s4 v12 fun h => on o (resV Pq h [(s4, some 43)]) fun v => k v h)) m
theorem f199_6_ok : R Pq o c n (cA (cB (cA (cB (cB (cB b199)))))) (blockK (cI (cB (cA (cB (cB (cB b199)))))) (f199_4K o c n k w)) = fun t _ h => f199_6 o c n k n (t 0) (t 3) (t 4) (t 5) (t 16) (t 17) (t 18) h :=
  c_loop (F := fun m t _ h => f199_6 o c n k m (t 0) (t 3) (t 4) (t 5) (t 16) (t 17) (t 18) h) (by kernel_rfl) (by kernel_rfl) fun m => by kernel_rfl
noncomputable def f199_5 (s0 s3 s4 s5 s16 s17 s18 : AV) (h : Heap) : α :=
  f199_6 o c n k n s0 s3 s4 s5 s16 s17 s18 h
theorem f199_5_ok : R Pq o c n (cB (cA (cB (cB (cB b199))))) (f199_4K o c n k w) = fun t _ h => f199_5 o c n k (t 0) (t 3) (t 4) (t 5) (t 16) (t 17) (t 18) h := (kblk (f199_6_ok o c n k w)).tk
noncomputable def f199_3 (s0 s3 s4 s5 : AV) (h : Heap) : α :=
  faF o 5 s3 fun v13 => load1F o h v13 fun v14 => lenF o v14 fun v15 => f199_5 o c n k s0 s3 s4 s5 v14 v15 (.i .i64 0) h
theorem f199_3_ok : R Pq o c n (cB (cB (cB b199))) (kend Pq o c n w rs199 k) = fun t _ h => f199_3 o c n k (t 0) (t 3) (t 4) (t 5) h := (kseq rfl (kseq (f199_5_ok o c n k w) rfl)).tk
noncomputable def f199_2 (s0 s3 s4 : AV) (h : Heap) : α :=
  f199_3 o c n k s0 s3 s4 .nsl h
theorem f199_2_ok : R Pq o c n (cB (cB b199)) (kend Pq o c n w rs199 k) = fun t _ h => f199_2 o c n k (t 0) (t 3) (t 4) h := (kseq (f199_3_ok o c n k w) rfl).tk
noncomputable def f199_1 (s0 s3 s4 : AV) (h : Heap) : α :=
  c 251 [s0] h fun v16 h => pk k v16 h <| ifF o v16 (nilChk o s0 fun v17 => faF o 1 v17 fun v18 => loadNF o h 8 v18 fun v19 => c 198 [v19] h fun v20 h => pk k v20 h <| storeF o h 8 s4 v20 fun h => on o (resV Pq h [(s4, some 43)]) fun v => k v h) (f199_2 o c n k s0 s3 s4 h)
theorem f199_1_ok : R Pq o c n (cB b199) (kend Pq o c n w rs199 k) = fun t _ h => f199_1 o c n k (t 0) (t 3) (t 4) h := (kseq (f199_2_ok o c n k w) rfl).tk
noncomputable def f199 (a0 a1 : AV) (h : Heap) : α :=
  boxF o a1 h h.next fun v21 h => newF h h.next 8 [(.i .i64 0), (.i .i32 0), (.s 0 0), (.s 0 0), (.s 0 0), .nsl, (.s 0 0), (.i .i64 0)] fun v22 h => f199_1 o c n k a0 v21 v22 h
theorem f199_ok : R Pq o c n b199 (kend Pq o c n w rs199 k) = fun t _ h => f199 o c n k (t 0) (t 1) h := (kseq (f199_1_ok o c n k w) rfl).tk
theorem f199_good : Good Pq (cfg mm) 199 (entF Pq (cfg mm) 199 2 fun α => f199) := entG b199 rs199 32 fun _ => f199_ok
noncomputable def b200 := bdy Tryz.f200
noncomputable def rs200 := Tryz.f200.results.toList
noncomputable def f200_3K (lp0 : AVs (Heap → α) 4) : Ex → K α := (nxK (fun t _ h => lp0 (t 1) (t 10) (t 11) (t 12) h) (blockK (cI (cB b200)) (kend Pq o c n w rs200 k)))
noncomputable def f200_6K (lp0 : AVs (Heap → α) 4) : Ex → K α := (nxK (R Pq o c n (cB (cB (cB (cA (cA (cB b200)))))) (f200_3K o c n k w lp0)) (f200_3K o c n k w lp0))
noncomputable def f200_10 {α : Type} (o : α) (c : Call' α) (n : Nat) (k : AV → Heap → α) (lp0 : AVs (Heap → α) 4) (m : Nat) : AVs (Heap → α) 7 :=
  Nat.rec (motive := fun _ => AVs (Heap → α) 7) (fun _ _ _ _ _ _ _ _ => o) (fun _ lp1 s1 s10 s11 s12 s33 s34 s35 h => lssF Pq o 3 s35 s34 fun v1 => ifF o v1 (ixF o 1 s33 s35 fun v2 => load1F o h v2 fun v3 => c 200 [v3, s1] h fun v4 h => pk k v4 h <| addF Pq o 3 s35 (.i .i64 1) fun v5 => lp1 s1 s10 s11 s12 s33 s34 v5 h) (addF Pq o 3 s12 (.i .i64 1) fun v6 => lp0 s1 s10 s11 v6 h)) m
theorem f200_10_ok (lp0 : AVs (Heap → α) 4) : R Pq o c n (cA (cB (cB (cB (cA (cA (cB (cB (cA (cA (cB b200))))))))))) (blockK (cI (cB (cB (cB (cA (cA (cB (cB (cA (cA (cB b200))))))))))) (blockK (cI (cA (cB (cB (cA (cA (cB b200))))))) (f200_6K o c n k w lp0))) = fun t _ h => f200_10 o c n k lp0 n (t 1) (t 10) (t 11) (t 12) (t 33) (t 34) (t 35) h :=
  c_loop (F := fun m t _ h => f200_10 o c n k lp0 m (t 1) (t 10) (t 11) (t 12) (t 33) (t 34) (t 35) h) (by kernel_rfl) (by kernel_rfl) fun m => by kernel_rfl
noncomputable def f200_9 (lp0 : AVs (Heap → α) 4) (s1 s10 s11 s12 s33 s34 s35 : AV) (h : Heap) : α :=
  f200_10 o c n k lp0 n s1 s10 s11 s12 s33 s34 s35 h
theorem f200_9_ok (lp0 : AVs (Heap → α) 4) : R Pq o c n (cB (cB (cB (cA (cA (cB (cB (cA (cA (cB b200)))))))))) (blockK (cI (cA (cB (cB (cA (cA (cB b200))))))) (f200_6K o c n k w lp0)) = fun t _ h => f200_9 o c n k lp0 (t 1) (t 10) (t 11) (t 12) (t 33) (t 34) (t 35) h := (kblk (f200_10_ok o c n k w lp0)).tk
noncomputable def f200_8 (lp0 : AVs (Heap → α) 4) (s1 s5 s10 s11 s12 : AV) (h : Heap) : α :=
  faF o 5 s5 fun v7 => load1F o h v7 fun v8 => faF o 6 s5 fun v9 => load1F o h v9 fun v10 => faF o 7 s5 fun v11 => load1F o h v11 fun v12 => fil1 o 1 3 0 v8 [[.nsl], [.nsl], [.nsl]] fun v13 => fil1 o 1 3 1 v10 v13 fun v14 => fil1 o 1 3 2 v12 v14 fun v15 => newEF h h.next 1 3 v15 fun v16 h => lenF o v16 fun v17 => f200_9 o c n k lp0 s1 s10 s11 s12 v16 v17 (.i .i64 0) h
theorem f200_8_ok (lp0 : AVs (Heap → α) 4) : R Pq o c n (cB (cB (cA (cA (cB (cB (cA (cA (cB b200))))))))) (blockK (cI (cA (cB (cB (cA (cA (cB b200))))))) (f200_6K o c n k w lp0)) = fun t _ h => f200_8 o c n k lp0 (t 1) (t 5) (t 10) (t 11) (t 12) h := (kseq (f200_9_ok o c n k w lp0) rfl).tk
noncomputable def f200_11K (lp0 : AVs (Heap → α) 4) : Ex → K α := (nxK (fun t _ h => f200_8 o c n k lp0 (t 1) (t 5) (t 10) (t 11) (t 12) h) (blockK (cI (cA (cB (cB (cA (cA (cB b200))))))) (f200_6K o c n k w lp0)))
noncomputable def f200_13 (lp0 : AVs (Heap → α) 4) (m : Nat) : AVs (Heap → α) 8 :=
  Nat.rec (motive := fun _ => AVs (Heap → α) 8) (fun _ _ _ _ _ _ _ _ _ => o) (fun _ lp1 s1 s5 s10 s11 s12 s17 s18 s19 h => lssF Pq o 3 s19 s18 fun v18 => ifF o v18 (ixF o 8 s17 s19 fun v19 => loadNF o h 8 v19 fun v20 => newF h h.next 8 [(.i .i64 0), (.i .i32 0), (.s 0 0), (.s 0 0), (.s 0 0), .nsl, (.s 0 0), (.i .i64 0)] fun v21 h => storeF o h 8 v21 v20 fun h => loadNF o h 8 v21 fun v22 => c 196 [v22, s1] h fun v23 h => pk k v23 h <| addF Pq o 3 s19 (.i .i64 1) fun v24 => lp1 s1 s5 s10 s11 s12 s17 s18 v24 h) (f200_8 o c n k lp0 s1 s5 s10 s11 s12 h)) m
theorem f200_13_ok (lp0 : AVs (Heap → α) 4) : R Pq o c n (cA (cB (cA (cB (cA (cA (cB (cB (cA (cA (cB b200))))))))))) (blockK (cI (cB (cA (cB (cA (cA (cB (cB (cA (cA (cB b200))))))))))) (f200_11K o c n k w lp0)) = fun t _ h => f200_13 o c n k lp0 n (t 1) (t 5) (t 10) (t 11) (t 12) (t 17) (t 18) (t 19) h :=
  c_loop (F := fun m t _ h => f200_13 o c n k lp0 m (t 1) (t 5) (t 10) (t 11) (t 12) (t 17) (t 18) (t 19) h) (by kernel_rfl) (by kernel_rfl) fun m => by kernel_rfl
noncomputable def f200_12 (lp0 : AVs (Heap → α) 4) (s1 s5 s10 s11 s12 s17 s18 s19 : AV) (h : Heap) : α :=
  f200_13 o c n k lp0 n s1 s5 s10 s11 s12 s17 s18 s19 h
theorem f200_12_ok (lp0 : AVs (Heap → α) 4) : R Pq o c n (cB (cA (cB (cA (cA (cB (cB (cA (cA (cB b200)))))))))) (f200_11K o c n k w lp0) = fun t _ h => f200_12 o c n k lp0 (t 1) (t 5) (t 10) (t 11) (t 12) (t 17) (t 18) (t 19) h := (kblk (f200_13_ok o c n k w lp0)).tk
noncomputable def f200_7 (lp0 : AVs (Heap → α) 4) (s1 s5 s10 s11 s12 : AV) (h : Heap) : α :=
  faF o 4 s5 fun v25 => load1F o h v25 fun v26 => lenF o v26 fun v27 => f200_12 o c n k lp0 s1 s5 s10 s11 s12 v26 v27 (.i .i64 0) h
theorem f200_7_ok (lp0 : AVs (Heap → α) 4) : R Pq o c n (cB (cA (cA (cB (cB (cA (cA (cB b200)))))))) (blockK (cI (cA (cB (cB (cA (cA (cB b200))))))) (f200_6K o c n k w lp0)) = fun t _ h => f200_7 o c n k lp0 (t 1) (t 5) (t 10) (t 11) (t 12) h := (kseq (f200_8_ok o c n k w lp0) (kseq (f200_12_ok o c n k w lp0) rfl)).tk
noncomputable def f200_5 (lp0 : AVs (Heap → α) 4) (s1 s10 s11 s12 : AV) (h : Heap) : α :=
  ixF o 9 s10 s12 fun v28 => loadNF o h 9 v28 fun v29 => newF h h.next 9 [(.i .i64 0), (.i .i32 0), (.s 0 0), (.s 0 0), .nsl, .nsl, .nsl, .nsl, (.i .i64 0)] fun v30 h => storeF o h 9 v30 v29 fun h => f200_7 o c n k lp0 s1 v30 s10 s11 s12 h
theorem f200_5_ok (lp0 : AVs (Heap → α) 4) : R Pq o c n (cB (cB (cA (cA (cB b200))))) (f200_3K o c n k w lp0) = fun t _ h => f200_5 o c n k lp0 (t 1) (t 10) (t 11) (t 12) h := (kseq rfl (kblk (kseq (f200_7_ok o c n k w lp0) rfl))).tk
noncomputable def f200_4 (lp0 : AVs (Heap → α) 4) (s1 s10 s11 s12 s13 : AV) (h : Heap) : α :=
  ifF o s13 (f200_5 o c n k lp0 s1 s10 s11 s12 h) (k (.tup []) h)
theorem f200_4_ok (lp0 : AVs (Heap → α) 4) : R Pq o c n (cB (cA (cA (cB b200)))) (f200_3K o c n k w lp0) = fun t _ h => f200_4 o c n k lp0 (t 1) (t 10) (t 11) (t 12) (t 13) h := (kseq (f200_5_ok o c n k w lp0) rfl).tk
noncomputable def f200_2 (m : Nat) : AVs (Heap → α) 4 :=
  Nat.rec (motive := fun _ => AVs (Heap → α) 4) (fun _ _ _ _ _ => o) (fun _ lp0 s1 s10 s11 s12 h => lssF Pq o 3 s12 s11 fun v31 => f200_4 o c n k lp0 s1 s10 s11 s12 v31 h) m
theorem f200_2_ok : R Pq o c n (cA (cB b200)) (blockK (cI (cB b200)) (kend Pq o c n w rs200 k)) = fun t _ h => f200_2 o c n k n (t 1) (t 10) (t 11) (t 12) h :=
  c_loop (F := fun m t _ h => f200_2 o c n k m (t 1) (t 10) (t 11) (t 12) h) (by kernel_rfl) (by kernel_rfl) fun m => (kseq (f200_4_ok o c n k w (f200_2 o c n k m)) rfl).tk
noncomputable def f200_1 (s1 s10 s11 s12 : AV) (h : Heap) : α :=
  f200_2 o c n k n s1 s10 s11 s12 h
theorem f200_1_ok : R Pq o c n (cB b200) (kend Pq o c n w rs200 k) = fun t _ h => f200_1 o c n k (t 1) (t 10) (t 11) (t 12) h := (kblk (f200_2_ok o c n k w)).tk
noncomputable def f200 (a0 a1 : AV) (h : Heap) : α :=
  lenF o a0 fun v32 => f200_1 o c n k a1 a0 v32 (.i .i64 0) h
theorem f200_ok : R Pq o c n b200 (kend Pq o c n w rs200 k) = fun t _ h => f200 o c n k (t 0) (t 1) h := (kseq (f200_1_ok o c n k w) rfl).tk
theorem f200_good : Good Pq (cfg mm) 200 (entF Pq (cfg mm) 200 2 fun α => f200) := entG b200 rs200 44 fun _ => f200_ok
noncomputable def b201 := bdy Tryz.f201
noncomputable def rs201 := Tryz.f201.results.toList
noncomputable def f201 {α : Type} (o : α) (c : Call' α) (n : Nat) (k : AV → Heap → α) (a0 a1 : AV) (h : Heap) : α :=
  boxF o a0 h h.next fun v1 h => dreg o h 9 fun base h => load1F o (h.look 0) a1 fun v2 => loadNF o (h.look 0) 8 v1 fun v3 => callD o c (hidD false [(.fn (.func 198) [] []), v3] (lapp [Nat.add base 4] []) (sBlk a1 [])) 198 [v3] (h.look 0) fun v4 h => pnF v4 (fun x => o) <| lenF o v2 fun v5 => fil1 o 8 1 0 (.agg [(.i .i64 0), (.i .i32 0), (.s 0 0), (.s 0 0), (.s 0 0), .nsl, (.s 0 0), (.i .i64 0)]) [[(.i .i64 0), (.i .i32 0), (.s 0 0), (.s 0 0), (.s 0 0), .nsl, (.s 0 0), (.i .i64 0)]] fun v6 => newEF (h.look 0) (Nat.add base 4) 8 1 v6 fun v7 h => lb [] fun ids => appD o ids (Nat.add base 5) <| appendY Pq o (hide ids (h.look 31)) (Nat.add base 5) 39 39 v2 v7 fun v8 g => hb (back h ids g) fun h => ixF o 8 v8 v5 fun v9 => storeF o (h.look 127) 8 v9 v4 fun h => lb (sBlk v9 []) fun ids => storeF o (hide ids (h.look 63)) 1 a1 v8 fun g => hb (back h ids g) fun h => hb h.shut fun h => k (.tup []) h
theorem f201_ok : R Pq o c n b201 (kend Pq o c n w rs201 k) = fun t _ h => f201 o c n k (t 0) (t 1) h := by kernel_rfl
theorem f201_good : Good Pq (cfg mm) 201 (entF Pq (cfg mm) 201 2 fun α => f201) := entG b201 rs201 10 fun _ => f201_ok
noncomputable def b202 := bdy Tryz.f202
noncomputable def rs202 := Tryz.f202.results.toList
noncomputable def f202_3K : Ex → K α := (nxK (R Pq o c n (cB (cB (cB b202))) (kend Pq o c n w rs202 k)) (kend Pq o c n w rs202 k))
noncomputable def f202_6K (lp0 : AVs (Heap → α) 5) : Ex → K α := (nxK (fun t _ h => lp0 (t 0) (t 5) (t 11) (t 12) (t 13) h) (blockK (cI (cB (cA (cB (cB b202))))) (f202_3K o c n k w)))
noncomputable def f202_9K (lp0 : AVs (Heap → α) 5) : Ex → K α := (nxK (R Pq o c n (cB (cB (cB (cA (cA (cB (cA (cB (cB b202))))))))) (f202_6K o c n k w lp0)) (f202_6K o c n k w lp0))
noncomputable def f202_12K (lp0 : AVs (Heap → α) 5) : Ex → K α := (nxK (R Pq o c n (cB (cB (cB (cA (cA (cB (cB (cA (cA (cB (cA (cB (cB b202))))))))))))) (blockK (cI (cA (cB (cB (cA (cA (cB (cA (cB (cB b202)))))))))) (f202_9K o c n k w lp0))) (blockK (cI (cA (cB (cB (cA (cA (cB (cA (cB (cB b202)))))))))) (f202_9K o c n k w lp0)))
noncomputable def f202_14 {α : Type} (o : α) (c : Call' α) (n : Nat) (k : AV → Heap → α) (lp0 : AVs (Heap → α) 5) (m : Nat) : AVs (Heap → α) 10 :=
  Nat.rec (motive := fun _ => AVs (Heap → α) 10) (fun _ _ _ _ _ _ _ _ _ _ _ => o) (fun _ lp1 s0 s5 s7 s8 s11 s12 s13 s18 s19 s20 h => lssF Pq o 3 s20 s19 fun v1 => ifF o v1 (ixF o 8 s18 s20 fun v2 => loadNF o h 8 v2 fun v3 => newF h h.next 8 [(.i .i64 0), (.i .i32 0), (.s 0 0), (.s 0 0), (.s 0 0), .nsl, (.s 0 0), (.i .i64 0)] fun v4 h => storeF o h 8 v4 v3 fun h => loadNF o h 8 v4 fun v5 => c 199 [s0, v5] h fun v6 h => pk k v6 h <| fil1 o 8 1 0 v6 [[(.i .i64 0), (.i .i32 0), (.s 0 0), (.s 0 0), (.s 0 0), .nsl, (.s 0 0), (.i .i64 0)]] fun v7 => newEF h h.next 8 1 v7 fun v8 h => appX Pq o h h.next 39 39 s8 v8 fun v9 h => addF Pq o 3 s20 (.i .i64 1) fun v10 => lp1 s0 s5 s7 v9 s11 s12 s13 s18 s19 v10 h) (faF o 4 s7 fun v11 => storeF o h 1 v11 s8 fun h => faF o 5 s7 fun v12 => load1F o h v12 fun v13 => c 202 [s0, v13] h fun v14 h => pk k v14 h <| faF o 5 s7 fun v15 => storeF o h 1 v15 v14 fun h => faF o 6 s7 fun v16 => load1F o h v16 fun v17 => c 202 [s0, v17] h fun v18 h => pk k v18 h <| faF o 6 s7 fun v19 => storeF o h 1 v19 v18 fun h => faF o 7 s7 fun v20 => load1F o h v20 fun v21 => c 202 [s0, v21] h fun v22 h => pk k v22 h <| faF o 7 s7 fun v23 => storeF o h 1 v23 v22 fun h => loadNF o h 9 s7 fun v24 => fil1 o 9 1 0 v24 [[(.i .i64 0), (.i .i32 0), (.s 0 0), (.s 0 0), .nsl, .nsl, .nsl, .nsl, (.i .i64 0)]] fun v25 => newEF h h.next 9 1 v25 fun v26 h => appX Pq o h h.next 36 36 s5 v26 fun v27 h => addF Pq o 3 s13 (.i .i64 1) fun v28 => lp0 s0 v27 s11 s12 v28 h)) m
theorem f202_14_ok (lp0 : AVs (Heap → α) 5) : R Pq o c n (cA (cB (cA (cB (cB (cA (cA (cB (cB (cA (cA (cB (cA (cB (cB b202))))))))))))))) (blockK (cI (cB (cA (cB (cB (cA (cA (cB (cB (cA (cA (cB (cA (cB (cB b202))))))))))))))) (f202_12K o c n k w lp0)) = fun t _ h => f202_14 o c n k lp0 n (t 0) (t 5) (t 7) (t 8) (t 11) (t 12) (t 13) (t 18) (t 19) (t 20) h :=
  c_loop (F := fun m t _ h => f202_14 o c n k lp0 m (t 0) (t 5) (t 7) (t 8) (t 11) (t 12) (t 13) (t 18) (t 19) (t 20) h) (by kernel_rfl) (by kernel_rfl) fun m => by kernel_rfl
noncomputable def f202_13 (lp0 : AVs (Heap → α) 5) (s0 s5 s7 s8 s11 s12 s13 s18 s19 s20 : AV) (h : Heap) : α :=
  f202_14 o c n k lp0 n s0 s5 s7 s8 s11 s12 s13 s18 s19 s20 h
theorem f202_13_ok (lp0 : AVs (Heap → α) 5) : R Pq o c n (cB (cA (cB (cB (cA (cA (cB (cB (cA (cA (cB (cA (cB (cB b202)))))))))))))) (f202_12K o c n k w lp0) = fun t _ h => f202_13 o c n k lp0 (t 0) (t 5) (t 7) (t 8) (t 11) (t 12) (t 13) (t 18) (t 19) (t 20) h := (kblk (f202_14_ok o c n k w lp0)).tk
noncomputable def f202_11 (lp0 : AVs (Heap → α) 5) (s0 s5 s7 s8 s11 s12 s13 : AV) (h : Heap) : α :=
  faF o 4 s7 fun v29 => load1F o h v29 fun v30 => lenF o v30 fun v31 => f202_13 o c n k lp0 s0 s5 s7 s8 s11 s12 s13 v30 v31 (.i .i64 0) h
theorem f202_11_ok (lp0 : AVs (Heap → α) 5) : R Pq o c n (cB (cB (cA (cA (cB (cB (cA (cA (cB (cA (cB (cB b202)))))))))))) (blockK (cI (cA (cB (cB (cA (cA (cB (cA (cB (cB b202)))))))))) (f202_9K o c n k w lp0)) = fun t _ h => f202_11 o c n k lp0 (t 0) (t 5) (t 7) (t 8) (t 11) (t 12) (t 13) h := (kseq rfl (kseq (f202_13_ok o c n k w lp0) rfl)).tk
noncomputable def f202_10 (lp0 : AVs (Heap → α) 5) (s0 s5 s7 s11 s12 s13 : AV) (h : Heap) : α :=
  f202_11 o c n k lp0 s0 s5 s7 .nsl s11 s12 s13 h
theorem f202_10_ok (lp0 : AVs (Heap → α) 5) : R Pq o c n (cB (cA (cA (cB (cB (cA (cA (cB (cA (cB (cB b202))))))))))) (blockK (cI (cA (cB (cB (cA (cA (cB (cA (cB (cB b202)))))))))) (f202_9K o c n k w lp0)) = fun t _ h => f202_10 o c n k lp0 (t 0) (t 5) (t 7) (t 11) (t 12) (t 13) h := (kseq (f202_11_ok o c n k w lp0) rfl).tk
noncomputable def f202_8 (lp0 : AVs (Heap → α) 5) (s0 s5 s11 s12 s13 : AV) (h : Heap) : α :=
  ixF o 9 s11 s13 fun v32 => loadNF o h 9 v32 fun v33 => newF h h.next 9 [(.i .i64 0), (.i .i32 0), (.s 0 0), (.s 0 0), .nsl, .nsl, .nsl, .nsl, (.i .i64 0)] fun v34 h => storeF o h 9 v34 v33 fun h => f202_10 o c n k lp0 s0 s5 v34 s11 s12 s13 h
theorem f202_8_ok (lp0 : AVs (Heap → α) 5) : R Pq o c n (cB (cB (cA (cA (cB (cA (cB (cB b202)))))))) (f202_6K o c n k w lp0) = fun t _ h => f202_8 o c n k lp0 (t 0) (t 5) (t 11) (t 12) (t 13) h := (kseq rfl (kblk (kseq (f202_10_ok o c n k w lp0) rfl))).tk
noncomputable def f202_7 (lp0 : AVs (Heap → α) 5) (s0 s5 s11 s12 s13 s14 : AV) (h : Heap) : α :=
  ifF o s14 (f202_8 o c n k lp0 s0 s5 s11 s12 s13 h) (k s5 h)
theorem f202_7_ok (lp0 : AVs (Heap → α) 5) : R Pq o c n (cB (cA (cA (cB (cA (cB (cB b202))))))) (f202_6K o c n k w lp0) = fun t _ h => f202_7 o c n k lp0 (t 0) (t 5) (t 11) (t 12) (t 13) (t 14) h := (kseq (f202_8_ok o c n k w lp0) rfl).tk
noncomputable def f202_5 (m : Nat) : AVs (Heap → α) 5 :=
  Nat.rec (motive := fun _ => AVs (Heap → α) 5) (fun _ _ _ _ _ _ => o) (fun _ lp0 s0 s5 s11 s12 s13 h => lssF Pq o 3 s13 s12 fun v35 => f202_7 o c n k lp0 s0 s5 s11 s12 s13 v35 h) m
theorem f202_5_ok : R Pq o c n (cA (cB (cA (cB (cB b202))))) (blockK (cI (cB (cA (cB (cB b202))))) (f202_3K o c n k w)) = fun t _ h => f202_5 o c n k n (t 0) (t 5) (t 11) (t 12) (t 13) h :=
  c_loop (F := fun m t _ h => f202_5 o c n k m (t 0) (t 5) (t 11) (t 12) (t 13) h) (by kernel_rfl) (by kernel_rfl) fun m => (kseq (f202_7_ok o c n k w (f202_5 o c n k m)) rfl).tk
noncomputable def f202_4 (s0 s5 s11 s12 s13 : AV) (h : Heap) : α :=
  f202_5 o c n k n s0 s5 s11 s12 s13 h
theorem f202_4_ok : R Pq o c n (cB (cA (cB (cB b202)))) (f202_3K o c n k w) = fun t _ h => f202_4 o c n k (t 0) (t 5) (t 11) (t 12) (t 13) h := (kblk (f202_5_ok o c n k w)).tk
noncomputable def f202_2 (s0 s1 s5 : AV) (h : Heap) : α :=
  lenF o s1 fun v36 => f202_4 o c n k s0 s5 s1 v36 (.i .i64 0) h
theorem f202_2_ok : R Pq o c n (cB (cB b202)) (kend Pq o c n w rs202 k) = fun t _ h => f202_2 o c n k (t 0) (t 1) (t 5) h := (kseq rfl (kseq (f202_4_ok o c n k w) rfl)).tk
noncomputable def f202_1 (s0 s1 : AV) (h : Heap) : α :=
  f202_2 o c n k s0 s1 .nsl h
theorem f202_1_ok : R Pq o c n (cB b202) (kend Pq o c n w rs202 k) = fun t _ h => f202_1 o c n k (t 0) (t 1) h := (kseq (f202_2_ok o c n k w) rfl).tk
noncomputable def f202 (a0 a1 : AV) (h : Heap) : α :=
  f202_1 o c n k a0 a1 h
theorem f202_ok : R Pq o c n b202 (kend Pq o c n w rs202 k) = fun t _ h => f202 o c n k (t 0) (t 1) h := (kseq (f202_1_ok o c n k w) rfl).tk
theorem f202_good : Good Pq (cfg mm) 202 (entF Pq (cfg mm) 202 2 fun α => f202) := entG b202 rs202 54 fun _ => f202_ok
noncomputable def b218 := bdy Tryz.f218
noncomputable def rs218 := Tryz.f218.results.toList
noncomputable def f218_5K : Ex → K α := (nxK (R Pq o c n (cB (cB (cB (cB (cB b218))))) (kend Pq o c n w rs218 k)) (kend Pq o c n w rs218 k))
noncomputable def f218_7 {α : Type} (o : α) (c : Call' α) (n : Nat) (k : AV → Heap → α) (m : Nat) : AVs (Heap → α) 5 :=
  Nat.rec (motive := fun _ => AVs (Heap → α) 5) (fun _ _ _ _ _ _ => o) (fun _ lp0 s0 s1 s5 s6 s7 h => lensF o s5 fun v1 => lssF Pq o 3 s7 v1 fun v2 => ifF o v2 (binA Pq o .mul 3 s6 (.i .i64 10) fun v3 => sxF o s5 s7 fun v4 => binA Pq o .sub 5 v4 (.i .u8 48) fun v5 => convA Pq o 5 3 v5 fun v6 => addF Pq o 3 v3 v6 fun v7 => minmax o false v7 (.i .i64 1099511627776) fun v8 => addF Pq o 3 s7 (.i .i64 1) fun v9 => lp0 s0 s1 s5 v8 v9 h) (gtrF Pq o 3 s6 s1 fun v10 => ifF o v10 (c 63 [s0, (.i .i64 5)] h fun v11 h => pk k v11 h <| k (.i .i32 0) h) (nilChk o s0 fun v12 => faF o 2 v12 fun v13 => load1F o h v13 fun v14 => addF Pq o 3 v14 (.i .i64 1) fun v15 => nilChk o s0 fun v16 => faF o 2 v16 fun v17 => storeF o h 1 v17 v15 fun h => convA Pq o 3 21 s6 fun v18 => k v18 h))) m
theorem f218_7_ok : R Pq o c n (cA (cB (cA (cB (cB (cB (cB b218))))))) (blockK (cI (cB (cA (cB (cB (cB (cB b218))))))) (f218_5K o c n k w)) = fun t _ h => f218_7 o c n k n (t 0) (t 1) (t 5) (t 6) (t 7) h :=
  c_loop (F := fun m t _ h => f218_7 o c n k m (t 0) (t 1) (t 5) (t 6) (t 7) h) (by kernel_rfl) (by kernel_rfl) fun m => by kernel_rfl
noncomputable def f218_6 (s0 s1 s5 s6 s7 : AV) (h : Heap) : α :=
  f218_7 o c n k n s0 s1 s5 s6 s7 h
theorem f218_6_ok : R Pq o c n (cB (cA (cB (cB (cB (cB b218)))))) (f218_5K o c n k w) = fun t _ h => f218_6 o c n k (t 0) (t 1) (t 5) (t 6) (t 7) h := (kblk (f218_7_ok o c n k w)).tk
noncomputable def f218_4 (s0 s1 s5 s6 : AV) (h : Heap) : α :=
  f218_6 o c n k s0 s1 s5 s6 (.i .i64 0) h
theorem f218_4_ok : R Pq o c n (cB (cB (cB (cB b218)))) (kend Pq o c n w rs218 k) = fun t _ h => f218_4 o c n k (t 0) (t 1) (t 5) (t 6) h := (kseq rfl (kseq (f218_6_ok o c n k w) rfl)).tk
noncomputable def f218_3 (s0 s1 s5 : AV) (h : Heap) : α :=
  f218_4 o c n k s0 s1 s5 (.i .i64 0) h
theorem f218_3_ok : R Pq o c n (cB (cB (cB b218))) (kend Pq o c n w rs218 k) = fun t _ h => f218_3 o c n k (t 0) (t 1) (t 5) h := (kseq (f218_4_ok o c n k w) rfl).tk
noncomputable def f218_2 (s0 s1 : AV) (h : Heap) : α :=
  dreg o h 12 fun base h => nilChk o s0 fun v19 => faF o 0 v19 fun v20 => rootF o v20 s0 <| load1F o (h.look 7) v20 fun v21 => nilChk o s0 fun v22 => faF o 2 v22 fun v23 => rootF o v23 s0 <| load1F o (h.look 112) v23 fun v24 => ixF o 3 v21 v24 fun v25 => faF o 1 v25 fun v26 => load1F o (h.look 1023) v26 fun v27 => hb h.shut fun h => f218_3 o c n k s0 s1 v27 h
theorem f218_2_ok : R Pq o c n (cB (cB b218)) (kend Pq o c n w rs218 k) = fun t _ h => f218_2 o c n k (t 0) (t 1) h := (kseq (f218_3_ok o c n k w) rfl).tk
noncomputable def f218_1 (s0 s1 : AV) (h : Heap) : α :=
  c 67 [s0, (.i .i64 0), (.i .i64 2), (.s 0 0)] h fun v28 h => pk k v28 h <| notF o v28 fun v29 => ifF o v29 (c 63 [s0, (.i .i64 3)] h fun v30 h => pk k v30 h <| k (.i .i32 0) h) (f218_2 o c n k s0 s1 h)
theorem f218_1_ok : R Pq o c n (cB b218) (kend Pq o c n w rs218 k) = fun t _ h => f218_1 o c n k (t 0) (t 1) h := (kseq (f218_2_ok o c n k w) rfl).tk
noncomputable def f218 (a0 a1 : AV) (h : Heap) : α :=
  f218_1 o c n k a0 a1 h
theorem f218_ok : R Pq o c n b218 (kend Pq o c n w rs218 k) = fun t _ h => f218 o c n k (t 0) (t 1) h := (kseq (f218_1_ok o c n k w) rfl).tk
theorem f218_good : Good Pq (cfg mm) 218 (entF Pq (cfg mm) 218 2 fun α => f218) := entG b218 rs218 53 fun _ => f218_ok
noncomputable def b223 := bdy Tryz.f223
noncomputable def rs223 := Tryz.f223.results.toList
noncomputable def f223_2K : Ex → K α := (nxK (R Pq o c n (cB (cB b223)) (kend Pq o c n w rs223 k)) (kend Pq o c n w rs223 k))
noncomputable def f223_3 {α : Type} (o : α) (c : Call' α) (n : Nat) (k : AV → Heap → α) (s0 s5 s9 : AV) (h : Heap) : α :=
  pickF o s5 s9 (.b false) fun v1 => bkF o true v1 (c 156 [s0] h fun v2 h => pk k v2 h <| notF o v2 fun v3 => pickF o v1 v3 (.b false) fun v4 => k v4 h) (pickF o v1 (.tup []) (.b false) fun v5 => k v5 h)
theorem f223_3_ok : Q Pq o c (cO (cA (cB b223))) (f223_2K o c n k w) 7 = fun t _ h => f223_3 o c n k (t 0) (t 5) (t 9) h := (q_seg 7 9 (by kernel_rfl) (q_guard 9 12 (8, true) (by kernel_rfl) (by kernel_rfl) (by kernel_rfl) rfl)).tk
noncomputable def f223_1 (s0 : AV) (h : Heap) : α :=
  nesF Pq o 9 s0 (.s 0 0) fun v6 => bkF o true v6 (sxF o s0 (.i .i64 0) fun v7 => convA Pq o 5 21 v7 fun v8 => c 155 [v8] h fun v9 h => pk k v9 h <| f223_3 o c n k s0 v6 v9 h) (f223_3 o c n k s0 v6 (.tup []) h)
theorem f223_1_ok : R Pq o c n (cB b223) (kend Pq o c n w rs223 k) = fun t _ h => f223_1 o c n k (t 0) h := (kseq rfl (r_start 3 (by kernel_rfl) (q_guard 3 7 (2, true) (by kernel_rfl) (by kernel_rfl) (by kernel_rfl) (f223_3_ok o c n k w)))).tk
noncomputable def f223 (a0 : AV) (h : Heap) : α :=
  f223_1 o c n k a0 h
theorem f223_ok : R Pq o c n b223 (kend Pq o c n w rs223 k) = fun t _ h => f223 o c n k (t 0) h := (kseq (f223_1_ok o c n k w) rfl).tk
theorem f223_good : Good Pq (cfg mm) 223 (entF Pq (cfg mm) 223 1 fun α => f223) := entG b223 rs223 16 fun _ => f223_ok
noncomputable def b224 := bdy Tryz.f224
noncomputable def rs224 := Tryz.f224.results.toList
noncomputable def f224_2 {α : Type} (o : α) (c : Call' α) (n : Nat) (k : AV → Heap → α) (s0 s2 : AV) (h : Heap) : α :=
  c 264 [s0] h fun v1 h => pk k v1 h <| c 263 [s0, v1] h fun v2 h => pk k v2 h <| storeF o h 8 s2 v2 fun h => on o (resV Pq h [(s2, some 43)]) fun v => k v h
theorem f224_2_ok : R Pq o c n (cB (cB b224)) (kend Pq o c n w rs224 k) = fun t _ h => f224_2 o c n k (t 0) (t 2) h := by kernel_rfl
noncomputable def f224_3K : Ex → K α := (nxK (fun t _ h => f224_2 o c n k (t 0) (t 2) h) (kend Pq o c n w rs224 k))
noncomputable def f224_4 (s0 s2 s14 : AV) (h : Heap) : α :=
  ifF o s14 (dreg o h 12 fun base h => nilChk o s0 fun v3 => faF o 0 v3 fun v4 => rootF o v4 s0 <| load1F o (h.look 7) v4 fun v5 => nilChk o s0 fun v6 => faF o 2 v6 fun v7 => rootF o v7 s0 <| load1F o (h.look 112) v7 fun v8 => ixF o 3 v5 v8 fun v9 => faF o 1 v9 fun v10 => load1F o (h.look 1023) v10 fun v11 => hb h.shut fun h => c 146 [s0] h fun v12 h => pk k v12 h <| notF o v12 fun v13 => ifF o v13 (storeF o h 8 s2 (.agg [(.i .i64 0), (.i .i32 0), (.s 0 0), (.s 0 0), (.s 0 0), .nsl, (.s 0 0), (.i .i64 0)]) fun h => on o (resV Pq h [(s2, some 43)]) fun v => k v h) (nilChk o s0 fun v14 => faF o 2 v14 fun v15 => load1F o h v15 fun v16 => addF Pq o 3 v16 (.i .i64 1) fun v17 => nilChk o s0 fun v18 => faF o 2 v18 fun v19 => storeF o h 1 v19 v17 fun h => c 224 [s0] h fun v20 h => pk k v20 h <| newF h h.next 8 [(.i .i64 0), (.i .i32 0), (.s 0 0), (.s 0 0), (.s 0 0), .nsl, (.s 0 0), (.i .i64 0)] fun v21 h => storeF o h 8 v21 v20 fun h => nilChk o s0 fun v22 => faF o 5 v22 fun v23 => load1F o h v23 fun v24 => binA Pq o .sub 3 v24 (.i .i64 1) fun v25 => nilChk o s0 fun v26 => faF o 5 v26 fun v27 => storeF o h 1 v27 v25 fun h => loadNF o h 8 v21 fun v28 => fil1 o 8 1 0 v28 [[(.i .i64 0), (.i .i32 0), (.s 0 0), (.s 0 0), (.s 0 0), .nsl, (.s 0 0), (.i .i64 0)]] fun v29 => newEF h h.next 8 1 v29 fun v30 h => layF o 0 (.i .i64 18) [(.i .i64 0), (.i .i32 0), (.s 0 0), (.s 0 0), (.s 0 0), .nsl, (.s 0 0), (.i .i64 0)] fun v31 => layF o 3 v11 v31 fun v32 => layF o 5 v30 v32 fun v33 => storeF o h 8 s2 (.agg v33) fun h => on o (resV Pq h [(s2, some 43)]) fun v => k v h)) (f224_2 o c n k s0 s2 h)
theorem f224_4_ok : R Pq o c n (cB (cA (cB b224))) (f224_3K o c n k w) = fun t _ h => f224_4 o c n k (t 0) (t 2) (t 14) h := by kernel_rfl
noncomputable def f224_5K : Ex → K α := (nxK (fun t _ h => f224_4 o c n k (t 0) (t 2) (t 14) h) (f224_3K o c n k w))
noncomputable def f224_6 (s0 s2 s7 s9 : AV) (h : Heap) : α :=
  pickF o s7 (.b true) s9 fun v34 => bkF o false v34 (c 25 [s0, (.s 1 35)] h fun v35 h => pk k v35 h <| pickF o v34 (.b true) v35 fun v36 => f224_4 o c n k s0 s2 v36 h) (pickF o v34 (.b true) (.tup []) fun v37 => f224_4 o c n k s0 s2 v37 h)
theorem f224_6_ok : Q Pq o c (cO (cA (cA (cB b224)))) (f224_5K o c n k w) 5 = fun t _ h => f224_6 o c n k (t 0) (t 2) (t 7) (t 9) h := (q_seg 5 7 (by kernel_rfl) (q_guard 7 9 (6, false) (by kernel_rfl) (by kernel_rfl) (by kernel_rfl) rfl)).tk
noncomputable def f224_1 (s0 s2 : AV) (h : Heap) : α :=
  c 25 [s0, (.s 1 45)] h fun v38 h => pk k v38 h <| bkF o false v38 (c 25 [s0, (.s 1 33)] h fun v39 h => pk k v39 h <| f224_6 o c n k s0 s2 v38 v39 h) (f224_6 o c n k s0 s2 v38 (.tup []) h)
theorem f224_1_ok : R Pq o c n (cB b224) (kend Pq o c n w rs224 k) = fun t _ h => f224_1 o c n k (t 0) (t 2) h := (kseq (f224_2_ok o c n k w) (kseq (f224_4_ok o c n k w) (r_start 3 (by kernel_rfl) (q_guard 3 5 (2, false) (by kernel_rfl) (by kernel_rfl) (by kernel_rfl) (f224_6_ok o c n k w))))).tk
noncomputable def f224 (a0 : AV) (h : Heap) : α :=
  newF h h.next 8 [(.i .i64 0), (.i .i32 0), (.s 0 0), (.s 0 0), (.s 0 0), .nsl, (.s 0 0), (.i .i64 0)] fun v40 h => f224_1 o c n k a0 v40 h
theorem f224_ok : R Pq o c n b224 (kend Pq o c n w rs224 k) = fun t _ h => f224 o c n k (t 0) h := (kseq (f224_1_ok o c n k w) rfl).tk
theorem f224_good : Good Pq (cfg mm) 224 (entF Pq (cfg mm) 224 1 fun α => f224) := entG b224 rs224 54 fun _ => f224_ok
noncomputable def b225 := bdy Tryz.f225
noncomputable def rs225 := Tryz.f225.results.toList
noncomputable def f225_2K : Ex → K α := (nxK (R Pq o c n (cB (cB b225)) (kend Pq o c n w rs225 k)) (kend Pq o c n w rs225 k))
noncomputable def f225_9 {α : Type} (o : α) (c : Call' α) (n : Nat) (k : AV → Heap → α) (s17 : AV) (h : Heap) : α :=
  ifF o s17 (k (.i .i64 6) h) (k (.i .i64 0) h)
theorem f225_9_ok : R Pq o c n (cB (cB (cB (cB (cB (cB (cB (cB (cB (cB (cB (cA (cB (cA (cB b225))))))))))))))) (blockK (cI (cB (cA (cB b225)))) (f225_2K o c n k w)) = fun t _ h => f225_9 o c n k (t 17) h := by kernel_rfl
noncomputable def f225_8 (s3 s14 : AV) (h : Heap) : α :=
  ifF o s14 (k (.i .i64 5) h) (eqsF Pq o 9 s3 (.s 1 42) fun v1 => ifF o v1 (f225_9 o c n k v1 h) (eqsF Pq o 9 s3 (.s 1 47) fun v2 => ifF o v2 (f225_9 o c n k v2 h) (eqsF Pq o 9 s3 (.s 1 37) fun v3 => ifF o v3 (f225_9 o c n k v3 h) (eqsF Pq o 9 s3 (.s 1 64) fun v4 => f225_9 o c n k v4 h))))
theorem f225_8_ok : R Pq o c n (cB (cB (cB (cB (cB (cB (cB (cB (cB (cA (cB (cA (cB b225))))))))))))) (blockK (cI (cB (cA (cB b225)))) (f225_2K o c n k w)) = fun t _ h => f225_8 o c n k (t 3) (t 14) h := (c_cond (by kernel_rfl) rfl (kseq (f225_9_ok o c n k w) rfl)).tk
noncomputable def f225_7 (s3 s11 : AV) (h : Heap) : α :=
  ifF o s11 (k (.i .i64 4) h) (eqsF Pq o 9 s3 (.s 1 43) fun v5 => ifF o v5 (f225_8 o c n k s3 v5 h) (eqsF Pq o 9 s3 (.s 1 45) fun v6 => f225_8 o c n k s3 v6 h))
theorem f225_7_ok : R Pq o c n (cB (cB (cB (cB (cB (cB (cB (cA (cB (cA (cB b225))))))))))) (blockK (cI (cB (cA (cB b225)))) (f225_2K o c n k w)) = fun t _ h => f225_7 o c n k (t 3) (t 11) h := (c_cond (by kernel_rfl) rfl (kseq (f225_8_ok o c n k w) rfl)).tk
noncomputable def f225_6 (s3 s8 : AV) (h : Heap) : α :=
  ifF o s8 (k (.i .i64 3) h) (eqsF Pq o 9 s3 (.s 1 60) fun v7 => ifF o v7 (f225_7 o c n k s3 v7 h) (eqsF Pq o 9 s3 (.s 2 15676) fun v8 => f225_7 o c n k s3 v8 h))
theorem f225_6_ok : R Pq o c n (cB (cB (cB (cB (cB (cA (cB (cA (cB b225))))))))) (blockK (cI (cB (cA (cB b225)))) (f225_2K o c n k w)) = fun t _ h => f225_6 o c n k (t 3) (t 8) h := (c_cond (by kernel_rfl) rfl (kseq (f225_7_ok o c n k w) rfl)).tk
noncomputable def f225_5 (s3 s6 : AV) (h : Heap) : α :=
  ifF o s6 (k (.i .i64 2) h) (eqsF Pq o 9 s3 (.s 2 15677) fun v9 => ifF o v9 (f225_6 o c n k s3 v9 h) (eqsF Pq o 9 s3 (.s 2 15649) fun v10 => f225_6 o c n k s3 v10 h))
theorem f225_5_ok : R Pq o c n (cB (cB (cB (cA (cB (cA (cB b225))))))) (blockK (cI (cB (cA (cB b225)))) (f225_2K o c n k w)) = fun t _ h => f225_5 o c n k (t 3) (t 6) h := (c_cond (by kernel_rfl) rfl (kseq (f225_6_ok o c n k w) rfl)).tk
noncomputable def f225_4 (s3 s4 : AV) (h : Heap) : α :=
  ifF o s4 (k (.i .i64 1) h) (eqsF Pq o 9 s3 (.s 2 9766) fun v11 => f225_5 o c n k s3 v11 h)
theorem f225_4_ok : R Pq o c n (cB (cA (cB (cA (cB b225))))) (blockK (cI (cB (cA (cB b225)))) (f225_2K o c n k w)) = fun t _ h => f225_4 o c n k (t 3) (t 4) h := (c_cond (by kernel_rfl) rfl (kseq (f225_5_ok o c n k w) rfl)).tk
noncomputable def f225_3 (s3 : AV) (h : Heap) : α :=
  eqsF Pq o 9 s3 (.s 2 31868) fun v12 => f225_4 o c n k s3 v12 h
theorem f225_3_ok : R Pq o c n (cB (cA (cB b225))) (f225_2K o c n k w) = fun t _ h => f225_3 o c n k (t 3) h := (kblk (kseq (f225_4_ok o c n k w) rfl)).tk
noncomputable def f225_1 (s0 : AV) (h : Heap) : α :=
  f225_3 o c n k s0 h
theorem f225_1_ok : R Pq o c n (cB b225) (kend Pq o c n w rs225 k) = fun t _ h => f225_1 o c n k (t 0) h := (kseq rfl (kseq (f225_3_ok o c n k w) rfl)).tk
noncomputable def f225 (a0 : AV) (h : Heap) : α :=
  f225_1 o c n k a0 h
theorem f225_ok : R Pq o c n b225 (kend Pq o c n w rs225 k) = fun t _ h => f225 o c n k (t 0) h := (kseq (f225_1_ok o c n k w) rfl).tk
theorem f225_good : Good Pq (cfg mm) 225 (entF Pq (cfg mm) 225 1 fun α => f225) := entG b225 rs225 22 fun _ => f225_ok
noncomputable def b226 := bdy Tryz.f226
noncomputable def rs226 := Tryz.f226.results.toList
noncomputable def f226 {α : Type} (o : α) (c : Call' α) (n : Nat) (k : AV → Heap → α) (a0 : AV) (h : Heap) : α :=
  boxF o a0 h h.next fun v1 h => faF o 5 v1 fun v2 => load1F o h v2 fun v3 => c 151 [v3] h fun v4 h => pk k v4 h <| addF Pq o 3 (.i .i64 1) v4 fun v5 => k v5 h
theorem f226_ok : R Pq o c n b226 (kend Pq o c n w rs226 k) = fun t _ h => f226 o c n k (t 0) h := by kernel_rfl
theorem f226_good : Good Pq (cfg mm) 226 (entF Pq (cfg mm) 226 1 fun α => f226) := entG b226 rs226 7 fun _ => f226_ok
noncomputable def b228 := bdy Tryz.f228
noncomputable def rs228 := Tryz.f228.results.toList
noncomputable def f228_2K : Ex → K α := (nxK (R Pq o c n (cB (cB b228)) (kend Pq o c n w rs228 k)) (kend Pq o c n w rs228 k))
noncomputable def f228_4 {α : Type} (o : α) (c : Call' α) (n : Nat) (k : AV → Heap → α) (s0 s9 s11 : AV) (h : Heap) : α :=
  pickF o s9 (.b true) s11 fun v1 => bkF o false v1 (c 164 [s0] h fun v2 h => pk k v2 h <| pickF o v1 (.b true) v2 fun v3 => k v3 h) (pickF o v1 (.b true) (.tup []) fun v4 => k v4 h)
theorem f228_4_ok : Q Pq o c (cO (cA (cB b228))) (f228_2K o c n k w) 9 = fun t _ h => f228_4 o c n k (t 0) (t 9) (t 11) h := (q_seg 9 11 (by kernel_rfl) (q_guard 11 13 (10, false) (by kernel_rfl) (by kernel_rfl) (by kernel_rfl) rfl)).tk
noncomputable def f228_3 (s0 s5 s7 : AV) (h : Heap) : α :=
  pickF o s5 (.b true) s7 fun v5 => bkF o false v5 (eqsF Pq o 9 s0 (.s 6 113723913172051) fun v6 => f228_4 o c n k s0 v5 v6 h) (f228_4 o c n k s0 v5 (.tup []) h)
theorem f228_3_ok : Q Pq o c (cO (cA (cB b228))) (f228_2K o c n k w) 5 = fun t _ h => f228_3 o c n k (t 0) (t 5) (t 7) h := (q_seg 5 7 (by kernel_rfl) (q_guard 7 9 (6, false) (by kernel_rfl) (by kernel_rfl) (by kernel_rfl) (f228_4_ok o c n k w))).tk
noncomputable def f228_1 (s0 : AV) (h : Heap) : α :=
  eqsF Pq o 9 s0 (.s 3 7630441) fun v7 => bkF o false v7 (eqsF Pq o 9 s0 (.s 7 31069335677005666) fun v8 => f228_3 o c n k s0 v7 v8 h) (f228_3 o c n k s0 v7 (.tup []) h)
theorem f228_1_ok : R Pq o c n (cB b228) (kend Pq o c n w rs228 k) = fun t _ h => f228_1 o c n k (t 0) h := (kseq rfl (r_start 3 (by kernel_rfl) (q_guard 3 5 (2, false) (by kernel_rfl) (by kernel_rfl) (by kernel_rfl) (f228_3_ok o c n k w)))).tk
noncomputable def f228 (a0 : AV) (h : Heap) : α :=
  f228_1 o c n k a0 h
theorem f228_ok : R Pq o c n b228 (kend Pq o c n w rs228 k) = fun t _ h => f228 o c n k (t 0) h := (kseq (f228_1_ok o c n k w) rfl).tk
theorem f228_good : Good Pq (cfg mm) 228 (entF Pq (cfg mm) 228 1 fun α => f228) := entG b228 rs228 17 fun _ => f228_ok
noncomputable def b229 := bdy Tryz.f229
noncomputable def rs229 := Tryz.f229.results.toList
noncomputable def f229_2K : Ex → K α := (nxK (R Pq o c n (cB (cB b229)) (kend Pq o c n w rs229 k)) (kend Pq o c n w rs229 k))
noncomputable def f229_1 {α : Type} (o : α) (c : Call' α) (n : Nat) (k : AV → Heap → α) (s0 : AV) (h : Heap) : α :=
  c 235 [s0, (.fn (.func 265) [] [])] h fun v1 h => pk k v1 h <| bkF o true v1 (c 266 [s0] h fun v2 h => pk k v2 h <| notF o v2 fun v3 => pickF o v1 v3 (.b false) fun v4 => k v4 h) (pickF o v1 (.tup []) (.b false) fun v5 => k v5 h)
theorem f229_1_ok : R Pq o c n (cB b229) (kend Pq o c n w rs229 k) = fun t _ h => f229_1 o c n k (t 0) h := (kseq rfl (r_start 3 (by kernel_rfl) (q_guard 3 6 (2, true) (by kernel_rfl) (by kernel_rfl) (by kernel_rfl) rfl))).tk
noncomputable def f229 (a0 : AV) (h : Heap) : α :=
  f229_1 o c n k a0 h
theorem f229_ok : R Pq o c n b229 (kend Pq o c n w rs229 k) = fun t _ h => f229 o c n k (t 0) h := (kseq (f229_1_ok o c n k w) rfl).tk
theorem f229_good : Good Pq (cfg mm) 229 (entF Pq (cfg mm) 229 1 fun α => f229) := entG b229 rs229 10 fun _ => f229_ok
noncomputable def b230 := bdy Tryz.f230
noncomputable def rs230 := Tryz.f230.results.toList
noncomputable def f230 {α : Type} (o : α) (c : Call' α) (n : Nat) (k : AV → Heap → α) (a0 a1 : AV) (h : Heap) : α :=
  c 267 [a0, a1] h fun v1 h => pk k v1 h <| geqF Pq o 3 v1 (.i .i64 0) fun v2 => k v2 h
theorem f230_ok : R Pq o c n b230 (kend Pq o c n w rs230 k) = fun t _ h => f230 o c n k (t 0) (t 1) h := by kernel_rfl
theorem f230_good : Good Pq (cfg mm) 230 (entF Pq (cfg mm) 230 2 fun α => f230) := entG b230 rs230 9 fun _ => f230_ok
end Go.Zev.Is
