/-
  Printed by zgen.py: clean forms.
-/
import Derived.Test.YtaoildofpnnaiaaGreatDoorZ3
import Derived.Test.YtaoildofpnnaiaaGreatDoorProg
import Derived.KernelRfl
set_option linter.unusedVariables false
set_option maxRecDepth 20000
namespace Go.Zev.Cf
open Go Go.Zev Go.Proofs
noncomputable abbrev Pq : Program := Tryz.prog
noncomputable def cfg (memo : FuncId → Option (List AV → Option AV)) : Cfg := ⟨fun f => Nat.beq f 55 || Nat.beq f 93 || Nat.beq f 94 || Nat.beq f 108 || Nat.beq f 143 || Nat.beq f 161 || Nat.beq f 168 || Nat.beq f 203 || Nat.beq f 227 || Nat.beq f 268 || Nat.beq f 269 || Nat.beq f 270 || Nat.beq f 274 || Nat.beq f 316, fun f => Bool.rec (motive := fun _ => Nat) (Bool.rec (motive := fun _ => Nat) 512 511 (Nat.beq f 51 || Nat.beq f 95 || Nat.beq f 96 || Nat.beq f 97)) 510 (Nat.beq f 151 || Nat.beq f 201 || Nat.beq f 205 || Nat.beq f 206), memo, fun f => Nat.beq f 330⟩
variable {mm : FuncId → Option (List AV → Option AV)}
noncomputable def b7 := bdy Tryz.f7
noncomputable def rs7 := Tryz.f7.results.toList
variable {α : Type} (o : α) (c : Call' α) (n : Nat) (k : AV → Heap → α) (w : FuncId → Nat)
noncomputable def f7 {α : Type} (o : α) (c : Call' α) (n : Nat) (k : AV → Heap → α) (a0 a1 : AV) (h : Heap) : α :=
  boxF o a0 h h.next fun v1 h => boxF o a1 h h.next fun v2 h => faF o 0 v1 fun v3 => load1F o h v3 fun v4 => faF o 0 v2 fun v5 => load1F o h v5 fun v6 => c 22 [v4, v6, (.fn (.func 23) [] [])] h fun v7 h => pk k v7 h <| k v7 h
theorem f7_ok : R Pq o c n b7 (kend Pq o c n w rs7 k) = fun t _ h => f7 o c n k (t 0) (t 1) h := by kernel_rfl
theorem f7_good : Good Pq (cfg mm) 7 (entF Pq (cfg mm) 7 2 fun α => f7) := entG b7 rs7 10 fun _ => f7_ok
noncomputable def b9 := bdy Tryz.f9
noncomputable def rs9 := Tryz.f9.results.toList
noncomputable def f9_5K : Ex → K α := (nxK (R Pq o c n (cB (cB (cB (cB (cB b9))))) (kend Pq o c n w rs9 k)) (kend Pq o c n w rs9 k))
noncomputable def f9_8K (lp0 : AVs (Heap → α) 4) : Ex → K α := (nxK (fun t _ h => lp0 (t 0) (t 5) (t 6) (t 7) h) (blockK (cI (cB (cA (cB (cB (cB (cB b9))))))) (f9_5K o c n k w)))
noncomputable def f9_14 {α : Type} (o : α) (c : Call' α) (n : Nat) (k : AV → Heap → α) (lp0 : AVs (Heap → α) 4) (s0 s5 s6 s7 s9 : AV) (h : Heap) : α :=
  addF Pq o 3 s7 s9 fun v1 => lp0 s0 s5 s6 v1 h
theorem f9_14_ok (lp0 : AVs (Heap → α) 4) : R Pq o c n (cB (cB (cB (cB (cB (cA (cB (cA (cA (cB (cA (cB (cB (cB (cB b9))))))))))))))) (blockK (cI (cB (cA (cA (cB (cA (cB (cB (cB (cB b9)))))))))) (f9_8K o c n k w lp0)) = fun t _ h => f9_14 o c n k lp0 (t 0) (t 5) (t 6) (t 7) (t 9) h := by kernel_rfl
noncomputable def f9_13 (lp0 : AVs (Heap → α) 4) (s0 s5 s6 s7 s8 s9 : AV) (h : Heap) : α :=
  faF o 0 s8 fun v2 => load1F o h v2 fun v3 => gtrF Pq o 3 v3 (.i .i64 0) fun v4 => ifF o v4 (loadNF o h 3 s8 fun v5 => fil1 o 3 1 0 v5 [[(.i .i64 0), (.s 0 0), (.i .i64 0)]] fun v6 => newEF h h.next 3 1 v6 fun v7 h => appX Pq o h h.next 40 40 s6 v7 fun v8 h => f9_14 o c n k lp0 s0 s5 v8 s7 s9 h) (f9_14 o c n k lp0 s0 s5 s6 s7 s9 h)
theorem f9_13_ok (lp0 : AVs (Heap → α) 4) : R Pq o c n (cB (cB (cB (cB (cA (cB (cA (cA (cB (cA (cB (cB (cB (cB b9)))))))))))))) (blockK (cI (cB (cA (cA (cB (cA (cB (cB (cB (cB b9)))))))))) (f9_8K o c n k w lp0)) = fun t _ h => f9_13 o c n k lp0 (t 0) (t 5) (t 6) (t 7) (t 8) (t 9) h := (kseq (f9_14_ok o c n k w lp0) rfl).tk
noncomputable def f9_15K (lp0 : AVs (Heap → α) 4) : Ex → K α := (nxK (fun t _ h => f9_13 o c n k lp0 (t 0) (t 5) (t 6) (t 7) (t 8) (t 9) h) (blockK (cI (cB (cA (cA (cB (cA (cB (cB (cB (cB b9)))))))))) (f9_8K o c n k w lp0)))
noncomputable def f9_16 (lp0 : AVs (Heap → α) 4) (s0 s5 s6 s7 s8 s9 s40 : AV) (h : Heap) : α :=
  ifF o s40 (k (.tup [.nsl, (.i .i64 2), s5]) h) (f9_13 o c n k lp0 s0 s5 s6 s7 s8 s9 h)
theorem f9_16_ok (lp0 : AVs (Heap → α) 4) : R Pq o c n (cB (cA (cB (cB (cB (cA (cB (cA (cA (cB (cA (cB (cB (cB (cB b9))))))))))))))) (f9_15K o c n k w lp0) = fun t _ h => f9_16 o c n k lp0 (t 0) (t 5) (t 6) (t 7) (t 8) (t 9) (t 40) h := by kernel_rfl
noncomputable def f9_17K (lp0 : AVs (Heap → α) 4) : Ex → K α := (nxK (fun t _ h => f9_16 o c n k lp0 (t 0) (t 5) (t 6) (t 7) (t 8) (t 9) (t 40) h) (f9_15K o c n k w lp0))
noncomputable def f9_12 (lp0 : AVs (Heap → α) 4) (s0 s5 s6 s7 s8 s9 : AV) (h : Heap) : α :=
  geqF Pq o 3 s5 (.i .i64 0) fun v9 => bkF o true v9 (addF Pq o 3 s7 s9 fun v10 => gtrF Pq o 3 v10 s5 fun v11 => pickF o v9 v11 (.b false) fun v12 => f9_16 o c n k lp0 s0 s5 s6 s7 s8 s9 v12 h) (pickF o v9 (.tup []) (.b false) fun v13 => f9_16 o c n k lp0 s0 s5 s6 s7 s8 s9 v13 h)
theorem f9_12_ok (lp0 : AVs (Heap → α) 4) : R Pq o c n (cB (cB (cB (cA (cB (cA (cA (cB (cA (cB (cB (cB (cB b9))))))))))))) (blockK (cI (cB (cA (cA (cB (cA (cB (cB (cB (cB b9)))))))))) (f9_8K o c n k w lp0)) = fun t _ h => f9_12 o c n k lp0 (t 0) (t 5) (t 6) (t 7) (t 8) (t 9) h := (kseq (f9_13_ok o c n k w lp0) (kseq (f9_16_ok o c n k w lp0) (r_start 3 (by kernel_rfl) (q_guard 3 8 (2, true) (by kernel_rfl) (by kernel_rfl) (by kernel_rfl) rfl)))).tk
noncomputable def f9_11 (lp0 : AVs (Heap → α) 4) (s0 s5 s6 s7 s8 s9 : AV) (h : Heap) : α :=
  eqiF Pq o 3 s9 (.i .i64 0) fun v14 => ifF o v14 (k (.tup [.nsl, (.i .i64 2), s7]) h) (f9_12 o c n k lp0 s0 s5 s6 s7 s8 s9 h)
theorem f9_11_ok (lp0 : AVs (Heap → α) 4) : R Pq o c n (cB (cB (cA (cB (cA (cA (cB (cA (cB (cB (cB (cB b9)))))))))))) (blockK (cI (cB (cA (cA (cB (cA (cB (cB (cB (cB b9)))))))))) (f9_8K o c n k w lp0)) = fun t _ h => f9_11 o c n k lp0 (t 0) (t 5) (t 6) (t 7) (t 8) (t 9) h := (kseq (f9_12_ok o c n k w lp0) rfl).tk
noncomputable def f9_10 (lp0 : AVs (Heap → α) 4) (s0 s5 s6 s7 : AV) (h : Heap) : α :=
  c 34 [s0, s7] h fun v15 h => pk k v15 h <| exF o v15 0 fun v16 => exF o v15 1 fun v17 => newF h h.next 3 [(.i .i64 0), (.s 0 0), (.i .i64 0)] fun v18 h => storeF o h 3 v18 v16 fun h => f9_11 o c n k lp0 s0 s5 s6 s7 v18 v17 h
theorem f9_10_ok (lp0 : AVs (Heap → α) 4) : R Pq o c n (cB (cA (cB (cA (cA (cB (cA (cB (cB (cB (cB b9))))))))))) (blockK (cI (cB (cA (cA (cB (cA (cB (cB (cB (cB b9)))))))))) (f9_8K o c n k w lp0)) = fun t _ h => f9_10 o c n k lp0 (t 0) (t 5) (t 6) (t 7) h := (kseq (f9_11_ok o c n k w lp0) rfl).tk
noncomputable def f9_9 (lp0 : AVs (Heap → α) 4) (s0 s5 s6 s7 : AV) (h : Heap) : α :=
  eqiF Pq o 3 s7 s5 fun v19 => ifF o v19 (k (.tup [.nsl, (.i .i64 2), s5]) h) (f9_10 o c n k lp0 s0 s5 s6 s7 h)
theorem f9_9_ok (lp0 : AVs (Heap → α) 4) : R Pq o c n (cB (cA (cA (cB (cA (cB (cB (cB (cB b9))))))))) (f9_8K o c n k w lp0) = fun t _ h => f9_9 o c n k lp0 (t 0) (t 5) (t 6) (t 7) h := (kblk (kseq (f9_10_ok o c n k w lp0) rfl)).tk
noncomputable def f9_7 (m : Nat) : AVs (Heap → α) 4 :=
  Nat.rec (motive := fun _ => AVs (Heap → α) 4) (fun _ _ _ _ _ => o) (fun _ lp0 s0 s5 s6 s7 h => lensF o s0 fun v20 => lssF Pq o 3 s7 v20 fun v21 => ifF o v21 (f9_9 o c n k lp0 s0 s5 s6 s7 h) (k (.tup [s6, (.i .i64 0), (.i .i64 0)]) h)) m
theorem f9_7_ok : R Pq o c n (cA (cB (cA (cB (cB (cB (cB b9))))))) (blockK (cI (cB (cA (cB (cB (cB (cB b9))))))) (f9_5K o c n k w)) = fun t _ h => f9_7 o c n k n (t 0) (t 5) (t 6) (t 7) h :=
  c_loop (F := fun m t _ h => f9_7 o c n k m (t 0) (t 5) (t 6) (t 7) h) (by kernel_rfl) (by kernel_rfl) fun m => (kseq (f9_9_ok o c n k w (f9_7 o c n k m)) rfl).tk
noncomputable def f9_6 (s0 s5 s6 s7 : AV) (h : Heap) : α :=
  f9_7 o c n k n s0 s5 s6 s7 h
theorem f9_6_ok : R Pq o c n (cB (cA (cB (cB (cB (cB b9)))))) (f9_5K o c n k w) = fun t _ h => f9_6 o c n k (t 0) (t 5) (t 6) (t 7) h := (kblk (f9_7_ok o c n k w)).tk
noncomputable def f9_4 (s0 s5 s6 : AV) (h : Heap) : α :=
  f9_6 o c n k s0 s5 s6 (.i .i64 0) h
theorem f9_4_ok : R Pq o c n (cB (cB (cB (cB b9)))) (kend Pq o c n w rs9 k) = fun t _ h => f9_4 o c n k (t 0) (t 5) (t 6) h := (kseq rfl (kseq (f9_6_ok o c n k w) rfl)).tk
noncomputable def f9_3 (s0 s5 : AV) (h : Heap) : α :=
  f9_4 o c n k s0 s5 .nsl h
theorem f9_3_ok : R Pq o c n (cB (cB (cB b9))) (kend Pq o c n w rs9 k) = fun t _ h => f9_3 o c n k (t 0) (t 5) h := (kseq (f9_4_ok o c n k w) rfl).tk
noncomputable def f9_2 (s0 : AV) (h : Heap) : α :=
  c 33 [s0] h fun v22 h => pk k v22 h <| f9_3 o c n k s0 v22 h
theorem f9_2_ok : R Pq o c n (cB (cB b9)) (kend Pq o c n w rs9 k) = fun t _ h => f9_2 o c n k (t 0) h := (kseq (f9_3_ok o c n k w) rfl).tk
noncomputable def f9_1 (s0 : AV) (h : Heap) : α :=
  lensF o s0 fun v23 => gtrF Pq o 3 v23 (.i .i64 8000) fun v24 => ifF o v24 (k (.tup [.nsl, (.i .i64 5), (.i .i64 0)]) h) (f9_2 o c n k s0 h)
theorem f9_1_ok : R Pq o c n (cB b9) (kend Pq o c n w rs9 k) = fun t _ h => f9_1 o c n k (t 0) h := (kseq (f9_2_ok o c n k w) rfl).tk
noncomputable def f9 (a0 : AV) (h : Heap) : α :=
  f9_1 o c n k a0 h
theorem f9_ok : R Pq o c n b9 (kend Pq o c n w rs9 k) = fun t _ h => f9 o c n k (t 0) h := (kseq (f9_1_ok o c n k w) rfl).tk
theorem f9_good : Good Pq (cfg mm) 9 (entF Pq (cfg mm) 9 1 fun α => f9) := entG b9 rs9 53 fun _ => f9_ok
noncomputable def b12 := bdy Tryz.f12
noncomputable def rs12 := Tryz.f12.results.toList
noncomputable def f12_2K : Ex → K α := (nxK (R Pq o c n (cB (cB b12)) (kend Pq o c n w rs12 k)) (kend Pq o c n w rs12 k))
noncomputable def f12_3 {α : Type} (o : α) (c : Call' α) (n : Nat) (k : AV → Heap → α) (s0 s12 : AV) (h : Heap) : α :=
  ifF o s12 (nilChk o s0 fun v1 => faF o 2 v1 fun v2 => load1F o h v2 fun v3 => addF Pq o 3 v3 (.i .i64 1) fun v4 => nilChk o s0 fun v5 => faF o 2 v5 fun v6 => storeF o h 1 v6 v4 fun h => k (.b true) h) (k (.b false) h)
theorem f12_3_ok : R Pq o c n (cB (cA (cB b12))) (f12_2K o c n k w) = fun t _ h => f12_3 o c n k (t 0) (t 12) h := by kernel_rfl
noncomputable def f12_4K : Ex → K α := (nxK (fun t _ h => f12_3 o c n k (t 0) (t 12) h) (f12_2K o c n k w))
noncomputable def f12_1 (s0 s1 : AV) (h : Heap) : α :=
  c 13 [s0, s1] h fun v7 h => pk k v7 h <| bkF o false v7 (c 38 [s0, s1] h fun v8 h => pk k v8 h <| pickF o v7 (.b true) v8 fun v9 => f12_3 o c n k s0 v9 h) (pickF o v7 (.b true) (.tup []) fun v10 => f12_3 o c n k s0 v10 h)
theorem f12_1_ok : R Pq o c n (cB b12) (kend Pq o c n w rs12 k) = fun t _ h => f12_1 o c n k (t 0) (t 1) h := (kseq rfl (kseq (f12_3_ok o c n k w) (r_start 4 (by kernel_rfl) (q_guard 4 7 (3, false) (by kernel_rfl) (by kernel_rfl) (by kernel_rfl) rfl)))).tk
noncomputable def f12 (a0 a1 : AV) (h : Heap) : α :=
  f12_1 o c n k a0 a1 h
theorem f12_ok : R Pq o c n b12 (kend Pq o c n w rs12 k) = fun t _ h => f12 o c n k (t 0) (t 1) h := (kseq (f12_1_ok o c n k w) rfl).tk
theorem f12_good : Good Pq (cfg mm) 12 (entF Pq (cfg mm) 12 2 fun α => f12) := entG b12 rs12 20 fun _ => f12_ok
noncomputable def b13 := bdy Tryz.f13
noncomputable def rs13 := Tryz.f13.results.toList
noncomputable def f13 {α : Type} (o : α) (c : Call' α) (n : Nat) (k : AV → Heap → α) (a0 a1 : AV) (h : Heap) : α :=
  c 39 [a0, (.i .i64 0), (.i .i64 4), a1] h fun v1 h => pk k v1 h <| k v1 h
theorem f13_ok : R Pq o c n b13 (kend Pq o c n w rs13 k) = fun t _ h => f13 o c n k (t 0) (t 1) h := by kernel_rfl
theorem f13_good : Good Pq (cfg mm) 13 (entF Pq (cfg mm) 13 2 fun α => f13) := entG b13 rs13 8 fun _ => f13_ok
noncomputable def b16 := bdy Tryz.f16
noncomputable def rs16 := Tryz.f16.results.toList
noncomputable def f16 {α : Type} (o : α) (c : Call' α) (n : Nat) (k : AV → Heap → α) (a0 : AV) (h : Heap) : α :=
  boxF o a0 h h.next fun v1 h => loadNF o h 1 v1 fun v2 => c 51 [v2] h fun v3 h => pk k v3 h <| exF o v3 0 fun v4 => exF o v3 1 fun v5 => exF o v3 2 fun v6 => newF h h.next 1 [.nsl] fun v7 h => storeF o h 1 v7 v4 fun h => k (.tup [v5, v6]) h
theorem f16_ok : R Pq o c n b16 (kend Pq o c n w rs16 k) = fun t _ h => f16 o c n k (t 0) h := by kernel_rfl
theorem f16_good : Good Pq (cfg mm) 16 (entF Pq (cfg mm) 16 1 fun α => f16) := entG b16 rs16 15 fun _ => f16_ok
noncomputable def b20 := bdy Tryz.f20
noncomputable def rs20 := Tryz.f20.results.toList
noncomputable def f20 {α : Type} (o : α) (c : Call' α) (n : Nat) (k : AV → Heap → α) (a0 a1 : AV) (h : Heap) : α :=
  boxF o a0 h h.next fun v1 h => faF o 3 v1 fun v2 => loadNF o h 1 v2 fun v3 => faF o 3 a1 fun v4 => loadNF o h 1 v4 fun v5 => c 7 [v3, v5] h fun v6 h => pk k v6 h <| k v6 h
theorem f20_ok : R Pq o c n b20 (kend Pq o c n w rs20 k) = fun t _ h => f20 o c n k (t 0) (t 1) h := by kernel_rfl
theorem f20_good : Good Pq (cfg mm) 20 (entF Pq (cfg mm) 20 2 fun α => f20) := entG b20 rs20 9 fun _ => f20_ok
noncomputable def b22 := bdy Tryz.f22
noncomputable def rs22 := Tryz.f22.results.toList
noncomputable def f22_3K : Ex → K α := (nxK (R Pq o c n (cB (cB (cB b22))) (kend Pq o c n w rs22 k)) (kend Pq o c n w rs22 k))
noncomputable def f22_5 {α : Type} (o : α) (c : Call' α) (n : Nat) (k : AV → Heap → α) (m : Nat) : AVs (Heap → α) 5 :=
  Nat.rec (motive := fun _ => AVs (Heap → α) 5) (fun _ _ _ _ _ _ => o) (fun _ lp0 s1 s2 s15 s16 s17 h => lssF Pq o 3 s17 s16 fun v1 => ifF o v1 (ixF o 4 s15 s17 fun v2 => loadNF o h 4 v2 fun v3 => newF h h.next 4 [(.s 0 0), (.s 0 0), .nsl, .nsl] fun v4 h => storeF o h 4 v4 v3 fun h => ixF o 4 s1 s17 fun v5 => loadNF o h 4 v5 fun v6 => newF h h.next 4 [(.s 0 0), (.s 0 0), .nsl, .nsl] fun v7 h => storeF o h 4 v7 v6 fun h => loadNF o h 4 v4 fun v8 => loadNF o h 4 v7 fun v9 => cfF o s2 [v8, v9] c h fun v10 h => pk k v10 h <| notF o v10 fun v11 => ifF o v11 (k (.b false) h) (addF Pq o 3 s17 (.i .i64 1) fun v12 => lp0 s1 s2 s15 s16 v12 h)) (k (.b true) h)) m
theorem f22_5_ok : R Pq o c n (cA (cB (cA (cB (cB b22))))) (blockK (cI (cB (cA (cB (cB b22))))) (f22_3K o c n k w)) = fun t _ h => f22_5 o c n k n (t 1) (t 2) (t 15) (t 16) (t 17) h :=
  c_loop (F := fun m t _ h => f22_5 o c n k m (t 1) (t 2) (t 15) (t 16) (t 17) h) (by kernel_rfl) (by kernel_rfl) fun m => by kernel_rfl
noncomputable def f22_4 (s1 s2 s15 s16 s17 : AV) (h : Heap) : α :=
  f22_5 o c n k n s1 s2 s15 s16 s17 h
theorem f22_4_ok : R Pq o c n (cB (cA (cB (cB b22)))) (f22_3K o c n k w) = fun t _ h => f22_4 o c n k (t 1) (t 2) (t 15) (t 16) (t 17) h := (kblk (f22_5_ok o c n k w)).tk
noncomputable def f22_2 (s0 s1 s2 : AV) (h : Heap) : α :=
  lenF o s0 fun v13 => f22_4 o c n k s1 s2 s0 v13 (.i .i64 0) h
theorem f22_2_ok : R Pq o c n (cB (cB b22)) (kend Pq o c n w rs22 k) = fun t _ h => f22_2 o c n k (t 0) (t 1) (t 2) h := (kseq rfl (kseq (f22_4_ok o c n k w) rfl)).tk
noncomputable def f22_1 (s0 s1 s2 : AV) (h : Heap) : α :=
  lenF o s0 fun v14 => lenF o s1 fun v15 => neiF Pq o 3 v14 v15 fun v16 => ifF o v16 (k (.b false) h) (f22_2 o c n k s0 s1 s2 h)
theorem f22_1_ok : R Pq o c n (cB b22) (kend Pq o c n w rs22 k) = fun t _ h => f22_1 o c n k (t 0) (t 1) (t 2) h := (kseq (f22_2_ok o c n k w) rfl).tk
noncomputable def f22 (a0 a1 a2 : AV) (h : Heap) : α :=
  f22_1 o c n k a0 a1 a2 h
theorem f22_ok : R Pq o c n b22 (kend Pq o c n w rs22 k) = fun t _ h => f22 o c n k (t 0) (t 1) (t 2) h := (kseq (f22_1_ok o c n k w) rfl).tk
theorem f22_good : Good Pq (cfg mm) 22 (entF Pq (cfg mm) 22 3 fun α => f22) := entG b22 rs22 32 fun _ => f22_ok
noncomputable def b23 := bdy Tryz.f23
noncomputable def rs23 := Tryz.f23.results.toList
noncomputable def f23_2K : Ex → K α := (nxK (R Pq o c n (cB (cB b23)) (kend Pq o c n w rs23 k)) (kend Pq o c n w rs23 k))
noncomputable def f23_4 {α : Type} (o : α) (c : Call' α) (n : Nat) (k : AV → Heap → α) (s2 s3 s17 s22 : AV) (h : Heap) : α :=
  pickF o s17 s22 (.b false) fun v1 => bkF o true v1 (faF o 3 s2 fun v2 => load1F o h v2 fun v3 => faF o 3 s3 fun v4 => load1F o h v4 fun v5 => c 28 [v3, v5, (.fn (.func 29) [] [])] h fun v6 h => pk k v6 h <| pickF o v1 v6 (.b false) fun v7 => k v7 h) (pickF o v1 (.tup []) (.b false) fun v8 => k v8 h)
theorem f23_4_ok : Q Pq o c (cO (cA (cB b23))) (f23_2K o c n k w) 18 = fun t _ h => f23_4 o c n k (t 2) (t 3) (t 17) (t 22) h := (q_seg 18 20 (by kernel_rfl) (q_guard 20 25 (19, true) (by kernel_rfl) (by kernel_rfl) (by kernel_rfl) rfl)).tk
noncomputable def f23_3 (s2 s3 s10 s15 : AV) (h : Heap) : α :=
  pickF o s10 s15 (.b false) fun v9 => bkF o true v9 (faF o 2 s2 fun v10 => load1F o h v10 fun v11 => faF o 2 s3 fun v12 => load1F o h v12 fun v13 => c 24 [v11, v13, (.fn (.func 25) [] [])] h fun v14 h => pk k v14 h <| f23_4 o c n k s2 s3 v9 v14 h) (f23_4 o c n k s2 s3 v9 (.tup []) h)
theorem f23_3_ok : Q Pq o c (cO (cA (cB b23))) (f23_2K o c n k w) 11 = fun t _ h => f23_3 o c n k (t 2) (t 3) (t 10) (t 15) h := (q_seg 11 13 (by kernel_rfl) (q_guard 13 18 (12, true) (by kernel_rfl) (by kernel_rfl) (by kernel_rfl) (f23_4_ok o c n k w))).tk
noncomputable def f23_1 (s2 s3 : AV) (h : Heap) : α :=
  faF o 0 s2 fun v15 => load1F o h v15 fun v16 => faF o 0 s3 fun v17 => load1F o h v17 fun v18 => eqsF Pq o 9 v16 v18 fun v19 => bkF o true v19 (faF o 1 s2 fun v20 => load1F o h v20 fun v21 => faF o 1 s3 fun v22 => load1F o h v22 fun v23 => eqsF Pq o 9 v21 v23 fun v24 => f23_3 o c n k s2 s3 v19 v24 h) (f23_3 o c n k s2 s3 v19 (.tup []) h)
theorem f23_1_ok : R Pq o c n (cB b23) (kend Pq o c n w rs23 k) = fun t _ h => f23_1 o c n k (t 2) (t 3) h := (kseq rfl (r_start 6 (by kernel_rfl) (q_guard 6 11 (5, true) (by kernel_rfl) (by kernel_rfl) (by kernel_rfl) (f23_3_ok o c n k w)))).tk
noncomputable def f23 (a0 a1 : AV) (h : Heap) : α :=
  boxF o a0 h h.next fun v25 h => boxF o a1 h h.next fun v26 h => f23_1 o c n k v25 v26 h
theorem f23_ok : R Pq o c n b23 (kend Pq o c n w rs23 k) = fun t _ h => f23 o c n k (t 0) (t 1) h := (kseq (f23_1_ok o c n k w) rfl).tk
theorem f23_good : Good Pq (cfg mm) 23 (entF Pq (cfg mm) 23 2 fun α => f23) := entG b23 rs23 31 fun _ => f23_ok
noncomputable def b24 := bdy Tryz.f24
noncomputable def rs24 := Tryz.f24.results.toList
noncomputable def f24_3K : Ex → K α := (nxK (R Pq o c n (cB (cB (cB b24))) (kend Pq o c n w rs24 k)) (kend Pq o c n w rs24 k))
noncomputable def f24_5 {α : Type} (o : α) (c : Call' α) (n : Nat) (k : AV → Heap → α) (m : Nat) : AVs (Heap → α) 5 :=
  Nat.rec (motive := fun _ => AVs (Heap → α) 5) (fun _ _ _ _ _ _ => o) (fun _ lp0 s1 s2 s15 s16 s17 h => lssF Pq o 3 s17 s16 fun v1 => ifF o v1 (ixF o 4 s15 s17 fun v2 => loadNF o h 4 v2 fun v3 => newF h h.next 4 [(.b false), (.s 0 0), (.s 0 0), .nsl] fun v4 h => storeF o h 4 v4 v3 fun h => ixF o 4 s1 s17 fun v5 => loadNF o h 4 v5 fun v6 => newF h h.next 4 [(.b false), (.s 0 0), (.s 0 0), .nsl] fun v7 h => storeF o h 4 v7 v6 fun h => loadNF o h 4 v4 fun v8 => loadNF o h 4 v7 fun v9 => cfF o s2 [v8, v9] c h fun v10 h => pk k v10 h <| notF o v10 fun v11 => ifF o v11 (k (.b false) h) (addF Pq o 3 s17 (.i .i64 1) fun v12 => lp0 s1 s2 s15 s16 v12 h)) (k (.b true) h)) m
theorem f24_5_ok : R Pq o c n (cA (cB (cA (cB (cB b24))))) (blockK (cI (cB (cA (cB (cB b24))))) (f24_3K o c n k w)) = fun t _ h => f24_5 o c n k n (t 1) (t 2) (t 15) (t 16) (t 17) h :=
  c_loop (F := fun m t _ h => f24_5 o c n k m (t 1) (t 2) (t 15) (t 16) (t 17) h) (by kernel_rfl) (by kernel_rfl) fun m => by kernel_rfl
noncomputable def f24_4 (s1 s2 s15 s16 s17 : AV) (h : Heap) : α :=
  f24_5 o c n k n s1 s2 s15 s16 s17 h
theorem f24_4_ok : R Pq o c n (cB (cA (cB (cB b24)))) (f24_3K o c n k w) = fun t _ h => f24_4 o c n k (t 1) (t 2) (t 15) (t 16) (t 17) h := (kblk (f24_5_ok o c n k w)).tk
noncomputable def f24_2 (s0 s1 s2 : AV) (h : Heap) : α :=
  lenF o s0 fun v13 => f24_4 o c n k s1 s2 s0 v13 (.i .i64 0) h
theorem f24_2_ok : R Pq o c n (cB (cB b24)) (kend Pq o c n w rs24 k) = fun t _ h => f24_2 o c n k (t 0) (t 1) (t 2) h := (kseq rfl (kseq (f24_4_ok o c n k w) rfl)).tk
noncomputable def f24_1 (s0 s1 s2 : AV) (h : Heap) : α :=
  lenF o s0 fun v14 => lenF o s1 fun v15 => neiF Pq o 3 v14 v15 fun v16 => ifF o v16 (k (.b false) h) (f24_2 o c n k s0 s1 s2 h)
theorem f24_1_ok : R Pq o c n (cB b24) (kend Pq o c n w rs24 k) = fun t _ h => f24_1 o c n k (t 0) (t 1) (t 2) h := (kseq (f24_2_ok o c n k w) rfl).tk
noncomputable def f24 (a0 a1 a2 : AV) (h : Heap) : α :=
  f24_1 o c n k a0 a1 a2 h
theorem f24_ok : R Pq o c n b24 (kend Pq o c n w rs24 k) = fun t _ h => f24 o c n k (t 0) (t 1) (t 2) h := (kseq (f24_1_ok o c n k w) rfl).tk
theorem f24_good : Good Pq (cfg mm) 24 (entF Pq (cfg mm) 24 3 fun α => f24) := entG b24 rs24 32 fun _ => f24_ok
noncomputable def b25 := bdy Tryz.f25
noncomputable def rs25 := Tryz.f25.results.toList
noncomputable def f25_2K : Ex → K α := (nxK (R Pq o c n (cB (cB b25)) (kend Pq o c n w rs25 k)) (kend Pq o c n w rs25 k))
noncomputable def f25_4 {α : Type} (o : α) (c : Call' α) (n : Nat) (k : AV → Heap → α) (s2 s3 s17 s22 : AV) (h : Heap) : α :=
  pickF o s17 s22 (.b false) fun v1 => bkF o true v1 (faF o 3 s2 fun v2 => load1F o h v2 fun v3 => faF o 3 s3 fun v4 => load1F o h v4 fun v5 => c 26 [v3, v5, (.fn (.func 27) [] [])] h fun v6 h => pk k v6 h <| pickF o v1 v6 (.b false) fun v7 => k v7 h) (pickF o v1 (.tup []) (.b false) fun v8 => k v8 h)
theorem f25_4_ok : Q Pq o c (cO (cA (cB b25))) (f25_2K o c n k w) 18 = fun t _ h => f25_4 o c n k (t 2) (t 3) (t 17) (t 22) h := (q_seg 18 20 (by kernel_rfl) (q_guard 20 25 (19, true) (by kernel_rfl) (by kernel_rfl) (by kernel_rfl) rfl)).tk
noncomputable def f25_3 (s2 s3 s10 s15 : AV) (h : Heap) : α :=
  pickF o s10 s15 (.b false) fun v9 => bkF o true v9 (faF o 2 s2 fun v10 => load1F o h v10 fun v11 => faF o 2 s3 fun v12 => load1F o h v12 fun v13 => eqsF Pq o 9 v11 v13 fun v14 => f25_4 o c n k s2 s3 v9 v14 h) (f25_4 o c n k s2 s3 v9 (.tup []) h)
theorem f25_3_ok : Q Pq o c (cO (cA (cB b25))) (f25_2K o c n k w) 11 = fun t _ h => f25_3 o c n k (t 2) (t 3) (t 10) (t 15) h := (q_seg 11 13 (by kernel_rfl) (q_guard 13 18 (12, true) (by kernel_rfl) (by kernel_rfl) (by kernel_rfl) (f25_4_ok o c n k w))).tk
noncomputable def f25_1 (s2 s3 : AV) (h : Heap) : α :=
  faF o 0 s2 fun v15 => load1F o h v15 fun v16 => faF o 0 s3 fun v17 => load1F o h v17 fun v18 => eqiF Pq o 4 v16 v18 fun v19 => bkF o true v19 (faF o 1 s2 fun v20 => load1F o h v20 fun v21 => faF o 1 s3 fun v22 => load1F o h v22 fun v23 => eqsF Pq o 9 v21 v23 fun v24 => f25_3 o c n k s2 s3 v19 v24 h) (f25_3 o c n k s2 s3 v19 (.tup []) h)
theorem f25_1_ok : R Pq o c n (cB b25) (kend Pq o c n w rs25 k) = fun t _ h => f25_1 o c n k (t 2) (t 3) h := (kseq rfl (r_start 6 (by kernel_rfl) (q_guard 6 11 (5, true) (by kernel_rfl) (by kernel_rfl) (by kernel_rfl) (f25_3_ok o c n k w)))).tk
noncomputable def f25 (a0 a1 : AV) (h : Heap) : α :=
  boxF o a0 h h.next fun v25 h => boxF o a1 h h.next fun v26 h => f25_1 o c n k v25 v26 h
theorem f25_ok : R Pq o c n b25 (kend Pq o c n w rs25 k) = fun t _ h => f25 o c n k (t 0) (t 1) h := (kseq (f25_1_ok o c n k w) rfl).tk
theorem f25_good : Good Pq (cfg mm) 25 (entF Pq (cfg mm) 25 2 fun α => f25) := entG b25 rs25 31 fun _ => f25_ok
noncomputable def b26 := bdy Tryz.f26
noncomputable def rs26 := Tryz.f26.results.toList
noncomputable def f26_3K : Ex → K α := (nxK (R Pq o c n (cB (cB (cB b26))) (kend Pq o c n w rs26 k)) (kend Pq o c n w rs26 k))
noncomputable def f26_5 {α : Type} (o : α) (c : Call' α) (n : Nat) (k : AV → Heap → α) (m : Nat) : AVs (Heap → α) 5 :=
  Nat.rec (motive := fun _ => AVs (Heap → α) 5) (fun _ _ _ _ _ _ => o) (fun _ lp0 s1 s2 s15 s16 s17 h => lssF Pq o 3 s17 s16 fun v1 => ifF o v1 (ixF o 8 s15 s17 fun v2 => loadNF o h 8 v2 fun v3 => newF h h.next 8 [(.i .i64 0), (.i .i32 0), (.s 0 0), (.s 0 0), (.s 0 0), .nsl, (.s 0 0), (.i .i64 0)] fun v4 h => storeF o h 8 v4 v3 fun h => ixF o 8 s1 s17 fun v5 => loadNF o h 8 v5 fun v6 => newF h h.next 8 [(.i .i64 0), (.i .i32 0), (.s 0 0), (.s 0 0), (.s 0 0), .nsl, (.s 0 0), (.i .i64 0)] fun v7 h => storeF o h 8 v7 v6 fun h => loadNF o h 8 v4 fun v8 => loadNF o h 8 v7 fun v9 => cfF o s2 [v8, v9] c h fun v10 h => pk k v10 h <| notF o v10 fun v11 => ifF o v11 (k (.b false) h) (addF Pq o 3 s17 (.i .i64 1) fun v12 => lp0 s1 s2 s15 s16 v12 h)) (k (.b true) h)) m
theorem f26_5_ok : R Pq o c n (cA (cB (cA (cB (cB b26))))) (blockK (cI (cB (cA (cB (cB b26))))) (f26_3K o c n k w)) = fun t _ h => f26_5 o c n k n (t 1) (t 2) (t 15) (t 16) (t 17) h :=
  c_loop (F := fun m t _ h => f26_5 o c n k m (t 1) (t 2) (t 15) (t 16) (t 17) h) (by kernel_rfl) (by kernel_rfl) fun m => by kernel_rfl
noncomputable def f26_4 (s1 s2 s15 s16 s17 : AV) (h : Heap) : α :=
  f26_5 o c n k n s1 s2 s15 s16 s17 h
theorem f26_4_ok : R Pq o c n (cB (cA (cB (cB b26)))) (f26_3K o c n k w) = fun t _ h => f26_4 o c n k (t 1) (t 2) (t 15) (t 16) (t 17) h := (kblk (f26_5_ok o c n k w)).tk
noncomputable def f26_2 (s0 s1 s2 : AV) (h : Heap) : α :=
  lenF o s0 fun v13 => f26_4 o c n k s1 s2 s0 v13 (.i .i64 0) h
theorem f26_2_ok : R Pq o c n (cB (cB b26)) (kend Pq o c n w rs26 k) = fun t _ h => f26_2 o c n k (t 0) (t 1) (t 2) h := (kseq rfl (kseq (f26_4_ok o c n k w) rfl)).tk
noncomputable def f26_1 (s0 s1 s2 : AV) (h : Heap) : α :=
  lenF o s0 fun v14 => lenF o s1 fun v15 => neiF Pq o 3 v14 v15 fun v16 => ifF o v16 (k (.b false) h) (f26_2 o c n k s0 s1 s2 h)
theorem f26_1_ok : R Pq o c n (cB b26) (kend Pq o c n w rs26 k) = fun t _ h => f26_1 o c n k (t 0) (t 1) (t 2) h := (kseq (f26_2_ok o c n k w) rfl).tk
noncomputable def f26 (a0 a1 a2 : AV) (h : Heap) : α :=
  f26_1 o c n k a0 a1 a2 h
theorem f26_ok : R Pq o c n b26 (kend Pq o c n w rs26 k) = fun t _ h => f26 o c n k (t 0) (t 1) (t 2) h := (kseq (f26_1_ok o c n k w) rfl).tk
theorem f26_good : Good Pq (cfg mm) 26 (entF Pq (cfg mm) 26 3 fun α => f26) := entG b26 rs26 32 fun _ => f26_ok
noncomputable def b27 := bdy Tryz.f27
noncomputable def rs27 := Tryz.f27.results.toList
noncomputable def f27_2K : Ex → K α := (nxK (R Pq o c n (cB (cB b27)) (kend Pq o c n w rs27 k)) (kend Pq o c n w rs27 k))
noncomputable def f27_7 {α : Type} (o : α) (c : Call' α) (n : Nat) (k : AV → Heap → α) (base : Nat) (s10 s15 : AV) (h : Heap) : α :=
  pickF o s10 s15 (.b false) fun v1 => hb h.shut fun h => k v1 h
theorem f27_7_ok (base : Nat) : QD Pq o c (cO (cA (cB b27))) base ((f27_2K o c n k w)) 11 = fun t _ h => f27_7 o c n k base (t 10) (t 15) h := by kernel_rfl
noncomputable def f27_6 (base : Nat) (s10 s12 s14 : AV) (h : Heap) : α :=
  bkF o true s10 (callD o c [] 26 [s12, s14, (.fn (.func 27) [] [])] h fun v2 h => pnF v2 (fun x => hb h.shut fun hd => k x.pn hd) <| f27_7 o c n k base s10 v2 h) (f27_7 o c n k base s10 (.tup []) h)
theorem f27_6_ok (base : Nat) : QD Pq o c (cO (cA (cB b27))) base ((f27_2K o c n k w)) 10 = fun t _ h => f27_6 o c n k base (t 10) (t 12) (t 14) h := (qd_seg 10 11 (by kernel_rfl) (f27_7_ok o c n k w base)).tk
noncomputable def f27_5 (base : Nat) (s3 s10 s12 s13 : AV) (h : Heap) : α :=
  rootF o s13 s3 <| bkF o true s10 (load1F o (h.look 319) s13 fun v3 => f27_6 o c n k base s10 s12 v3 (h.look 0)) (f27_6 o c n k base s10 s12 (.tup []) (h.look 0))
theorem f27_5_ok (base : Nat) : QD Pq o c (cO (cA (cB b27))) base ((f27_2K o c n k w)) 9 = fun t _ h => f27_5 o c n k base (t 3) (t 10) (t 12) (t 13) h := (qd_seg 9 10 (by kernel_rfl) (f27_6_ok o c n k w base)).tk
noncomputable def f27_4 (base : Nat) (s3 s10 s12 : AV) (h : Heap) : α :=
  bkF o true s10 (faF o 5 s3 fun v4 => f27_5 o c n k base s3 s10 s12 v4 (h.look 0)) (f27_5 o c n k base s3 s10 s12 (.tup []) (h.look 0))
theorem f27_4_ok (base : Nat) : QD Pq o c (cO (cA (cB b27))) base ((f27_2K o c n k w)) 8 = fun t _ h => f27_4 o c n k base (t 3) (t 10) (t 12) h := (qd_seg 8 9 (by kernel_rfl) (f27_5_ok o c n k w base)).tk
noncomputable def f27_3 (base : Nat) (s2 s3 s10 s11 : AV) (h : Heap) : α :=
  rootF o s11 s2 <| bkF o true s10 (load1F o (h.look 127) s11 fun v5 => f27_4 o c n k base s3 s10 v5 (h.look 0)) (f27_4 o c n k base s3 s10 (.tup []) (h.look 0))
theorem f27_3_ok (base : Nat) : QD Pq o c (cO (cA (cB b27))) base ((f27_2K o c n k w)) 7 = fun t _ h => f27_3 o c n k base (t 2) (t 3) (t 10) (t 11) h := (qd_seg 7 8 (by kernel_rfl) (f27_4_ok o c n k w base)).tk
noncomputable def f27_1 (s2 s3 : AV) (h : Heap) : α :=
  dreg o h 13 fun base h => loadNF o (h.look 0) 8 s2 fun v6 => callD o c (hidD false [(.fn (.func 58) [] []), v6] [] (sBlk s3 [])) 58 [v6] (h.look 0) fun v7 h => pnF v7 (fun x => hb h.shut fun hd => loadNF o (h.look 0) 8 s3 fun v8 => k x.pn hd) <| loadNF o (h.look 0) 8 s3 fun v9 => callD o c [] 58 [v9] (h.look 0) fun v10 h => pnF v10 (fun x => hb h.shut fun hd => k x.pn hd) <| eqiF Pq o 114 v7 v10 fun v11 => bkF o true v11 (faF o 5 s2 fun v12 => f27_3 o c n k base s2 s3 v11 v12 (h.look 0)) (f27_3 o c n k base s2 s3 v11 (.tup []) (h.look 0))
theorem f27_1_ok : R Pq o c n (cB b27) (kend Pq o c n w rs27 k) = fun t _ h => f27_1 o c n k (t 2) (t 3) h := (kseq rfl (r_startD 7 (by kernel_rfl) (by kernel_rfl) (X := fun base => fun t _ h => f27_3 o c n k base (t 2) (t 3) (t 10) (t 11) h) (fun base => f27_3_ok o c n k w base))).tk
noncomputable def f27 (a0 a1 : AV) (h : Heap) : α :=
  boxF o a0 h h.next fun v13 h => boxF o a1 h h.next fun v14 h => f27_1 o c n k v13 v14 h
theorem f27_ok : R Pq o c n b27 (kend Pq o c n w rs27 k) = fun t _ h => f27 o c n k (t 0) (t 1) h := (kseq (f27_1_ok o c n k w) rfl).tk
theorem f27_good : Good Pq (cfg mm) 27 (entF Pq (cfg mm) 27 2 fun α => f27) := entG b27 rs27 17 fun _ => f27_ok
noncomputable def b31 := bdy Tryz.f31
noncomputable def rs31 := Tryz.f31.results.toList
noncomputable def f31 {α : Type} (o : α) (c : Call' α) (n : Nat) (k : AV → Heap → α) (a0 a1 : AV) (h : Heap) : α :=
  c 59 [a0, a1, (.fn (.func 60) [] [])] h fun v1 h => pk k v1 h <| k v1 h
theorem f31_ok : R Pq o c n b31 (kend Pq o c n w rs31 k) = fun t _ h => f31 o c n k (t 0) (t 1) h := by kernel_rfl
theorem f31_good : Good Pq (cfg mm) 31 (entF Pq (cfg mm) 31 2 fun α => f31) := entG b31 rs31 8 fun _ => f31_ok
noncomputable def b33 := bdy Tryz.f33
noncomputable def rs33 := Tryz.f33.results.toList
noncomputable def f33_2K : Ex → K α := (nxK (R Pq o c n (cB (cB b33)) (kend Pq o c n w rs33 k)) (kend Pq o c n w rs33 k))
noncomputable def f33_4 {α : Type} (o : α) (c : Call' α) (n : Nat) (k : AV → Heap → α) (m : Nat) : AVs (Heap → α) 2 :=
  Nat.rec (motive := fun _ => AVs (Heap → α) 2) (fun _ _ _ => o) (fun _ lp0 s0 s3 h => lensF o s0 fun v1 => lssF Pq o 3 s3 v1 fun v2 => ifF o v2 (c 63 [s0, s3] h fun v3 h => pk k v3 h <| newF h h.next 3 [(.i .i32 0), (.i .i64 0), (.b false)] fun v4 h => storeF o h 3 v4 v3 fun h => faF o 2 v4 fun v5 => load1F o h v5 fun v6 => ifF o v6 (k s3 h) (faF o 1 v4 fun v7 => load1F o h v7 fun v8 => addF Pq o 3 s3 v8 fun v9 => lp0 s0 v9 h)) (k (.i .i64 (-1)) h)) m
theorem f33_4_ok : R Pq o c n (cA (cB (cA (cB b33)))) (blockK (cI (cB (cA (cB b33)))) (f33_2K o c n k w)) = fun t _ h => f33_4 o c n k n (t 0) (t 3) h :=
  c_loop (F := fun m t _ h => f33_4 o c n k m (t 0) (t 3) h) (by kernel_rfl) (by kernel_rfl) fun m => by kernel_rfl
noncomputable def f33_3 (s0 s3 : AV) (h : Heap) : α :=
  f33_4 o c n k n s0 s3 h
theorem f33_3_ok : R Pq o c n (cB (cA (cB b33))) (f33_2K o c n k w) = fun t _ h => f33_3 o c n k (t 0) (t 3) h := (kblk (f33_4_ok o c n k w)).tk
noncomputable def f33_1 (s0 : AV) (h : Heap) : α :=
  f33_3 o c n k s0 (.i .i64 0) h
theorem f33_1_ok : R Pq o c n (cB b33) (kend Pq o c n w rs33 k) = fun t _ h => f33_1 o c n k (t 0) h := (kseq rfl (kseq (f33_3_ok o c n k w) rfl)).tk
noncomputable def f33 (a0 : AV) (h : Heap) : α :=
  f33_1 o c n k a0 h
theorem f33_ok : R Pq o c n b33 (kend Pq o c n w rs33 k) = fun t _ h => f33 o c n k (t 0) h := (kseq (f33_1_ok o c n k w) rfl).tk
theorem f33_good : Good Pq (cfg mm) 33 (entF Pq (cfg mm) 33 1 fun α => f33) := entG b33 rs33 19 fun _ => f33_ok
noncomputable def b37 := bdy Tryz.f37
noncomputable def rs37 := Tryz.f37.results.toList
noncomputable def f37 {α : Type} (o : α) (c : Call' α) (n : Nat) (k : AV → Heap → α) (a0 : AV) (h : Heap) : α :=
  dreg o h 12 fun base h => nilChk o a0 fun v1 => faF o 0 v1 fun v2 => rootF o v2 a0 <| load1F o (h.look 7) v2 fun v3 => nilChk o a0 fun v4 => faF o 2 v4 fun v5 => rootF o v5 a0 <| load1F o (h.look 112) v5 fun v6 => ixF o 3 v3 v6 fun v7 => faF o 1 v7 fun v8 => load1F o (h.look 1023) v8 fun v9 => hb h.shut fun h => lensF o v9 fun v10 => gtrF Pq o 3 v10 (.i .i64 20) fun v11 => ifF o v11 (c 35 [a0, (.i .i64 5)] h fun v12 h => pk k v12 h <| k (.s 0 0) h) (nilChk o a0 fun v13 => faF o 2 v13 fun v14 => load1F o h v14 fun v15 => addF Pq o 3 v15 (.i .i64 1) fun v16 => nilChk o a0 fun v17 => faF o 2 v17 fun v18 => storeF o h 1 v18 v16 fun h => k v9 h)
theorem f37_ok : R Pq o c n b37 (kend Pq o c n w rs37 k) = fun t _ h => f37 o c n k (t 0) h := by kernel_rfl
theorem f37_good : Good Pq (cfg mm) 37 (entF Pq (cfg mm) 37 1 fun α => f37) := entG b37 rs37 28 fun _ => f37_ok
noncomputable def b38 := bdy Tryz.f38
noncomputable def rs38 := Tryz.f38.results.toList
noncomputable def f38 {α : Type} (o : α) (c : Call' α) (n : Nat) (k : AV → Heap → α) (a0 a1 : AV) (h : Heap) : α :=
  c 39 [a0, (.i .i64 0), (.i .i64 1), a1] h fun v1 h => pk k v1 h <| k v1 h
theorem f38_ok : R Pq o c n b38 (kend Pq o c n w rs38 k) = fun t _ h => f38 o c n k (t 0) (t 1) h := by kernel_rfl
theorem f38_good : Good Pq (cfg mm) 38 (entF Pq (cfg mm) 38 2 fun α => f38) := entG b38 rs38 8 fun _ => f38_ok
noncomputable def b39 := bdy Tryz.f39
noncomputable def rs39 := Tryz.f39.results.toList
noncomputable def f39_3K : Ex → K α := (nxK (R Pq o c n (cB (cB (cB b39))) (kend Pq o c n w rs39 k)) (kend Pq o c n w rs39 k))
noncomputable def f39_7 {α : Type} (o : α) (c : Call' α) (n : Nat) (k : AV → Heap → α) (s42 s45 s55 : AV) (h : Heap) : α :=
  bkF o true s42 (pickF o s45 (.b true) s55 fun v1 => pickF o s42 v1 (.b false) fun v2 => k v2 h) (pickF o s42 (.tup []) (.b false) fun v3 => k v3 h)
theorem f39_7_ok : Q Pq o c (cO (cA (cB (cB b39)))) (f39_3K o c n k w) 40 = fun t _ h => f39_7 o c n k (t 42) (t 45) (t 55) h := (q_seg 40 40 (by kernel_rfl) (q_guard 40 41 (26, true) (by kernel_rfl) (by kernel_rfl) (by kernel_rfl) rfl)).tk
noncomputable def f39_6 (s0 s3 s9 s42 s45 : AV) (h : Heap) : α :=
  bkF o false s45 (nilChk o s0 fun v4 => faF o 0 v4 fun v5 => load1F o h v5 fun v6 => ixF o 3 v6 s9 fun v7 => faF o 1 v7 fun v8 => load1F o h v8 fun v9 => eqsF Pq o 9 v9 s3 fun v10 => f39_7 o c n k s42 s45 v10 h) (f39_7 o c n k s42 s45 (.tup []) h)
theorem f39_6_ok : Q Pq o c (cO (cA (cB (cB b39)))) (f39_3K o c n k w) 30 = fun t _ h => f39_6 o c n k (t 0) (t 3) (t 9) (t 42) (t 45) h := (q_seg 30 30 (by kernel_rfl) (q_guard 30 40 (29, false) (by kernel_rfl) (by kernel_rfl) (by kernel_rfl) (f39_7_ok o c n k w))).tk
noncomputable def f39_5 (s0 s3 s9 s30 s40 : AV) (h : Heap) : α :=
  pickF o s30 s40 (.b false) fun v11 => bkF o true v11 (eqsF Pq o 9 s3 (.s 0 0) fun v12 => f39_6 o c n k s0 s3 s9 v11 v12 h) (f39_6 o c n k s0 s3 s9 v11 (.tup []) h)
theorem f39_5_ok : Q Pq o c (cO (cA (cB (cB b39)))) (f39_3K o c n k w) 25 = fun t _ h => f39_5 o c n k (t 0) (t 3) (t 9) (t 30) (t 40) h := (q_seg 25 27 (by kernel_rfl) (q_guard 27 30 (26, true) (by kernel_rfl) (by kernel_rfl) (by kernel_rfl) (f39_6_ok o c n k w))).tk
noncomputable def f39_4 (s0 s2 s3 s9 s21 s28 : AV) (h : Heap) : α :=
  pickF o s21 s28 (.b false) fun v13 => bkF o true v13 (nilChk o s0 fun v14 => faF o 0 v14 fun v15 => load1F o h v15 fun v16 => ixF o 3 v16 s9 fun v17 => faF o 0 v17 fun v18 => load1F o h v18 fun v19 => eqiF Pq o 3 v19 s2 fun v20 => f39_5 o c n k s0 s3 s9 v13 v20 h) (f39_5 o c n k s0 s3 s9 v13 (.tup []) h)
theorem f39_4_ok : Q Pq o c (cO (cA (cB (cB b39)))) (f39_3K o c n k w) 13 = fun t _ h => f39_4 o c n k (t 0) (t 2) (t 3) (t 9) (t 21) (t 28) h := (q_seg 13 15 (by kernel_rfl) (q_guard 15 25 (14, true) (by kernel_rfl) (by kernel_rfl) (by kernel_rfl) (f39_5_ok o c n k w))).tk
noncomputable def f39_2 (s0 s2 s3 s9 : AV) (h : Heap) : α :=
  nilChk o s0 fun v21 => faF o 3 v21 fun v22 => load1F o h v22 fun v23 => eqiF Pq o 3 v23 (.i .i64 0) fun v24 => bkF o true v24 (nilChk o s0 fun v25 => faF o 0 v25 fun v26 => load1F o h v26 fun v27 => lenF o v27 fun v28 => lssF Pq o 3 s9 v28 fun v29 => f39_4 o c n k s0 s2 s3 s9 v24 v29 h) (f39_4 o c n k s0 s2 s3 s9 v24 (.tup []) h)
theorem f39_2_ok : R Pq o c n (cB (cB b39)) (kend Pq o c n w rs39 k) = fun t _ h => f39_2 o c n k (t 0) (t 2) (t 3) (t 9) h := (kseq rfl (r_start 6 (by kernel_rfl) (q_guard 6 13 (5, true) (by kernel_rfl) (by kernel_rfl) (by kernel_rfl) (f39_4_ok o c n k w)))).tk
noncomputable def f39_1 (s0 s1 s2 s3 : AV) (h : Heap) : α :=
  nilChk o s0 fun v30 => faF o 2 v30 fun v31 => load1F o h v31 fun v32 => addF Pq o 3 v32 s1 fun v33 => f39_2 o c n k s0 s2 s3 v33 h
theorem f39_1_ok : R Pq o c n (cB b39) (kend Pq o c n w rs39 k) = fun t _ h => f39_1 o c n k (t 0) (t 1) (t 2) (t 3) h := (kseq (f39_2_ok o c n k w) rfl).tk
noncomputable def f39 (a0 a1 a2 a3 : AV) (h : Heap) : α :=
  f39_1 o c n k a0 a1 a2 a3 h
theorem f39_ok : R Pq o c n b39 (kend Pq o c n w rs39 k) = fun t _ h => f39 o c n k (t 0) (t 1) (t 2) (t 3) h := (kseq (f39_1_ok o c n k w) rfl).tk
theorem f39_good : Good Pq (cfg mm) 39 (entF Pq (cfg mm) 39 4 fun α => f39) := entG b39 rs39 58 fun _ => f39_ok
noncomputable def b53 := bdy Tryz.f53
noncomputable def rs53 := Tryz.f53.results.toList
noncomputable def f53 {α : Type} (o : α) (c : Call' α) (n : Nat) (k : AV → Heap → α) (a0 a1 : AV) (h : Heap) : α :=
  c 106 [a0, a1] h fun v1 h => pk k v1 h <| geqF Pq o 3 v1 (.i .i64 0) fun v2 => k v2 h
theorem f53_ok : R Pq o c n b53 (kend Pq o c n w rs53 k) = fun t _ h => f53 o c n k (t 0) (t 1) h := by kernel_rfl
theorem f53_good : Good Pq (cfg mm) 53 (entF Pq (cfg mm) 53 2 fun α => f53) := entG b53 rs53 9 fun _ => f53_ok
noncomputable def b55 := bdy Tryz.f55
noncomputable def rs55 := Tryz.f55.results.toList
noncomputable def f55_3K : Ex → K α := (nxK (R Pq o c n (cB (cB (cB b55))) (kend Pq o c n w rs55 k)) (kend Pq o c n w rs55 k))
noncomputable def f55_6K (lp0 : AVs (Heap → α) 7) : Ex → K α := (nxK (fun t _ h => lp0 (t 1) (t 2) (t 6) (t 7) (t 15) (t 16) (t 17) h) (blockK (cI (cB (cA (cB (cB b55))))) (f55_3K o c n k w)))
noncomputable def f55_9K (lp0 : AVs (Heap → α) 7) : Ex → K α := (nxK (R Pq o c n (cB (cB (cB (cA (cA (cB (cA (cB (cB b55))))))))) (f55_6K o c n k w lp0)) (f55_6K o c n k w lp0))
noncomputable def f55_14K (lp0 : AVs (Heap → α) 7) : Ex → K α := (nxK (R Pq o c n (cB (cB (cB (cB (cB (cA (cA (cB (cB (cA (cA (cB (cA (cB (cB b55))))))))))))))) (blockK (cI (cA (cB (cB (cA (cA (cB (cA (cB (cB b55)))))))))) (f55_9K o c n k w lp0))) (blockK (cI (cA (cB (cB (cA (cA (cB (cA (cB (cB b55)))))))))) (f55_9K o c n k w lp0)))
noncomputable def f55_16 {α : Type} (o : α) (c : Call' α) (n : Nat) (k : AV → Heap → α) (lp0 : AVs (Heap → α) 7) (m : Nat) : AVs (Heap → α) 12 :=
  Nat.rec (motive := fun _ => AVs (Heap → α) 12) (fun _ _ _ _ _ _ _ _ _ _ _ _ _ => o) (fun _ lp1 s1 s2 s6 s7 s9 s10 s12 s15 s16 s17 s45 s46 h => lssF Pq o 3 s46 s45 fun v1 => ifF o v1 (ixF o 6 s12 s46 fun v2 => faF o 4 v2 fun v3 => load1F o h v3 fun v4 => c 108 [v4] h fun v5 h => pk k v5 h <| ixF o 6 s12 s46 fun v6 => faF o 4 v6 fun v7 => storeF o h 1 v7 v5 fun h => ixF o 6 s12 s46 fun v8 => faF o 5 v8 fun v9 => load1F o h v9 fun v10 => c 109 [v10, s1, s2] h fun v11 h => pk k v11 h <| ixF o 6 s12 s46 fun v12 => faF o 5 v12 fun v13 => storeF o h 1 v13 v11 fun h => addF Pq o 3 s46 (.i .i64 1) fun v14 => lp1 s1 s2 s6 s7 s9 s10 s12 s15 s16 s17 s45 v14 h) (faF o 2 s9 fun v15 => storeF o h 1 v15 s10 fun h => faF o 3 s9 fun v16 => storeF o h 1 v16 s12 fun h => faF o 0 s7 fun v17 => load1F o h v17 fun v18 => loadNF o h 4 s9 fun v19 => fil1 o 4 1 0 v19 [[(.s 0 0), (.s 0 0), .nsl, .nsl]] fun v20 => newEF h h.next 4 1 v20 fun v21 h => appX Pq o h h.next 24 24 v18 v21 fun v22 h => faF o 0 s7 fun v23 => storeF o h 1 v23 v22 fun h => addF Pq o 3 s17 (.i .i64 1) fun v24 => lp0 s1 s2 s6 s7 s15 s16 v24 h)) m
theorem f55_16_ok (lp0 : AVs (Heap → α) 7) : R Pq o c n (cA (cB (cA (cB (cB (cB (cB (cA (cA (cB (cB (cA (cA (cB (cA (cB (cB b55))))))))))))))))) (blockK (cI (cB (cA (cB (cB (cB (cB (cA (cA (cB (cB (cA (cA (cB (cA (cB (cB b55))))))))))))))))) (f55_14K o c n k w lp0)) = fun t _ h => f55_16 o c n k lp0 n (t 1) (t 2) (t 6) (t 7) (t 9) (t 10) (t 12) (t 15) (t 16) (t 17) (t 45) (t 46) h :=
  c_loop (F := fun m t _ h => f55_16 o c n k lp0 m (t 1) (t 2) (t 6) (t 7) (t 9) (t 10) (t 12) (t 15) (t 16) (t 17) (t 45) (t 46) h) (by kernel_rfl) (by kernel_rfl) fun m => by kernel_rfl
noncomputable def f55_15 (lp0 : AVs (Heap → α) 7) (s1 s2 s6 s7 s9 s10 s12 s15 s16 s17 s45 s46 : AV) (h : Heap) : α :=
  f55_16 o c n k lp0 n s1 s2 s6 s7 s9 s10 s12 s15 s16 s17 s45 s46 h
theorem f55_15_ok (lp0 : AVs (Heap → α) 7) : R Pq o c n (cB (cA (cB (cB (cB (cB (cA (cA (cB (cB (cA (cA (cB (cA (cB (cB b55)))))))))))))))) (f55_14K o c n k w lp0) = fun t _ h => f55_15 o c n k lp0 (t 1) (t 2) (t 6) (t 7) (t 9) (t 10) (t 12) (t 15) (t 16) (t 17) (t 45) (t 46) h := (kblk (f55_16_ok o c n k w lp0)).tk
noncomputable def f55_13 (lp0 : AVs (Heap → α) 7) (s1 s2 s6 s7 s9 s10 s12 s15 s16 s17 : AV) (h : Heap) : α :=
  lenF o s12 fun v25 => f55_15 o c n k lp0 s1 s2 s6 s7 s9 s10 s12 s15 s16 s17 v25 (.i .i64 0) h
theorem f55_13_ok (lp0 : AVs (Heap → α) 7) : R Pq o c n (cB (cB (cB (cB (cA (cA (cB (cB (cA (cA (cB (cA (cB (cB b55)))))))))))))) (blockK (cI (cA (cB (cB (cA (cA (cB (cA (cB (cB b55)))))))))) (f55_9K o c n k w lp0)) = fun t _ h => f55_13 o c n k lp0 (t 1) (t 2) (t 6) (t 7) (t 9) (t 10) (t 12) (t 15) (t 16) (t 17) h := (kseq rfl (kseq (f55_15_ok o c n k w lp0) rfl)).tk
noncomputable def f55_12 (lp0 : AVs (Heap → α) 7) (s1 s2 s6 s7 s9 s10 s15 s16 s17 : AV) (h : Heap) : α :=
  faF o 3 s9 fun v26 => load1F o h v26 fun v27 => c 94 [v27] h fun v28 h => pk k v28 h <| f55_13 o c n k lp0 s1 s2 s6 s7 s9 s10 v28 s15 s16 s17 h
theorem f55_12_ok (lp0 : AVs (Heap → α) 7) : R Pq o c n (cB (cB (cB (cA (cA (cB (cB (cA (cA (cB (cA (cB (cB b55))))))))))))) (blockK (cI (cA (cB (cB (cA (cA (cB (cA (cB (cB b55)))))))))) (f55_9K o c n k w lp0)) = fun t _ h => f55_12 o c n k lp0 (t 1) (t 2) (t 6) (t 7) (t 9) (t 10) (t 15) (t 16) (t 17) h := (kseq (f55_13_ok o c n k w lp0) rfl).tk
noncomputable def f55_17K (lp0 : AVs (Heap → α) 7) : Ex → K α := (nxK (fun t _ h => f55_12 o c n k lp0 (t 1) (t 2) (t 6) (t 7) (t 9) (t 10) (t 15) (t 16) (t 17) h) (blockK (cI (cA (cB (cB (cA (cA (cB (cA (cB (cB b55)))))))))) (f55_9K o c n k w lp0)))
noncomputable def f55_19 (lp0 : AVs (Heap → α) 7) (m : Nat) : AVs (Heap → α) 11 :=
  Nat.rec (motive := fun _ => AVs (Heap → α) 11) (fun _ _ _ _ _ _ _ _ _ _ _ _ => o) (fun _ lp1 s1 s2 s6 s7 s9 s10 s15 s16 s17 s25 s26 h => lssF Pq o 3 s26 s25 fun v29 => ifF o v29 (ixF o 4 s10 s26 fun v30 => faF o 3 v30 fun v31 => load1F o h v31 fun v32 => c 107 [v32, s1] h fun v33 h => pk k v33 h <| ixF o 4 s10 s26 fun v34 => faF o 3 v34 fun v35 => storeF o h 1 v35 v33 fun h => addF Pq o 3 s26 (.i .i64 1) fun v36 => lp1 s1 s2 s6 s7 s9 s10 s15 s16 s17 s25 v36 h) (f55_12 o c n k lp0 s1 s2 s6 s7 s9 s10 s15 s16 s17 h)) m
theorem f55_19_ok (lp0 : AVs (Heap → α) 7) : R Pq o c n (cA (cB (cA (cB (cB (cA (cA (cB (cB (cA (cA (cB (cA (cB (cB b55))))))))))))))) (blockK (cI (cB (cA (cB (cB (cA (cA (cB (cB (cA (cA (cB (cA (cB (cB b55))))))))))))))) (f55_17K o c n k w lp0)) = fun t _ h => f55_19 o c n k lp0 n (t 1) (t 2) (t 6) (t 7) (t 9) (t 10) (t 15) (t 16) (t 17) (t 25) (t 26) h :=
  c_loop (F := fun m t _ h => f55_19 o c n k lp0 m (t 1) (t 2) (t 6) (t 7) (t 9) (t 10) (t 15) (t 16) (t 17) (t 25) (t 26) h) (by kernel_rfl) (by kernel_rfl) fun m => by kernel_rfl
noncomputable def f55_18 (lp0 : AVs (Heap → α) 7) (s1 s2 s6 s7 s9 s10 s15 s16 s17 s25 s26 : AV) (h : Heap) : α :=
  f55_19 o c n k lp0 n s1 s2 s6 s7 s9 s10 s15 s16 s17 s25 s26 h
theorem f55_18_ok (lp0 : AVs (Heap → α) 7) : R Pq o c n (cB (cA (cB (cB (cA (cA (cB (cB (cA (cA (cB (cA (cB (cB b55)))))))))))))) (f55_17K o c n k w lp0) = fun t _ h => f55_18 o c n k lp0 (t 1) (t 2) (t 6) (t 7) (t 9) (t 10) (t 15) (t 16) (t 17) (t 25) (t 26) h := (kblk (f55_19_ok o c n k w lp0)).tk
noncomputable def f55_11 (lp0 : AVs (Heap → α) 7) (s1 s2 s6 s7 s9 s10 s15 s16 s17 : AV) (h : Heap) : α :=
  lenF o s10 fun v37 => f55_18 o c n k lp0 s1 s2 s6 s7 s9 s10 s15 s16 s17 v37 (.i .i64 0) h
theorem f55_11_ok (lp0 : AVs (Heap → α) 7) : R Pq o c n (cB (cB (cA (cA (cB (cB (cA (cA (cB (cA (cB (cB b55)))))))))))) (blockK (cI (cA (cB (cB (cA (cA (cB (cA (cB (cB b55)))))))))) (f55_9K o c n k w lp0)) = fun t _ h => f55_11 o c n k lp0 (t 1) (t 2) (t 6) (t 7) (t 9) (t 10) (t 15) (t 16) (t 17) h := (kseq (f55_12_ok o c n k w lp0) (kseq (f55_18_ok o c n k w lp0) rfl)).tk
noncomputable def f55_10 (lp0 : AVs (Heap → α) 7) (s1 s2 s6 s7 s9 s15 s16 s17 : AV) (h : Heap) : α :=
  faF o 2 s9 fun v38 => load1F o h v38 fun v39 => c 93 [v39] h fun v40 h => pk k v40 h <| f55_11 o c n k lp0 s1 s2 s6 s7 s9 v40 s15 s16 s17 h
theorem f55_10_ok (lp0 : AVs (Heap → α) 7) : R Pq o c n (cB (cA (cA (cB (cB (cA (cA (cB (cA (cB (cB b55))))))))))) (blockK (cI (cA (cB (cB (cA (cA (cB (cA (cB (cB b55)))))))))) (f55_9K o c n k w lp0)) = fun t _ h => f55_10 o c n k lp0 (t 1) (t 2) (t 6) (t 7) (t 9) (t 15) (t 16) (t 17) h := (kseq (f55_11_ok o c n k w lp0) rfl).tk
noncomputable def f55_8 (lp0 : AVs (Heap → α) 7) (s1 s2 s6 s7 s15 s16 s17 : AV) (h : Heap) : α :=
  ixF o 4 s15 s17 fun v41 => loadNF o h 4 v41 fun v42 => newF h h.next 4 [(.s 0 0), (.s 0 0), .nsl, .nsl] fun v43 h => storeF o h 4 v43 v42 fun h => f55_10 o c n k lp0 s1 s2 s6 s7 v43 s15 s16 s17 h
theorem f55_8_ok (lp0 : AVs (Heap → α) 7) : R Pq o c n (cB (cB (cA (cA (cB (cA (cB (cB b55)))))))) (f55_6K o c n k w lp0) = fun t _ h => f55_8 o c n k lp0 (t 1) (t 2) (t 6) (t 7) (t 15) (t 16) (t 17) h := (kseq rfl (kblk (kseq (f55_10_ok o c n k w lp0) rfl))).tk
noncomputable def f55_7 (lp0 : AVs (Heap → α) 7) (s1 s2 s6 s7 s15 s16 s17 s18 : AV) (h : Heap) : α :=
  ifF o s18 (f55_8 o c n k lp0 s1 s2 s6 s7 s15 s16 s17 h) (loadNF o h 1 s7 fun v44 => storeF o h 1 s6 v44 fun h => on o (resV Pq h [(s6, some 26)]) fun v => k v h)
theorem f55_7_ok (lp0 : AVs (Heap → α) 7) : R Pq o c n (cB (cA (cA (cB (cA (cB (cB b55))))))) (f55_6K o c n k w lp0) = fun t _ h => f55_7 o c n k lp0 (t 1) (t 2) (t 6) (t 7) (t 15) (t 16) (t 17) (t 18) h := (kseq (f55_8_ok o c n k w lp0) rfl).tk
noncomputable def f55_5 (m : Nat) : AVs (Heap → α) 7 :=
  Nat.rec (motive := fun _ => AVs (Heap → α) 7) (fun _ _ _ _ _ _ _ _ => o) (fun _ lp0 s1 s2 s6 s7 s15 s16 s17 h => lssF Pq o 3 s17 s16 fun v45 => f55_7 o c n k lp0 s1 s2 s6 s7 s15 s16 s17 v45 h) m
theorem f55_5_ok : R Pq o c n (cA (cB (cA (cB (cB b55))))) (blockK (cI (cB (cA (cB (cB b55))))) (f55_3K o c n k w)) = fun t _ h => f55_5 o c n k n (t 1) (t 2) (t 6) (t 7) (t 15) (t 16) (t 17) h :=
  c_loop (F := fun m t _ h => f55_5 o c n k m (t 1) (t 2) (t 6) (t 7) (t 15) (t 16) (t 17) h) (by kernel_rfl) (by kernel_rfl) fun m => (kseq (f55_7_ok o c n k w (f55_5 o c n k m)) rfl).tk
noncomputable def f55_4 (s1 s2 s6 s7 s15 s16 s17 : AV) (h : Heap) : α :=
  f55_5 o c n k n s1 s2 s6 s7 s15 s16 s17 h
theorem f55_4_ok : R Pq o c n (cB (cA (cB (cB b55)))) (f55_3K o c n k w) = fun t _ h => f55_4 o c n k (t 1) (t 2) (t 6) (t 7) (t 15) (t 16) (t 17) h := (kblk (f55_5_ok o c n k w)).tk
noncomputable def f55_2 (s1 s2 s3 s6 s7 : AV) (h : Heap) : α :=
  faF o 0 s3 fun v46 => load1F o h v46 fun v47 => lenF o v47 fun v48 => f55_4 o c n k s1 s2 s6 s7 v47 v48 (.i .i64 0) h
theorem f55_2_ok : R Pq o c n (cB (cB b55)) (kend Pq o c n w rs55 k) = fun t _ h => f55_2 o c n k (t 1) (t 2) (t 3) (t 6) (t 7) h := (kseq rfl (kseq (f55_4_ok o c n k w) rfl)).tk
noncomputable def f55_1 (s1 s2 s3 s6 : AV) (h : Heap) : α :=
  newF h h.next 1 [.nsl] fun v49 h => f55_2 o c n k s1 s2 s3 s6 v49 h
theorem f55_1_ok : R Pq o c n (cB b55) (kend Pq o c n w rs55 k) = fun t _ h => f55_1 o c n k (t 1) (t 2) (t 3) (t 6) h := (kseq (f55_2_ok o c n k w) rfl).tk
noncomputable def f55 (a0 a1 a2 : AV) (h : Heap) : α :=
  boxF o a0 h h.next fun v50 h => newF h h.next 1 [.nsl] fun v51 h => f55_1 o c n k a1 a2 v50 v51 h
theorem f55_ok : R Pq o c n b55 (kend Pq o c n w rs55 k) = fun t _ h => f55 o c n k (t 0) (t 1) (t 2) h := (kseq (f55_1_ok o c n k w) rfl).tk
theorem f55_good : Good Pq (cfg mm) 55 (entF Pq (cfg mm) 55 3 fun α => f55) := entG b55 rs55 84 fun _ => f55_ok
noncomputable def b56 := bdy Tryz.f56
noncomputable def rs56 := Tryz.f56.results.toList
noncomputable def f56 {α : Type} (o : α) (c : Call' α) (n : Nat) (k : AV → Heap → α) (a0 : AV) (h : Heap) : α :=
  boxF o a0 h h.next fun v1 h => newF h h.next 8 [(.i .i64 0), (.i .i32 0), (.s 0 0), (.s 0 0), (.s 0 0), .nsl, (.s 0 0), (.i .i64 0)] fun v2 h => faF o 6 v1 fun v3 => storeF o h 1 v3 (.s 0 0) fun h => faF o 7 v1 fun v4 => storeF o h 1 v4 (.i .i64 0) fun h => loadNF o h 8 v1 fun v5 => storeF o h 8 v2 v5 fun h => on o (resV Pq h [(v2, some 71)]) fun v => k v h
theorem f56_ok : R Pq o c n b56 (kend Pq o c n w rs56 k) = fun t _ h => f56 o c n k (t 0) h := by kernel_rfl
theorem f56_good : Good Pq (cfg mm) 56 (entF Pq (cfg mm) 56 1 fun α => f56) := entG b56 rs56 6 fun _ => f56_ok
noncomputable def b57 := bdy Tryz.f57
noncomputable def rs57 := Tryz.f57.results.toList
noncomputable def f57 {α : Type} (o : α) (c : Call' α) (n : Nat) (k : AV → Heap → α) (a0 : AV) (h : Heap) : α :=
  boxF o a0 h h.next fun v1 h => newF h h.next 9 [(.i .i64 0), (.i .i32 0), (.s 0 0), (.s 0 0), .nsl, .nsl, .nsl, .nsl, (.i .i64 0)] fun v2 h => faF o 8 v1 fun v3 => storeF o h 1 v3 (.i .i64 0) fun h => loadNF o h 9 v1 fun v4 => storeF o h 9 v2 v4 fun h => on o (resV Pq h [(v2, some 111)]) fun v => k v h
theorem f57_ok : R Pq o c n b57 (kend Pq o c n w rs57 k) = fun t _ h => f57 o c n k (t 0) h := by kernel_rfl
theorem f57_good : Good Pq (cfg mm) 57 (entF Pq (cfg mm) 57 1 fun α => f57) := entG b57 rs57 5 fun _ => f57_ok
noncomputable def b58 := bdy Tryz.f58
noncomputable def rs58 := Tryz.f58.results.toList
noncomputable def f58 {α : Type} (o : α) (c : Call' α) (n : Nat) (k : AV → Heap → α) (a0 : AV) (h : Heap) : α :=
  boxF o a0 h h.next fun v1 h => newF h h.next 5 [(.i .i64 0), (.i .i32 0), (.s 0 0), (.s 0 0), (.s 0 0)] fun v2 h => faF o 0 v1 fun v3 => load1F o h v3 fun v4 => faF o 1 v1 fun v5 => load1F o h v5 fun v6 => faF o 2 v1 fun v7 => load1F o h v7 fun v8 => faF o 3 v1 fun v9 => load1F o h v9 fun v10 => faF o 4 v1 fun v11 => load1F o h v11 fun v12 => layF o 0 v4 [(.i .i64 0), (.i .i32 0), (.s 0 0), (.s 0 0), (.s 0 0)] fun v13 => layF o 1 v6 v13 fun v14 => layF o 2 v8 v14 fun v15 => layF o 3 v10 v15 fun v16 => layF o 4 v12 v16 fun v17 => storeF o h 5 v2 (.agg v17) fun h => on o (resV Pq h [(v2, some 114)]) fun v => k v h
theorem f58_ok : R Pq o c n b58 (kend Pq o c n w rs58 k) = fun t _ h => f58 o c n k (t 0) h := by kernel_rfl
theorem f58_good : Good Pq (cfg mm) 58 (entF Pq (cfg mm) 58 1 fun α => f58) := entG b58 rs58 14 fun _ => f58_ok
noncomputable def b59 := bdy Tryz.f59
noncomputable def rs59 := Tryz.f59.results.toList
noncomputable def f59_3K : Ex → K α := (nxK (R Pq o c n (cB (cB (cB b59))) (kend Pq o c n w rs59 k)) (kend Pq o c n w rs59 k))
noncomputable def f59_5 {α : Type} (o : α) (c : Call' α) (n : Nat) (k : AV → Heap → α) (m : Nat) : AVs (Heap → α) 5 :=
  Nat.rec (motive := fun _ => AVs (Heap → α) 5) (fun _ _ _ _ _ _ => o) (fun _ lp0 s1 s2 s15 s16 s17 h => lssF Pq o 3 s17 s16 fun v1 => ifF o v1 (ixF o 9 s15 s17 fun v2 => loadNF o h 9 v2 fun v3 => newF h h.next 9 [(.i .i64 0), (.i .i32 0), (.s 0 0), (.s 0 0), .nsl, .nsl, .nsl, .nsl, (.i .i64 0)] fun v4 h => storeF o h 9 v4 v3 fun h => ixF o 9 s1 s17 fun v5 => loadNF o h 9 v5 fun v6 => newF h h.next 9 [(.i .i64 0), (.i .i32 0), (.s 0 0), (.s 0 0), .nsl, .nsl, .nsl, .nsl, (.i .i64 0)] fun v7 h => storeF o h 9 v7 v6 fun h => loadNF o h 9 v4 fun v8 => loadNF o h 9 v7 fun v9 => cfF o s2 [v8, v9] c h fun v10 h => pk k v10 h <| notF o v10 fun v11 => ifF o v11 (k (.b false) h) (addF Pq o 3 s17 (.i .i64 1) fun v12 => lp0 s1 s2 s15 s16 v12 h)) (k (.b true) h)) m
theorem f59_5_ok : R Pq o c n (cA (cB (cA (cB (cB b59))))) (blockK (cI (cB (cA (cB (cB b59))))) (f59_3K o c n k w)) = fun t _ h => f59_5 o c n k n (t 1) (t 2) (t 15) (t 16) (t 17) h :=
  c_loop (F := fun m t _ h => f59_5 o c n k m (t 1) (t 2) (t 15) (t 16) (t 17) h) (by kernel_rfl) (by kernel_rfl) fun m => by kernel_rfl
noncomputable def f59_4 (s1 s2 s15 s16 s17 : AV) (h : Heap) : α :=
  f59_5 o c n k n s1 s2 s15 s16 s17 h
theorem f59_4_ok : R Pq o c n (cB (cA (cB (cB b59)))) (f59_3K o c n k w) = fun t _ h => f59_4 o c n k (t 1) (t 2) (t 15) (t 16) (t 17) h := (kblk (f59_5_ok o c n k w)).tk
noncomputable def f59_2 (s0 s1 s2 : AV) (h : Heap) : α :=
  lenF o s0 fun v13 => f59_4 o c n k s1 s2 s0 v13 (.i .i64 0) h
theorem f59_2_ok : R Pq o c n (cB (cB b59)) (kend Pq o c n w rs59 k) = fun t _ h => f59_2 o c n k (t 0) (t 1) (t 2) h := (kseq rfl (kseq (f59_4_ok o c n k w) rfl)).tk
noncomputable def f59_1 (s0 s1 s2 : AV) (h : Heap) : α :=
  lenF o s0 fun v14 => lenF o s1 fun v15 => neiF Pq o 3 v14 v15 fun v16 => ifF o v16 (k (.b false) h) (f59_2 o c n k s0 s1 s2 h)
theorem f59_1_ok : R Pq o c n (cB b59) (kend Pq o c n w rs59 k) = fun t _ h => f59_1 o c n k (t 0) (t 1) (t 2) h := (kseq (f59_2_ok o c n k w) rfl).tk
noncomputable def f59 (a0 a1 a2 : AV) (h : Heap) : α :=
  f59_1 o c n k a0 a1 a2 h
theorem f59_ok : R Pq o c n b59 (kend Pq o c n w rs59 k) = fun t _ h => f59 o c n k (t 0) (t 1) (t 2) h := (kseq (f59_1_ok o c n k w) rfl).tk
theorem f59_good : Good Pq (cfg mm) 59 (entF Pq (cfg mm) 59 3 fun α => f59) := entG b59 rs59 32 fun _ => f59_ok
noncomputable def b64 := bdy Tryz.f64
noncomputable def rs64 := Tryz.f64.results.toList
noncomputable def f64_2K : Ex → K α := (nxK (R Pq o c n (cB (cB b64)) (kend Pq o c n w rs64 k)) (kend Pq o c n w rs64 k))
noncomputable def f64_1 {α : Type} (o : α) (c : Call' α) (n : Nat) (k : AV → Heap → α) (s0 : AV) (h : Heap) : α :=
  geqF Pq o 21 s0 (.i .i32 48) fun v1 => bkF o true v1 (leqF Pq o 21 s0 (.i .i32 57) fun v2 => pickF o v1 v2 (.b false) fun v3 => k v3 h) (pickF o v1 (.tup []) (.b false) fun v4 => k v4 h)
theorem f64_1_ok : R Pq o c n (cB b64) (kend Pq o c n w rs64 k) = fun t _ h => f64_1 o c n k (t 0) h := (kseq rfl (r_start 3 (by kernel_rfl) (q_guard 3 5 (2, true) (by kernel_rfl) (by kernel_rfl) (by kernel_rfl) rfl))).tk
noncomputable def f64 (a0 : AV) (h : Heap) : α :=
  f64_1 o c n k a0 h
theorem f64_ok : R Pq o c n b64 (kend Pq o c n w rs64 k) = fun t _ h => f64 o c n k (t 0) h := (kseq (f64_1_ok o c n k w) rfl).tk
theorem f64_good : Good Pq (cfg mm) 64 (entF Pq (cfg mm) 64 1 fun α => f64) := entG b64 rs64 9 fun _ => f64_ok
noncomputable def b65 := bdy Tryz.f65
noncomputable def rs65 := Tryz.f65.results.toList
noncomputable def f65_2K : Ex → K α := (nxK (R Pq o c n (cB (cB b65)) (kend Pq o c n w rs65 k)) (kend Pq o c n w rs65 k))
noncomputable def f65_3 {α : Type} (o : α) (c : Call' α) (n : Nat) (k : AV → Heap → α) (s0 s6 s9 : AV) (h : Heap) : α :=
  pickF o s6 (.b true) s9 fun v1 => bkF o false v1 (convA Pq o 5 21 s0 fun v2 => c 64 [v2] h fun v3 h => pk k v3 h <| pickF o v1 (.b true) v3 fun v4 => k v4 h) (pickF o v1 (.b true) (.tup []) fun v5 => k v5 h)
theorem f65_3_ok : Q Pq o c (cO (cA (cB b65))) (f65_2K o c n k w) 7 = fun t _ h => f65_3 o c n k (t 0) (t 6) (t 9) h := (q_seg 7 9 (by kernel_rfl) (q_guard 9 12 (8, false) (by kernel_rfl) (by kernel_rfl) (by kernel_rfl) rfl)).tk
noncomputable def f65_1 (s0 : AV) (h : Heap) : α :=
  convA Pq o 5 21 s0 fun v6 => c 80 [v6] h fun v7 h => pk k v7 h <| bkF o false v7 (convA Pq o 5 21 s0 fun v8 => c 79 [v8] h fun v9 h => pk k v9 h <| f65_3 o c n k s0 v7 v9 h) (f65_3 o c n k s0 v7 (.tup []) h)
theorem f65_1_ok : R Pq o c n (cB b65) (kend Pq o c n w rs65 k) = fun t _ h => f65_1 o c n k (t 0) h := (kseq rfl (r_start 4 (by kernel_rfl) (q_guard 4 7 (3, false) (by kernel_rfl) (by kernel_rfl) (by kernel_rfl) (f65_3_ok o c n k w)))).tk
noncomputable def f65 (a0 : AV) (h : Heap) : α :=
  f65_1 o c n k a0 h
theorem f65_ok : R Pq o c n b65 (kend Pq o c n w rs65 k) = fun t _ h => f65 o c n k (t 0) h := (kseq (f65_1_ok o c n k w) rfl).tk
theorem f65_good : Good Pq (cfg mm) 65 (entF Pq (cfg mm) 65 1 fun α => f65) := entG b65 rs65 16 fun _ => f65_ok
noncomputable def b68 := bdy Tryz.f68
noncomputable def rs68 := Tryz.f68.results.toList
noncomputable def f68_2K : Ex → K α := (nxK (R Pq o c n (cB (cB b68)) (kend Pq o c n w rs68 k)) (kend Pq o c n w rs68 k))
noncomputable def f68_4 {α : Type} (o : α) (c : Call' α) (n : Nat) (k : AV → Heap → α) (m : Nat) : AVs (Heap → α) 3 :=
  Nat.rec (motive := fun _ => AVs (Heap → α) 3) (fun _ _ _ _ => o) (fun _ lp0 s0 s1 s5 h => lenF o s0 fun v1 => lssF Pq o 3 s5 v1 fun v2 => ifF o v2 (ixF o 1 s0 s5 fun v3 => load1F o h v3 fun v4 => eqsF Pq o 9 v4 s1 fun v5 => ifF o v5 (k (.b true) h) (addF Pq o 3 s5 (.i .i64 1) fun v6 => lp0 s0 s1 v6 h)) (k (.b false) h)) m
theorem f68_4_ok : R Pq o c n (cA (cB (cA (cB b68)))) (blockK (cI (cB (cA (cB b68)))) (f68_2K o c n k w)) = fun t _ h => f68_4 o c n k n (t 0) (t 1) (t 5) h :=
  c_loop (F := fun m t _ h => f68_4 o c n k m (t 0) (t 1) (t 5) h) (by kernel_rfl) (by kernel_rfl) fun m => by kernel_rfl
noncomputable def f68_3 (s0 s1 s5 : AV) (h : Heap) : α :=
  f68_4 o c n k n s0 s1 s5 h
theorem f68_3_ok : R Pq o c n (cB (cA (cB b68))) (f68_2K o c n k w) = fun t _ h => f68_3 o c n k (t 0) (t 1) (t 5) h := (kblk (f68_4_ok o c n k w)).tk
noncomputable def f68_1 (s0 s1 : AV) (h : Heap) : α :=
  f68_3 o c n k s0 s1 (.i .i64 0) h
theorem f68_1_ok : R Pq o c n (cB b68) (kend Pq o c n w rs68 k) = fun t _ h => f68_1 o c n k (t 0) (t 1) h := (kseq rfl (kseq (f68_3_ok o c n k w) rfl)).tk
noncomputable def f68 (a0 a1 : AV) (h : Heap) : α :=
  f68_1 o c n k a0 a1 h
theorem f68_ok : R Pq o c n b68 (kend Pq o c n w rs68 k) = fun t _ h => f68 o c n k (t 0) (t 1) h := (kseq (f68_1_ok o c n k w) rfl).tk
theorem f68_good : Good Pq (cfg mm) 68 (entF Pq (cfg mm) 68 2 fun α => f68) := entG b68 rs68 18 fun _ => f68_ok
noncomputable def b79 := bdy Tryz.f79
noncomputable def rs79 := Tryz.f79.results.toList
noncomputable def f79_2K : Ex → K α := (nxK (R Pq o c n (cB (cB b79)) (kend Pq o c n w rs79 k)) (kend Pq o c n w rs79 k))
noncomputable def f79_1 {α : Type} (o : α) (c : Call' α) (n : Nat) (k : AV → Heap → α) (s0 : AV) (h : Heap) : α :=
  geqF Pq o 21 s0 (.i .i32 65) fun v1 => bkF o true v1 (leqF Pq o 21 s0 (.i .i32 90) fun v2 => pickF o v1 v2 (.b false) fun v3 => k v3 h) (pickF o v1 (.tup []) (.b false) fun v4 => k v4 h)
theorem f79_1_ok : R Pq o c n (cB b79) (kend Pq o c n w rs79 k) = fun t _ h => f79_1 o c n k (t 0) h := (kseq rfl (r_start 3 (by kernel_rfl) (q_guard 3 5 (2, true) (by kernel_rfl) (by kernel_rfl) (by kernel_rfl) rfl))).tk
noncomputable def f79 (a0 : AV) (h : Heap) : α :=
  f79_1 o c n k a0 h
theorem f79_ok : R Pq o c n b79 (kend Pq o c n w rs79 k) = fun t _ h => f79 o c n k (t 0) h := (kseq (f79_1_ok o c n k w) rfl).tk
theorem f79_good : Good Pq (cfg mm) 79 (entF Pq (cfg mm) 79 1 fun α => f79) := entG b79 rs79 9 fun _ => f79_ok
noncomputable def b80 := bdy Tryz.f80
noncomputable def rs80 := Tryz.f80.results.toList
noncomputable def f80_2K : Ex → K α := (nxK (R Pq o c n (cB (cB b80)) (kend Pq o c n w rs80 k)) (kend Pq o c n w rs80 k))
noncomputable def f80_1 {α : Type} (o : α) (c : Call' α) (n : Nat) (k : AV → Heap → α) (s0 : AV) (h : Heap) : α :=
  geqF Pq o 21 s0 (.i .i32 97) fun v1 => bkF o true v1 (leqF Pq o 21 s0 (.i .i32 122) fun v2 => pickF o v1 v2 (.b false) fun v3 => k v3 h) (pickF o v1 (.tup []) (.b false) fun v4 => k v4 h)
theorem f80_1_ok : R Pq o c n (cB b80) (kend Pq o c n w rs80 k) = fun t _ h => f80_1 o c n k (t 0) h := (kseq rfl (r_start 3 (by kernel_rfl) (q_guard 3 5 (2, true) (by kernel_rfl) (by kernel_rfl) (by kernel_rfl) rfl))).tk
noncomputable def f80 (a0 : AV) (h : Heap) : α :=
  f80_1 o c n k a0 h
theorem f80_ok : R Pq o c n b80 (kend Pq o c n w rs80 k) = fun t _ h => f80 o c n k (t 0) h := (kseq (f80_1_ok o c n k w) rfl).tk
theorem f80_good : Good Pq (cfg mm) 80 (entF Pq (cfg mm) 80 1 fun α => f80) := entG b80 rs80 9 fun _ => f80_ok
noncomputable def b88 := bdy Tryz.f88
noncomputable def rs88 := Tryz.f88.results.toList
noncomputable def f88_3K : Ex → K α := (nxK (R Pq o c n (cB (cB (cB b88))) (kend Pq o c n w rs88 k)) (kend Pq o c n w rs88 k))
noncomputable def f88_6K (lp0 : AVs (Heap → α) 4) : Ex → K α := (nxK (fun t _ h => lp0 (t 1) (t 14) (t 15) (t 16) h) (blockK (cI (cB (cA (cB (cB b88))))) (f88_3K o c n k w)))
noncomputable def f88_9K (lp0 : AVs (Heap → α) 4) : Ex → K α := (nxK (R Pq o c n (cB (cB (cB (cA (cA (cB (cA (cB (cB b88))))))))) (f88_6K o c n k w lp0)) (f88_6K o c n k w lp0))
noncomputable def f88_14 {α : Type} (o : α) (c : Call' α) (n : Nat) (k : AV → Heap → α) (lp0 : AVs (Heap → α) 4) (m : Nat) : AVs (Heap → α) 7 :=
  Nat.rec (motive := fun _ => AVs (Heap → α) 7) (fun _ _ _ _ _ _ _ _ => o) (fun _ lp1 s1 s14 s15 s16 s37 s38 s39 h => lssF Pq o 3 s39 s38 fun v1 => ifF o v1 (ixF o 6 s37 s39 fun v2 => loadNF o h 6 v2 fun v3 => newF h h.next 6 [(.b false), (.b false), (.s 0 0), (.s 0 0), .nsl, .nsl] fun v4 h => storeF o h 6 v4 v3 fun h => loadNF o h 6 v4 fun v5 => c 127 [(.ifc 78 v5)] h fun v6 h => pk k v6 h <| notF o v6 fun v7 => ifF o v7 (k (.b false) h) (addF Pq o 3 s39 (.i .i64 1) fun v8 => lp1 s1 s14 s15 s16 s37 s38 v8 h)) (addF Pq o 3 s16 (.i .i64 1) fun v9 => lp0 s1 s14 s15 v9 h)) m
theorem f88_14_ok (lp0 : AVs (Heap → α) 4) : R Pq o c n (cA (cB (cB (cB (cB (cA (cA (cB (cB (cA (cA (cB (cA (cB (cB b88))))))))))))))) (blockK (cI (cB (cB (cB (cB (cA (cA (cB (cB (cA (cA (cB (cA (cB (cB b88))))))))))))))) (blockK (cI (cA (cB (cB (cA (cA (cB (cA (cB (cB b88)))))))))) (f88_9K o c n k w lp0))) = fun t _ h => f88_14 o c n k lp0 n (t 1) (t 14) (t 15) (t 16) (t 37) (t 38) (t 39) h :=
  c_loop (F := fun m t _ h => f88_14 o c n k lp0 m (t 1) (t 14) (t 15) (t 16) (t 37) (t 38) (t 39) h) (by kernel_rfl) (by kernel_rfl) fun m => by kernel_rfl
noncomputable def f88_13 (lp0 : AVs (Heap → α) 4) (s1 s14 s15 s16 s37 s38 s39 : AV) (h : Heap) : α :=
  f88_14 o c n k lp0 n s1 s14 s15 s16 s37 s38 s39 h
theorem f88_13_ok (lp0 : AVs (Heap → α) 4) : R Pq o c n (cB (cB (cB (cB (cA (cA (cB (cB (cA (cA (cB (cA (cB (cB b88)))))))))))))) (blockK (cI (cA (cB (cB (cA (cA (cB (cA (cB (cB b88)))))))))) (f88_9K o c n k w lp0)) = fun t _ h => f88_13 o c n k lp0 (t 1) (t 14) (t 15) (t 16) (t 37) (t 38) (t 39) h := (kblk (f88_14_ok o c n k w lp0)).tk
noncomputable def f88_12 (lp0 : AVs (Heap → α) 4) (s1 s4 s14 s15 s16 : AV) (h : Heap) : α :=
  faF o 3 s4 fun v10 => load1F o h v10 fun v11 => lenF o v11 fun v12 => f88_13 o c n k lp0 s1 s14 s15 s16 v11 v12 (.i .i64 0) h
theorem f88_12_ok (lp0 : AVs (Heap → α) 4) : R Pq o c n (cB (cB (cB (cA (cA (cB (cB (cA (cA (cB (cA (cB (cB b88))))))))))))) (blockK (cI (cA (cB (cB (cA (cA (cB (cA (cB (cB b88)))))))))) (f88_9K o c n k w lp0)) = fun t _ h => f88_12 o c n k lp0 (t 1) (t 4) (t 14) (t 15) (t 16) h := (kseq (f88_13_ok o c n k w lp0) rfl).tk
noncomputable def f88_15K (lp0 : AVs (Heap → α) 4) : Ex → K α := (nxK (fun t _ h => f88_12 o c n k lp0 (t 1) (t 4) (t 14) (t 15) (t 16) h) (blockK (cI (cA (cB (cB (cA (cA (cB (cA (cB (cB b88)))))))))) (f88_9K o c n k w lp0)))
noncomputable def f88_17 (lp0 : AVs (Heap → α) 4) (m : Nat) : AVs (Heap → α) 8 :=
  Nat.rec (motive := fun _ => AVs (Heap → α) 8) (fun _ _ _ _ _ _ _ _ _ => o) (fun _ lp1 s1 s4 s14 s15 s16 s25 s26 s27 h => lssF Pq o 3 s27 s26 fun v13 => ifF o v13 (ixF o 4 s25 s27 fun v14 => loadNF o h 4 v14 fun v15 => newF h h.next 4 [(.b false), (.s 0 0), (.s 0 0), .nsl] fun v16 h => storeF o h 4 v16 v15 fun h => loadNF o h 4 v16 fun v17 => c 127 [(.ifc 68 v17)] h fun v18 h => pk k v18 h <| notF o v18 fun v19 => ifF o v19 (k (.b false) h) (addF Pq o 3 s27 (.i .i64 1) fun v20 => lp1 s1 s4 s14 s15 s16 s25 s26 v20 h)) (f88_12 o c n k lp0 s1 s4 s14 s15 s16 h)) m
theorem f88_17_ok (lp0 : AVs (Heap → α) 4) : R Pq o c n (cA (cB (cA (cB (cB (cA (cA (cB (cB (cA (cA (cB (cA (cB (cB b88))))))))))))))) (blockK (cI (cB (cA (cB (cB (cA (cA (cB (cB (cA (cA (cB (cA (cB (cB b88))))))))))))))) (f88_15K o c n k w lp0)) = fun t _ h => f88_17 o c n k lp0 n (t 1) (t 4) (t 14) (t 15) (t 16) (t 25) (t 26) (t 27) h :=
  c_loop (F := fun m t _ h => f88_17 o c n k lp0 m (t 1) (t 4) (t 14) (t 15) (t 16) (t 25) (t 26) (t 27) h) (by kernel_rfl) (by kernel_rfl) fun m => by kernel_rfl
noncomputable def f88_16 (lp0 : AVs (Heap → α) 4) (s1 s4 s14 s15 s16 s25 s26 s27 : AV) (h : Heap) : α :=
  f88_17 o c n k lp0 n s1 s4 s14 s15 s16 s25 s26 s27 h
theorem f88_16_ok (lp0 : AVs (Heap → α) 4) : R Pq o c n (cB (cA (cB (cB (cA (cA (cB (cB (cA (cA (cB (cA (cB (cB b88)))))))))))))) (f88_15K o c n k w lp0) = fun t _ h => f88_16 o c n k lp0 (t 1) (t 4) (t 14) (t 15) (t 16) (t 25) (t 26) (t 27) h := (kblk (f88_17_ok o c n k w lp0)).tk
noncomputable def f88_11 (lp0 : AVs (Heap → α) 4) (s1 s4 s14 s15 s16 : AV) (h : Heap) : α :=
  faF o 2 s4 fun v21 => load1F o h v21 fun v22 => lenF o v22 fun v23 => f88_16 o c n k lp0 s1 s4 s14 s15 s16 v22 v23 (.i .i64 0) h
theorem f88_11_ok (lp0 : AVs (Heap → α) 4) : R Pq o c n (cB (cB (cA (cA (cB (cB (cA (cA (cB (cA (cB (cB b88)))))))))))) (blockK (cI (cA (cB (cB (cA (cA (cB (cA (cB (cB b88)))))))))) (f88_9K o c n k w lp0)) = fun t _ h => f88_11 o c n k lp0 (t 1) (t 4) (t 14) (t 15) (t 16) h := (kseq (f88_12_ok o c n k w lp0) (kseq (f88_16_ok o c n k w lp0) rfl)).tk
noncomputable def f88_10 (lp0 : AVs (Heap → α) 4) (s1 s4 s14 s15 s16 : AV) (h : Heap) : α :=
  loadNF o h 4 s4 fun v24 => c 127 [(.ifc 51 v24)] h fun v25 h => pk k v25 h <| notF o v25 fun v26 => ifF o v26 (k (.b false) h) (f88_11 o c n k lp0 s1 s4 s14 s15 s16 h)
theorem f88_10_ok (lp0 : AVs (Heap → α) 4) : R Pq o c n (cB (cA (cA (cB (cB (cA (cA (cB (cA (cB (cB b88))))))))))) (blockK (cI (cA (cB (cB (cA (cA (cB (cA (cB (cB b88)))))))))) (f88_9K o c n k w lp0)) = fun t _ h => f88_10 o c n k lp0 (t 1) (t 4) (t 14) (t 15) (t 16) h := (kseq (f88_11_ok o c n k w lp0) rfl).tk
noncomputable def f88_8 (lp0 : AVs (Heap → α) 4) (s1 s14 s15 s16 : AV) (h : Heap) : α :=
  ixF o 4 s14 s16 fun v27 => loadNF o h 4 v27 fun v28 => newF h h.next 4 [(.s 0 0), (.s 0 0), .nsl, .nsl] fun v29 h => storeF o h 4 v29 v28 fun h => f88_10 o c n k lp0 s1 v29 s14 s15 s16 h
theorem f88_8_ok (lp0 : AVs (Heap → α) 4) : R Pq o c n (cB (cB (cA (cA (cB (cA (cB (cB b88)))))))) (f88_6K o c n k w lp0) = fun t _ h => f88_8 o c n k lp0 (t 1) (t 14) (t 15) (t 16) h := (kseq rfl (kblk (kseq (f88_10_ok o c n k w lp0) rfl))).tk
noncomputable def f88_7 (lp0 : AVs (Heap → α) 4) (s1 s14 s15 s16 s17 : AV) (h : Heap) : α :=
  ifF o s17 (f88_8 o c n k lp0 s1 s14 s15 s16 h) (loadNF o h 1 s1 fun v30 => c 128 [v30] h fun v31 h => pk k v31 h <| leqF Pq o 3 v31 (.i .i64 3000) fun v32 => k v32 h)
theorem f88_7_ok (lp0 : AVs (Heap → α) 4) : R Pq o c n (cB (cA (cA (cB (cA (cB (cB b88))))))) (f88_6K o c n k w lp0) = fun t _ h => f88_7 o c n k lp0 (t 1) (t 14) (t 15) (t 16) (t 17) h := (kseq (f88_8_ok o c n k w lp0) rfl).tk
noncomputable def f88_5 (m : Nat) : AVs (Heap → α) 4 :=
  Nat.rec (motive := fun _ => AVs (Heap → α) 4) (fun _ _ _ _ _ => o) (fun _ lp0 s1 s14 s15 s16 h => lssF Pq o 3 s16 s15 fun v33 => f88_7 o c n k lp0 s1 s14 s15 s16 v33 h) m
theorem f88_5_ok : R Pq o c n (cA (cB (cA (cB (cB b88))))) (blockK (cI (cB (cA (cB (cB b88))))) (f88_3K o c n k w)) = fun t _ h => f88_5 o c n k n (t 1) (t 14) (t 15) (t 16) h :=
  c_loop (F := fun m t _ h => f88_5 o c n k m (t 1) (t 14) (t 15) (t 16) h) (by kernel_rfl) (by kernel_rfl) fun m => (kseq (f88_7_ok o c n k w (f88_5 o c n k m)) rfl).tk
noncomputable def f88_4 (s1 s14 s15 s16 : AV) (h : Heap) : α :=
  f88_5 o c n k n s1 s14 s15 s16 h
theorem f88_4_ok : R Pq o c n (cB (cA (cB (cB b88)))) (f88_3K o c n k w) = fun t _ h => f88_4 o c n k (t 1) (t 14) (t 15) (t 16) h := (kblk (f88_5_ok o c n k w)).tk
noncomputable def f88_2 (s1 : AV) (h : Heap) : α :=
  faF o 0 s1 fun v34 => load1F o h v34 fun v35 => lenF o v35 fun v36 => f88_4 o c n k s1 v35 v36 (.i .i64 0) h
theorem f88_2_ok : R Pq o c n (cB (cB b88)) (kend Pq o c n w rs88 k) = fun t _ h => f88_2 o c n k (t 1) h := (kseq rfl (kseq (f88_4_ok o c n k w) rfl)).tk
noncomputable def f88_1 (s1 : AV) (h : Heap) : α :=
  faF o 0 s1 fun v37 => load1F o h v37 fun v38 => lenF o v38 fun v39 => gtrF Pq o 3 v39 (.i .i64 20) fun v40 => ifF o v40 (k (.b false) h) (f88_2 o c n k s1 h)
theorem f88_1_ok : R Pq o c n (cB b88) (kend Pq o c n w rs88 k) = fun t _ h => f88_1 o c n k (t 1) h := (kseq (f88_2_ok o c n k w) rfl).tk
noncomputable def f88 (a0 : AV) (h : Heap) : α :=
  boxF o a0 h h.next fun v41 h => f88_1 o c n k v41 h
theorem f88_ok : R Pq o c n b88 (kend Pq o c n w rs88 k) = fun t _ h => f88 o c n k (t 0) h := (kseq (f88_1_ok o c n k w) rfl).tk
theorem f88_good : Good Pq (cfg mm) 88 (entF Pq (cfg mm) 88 1 fun α => f88) := entG b88 rs88 52 fun _ => f88_ok
noncomputable def b90 := bdy Tryz.f90
noncomputable def rs90 := Tryz.f90.results.toList
noncomputable def f90 {α : Type} (o : α) (c : Call' α) (n : Nat) (k : AV → Heap → α) (a0 : AV) (h : Heap) : α :=
  boxF o a0 h h.next fun v1 h => loadNF o h 1 v1 fun v2 => c 129 [v2, (.fn (.func 130) [] [v1])] h fun v3 h => pk k v3 h <| assertA Pq o v3 162 true fun v4 => exF o v4 0 fun v5 => exF o v4 1 fun v6 => newF h h.next 2 [(.i .i64 0), (.i .i64 0)] fun v7 h => storeF o h 2 v7 v5 fun h => ifF o v6 (dreg o h 6 fun base h => faF o 0 v7 fun v8 => rootF o v8 v7 <| load1F o (h.look 1) v8 fun v9 => faF o 1 v7 fun v10 => rootF o v10 v7 <| load1F o (h.look 4) v10 fun v11 => hb h.shut fun h => k (.tup [v9, v11]) h) (loadNF o h 1 v1 fun v12 => c 129 [v12, (.fn (.func 133) [] [v1])] h fun v13 h => pk k v13 h <| assertA Pq o v13 162 true fun v14 => exF o v14 0 fun v15 => exF o v14 1 fun v16 => newF h h.next 2 [(.i .i64 0), (.i .i64 0)] fun v17 h => storeF o h 2 v17 v15 fun h => ifF o v16 (dreg o h 6 fun base h => faF o 0 v17 fun v18 => rootF o v18 v17 <| load1F o (h.look 1) v18 fun v19 => faF o 1 v17 fun v20 => rootF o v20 v17 <| load1F o (h.look 4) v20 fun v21 => hb h.shut fun h => k (.tup [v19, v21]) h) (k (.tup [(.i .i64 0), (.i .i64 0)]) h))
theorem f90_ok : R Pq o c n b90 (kend Pq o c n w rs90 k) = fun t _ h => f90 o c n k (t 0) h := by kernel_rfl
theorem f90_good : Good Pq (cfg mm) 90 (entF Pq (cfg mm) 90 1 fun α => f90) := entG b90 rs90 32 fun _ => f90_ok
noncomputable def b91 := bdy Tryz.f91
noncomputable def rs91 := Tryz.f91.results.toList
noncomputable def f91_3K : Ex → K α := (nxK (R Pq o c n (cB (cB (cB b91))) (kend Pq o c n w rs91 k)) (kend Pq o c n w rs91 k))
noncomputable def f91_6K (lp0 : AVs (Heap → α) 4) : Ex → K α := (nxK (fun t _ h => lp0 (t 1) (t 14) (t 15) (t 16) h) (blockK (cI (cB (cA (cB (cB b91))))) (f91_3K o c n k w)))
noncomputable def f91_9K (lp0 : AVs (Heap → α) 4) : Ex → K α := (nxK (R Pq o c n (cB (cB (cB (cA (cA (cB (cA (cB (cB b91))))))))) (f91_6K o c n k w lp0)) (f91_6K o c n k w lp0))
noncomputable def f91_13 {α : Type} (o : α) (c : Call' α) (n : Nat) (k : AV → Heap → α) (lp0 : AVs (Heap → α) 4) (m : Nat) : AVs (Heap → α) 8 :=
  Nat.rec (motive := fun _ => AVs (Heap → α) 8) (fun _ _ _ _ _ _ _ _ _ => o) (fun _ lp1 s1 s4 s14 s15 s16 s40 s41 s42 h => lssF Pq o 3 s42 s41 fun v1 => ifF o v1 (ixF o 4 s40 s42 fun v2 => loadNF o h 4 v2 fun v3 => newF h h.next 4 [(.b false), (.s 0 0), (.s 0 0), .nsl] fun v4 h => storeF o h 4 v4 v3 fun h => loadNF o h 1 s1 fun v5 => faF o 1 v4 fun v6 => load1F o h v6 fun v7 => c 139 [v5, v7] h fun v8 h => pk k v8 h <| notF o v8 fun v9 => ifF o v9 (k (.tup [(.i .i64 7), s4]) h) (addF Pq o 3 s42 (.i .i64 1) fun v10 => lp1 s1 s4 s14 s15 s16 s40 s41 v10 h)) (addF Pq o 3 s16 (.i .i64 1) fun v11 => lp0 s1 s14 s15 v11 h)) m
theorem f91_13_ok (lp0 : AVs (Heap → α) 4) : R Pq o c n (cA (cB (cB (cB (cA (cA (cB (cB (cA (cA (cB (cA (cB (cB b91)))))))))))))) (blockK (cI (cB (cB (cB (cA (cA (cB (cB (cA (cA (cB (cA (cB (cB b91)))))))))))))) (blockK (cI (cA (cB (cB (cA (cA (cB (cA (cB (cB b91)))))))))) (f91_9K o c n k w lp0))) = fun t _ h => f91_13 o c n k lp0 n (t 1) (t 4) (t 14) (t 15) (t 16) (t 40) (t 41) (t 42) h :=
  c_loop (F := fun m t _ h => f91_13 o c n k lp0 m (t 1) (t 4) (t 14) (t 15) (t 16) (t 40) (t 41) (t 42) h) (by kernel_rfl) (by kernel_rfl) fun m => by kernel_rfl
noncomputable def f91_12 (lp0 : AVs (Heap → α) 4) (s1 s4 s14 s15 s16 s40 s41 s42 : AV) (h : Heap) : α :=
  f91_13 o c n k lp0 n s1 s4 s14 s15 s16 s40 s41 s42 h
theorem f91_12_ok (lp0 : AVs (Heap → α) 4) : R Pq o c n (cB (cB (cB (cA (cA (cB (cB (cA (cA (cB (cA (cB (cB b91))))))))))))) (blockK (cI (cA (cB (cB (cA (cA (cB (cA (cB (cB b91)))))))))) (f91_9K o c n k w lp0)) = fun t _ h => f91_12 o c n k lp0 (t 1) (t 4) (t 14) (t 15) (t 16) (t 40) (t 41) (t 42) h := (kblk (f91_13_ok o c n k w lp0)).tk
noncomputable def f91_11 (lp0 : AVs (Heap → α) 4) (s1 s4 s5 s14 s15 s16 : AV) (h : Heap) : α :=
  faF o 2 s5 fun v12 => load1F o h v12 fun v13 => lenF o v13 fun v14 => f91_12 o c n k lp0 s1 s4 s14 s15 s16 v13 v14 (.i .i64 0) h
theorem f91_11_ok (lp0 : AVs (Heap → α) 4) : R Pq o c n (cB (cB (cA (cA (cB (cB (cA (cA (cB (cA (cB (cB b91)))))))))))) (blockK (cI (cA (cB (cB (cA (cA (cB (cA (cB (cB b91)))))))))) (f91_9K o c n k w lp0)) = fun t _ h => f91_11 o c n k lp0 (t 1) (t 4) (t 5) (t 14) (t 15) (t 16) h := (kseq (f91_12_ok o c n k w lp0) rfl).tk
noncomputable def f91_14K (lp0 : AVs (Heap → α) 4) : Ex → K α := (nxK (fun t _ h => f91_11 o c n k lp0 (t 1) (t 4) (t 5) (t 14) (t 15) (t 16) h) (blockK (cI (cA (cB (cB (cA (cA (cB (cA (cB (cB b91)))))))))) (f91_9K o c n k w lp0)))
noncomputable def f91_16 (lp0 : AVs (Heap → α) 4) (m : Nat) : AVs (Heap → α) 9 :=
  Nat.rec (motive := fun _ => AVs (Heap → α) 9) (fun _ _ _ _ _ _ _ _ _ _ => o) (fun _ lp1 s1 s4 s5 s14 s15 s16 s22 s23 s24 h => lssF Pq o 3 s24 s23 fun v15 => ifF o v15 (ixF o 4 s22 s24 fun v16 => loadNF o h 4 v16 fun v17 => newF h h.next 4 [(.b false), (.s 0 0), (.s 0 0), .nsl] fun v18 h => storeF o h 4 v18 v17 fun h => loadNF o h 1 s1 fun v19 => faF o 0 s5 fun v20 => load1F o h v20 fun v21 => faF o 2 v18 fun v22 => load1F o h v22 fun v23 => c 138 [v19, v21, v23] h fun v24 h => pk k v24 h <| lssF Pq o 3 v24 s24 fun v25 => ifF o v25 (k (.tup [(.i .i64 6), s4]) h) (addF Pq o 3 s24 (.i .i64 1) fun v26 => lp1 s1 s4 s5 s14 s15 s16 s22 s23 v26 h)) (f91_11 o c n k lp0 s1 s4 s5 s14 s15 s16 h)) m
theorem f91_16_ok (lp0 : AVs (Heap → α) 4) : R Pq o c n (cA (cB (cA (cB (cA (cA (cB (cB (cA (cA (cB (cA (cB (cB b91)))))))))))))) (blockK (cI (cB (cA (cB (cA (cA (cB (cB (cA (cA (cB (cA (cB (cB b91)))))))))))))) (f91_14K o c n k w lp0)) = fun t _ h => f91_16 o c n k lp0 n (t 1) (t 4) (t 5) (t 14) (t 15) (t 16) (t 22) (t 23) (t 24) h :=
  c_loop (F := fun m t _ h => f91_16 o c n k lp0 m (t 1) (t 4) (t 5) (t 14) (t 15) (t 16) (t 22) (t 23) (t 24) h) (by kernel_rfl) (by kernel_rfl) fun m => by kernel_rfl
noncomputable def f91_15 (lp0 : AVs (Heap → α) 4) (s1 s4 s5 s14 s15 s16 s22 s23 s24 : AV) (h : Heap) : α :=
  f91_16 o c n k lp0 n s1 s4 s5 s14 s15 s16 s22 s23 s24 h
theorem f91_15_ok (lp0 : AVs (Heap → α) 4) : R Pq o c n (cB (cA (cB (cA (cA (cB (cB (cA (cA (cB (cA (cB (cB b91))))))))))))) (f91_14K o c n k w lp0) = fun t _ h => f91_15 o c n k lp0 (t 1) (t 4) (t 5) (t 14) (t 15) (t 16) (t 22) (t 23) (t 24) h := (kblk (f91_16_ok o c n k w lp0)).tk
noncomputable def f91_10 (lp0 : AVs (Heap → α) 4) (s1 s4 s5 s14 s15 s16 : AV) (h : Heap) : α :=
  faF o 2 s5 fun v27 => load1F o h v27 fun v28 => lenF o v28 fun v29 => f91_15 o c n k lp0 s1 s4 s5 s14 s15 s16 v28 v29 (.i .i64 0) h
theorem f91_10_ok (lp0 : AVs (Heap → α) 4) : R Pq o c n (cB (cA (cA (cB (cB (cA (cA (cB (cA (cB (cB b91))))))))))) (blockK (cI (cA (cB (cB (cA (cA (cB (cA (cB (cB b91)))))))))) (f91_9K o c n k w lp0)) = fun t _ h => f91_10 o c n k lp0 (t 1) (t 4) (t 5) (t 14) (t 15) (t 16) h := (kseq (f91_11_ok o c n k w lp0) (kseq (f91_15_ok o c n k w lp0) rfl)).tk
noncomputable def f91_8 (lp0 : AVs (Heap → α) 4) (s1 s14 s15 s16 : AV) (h : Heap) : α :=
  ixF o 4 s14 s16 fun v30 => loadNF o h 4 v30 fun v31 => newF h h.next 4 [(.s 0 0), (.s 0 0), .nsl, .nsl] fun v32 h => storeF o h 4 v32 v31 fun h => f91_10 o c n k lp0 s1 s16 v32 s14 s15 s16 h
theorem f91_8_ok (lp0 : AVs (Heap → α) 4) : R Pq o c n (cB (cB (cA (cA (cB (cA (cB (cB b91)))))))) (f91_6K o c n k w lp0) = fun t _ h => f91_8 o c n k lp0 (t 1) (t 14) (t 15) (t 16) h := (kseq rfl (kblk (kseq (f91_10_ok o c n k w lp0) rfl))).tk
noncomputable def f91_7 (lp0 : AVs (Heap → α) 4) (s1 s14 s15 s16 s17 : AV) (h : Heap) : α :=
  ifF o s17 (f91_8 o c n k lp0 s1 s14 s15 s16 h) (k (.tup [(.i .i64 0), (.i .i64 0)]) h)
theorem f91_7_ok (lp0 : AVs (Heap → α) 4) : R Pq o c n (cB (cA (cA (cB (cA (cB (cB b91))))))) (f91_6K o c n k w lp0) = fun t _ h => f91_7 o c n k lp0 (t 1) (t 14) (t 15) (t 16) (t 17) h := (kseq (f91_8_ok o c n k w lp0) rfl).tk
noncomputable def f91_5 (m : Nat) : AVs (Heap → α) 4 :=
  Nat.rec (motive := fun _ => AVs (Heap → α) 4) (fun _ _ _ _ _ => o) (fun _ lp0 s1 s14 s15 s16 h => lssF Pq o 3 s16 s15 fun v33 => f91_7 o c n k lp0 s1 s14 s15 s16 v33 h) m
theorem f91_5_ok : R Pq o c n (cA (cB (cA (cB (cB b91))))) (blockK (cI (cB (cA (cB (cB b91))))) (f91_3K o c n k w)) = fun t _ h => f91_5 o c n k n (t 1) (t 14) (t 15) (t 16) h :=
  c_loop (F := fun m t _ h => f91_5 o c n k m (t 1) (t 14) (t 15) (t 16) h) (by kernel_rfl) (by kernel_rfl) fun m => (kseq (f91_7_ok o c n k w (f91_5 o c n k m)) rfl).tk
noncomputable def f91_4 (s1 s14 s15 s16 : AV) (h : Heap) : α :=
  f91_5 o c n k n s1 s14 s15 s16 h
theorem f91_4_ok : R Pq o c n (cB (cA (cB (cB b91)))) (f91_3K o c n k w) = fun t _ h => f91_4 o c n k (t 1) (t 14) (t 15) (t 16) h := (kblk (f91_5_ok o c n k w)).tk
noncomputable def f91_2 (s1 : AV) (h : Heap) : α :=
  faF o 0 s1 fun v34 => load1F o h v34 fun v35 => lenF o v35 fun v36 => f91_4 o c n k s1 v35 v36 (.i .i64 0) h
theorem f91_2_ok : R Pq o c n (cB (cB b91)) (kend Pq o c n w rs91 k) = fun t _ h => f91_2 o c n k (t 1) h := (kseq rfl (kseq (f91_4_ok o c n k w) rfl)).tk
noncomputable def f91_1 (s1 : AV) (h : Heap) : α :=
  loadNF o h 1 s1 fun v37 => c 137 [v37] h fun v38 h => pk k v38 h <| notF o v38 fun v39 => ifF o v39 (k (.tup [(.i .i64 1), (.i .i64 0)]) h) (f91_2 o c n k s1 h)
theorem f91_1_ok : R Pq o c n (cB b91) (kend Pq o c n w rs91 k) = fun t _ h => f91_1 o c n k (t 1) h := (kseq (f91_2_ok o c n k w) rfl).tk
noncomputable def f91 (a0 : AV) (h : Heap) : α :=
  boxF o a0 h h.next fun v40 h => f91_1 o c n k v40 h
theorem f91_ok : R Pq o c n b91 (kend Pq o c n w rs91 k) = fun t _ h => f91 o c n k (t 0) h := (kseq (f91_1_ok o c n k w) rfl).tk
theorem f91_good : Good Pq (cfg mm) 91 (entF Pq (cfg mm) 91 1 fun α => f91) := entG b91 rs91 54 fun _ => f91_ok
noncomputable def b93 := bdy Tryz.f93
noncomputable def rs93 := Tryz.f93.results.toList
noncomputable def f93 {α : Type} (o : α) (c : Call' α) (n : Nat) (k : AV → Heap → α) (a0 : AV) (h : Heap) : α :=
  eqiF Pq o 48 a0 .nsl fun v1 => ifF o v1 (k .nsl h) (newEF h h.next 4 0 [] fun v2 h => appX Pq o h h.next 48 48 v2 a0 fun v3 h => k v3 h)
theorem f93_ok : R Pq o c n b93 (kend Pq o c n w rs93 k) = fun t _ h => f93 o c n k (t 0) h := by kernel_rfl
theorem f93_good : Good Pq (cfg mm) 93 (entF Pq (cfg mm) 93 1 fun α => f93) := entG b93 rs93 8 fun _ => f93_ok
noncomputable def b94 := bdy Tryz.f94
noncomputable def rs94 := Tryz.f94.results.toList
noncomputable def f94 {α : Type} (o : α) (c : Call' α) (n : Nat) (k : AV → Heap → α) (a0 : AV) (h : Heap) : α :=
  eqiF Pq o 49 a0 .nsl fun v1 => ifF o v1 (k .nsl h) (newEF h h.next 6 0 [] fun v2 h => appX Pq o h h.next 49 49 v2 a0 fun v3 h => k v3 h)
theorem f94_ok : R Pq o c n b94 (kend Pq o c n w rs94 k) = fun t _ h => f94 o c n k (t 0) h := by kernel_rfl
theorem f94_good : Good Pq (cfg mm) 94 (entF Pq (cfg mm) 94 1 fun α => f94) := entG b94 rs94 8 fun _ => f94_ok
noncomputable def b106 := bdy Tryz.f106
noncomputable def rs106 := Tryz.f106.results.toList
noncomputable def f106_2K : Ex → K α := (nxK (R Pq o c n (cB (cB b106)) (kend Pq o c n w rs106 k)) (kend Pq o c n w rs106 k))
noncomputable def f106_4 {α : Type} (o : α) (c : Call' α) (n : Nat) (k : AV → Heap → α) (m : Nat) : AVs (Heap → α) 4 :=
  Nat.rec (motive := fun _ => AVs (Heap → α) 4) (fun _ _ _ _ _ => o) (fun _ lp0 s0 s1 s7 s8 h => lssF Pq o 3 s8 s7 fun v1 => ifF o v1 (ixF o 1 s0 s8 fun v2 => load1F o h v2 fun v3 => eqsF Pq o 9 s1 v3 fun v4 => ifF o v4 (k s8 h) (addF Pq o 3 s8 (.i .i64 1) fun v5 => lp0 s0 s1 s7 v5 h)) (k (.i .i64 (-1)) h)) m
theorem f106_4_ok : R Pq o c n (cA (cB (cA (cB b106)))) (blockK (cI (cB (cA (cB b106)))) (f106_2K o c n k w)) = fun t _ h => f106_4 o c n k n (t 0) (t 1) (t 7) (t 8) h :=
  c_loop (F := fun m t _ h => f106_4 o c n k m (t 0) (t 1) (t 7) (t 8) h) (by kernel_rfl) (by kernel_rfl) fun m => by kernel_rfl
noncomputable def f106_3 (s0 s1 s7 s8 : AV) (h : Heap) : α :=
  f106_4 o c n k n s0 s1 s7 s8 h
theorem f106_3_ok : R Pq o c n (cB (cA (cB b106))) (f106_2K o c n k w) = fun t _ h => f106_3 o c n k (t 0) (t 1) (t 7) (t 8) h := (kblk (f106_4_ok o c n k w)).tk
noncomputable def f106_1 (s0 s1 : AV) (h : Heap) : α :=
  lenF o s0 fun v6 => f106_3 o c n k s0 s1 v6 (.i .i64 0) h
theorem f106_1_ok : R Pq o c n (cB b106) (kend Pq o c n w rs106 k) = fun t _ h => f106_1 o c n k (t 0) (t 1) h := (kseq rfl (kseq (f106_3_ok o c n k w) rfl)).tk
noncomputable def f106 (a0 a1 : AV) (h : Heap) : α :=
  f106_1 o c n k a0 a1 h
theorem f106_ok : R Pq o c n b106 (kend Pq o c n w rs106 k) = fun t _ h => f106 o c n k (t 0) (t 1) h := (kseq (f106_1_ok o c n k w) rfl).tk
theorem f106_good : Good Pq (cfg mm) 106 (entF Pq (cfg mm) 106 2 fun α => f106) := entG b106 rs106 19 fun _ => f106_ok
noncomputable def b107 := bdy Tryz.f107
noncomputable def rs107 := Tryz.f107.results.toList
noncomputable def f107_3K : Ex → K α := (nxK (R Pq o c n (cB (cB (cB b107))) (kend Pq o c n w rs107 k)) (kend Pq o c n w rs107 k))
noncomputable def f107_6K (lp0 : AVs (Heap → α) 5) : Ex → K α := (nxK (fun t _ h => lp0 (t 1) (t 5) (t 8) (t 9) (t 10) h) (blockK (cI (cB (cA (cB (cB b107))))) (f107_3K o c n k w)))
noncomputable def f107_9K (lp0 : AVs (Heap → α) 5) : Ex → K α := (nxK (R Pq o c n (cB (cB (cB (cA (cA (cB (cA (cB (cB b107))))))))) (f107_6K o c n k w lp0)) (f107_6K o c n k w lp0))
noncomputable def f107_12 {α : Type} (o : α) (c : Call' α) (n : Nat) (k : AV → Heap → α) (lp0 : AVs (Heap → α) 5) (s1 s5 s7 s8 s9 s10 : AV) (h : Heap) : α :=
  loadNF o h 8 s7 fun v1 => fil1 o 8 1 0 v1 [[(.i .i64 0), (.i .i32 0), (.s 0 0), (.s 0 0), (.s 0 0), .nsl, (.s 0 0), (.i .i64 0)]] fun v2 => newEF h h.next 8 1 v2 fun v3 h => appX Pq o h h.next 66 66 s5 v3 fun v4 h => addF Pq o 3 s10 (.i .i64 1) fun v5 => lp0 s1 v4 s8 s9 v5 h
theorem f107_12_ok (lp0 : AVs (Heap → α) 5) : R Pq o c n (cB (cB (cB (cA (cA (cB (cB (cA (cA (cB (cA (cB (cB b107))))))))))))) (blockK (cI (cA (cB (cB (cA (cA (cB (cA (cB (cB b107)))))))))) (f107_9K o c n k w lp0)) = fun t _ h => f107_12 o c n k lp0 (t 1) (t 5) (t 7) (t 8) (t 9) (t 10) h := by kernel_rfl
noncomputable def f107_11 (lp0 : AVs (Heap → α) 5) (s1 s5 s7 s8 s9 s10 : AV) (h : Heap) : α :=
  neiF Pq o 109 s1 .nfn fun v6 => ifF o v6 (loadNF o h 8 s7 fun v7 => cfF o s1 [v7] c h fun v8 h => pk k v8 h <| storeF o h 8 s7 v8 fun h => f107_12 o c n k lp0 s1 s5 s7 s8 s9 s10 h) (f107_12 o c n k lp0 s1 s5 s7 s8 s9 s10 h)
theorem f107_11_ok (lp0 : AVs (Heap → α) 5) : R Pq o c n (cB (cB (cA (cA (cB (cB (cA (cA (cB (cA (cB (cB b107)))))))))))) (blockK (cI (cA (cB (cB (cA (cA (cB (cA (cB (cB b107)))))))))) (f107_9K o c n k w lp0)) = fun t _ h => f107_11 o c n k lp0 (t 1) (t 5) (t 7) (t 8) (t 9) (t 10) h := (kseq (f107_12_ok o c n k w lp0) rfl).tk
noncomputable def f107_10 (lp0 : AVs (Heap → α) 5) (s1 s5 s7 s8 s9 s10 : AV) (h : Heap) : α :=
  faF o 5 s7 fun v9 => load1F o h v9 fun v10 => c 107 [v10, s1] h fun v11 h => pk k v11 h <| faF o 5 s7 fun v12 => storeF o h 1 v12 v11 fun h => f107_11 o c n k lp0 s1 s5 s7 s8 s9 s10 h
theorem f107_10_ok (lp0 : AVs (Heap → α) 5) : R Pq o c n (cB (cA (cA (cB (cB (cA (cA (cB (cA (cB (cB b107))))))))))) (blockK (cI (cA (cB (cB (cA (cA (cB (cA (cB (cB b107)))))))))) (f107_9K o c n k w lp0)) = fun t _ h => f107_10 o c n k lp0 (t 1) (t 5) (t 7) (t 8) (t 9) (t 10) h := (kseq (f107_11_ok o c n k w lp0) rfl).tk
noncomputable def f107_8 (lp0 : AVs (Heap → α) 5) (s1 s5 s8 s9 s10 : AV) (h : Heap) : α :=
  ixF o 8 s8 s10 fun v13 => loadNF o h 8 v13 fun v14 => newF h h.next 8 [(.i .i64 0), (.i .i32 0), (.s 0 0), (.s 0 0), (.s 0 0), .nsl, (.s 0 0), (.i .i64 0)] fun v15 h => storeF o h 8 v15 v14 fun h => f107_10 o c n k lp0 s1 s5 v15 s8 s9 s10 h
theorem f107_8_ok (lp0 : AVs (Heap → α) 5) : R Pq o c n (cB (cB (cA (cA (cB (cA (cB (cB b107)))))))) (f107_6K o c n k w lp0) = fun t _ h => f107_8 o c n k lp0 (t 1) (t 5) (t 8) (t 9) (t 10) h := (kseq rfl (kblk (kseq (f107_10_ok o c n k w lp0) rfl))).tk
noncomputable def f107_7 (lp0 : AVs (Heap → α) 5) (s1 s5 s8 s9 s10 s11 : AV) (h : Heap) : α :=
  ifF o s11 (f107_8 o c n k lp0 s1 s5 s8 s9 s10 h) (k s5 h)
theorem f107_7_ok (lp0 : AVs (Heap → α) 5) : R Pq o c n (cB (cA (cA (cB (cA (cB (cB b107))))))) (f107_6K o c n k w lp0) = fun t _ h => f107_7 o c n k lp0 (t 1) (t 5) (t 8) (t 9) (t 10) (t 11) h := (kseq (f107_8_ok o c n k w lp0) rfl).tk
noncomputable def f107_5 (m : Nat) : AVs (Heap → α) 5 :=
  Nat.rec (motive := fun _ => AVs (Heap → α) 5) (fun _ _ _ _ _ _ => o) (fun _ lp0 s1 s5 s8 s9 s10 h => lssF Pq o 3 s10 s9 fun v16 => f107_7 o c n k lp0 s1 s5 s8 s9 s10 v16 h) m
theorem f107_5_ok : R Pq o c n (cA (cB (cA (cB (cB b107))))) (blockK (cI (cB (cA (cB (cB b107))))) (f107_3K o c n k w)) = fun t _ h => f107_5 o c n k n (t 1) (t 5) (t 8) (t 9) (t 10) h :=
  c_loop (F := fun m t _ h => f107_5 o c n k m (t 1) (t 5) (t 8) (t 9) (t 10) h) (by kernel_rfl) (by kernel_rfl) fun m => (kseq (f107_7_ok o c n k w (f107_5 o c n k m)) rfl).tk
noncomputable def f107_4 (s1 s5 s8 s9 s10 : AV) (h : Heap) : α :=
  f107_5 o c n k n s1 s5 s8 s9 s10 h
theorem f107_4_ok : R Pq o c n (cB (cA (cB (cB b107)))) (f107_3K o c n k w) = fun t _ h => f107_4 o c n k (t 1) (t 5) (t 8) (t 9) (t 10) h := (kblk (f107_5_ok o c n k w)).tk
noncomputable def f107_2 (s0 s1 s5 : AV) (h : Heap) : α :=
  lenF o s0 fun v17 => f107_4 o c n k s1 s5 s0 v17 (.i .i64 0) h
theorem f107_2_ok : R Pq o c n (cB (cB b107)) (kend Pq o c n w rs107 k) = fun t _ h => f107_2 o c n k (t 0) (t 1) (t 5) h := (kseq rfl (kseq (f107_4_ok o c n k w) rfl)).tk
noncomputable def f107_1 (s0 s1 : AV) (h : Heap) : α :=
  f107_2 o c n k s0 s1 .nsl h
theorem f107_1_ok : R Pq o c n (cB b107) (kend Pq o c n w rs107 k) = fun t _ h => f107_1 o c n k (t 0) (t 1) h := (kseq (f107_2_ok o c n k w) rfl).tk
noncomputable def f107 (a0 a1 : AV) (h : Heap) : α :=
  f107_1 o c n k a0 a1 h
theorem f107_ok : R Pq o c n b107 (kend Pq o c n w rs107 k) = fun t _ h => f107 o c n k (t 0) (t 1) h := (kseq (f107_1_ok o c n k w) rfl).tk
theorem f107_good : Good Pq (cfg mm) 107 (entF Pq (cfg mm) 107 2 fun α => f107) := entG b107 rs107 30 fun _ => f107_ok
noncomputable def b108 := bdy Tryz.f108
noncomputable def rs108 := Tryz.f108.results.toList
noncomputable def f108 {α : Type} (o : α) (c : Call' α) (n : Nat) (k : AV → Heap → α) (a0 : AV) (h : Heap) : α :=
  eqiF Pq o 75 a0 .nsl fun v1 => ifF o v1 (k .nsl h) (newEF h h.next 2 0 [] fun v2 h => appX Pq o h h.next 75 75 v2 a0 fun v3 h => k v3 h)
theorem f108_ok : R Pq o c n b108 (kend Pq o c n w rs108 k) = fun t _ h => f108 o c n k (t 0) h := by kernel_rfl
theorem f108_good : Good Pq (cfg mm) 108 (entF Pq (cfg mm) 108 1 fun α => f108) := entG b108 rs108 8 fun _ => f108_ok
noncomputable def b109 := bdy Tryz.f109
noncomputable def rs109 := Tryz.f109.results.toList
noncomputable def f109_3K : Ex → K α := (nxK (R Pq o c n (cB (cB (cB b109))) (kend Pq o c n w rs109 k)) (kend Pq o c n w rs109 k))
noncomputable def f109_6K (lp0 : AVs (Heap → α) 6) : Ex → K α := (nxK (fun t _ h => lp0 (t 1) (t 2) (t 7) (t 10) (t 11) (t 12) h) (blockK (cI (cB (cA (cB (cB b109))))) (f109_3K o c n k w)))
noncomputable def f109_9K (lp0 : AVs (Heap → α) 6) : Ex → K α := (nxK (R Pq o c n (cB (cB (cB (cA (cA (cB (cA (cB (cB b109))))))))) (f109_6K o c n k w lp0)) (f109_6K o c n k w lp0))
noncomputable def f109_13 {α : Type} (o : α) (c : Call' α) (n : Nat) (k : AV → Heap → α) (lp0 : AVs (Heap → α) 6) (s1 s2 s7 s9 s10 s11 s12 : AV) (h : Heap) : α :=
  loadNF o h 9 s9 fun v1 => fil1 o 9 1 0 v1 [[(.i .i64 0), (.i .i32 0), (.s 0 0), (.s 0 0), .nsl, .nsl, .nsl, .nsl, (.i .i64 0)]] fun v2 => newEF h h.next 9 1 v2 fun v3 h => appX Pq o h h.next 76 76 s7 v3 fun v4 h => addF Pq o 3 s12 (.i .i64 1) fun v5 => lp0 s1 s2 v4 s10 s11 v5 h
theorem f109_13_ok (lp0 : AVs (Heap → α) 6) : R Pq o c n (cB (cB (cB (cB (cA (cA (cB (cB (cA (cA (cB (cA (cB (cB b109)))))))))))))) (blockK (cI (cA (cB (cB (cA (cA (cB (cA (cB (cB b109)))))))))) (f109_9K o c n k w lp0)) = fun t _ h => f109_13 o c n k lp0 (t 1) (t 2) (t 7) (t 9) (t 10) (t 11) (t 12) h := by kernel_rfl
noncomputable def f109_12 (lp0 : AVs (Heap → α) 6) (s1 s2 s7 s9 s10 s11 s12 : AV) (h : Heap) : α :=
  neiF Pq o 112 s2 .nfn fun v6 => ifF o v6 (loadNF o h 9 s9 fun v7 => cfF o s2 [v7] c h fun v8 h => pk k v8 h <| storeF o h 9 s9 v8 fun h => f109_13 o c n k lp0 s1 s2 s7 s9 s10 s11 s12 h) (f109_13 o c n k lp0 s1 s2 s7 s9 s10 s11 s12 h)
theorem f109_12_ok (lp0 : AVs (Heap → α) 6) : R Pq o c n (cB (cB (cB (cA (cA (cB (cB (cA (cA (cB (cA (cB (cB b109))))))))))))) (blockK (cI (cA (cB (cB (cA (cA (cB (cA (cB (cB b109)))))))))) (f109_9K o c n k w lp0)) = fun t _ h => f109_12 o c n k lp0 (t 1) (t 2) (t 7) (t 9) (t 10) (t 11) (t 12) h := (kseq (f109_13_ok o c n k w lp0) rfl).tk
noncomputable def f109_14K (lp0 : AVs (Heap → α) 6) : Ex → K α := (nxK (fun t _ h => f109_12 o c n k lp0 (t 1) (t 2) (t 7) (t 9) (t 10) (t 11) (t 12) h) (blockK (cI (cA (cB (cB (cA (cA (cB (cA (cB (cB b109)))))))))) (f109_9K o c n k w lp0)))
noncomputable def f109_17 (lp0 : AVs (Heap → α) 6) (base : Nat) (s1 s2 s7 s9 s10 s11 s12 s25 s30 s35 : AV) (h : Heap) : α :=
  faF o 5 s9 fun v9 => rootF o v9 s9 <| storeF o (h.look 65535) 1 v9 s25 fun h => faF o 6 s9 fun v10 => rootF o v10 s9 <| storeF o (h.look 262143) 1 v10 s30 fun h => faF o 7 s9 fun v11 => rootF o v11 s9 <| storeF o (h.look 1048575) 1 v11 s35 fun h => hb h.shut fun h => f109_12 o c n k lp0 s1 s2 s7 s9 s10 s11 s12 h
theorem f109_17_ok (lp0 : AVs (Heap → α) 6) (base : Nat) : QD Pq o c (cO (cA (cB (cB (cA (cA (cB (cB (cA (cA (cB (cA (cB (cB b109)))))))))))))) base ((f109_14K o c n k w lp0)) 15 = fun t _ h => f109_17 o c n k lp0 base (t 1) (t 2) (t 7) (t 9) (t 10) (t 11) (t 12) (t 25) (t 30) (t 35) h := by kernel_rfl
noncomputable def f109_16 (lp0 : AVs (Heap → α) 6) (base : Nat) (s1 s2 s7 s9 s10 s11 s12 s25 s30 : AV) (h : Heap) : α :=
  faF o 7 s9 fun v12 => rootF o v12 s9 <| load1F o (h.look 1024) v12 fun v13 => callD o c [] 109 [v13, s1, s2] (h.look 0) fun v14 h => pnF v14 (fun x => hb h.shut fun hd => faF o 5 s9 fun v15 => k x.pn hd) <| f109_17 o c n k lp0 base s1 s2 s7 s9 s10 s11 s12 s25 s30 v14 h
theorem f109_16_ok (lp0 : AVs (Heap → α) 6) (base : Nat) : QD Pq o c (cO (cA (cB (cB (cA (cA (cB (cB (cA (cA (cB (cA (cB (cB b109)))))))))))))) base ((f109_14K o c n k w lp0)) 10 = fun t _ h => f109_16 o c n k lp0 base (t 1) (t 2) (t 7) (t 9) (t 10) (t 11) (t 12) (t 25) (t 30) h := (qd_seg 10 15 (by kernel_rfl) (f109_17_ok o c n k w lp0 base)).tk
noncomputable def f109_15 (lp0 : AVs (Heap → α) 6) (base : Nat) (s1 s2 s7 s9 s10 s11 s12 s25 : AV) (h : Heap) : α :=
  faF o 6 s9 fun v16 => rootF o v16 s9 <| load1F o (h.look 32) v16 fun v17 => callD o c (hidD false [(.fn (.func 109) [] []), v17, s1, s2] [] (sBlk s9 [])) 109 [v17, s1, s2] (h.look 0) fun v18 h => pnF v18 (fun x => hb h.shut fun hd => faF o 7 s9 fun v19 => rootF o v19 s9 <| load1F o (h.look 1024) v19 fun v20 => faF o 5 s9 fun v21 => k x.pn hd) <| f109_16 o c n k lp0 base s1 s2 s7 s9 s10 s11 s12 s25 v18 h
theorem f109_15_ok (lp0 : AVs (Heap → α) 6) (base : Nat) : QD Pq o c (cO (cA (cB (cB (cA (cA (cB (cB (cA (cA (cB (cA (cB (cB b109)))))))))))))) base ((f109_14K o c n k w lp0)) 5 = fun t _ h => f109_15 o c n k lp0 base (t 1) (t 2) (t 7) (t 9) (t 10) (t 11) (t 12) (t 25) h := (qd_seg 5 10 (by kernel_rfl) (f109_16_ok o c n k w lp0 base)).tk
noncomputable def f109_11 (lp0 : AVs (Heap → α) 6) (s1 s2 s7 s9 s10 s11 s12 : AV) (h : Heap) : α :=
  dreg o h 21 fun base h => faF o 5 s9 fun v22 => rootF o v22 s9 <| load1F o (h.look 1) v22 fun v23 => callD o c (hidD false [(.fn (.func 109) [] []), v23, s1, s2] [] (sBlk s9 (sBlk s9 []))) 109 [v23, s1, s2] (h.look 0) fun v24 h => pnF v24 (fun x => hb h.shut fun hd => faF o 6 s9 fun v25 => rootF o v25 s9 <| load1F o (h.look 32) v25 fun v26 => faF o 7 s9 fun v27 => rootF o v27 s9 <| load1F o (h.look 1024) v27 fun v28 => k x.pn hd) <| f109_15 o c n k lp0 base s1 s2 s7 s9 s10 s11 s12 v24 h
theorem f109_11_ok (lp0 : AVs (Heap → α) 6) : R Pq o c n (cB (cB (cA (cA (cB (cB (cA (cA (cB (cA (cB (cB b109)))))))))))) (blockK (cI (cA (cB (cB (cA (cA (cB (cA (cB (cB b109)))))))))) (f109_9K o c n k w lp0)) = fun t _ h => f109_11 o c n k lp0 (t 1) (t 2) (t 7) (t 9) (t 10) (t 11) (t 12) h := (kseq (f109_12_ok o c n k w lp0) (r_startD 5 (by kernel_rfl) (by kernel_rfl) (X := fun base => fun t _ h => f109_15 o c n k lp0 base (t 1) (t 2) (t 7) (t 9) (t 10) (t 11) (t 12) (t 25) h) (fun base => f109_15_ok o c n k w lp0 base))).tk
noncomputable def f109_10 (lp0 : AVs (Heap → α) 6) (s1 s2 s7 s9 s10 s11 s12 : AV) (h : Heap) : α :=
  faF o 4 s9 fun v29 => load1F o h v29 fun v30 => c 107 [v30, s1] h fun v31 h => pk k v31 h <| faF o 4 s9 fun v32 => storeF o h 1 v32 v31 fun h => f109_11 o c n k lp0 s1 s2 s7 s9 s10 s11 s12 h
theorem f109_10_ok (lp0 : AVs (Heap → α) 6) : R Pq o c n (cB (cA (cA (cB (cB (cA (cA (cB (cA (cB (cB b109))))))))))) (blockK (cI (cA (cB (cB (cA (cA (cB (cA (cB (cB b109)))))))))) (f109_9K o c n k w lp0)) = fun t _ h => f109_10 o c n k lp0 (t 1) (t 2) (t 7) (t 9) (t 10) (t 11) (t 12) h := (kseq (f109_11_ok o c n k w lp0) rfl).tk
noncomputable def f109_8 (lp0 : AVs (Heap → α) 6) (s1 s2 s7 s10 s11 s12 : AV) (h : Heap) : α :=
  ixF o 9 s10 s12 fun v33 => loadNF o h 9 v33 fun v34 => newF h h.next 9 [(.i .i64 0), (.i .i32 0), (.s 0 0), (.s 0 0), .nsl, .nsl, .nsl, .nsl, (.i .i64 0)] fun v35 h => storeF o h 9 v35 v34 fun h => f109_10 o c n k lp0 s1 s2 s7 v35 s10 s11 s12 h
theorem f109_8_ok (lp0 : AVs (Heap → α) 6) : R Pq o c n (cB (cB (cA (cA (cB (cA (cB (cB b109)))))))) (f109_6K o c n k w lp0) = fun t _ h => f109_8 o c n k lp0 (t 1) (t 2) (t 7) (t 10) (t 11) (t 12) h := (kseq rfl (kblk (kseq (f109_10_ok o c n k w lp0) rfl))).tk
noncomputable def f109_7 (lp0 : AVs (Heap → α) 6) (s1 s2 s7 s10 s11 s12 s13 : AV) (h : Heap) : α :=
  ifF o s13 (f109_8 o c n k lp0 s1 s2 s7 s10 s11 s12 h) (k s7 h)
theorem f109_7_ok (lp0 : AVs (Heap → α) 6) : R Pq o c n (cB (cA (cA (cB (cA (cB (cB b109))))))) (f109_6K o c n k w lp0) = fun t _ h => f109_7 o c n k lp0 (t 1) (t 2) (t 7) (t 10) (t 11) (t 12) (t 13) h := (kseq (f109_8_ok o c n k w lp0) rfl).tk
noncomputable def f109_5 (m : Nat) : AVs (Heap → α) 6 :=
  Nat.rec (motive := fun _ => AVs (Heap → α) 6) (fun _ _ _ _ _ _ _ => o) (fun _ lp0 s1 s2 s7 s10 s11 s12 h => lssF Pq o 3 s12 s11 fun v36 => f109_7 o c n k lp0 s1 s2 s7 s10 s11 s12 v36 h) m
theorem f109_5_ok : R Pq o c n (cA (cB (cA (cB (cB b109))))) (blockK (cI (cB (cA (cB (cB b109))))) (f109_3K o c n k w)) = fun t _ h => f109_5 o c n k n (t 1) (t 2) (t 7) (t 10) (t 11) (t 12) h :=
  c_loop (F := fun m t _ h => f109_5 o c n k m (t 1) (t 2) (t 7) (t 10) (t 11) (t 12) h) (by kernel_rfl) (by kernel_rfl) fun m => (kseq (f109_7_ok o c n k w (f109_5 o c n k m)) rfl).tk
noncomputable def f109_4 (s1 s2 s7 s10 s11 s12 : AV) (h : Heap) : α :=
  f109_5 o c n k n s1 s2 s7 s10 s11 s12 h
theorem f109_4_ok : R Pq o c n (cB (cA (cB (cB b109)))) (f109_3K o c n k w) = fun t _ h => f109_4 o c n k (t 1) (t 2) (t 7) (t 10) (t 11) (t 12) h := (kblk (f109_5_ok o c n k w)).tk
noncomputable def f109_2 (s0 s1 s2 s7 : AV) (h : Heap) : α :=
  lenF o s0 fun v37 => f109_4 o c n k s1 s2 s7 s0 v37 (.i .i64 0) h
theorem f109_2_ok : R Pq o c n (cB (cB b109)) (kend Pq o c n w rs109 k) = fun t _ h => f109_2 o c n k (t 0) (t 1) (t 2) (t 7) h := (kseq rfl (kseq (f109_4_ok o c n k w) rfl)).tk
noncomputable def f109_1 (s0 s1 s2 : AV) (h : Heap) : α :=
  f109_2 o c n k s0 s1 s2 .nsl h
theorem f109_1_ok : R Pq o c n (cB b109) (kend Pq o c n w rs109 k) = fun t _ h => f109_1 o c n k (t 0) (t 1) (t 2) h := (kseq (f109_2_ok o c n k w) rfl).tk
noncomputable def f109 (a0 a1 a2 : AV) (h : Heap) : α :=
  f109_1 o c n k a0 a1 a2 h
theorem f109_ok : R Pq o c n b109 (kend Pq o c n w rs109 k) = fun t _ h => f109 o c n k (t 0) (t 1) (t 2) h := (kseq (f109_1_ok o c n k w) rfl).tk
theorem f109_good : Good Pq (cfg mm) 109 (entF Pq (cfg mm) 109 3 fun α => f109) := entG b109 rs109 50 fun _ => f109_ok
noncomputable def b127 := bdy Tryz.f127
noncomputable def rs127 := Tryz.f127.results.toList
noncomputable def f127_5K : Ex → K α := (nxK (R Pq o c n (cB (cB (cB (cB (cB b127))))) (kend Pq o c n w rs127 k)) (kend Pq o c n w rs127 k))
noncomputable def f127_10 {α : Type} (o : α) (c : Call' α) (n : Nat) (k : AV → Heap → α) (s7 s46 s50 : AV) (h : Heap) : α :=
  pickF o s46 s50 (.b false) fun v1 => bkF o true v1 (faF o 3 s7 fun v2 => load1F o h v2 fun v3 => lenF o v3 fun v4 => leqF Pq o 3 v4 (.i .i64 30) fun v5 => pickF o v1 v5 (.b false) fun v6 => k v6 h) (pickF o v1 (.tup []) (.b false) fun v7 => k v7 h)
theorem f127_10_ok : Q Pq o c (cO (cA (cB (cB (cB (cB b127)))))) (f127_5K o c n k w) 21 = fun t _ h => f127_10 o c n k (t 7) (t 46) (t 50) h := (q_seg 21 23 (by kernel_rfl) (q_guard 23 27 (22, true) (by kernel_rfl) (by kernel_rfl) (by kernel_rfl) rfl)).tk
noncomputable def f127_9 (s7 s36 s44 : AV) (h : Heap) : α :=
  pickF o s36 s44 (.b false) fun v8 => bkF o true v8 (faF o 2 s7 fun v9 => load1F o h v9 fun v10 => lenF o v10 fun v11 => leqF Pq o 3 v11 (.i .i64 30) fun v12 => f127_10 o c n k s7 v8 v12 h) (f127_10 o c n k s7 v8 (.tup []) h)
theorem f127_9_ok : Q Pq o c (cO (cA (cB (cB (cB (cB b127)))))) (f127_5K o c n k w) 15 = fun t _ h => f127_9 o c n k (t 7) (t 36) (t 44) h := (q_seg 15 17 (by kernel_rfl) (q_guard 17 21 (16, true) (by kernel_rfl) (by kernel_rfl) (by kernel_rfl) (f127_10_ok o c n k w))).tk
noncomputable def f127_8 (s7 s36 s40 s43 : AV) (h : Heap) : α :=
  bkF o true s36 (pickF o s40 (.b true) s43 fun v13 => f127_9 o c n k s7 s36 v13 h) (f127_9 o c n k s7 s36 (.tup []) h)
theorem f127_8_ok : Q Pq o c (cO (cA (cB (cB (cB (cB b127)))))) (f127_5K o c n k w) 14 = fun t _ h => f127_8 o c n k (t 7) (t 36) (t 40) (t 43) h := (q_seg 14 14 (by kernel_rfl) (q_guard 14 15 (6, true) (by kernel_rfl) (by kernel_rfl) (by kernel_rfl) (f127_9_ok o c n k w))).tk
noncomputable def f127_7 (s7 s36 s40 : AV) (h : Heap) : α :=
  bkF o false s40 (faF o 1 s7 fun v14 => load1F o h v14 fun v15 => c 177 [v15] h fun v16 h => pk k v16 h <| f127_8 o c n k s7 s36 s40 v16 h) (f127_8 o c n k s7 s36 s40 (.tup []) h)
theorem f127_7_ok : Q Pq o c (cO (cA (cB (cB (cB (cB b127)))))) (f127_5K o c n k w) 11 = fun t _ h => f127_7 o c n k (t 7) (t 36) (t 40) h := (q_seg 11 11 (by kernel_rfl) (q_guard 11 14 (10, false) (by kernel_rfl) (by kernel_rfl) (by kernel_rfl) (f127_8_ok o c n k w))).tk
noncomputable def f127_6 (s7 s31 s34 : AV) (h : Heap) : α :=
  pickF o s31 s34 (.b false) fun v17 => bkF o true v17 (faF o 1 s7 fun v18 => load1F o h v18 fun v19 => eqsF Pq o 9 v19 (.s 0 0) fun v20 => f127_7 o c n k s7 v17 v20 h) (f127_7 o c n k s7 v17 (.tup []) h)
theorem f127_6_ok : Q Pq o c (cO (cA (cB (cB (cB (cB b127)))))) (f127_5K o c n k w) 5 = fun t _ h => f127_6 o c n k (t 7) (t 31) (t 34) h := (q_seg 5 7 (by kernel_rfl) (q_guard 7 11 (6, true) (by kernel_rfl) (by kernel_rfl) (by kernel_rfl) (f127_7_ok o c n k w))).tk
noncomputable def f127_4 (s7 s8 : AV) (h : Heap) : α :=
  bkF o true s8 (faF o 0 s7 fun v21 => load1F o h v21 fun v22 => c 177 [v22] h fun v23 h => pk k v23 h <| f127_6 o c n k s7 s8 v23 h) (f127_6 o c n k s7 s8 (.tup []) h)
theorem f127_4_ok : R Pq o c n (cB (cB (cB (cB b127)))) (kend Pq o c n w rs127 k) = fun t _ h => f127_4 o c n k (t 7) (t 8) h := (kseq rfl (r_start 2 (by kernel_rfl) (q_guard 2 5 (1, true) (by kernel_rfl) (by kernel_rfl) (by kernel_rfl) (f127_6_ok o c n k w)))).tk
noncomputable def f127_3 (s0 : AV) (h : Heap) : α :=
  assertA Pq o s0 51 true fun v24 => exF o v24 0 fun v25 => exF o v24 1 fun v26 => newF h h.next 4 [(.s 0 0), (.s 0 0), .nsl, .nsl] fun v27 h => storeF o h 4 v27 v25 fun h => f127_4 o c n k v27 v26 h
theorem f127_3_ok : R Pq o c n (cB (cB (cB b127))) (kend Pq o c n w rs127 k) = fun t _ h => f127_3 o c n k (t 0) h := (kseq (f127_4_ok o c n k w) rfl).tk
noncomputable def f127_2 (s0 : AV) (h : Heap) : α :=
  assertA Pq o s0 78 true fun v28 => exF o v28 0 fun v29 => exF o v28 1 fun v30 => newF h h.next 6 [(.b false), (.b false), (.s 0 0), (.s 0 0), .nsl, .nsl] fun v31 h => storeF o h 6 v31 v29 fun h => ifF o v30 (loadNF o h 6 v31 fun v32 => c 176 [v32] h fun v33 h => pk k v33 h <| k v33 h) (f127_3 o c n k s0 h)
theorem f127_2_ok : R Pq o c n (cB (cB b127)) (kend Pq o c n w rs127 k) = fun t _ h => f127_2 o c n k (t 0) h := (kseq (f127_3_ok o c n k w) rfl).tk
noncomputable def f127_1 (s0 : AV) (h : Heap) : α :=
  assertA Pq o s0 68 true fun v34 => exF o v34 0 fun v35 => exF o v34 1 fun v36 => newF h h.next 4 [(.b false), (.s 0 0), (.s 0 0), .nsl] fun v37 h => storeF o h 4 v37 v35 fun h => ifF o v36 (loadNF o h 4 v37 fun v38 => c 175 [v38] h fun v39 h => pk k v39 h <| k v39 h) (f127_2 o c n k s0 h)
theorem f127_1_ok : R Pq o c n (cB b127) (kend Pq o c n w rs127 k) = fun t _ h => f127_1 o c n k (t 0) h := (kseq (f127_2_ok o c n k w) rfl).tk
noncomputable def f127 (a0 : AV) (h : Heap) : α :=
  f127_1 o c n k a0 h
theorem f127_ok : R Pq o c n b127 (kend Pq o c n w rs127 k) = fun t _ h => f127 o c n k (t 0) h := (kseq (f127_1_ok o c n k w) rfl).tk
theorem f127_good : Good Pq (cfg mm) 127 (entF Pq (cfg mm) 127 1 fun α => f127) := entG b127 rs127 58 fun _ => f127_ok
noncomputable def b128 := bdy Tryz.f128
noncomputable def rs128 := Tryz.f128.results.toList
noncomputable def f128_3K : Ex → K α := (nxK (R Pq o c n (cB (cB (cB b128))) (kend Pq o c n w rs128 k)) (kend Pq o c n w rs128 k))
noncomputable def f128_6K (lp0 : AVs (Heap → α) 4) : Ex → K α := (nxK (fun t _ h => lp0 (t 3) (t 11) (t 12) (t 13) h) (blockK (cI (cB (cA (cB (cB b128))))) (f128_3K o c n k w)))
noncomputable def f128_9K (lp0 : AVs (Heap → α) 4) : Ex → K α := (nxK (R Pq o c n (cB (cB (cB (cA (cA (cB (cA (cB (cB b128))))))))) (f128_6K o c n k w lp0)) (f128_6K o c n k w lp0))
noncomputable def f128_14 {α : Type} (o : α) (c : Call' α) (n : Nat) (k : AV → Heap → α) (lp0 : AVs (Heap → α) 4) (m : Nat) : AVs (Heap → α) 7 :=
  Nat.rec (motive := fun _ => AVs (Heap → α) 7) (fun _ _ _ _ _ _ _ _ => o) (fun _ lp1 s3 s11 s12 s13 s34 s35 s36 h => lssF Pq o 3 s36 s35 fun v1 => ifF o v1 (ixF o 6 s34 s36 fun v2 => loadNF o h 6 v2 fun v3 => newF h h.next 6 [(.b false), (.b false), (.s 0 0), (.s 0 0), .nsl, .nsl] fun v4 h => storeF o h 6 v4 v3 fun h => addF Pq o 3 s3 (.i .i64 1) fun v5 => faF o 5 v4 fun v6 => load1F o h v6 fun v7 => c 179 [v7] h fun v8 h => pk k v8 h <| addF Pq o 3 v5 v8 fun v9 => addF Pq o 3 s36 (.i .i64 1) fun v10 => lp1 v9 s11 s12 s13 s34 s35 v10 h) (addF Pq o 3 s13 (.i .i64 1) fun v11 => lp0 s3 s11 s12 v11 h)) m
theorem f128_14_ok (lp0 : AVs (Heap → α) 4) : R Pq o c n (cA (cB (cB (cB (cB (cA (cA (cB (cB (cA (cA (cB (cA (cB (cB b128))))))))))))))) (blockK (cI (cB (cB (cB (cB (cA (cA (cB (cB (cA (cA (cB (cA (cB (cB b128))))))))))))))) (blockK (cI (cA (cB (cB (cA (cA (cB (cA (cB (cB b128)))))))))) (f128_9K o c n k w lp0))) = fun t _ h => f128_14 o c n k lp0 n (t 3) (t 11) (t 12) (t 13) (t 34) (t 35) (t 36) h :=
  c_loop (F := fun m t _ h => f128_14 o c n k lp0 m (t 3) (t 11) (t 12) (t 13) (t 34) (t 35) (t 36) h) (by kernel_rfl) (by kernel_rfl) fun m => by kernel_rfl
noncomputable def f128_13 (lp0 : AVs (Heap → α) 4) (s3 s11 s12 s13 s34 s35 s36 : AV) (h : Heap) : α :=
  f128_14 o c n k lp0 n s3 s11 s12 s13 s34 s35 s36 h
theorem f128_13_ok (lp0 : AVs (Heap → α) 4) : R Pq o c n (cB (cB (cB (cB (cA (cA (cB (cB (cA (cA (cB (cA (cB (cB b128)))))))))))))) (blockK (cI (cA (cB (cB (cA (cA (cB (cA (cB (cB b128)))))))))) (f128_9K o c n k w lp0)) = fun t _ h => f128_13 o c n k lp0 (t 3) (t 11) (t 12) (t 13) (t 34) (t 35) (t 36) h := (kblk (f128_14_ok o c n k w lp0)).tk
noncomputable def f128_12 (lp0 : AVs (Heap → α) 4) (s3 s5 s11 s12 s13 : AV) (h : Heap) : α :=
  faF o 3 s5 fun v12 => load1F o h v12 fun v13 => lenF o v13 fun v14 => f128_13 o c n k lp0 s3 s11 s12 s13 v13 v14 (.i .i64 0) h
theorem f128_12_ok (lp0 : AVs (Heap → α) 4) : R Pq o c n (cB (cB (cB (cA (cA (cB (cB (cA (cA (cB (cA (cB (cB b128))))))))))))) (blockK (cI (cA (cB (cB (cA (cA (cB (cA (cB (cB b128)))))))))) (f128_9K o c n k w lp0)) = fun t _ h => f128_12 o c n k lp0 (t 3) (t 5) (t 11) (t 12) (t 13) h := (kseq (f128_13_ok o c n k w lp0) rfl).tk
noncomputable def f128_15K (lp0 : AVs (Heap → α) 4) : Ex → K α := (nxK (fun t _ h => f128_12 o c n k lp0 (t 3) (t 5) (t 11) (t 12) (t 13) h) (blockK (cI (cA (cB (cB (cA (cA (cB (cA (cB (cB b128)))))))))) (f128_9K o c n k w lp0)))
noncomputable def f128_17 (lp0 : AVs (Heap → α) 4) (m : Nat) : AVs (Heap → α) 8 :=
  Nat.rec (motive := fun _ => AVs (Heap → α) 8) (fun _ _ _ _ _ _ _ _ _ => o) (fun _ lp1 s3 s5 s11 s12 s13 s20 s21 s22 h => lssF Pq o 3 s22 s21 fun v15 => ifF o v15 (ixF o 4 s20 s22 fun v16 => loadNF o h 4 v16 fun v17 => newF h h.next 4 [(.b false), (.s 0 0), (.s 0 0), .nsl] fun v18 h => storeF o h 4 v18 v17 fun h => addF Pq o 3 s3 (.i .i64 1) fun v19 => faF o 3 v18 fun v20 => load1F o h v20 fun v21 => c 178 [v21] h fun v22 h => pk k v22 h <| addF Pq o 3 v19 v22 fun v23 => addF Pq o 3 s22 (.i .i64 1) fun v24 => lp1 v23 s5 s11 s12 s13 s20 s21 v24 h) (f128_12 o c n k lp0 s3 s5 s11 s12 s13 h)) m
theorem f128_17_ok (lp0 : AVs (Heap → α) 4) : R Pq o c n (cA (cB (cA (cB (cB (cA (cA (cB (cB (cA (cA (cB (cA (cB (cB b128))))))))))))))) (blockK (cI (cB (cA (cB (cB (cA (cA (cB (cB (cA (cA (cB (cA (cB (cB b128))))))))))))))) (f128_15K o c n k w lp0)) = fun t _ h => f128_17 o c n k lp0 n (t 3) (t 5) (t 11) (t 12) (t 13) (t 20) (t 21) (t 22) h :=
  c_loop (F := fun m t _ h => f128_17 o c n k lp0 m (t 3) (t 5) (t 11) (t 12) (t 13) (t 20) (t 21) (t 22) h) (by kernel_rfl) (by kernel_rfl) fun m => by kernel_rfl
noncomputable def f128_16 (lp0 : AVs (Heap → α) 4) (s3 s5 s11 s12 s13 s20 s21 s22 : AV) (h : Heap) : α :=
  f128_17 o c n k lp0 n s3 s5 s11 s12 s13 s20 s21 s22 h
theorem f128_16_ok (lp0 : AVs (Heap → α) 4) : R Pq o c n (cB (cA (cB (cB (cA (cA (cB (cB (cA (cA (cB (cA (cB (cB b128)))))))))))))) (f128_15K o c n k w lp0) = fun t _ h => f128_16 o c n k lp0 (t 3) (t 5) (t 11) (t 12) (t 13) (t 20) (t 21) (t 22) h := (kblk (f128_17_ok o c n k w lp0)).tk
noncomputable def f128_11 (lp0 : AVs (Heap → α) 4) (s3 s5 s11 s12 s13 : AV) (h : Heap) : α :=
  faF o 2 s5 fun v25 => load1F o h v25 fun v26 => lenF o v26 fun v27 => f128_16 o c n k lp0 s3 s5 s11 s12 s13 v26 v27 (.i .i64 0) h
theorem f128_11_ok (lp0 : AVs (Heap → α) 4) : R Pq o c n (cB (cB (cA (cA (cB (cB (cA (cA (cB (cA (cB (cB b128)))))))))))) (blockK (cI (cA (cB (cB (cA (cA (cB (cA (cB (cB b128)))))))))) (f128_9K o c n k w lp0)) = fun t _ h => f128_11 o c n k lp0 (t 3) (t 5) (t 11) (t 12) (t 13) h := (kseq (f128_12_ok o c n k w lp0) (kseq (f128_16_ok o c n k w lp0) rfl)).tk
noncomputable def f128_10 (lp0 : AVs (Heap → α) 4) (s3 s5 s11 s12 s13 : AV) (h : Heap) : α :=
  addF Pq o 3 s3 (.i .i64 1) fun v28 => f128_11 o c n k lp0 v28 s5 s11 s12 s13 h
theorem f128_10_ok (lp0 : AVs (Heap → α) 4) : R Pq o c n (cB (cA (cA (cB (cB (cA (cA (cB (cA (cB (cB b128))))))))))) (blockK (cI (cA (cB (cB (cA (cA (cB (cA (cB (cB b128)))))))))) (f128_9K o c n k w lp0)) = fun t _ h => f128_10 o c n k lp0 (t 3) (t 5) (t 11) (t 12) (t 13) h := (kseq (f128_11_ok o c n k w lp0) rfl).tk
noncomputable def f128_8 (lp0 : AVs (Heap → α) 4) (s3 s11 s12 s13 : AV) (h : Heap) : α :=
  ixF o 4 s11 s13 fun v29 => loadNF o h 4 v29 fun v30 => newF h h.next 4 [(.s 0 0), (.s 0 0), .nsl, .nsl] fun v31 h => storeF o h 4 v31 v30 fun h => f128_10 o c n k lp0 s3 v31 s11 s12 s13 h
theorem f128_8_ok (lp0 : AVs (Heap → α) 4) : R Pq o c n (cB (cB (cA (cA (cB (cA (cB (cB b128)))))))) (f128_6K o c n k w lp0) = fun t _ h => f128_8 o c n k lp0 (t 3) (t 11) (t 12) (t 13) h := (kseq rfl (kblk (kseq (f128_10_ok o c n k w lp0) rfl))).tk
noncomputable def f128_7 (lp0 : AVs (Heap → α) 4) (s3 s11 s12 s13 s14 : AV) (h : Heap) : α :=
  ifF o s14 (f128_8 o c n k lp0 s3 s11 s12 s13 h) (k s3 h)
theorem f128_7_ok (lp0 : AVs (Heap → α) 4) : R Pq o c n (cB (cA (cA (cB (cA (cB (cB b128))))))) (f128_6K o c n k w lp0) = fun t _ h => f128_7 o c n k lp0 (t 3) (t 11) (t 12) (t 13) (t 14) h := (kseq (f128_8_ok o c n k w lp0) rfl).tk
noncomputable def f128_5 (m : Nat) : AVs (Heap → α) 4 :=
  Nat.rec (motive := fun _ => AVs (Heap → α) 4) (fun _ _ _ _ _ => o) (fun _ lp0 s3 s11 s12 s13 h => lssF Pq o 3 s13 s12 fun v32 => f128_7 o c n k lp0 s3 s11 s12 s13 v32 h) m
theorem f128_5_ok : R Pq o c n (cA (cB (cA (cB (cB b128))))) (blockK (cI (cB (cA (cB (cB b128))))) (f128_3K o c n k w)) = fun t _ h => f128_5 o c n k n (t 3) (t 11) (t 12) (t 13) h :=
  c_loop (F := fun m t _ h => f128_5 o c n k m (t 3) (t 11) (t 12) (t 13) h) (by kernel_rfl) (by kernel_rfl) fun m => (kseq (f128_7_ok o c n k w (f128_5 o c n k m)) rfl).tk
noncomputable def f128_4 (s3 s11 s12 s13 : AV) (h : Heap) : α :=
  f128_5 o c n k n s3 s11 s12 s13 h
theorem f128_4_ok : R Pq o c n (cB (cA (cB (cB b128)))) (f128_3K o c n k w) = fun t _ h => f128_4 o c n k (t 3) (t 11) (t 12) (t 13) h := (kblk (f128_5_ok o c n k w)).tk
noncomputable def f128_2 (s1 s3 : AV) (h : Heap) : α :=
  faF o 0 s1 fun v33 => load1F o h v33 fun v34 => lenF o v34 fun v35 => f128_4 o c n k s3 v34 v35 (.i .i64 0) h
theorem f128_2_ok : R Pq o c n (cB (cB b128)) (kend Pq o c n w rs128 k) = fun t _ h => f128_2 o c n k (t 1) (t 3) h := (kseq rfl (kseq (f128_4_ok o c n k w) rfl)).tk
noncomputable def f128_1 (s1 : AV) (h : Heap) : α :=
  f128_2 o c n k s1 (.i .i64 0) h
theorem f128_1_ok : R Pq o c n (cB b128) (kend Pq o c n w rs128 k) = fun t _ h => f128_1 o c n k (t 1) h := (kseq (f128_2_ok o c n k w) rfl).tk
noncomputable def f128 (a0 : AV) (h : Heap) : α :=
  boxF o a0 h h.next fun v36 h => f128_1 o c n k v36 h
theorem f128_ok : R Pq o c n b128 (kend Pq o c n w rs128 k) = fun t _ h => f128 o c n k (t 0) h := (kseq (f128_1_ok o c n k w) rfl).tk
theorem f128_good : Good Pq (cfg mm) 128 (entF Pq (cfg mm) 128 1 fun α => f128) := entG b128 rs128 49 fun _ => f128_ok
noncomputable def b129 := bdy Tryz.f129
noncomputable def rs129 := Tryz.f129.results.toList
noncomputable def f129_2K : Ex → K α := (nxK (R Pq o c n (cB (cB b129)) (kend Pq o c n w rs129 k)) (kend Pq o c n w rs129 k))
noncomputable def f129_4 {α : Type} (o : α) (c : Call' α) (n : Nat) (k : AV → Heap → α) (m : Nat) : AVs (Heap → α) 4 :=
  Nat.rec (motive := fun _ => AVs (Heap → α) 4) (fun _ _ _ _ _ => o) (fun _ lp0 s1 s9 s10 s11 h => lssF Pq o 3 s11 s10 fun v1 => ifF o v1 (ixF o 4 s9 s11 fun v2 => loadNF o h 4 v2 fun v3 => newF h h.next 4 [(.s 0 0), (.s 0 0), .nsl, .nsl] fun v4 h => storeF o h 4 v4 v3 fun h => loadNF o h 4 v4 fun v5 => cfF o s1 [s11, v5] c h fun v6 h => pk k v6 h <| neiF Pq o 3 v6 (.i .i64 0) fun v7 => ifF o v7 (layF o 0 v6 [(.i .i64 0), (.i .i64 0)] fun v8 => layF o 1 s11 v8 fun v9 => k (.ifc 162 (.agg v9)) h) (addF Pq o 3 s11 (.i .i64 1) fun v10 => lp0 s1 s9 s10 v10 h)) (k .nifc h)) m
theorem f129_4_ok : R Pq o c n (cA (cB (cA (cB b129)))) (blockK (cI (cB (cA (cB b129)))) (f129_2K o c n k w)) = fun t _ h => f129_4 o c n k n (t 1) (t 9) (t 10) (t 11) h :=
  c_loop (F := fun m t _ h => f129_4 o c n k m (t 1) (t 9) (t 10) (t 11) h) (by kernel_rfl) (by kernel_rfl) fun m => by kernel_rfl
noncomputable def f129_3 (s1 s9 s10 s11 : AV) (h : Heap) : α :=
  f129_4 o c n k n s1 s9 s10 s11 h
theorem f129_3_ok : R Pq o c n (cB (cA (cB b129))) (f129_2K o c n k w) = fun t _ h => f129_3 o c n k (t 1) (t 9) (t 10) (t 11) h := (kblk (f129_4_ok o c n k w)).tk
noncomputable def f129_1 (s1 s2 : AV) (h : Heap) : α :=
  faF o 0 s2 fun v11 => load1F o h v11 fun v12 => lenF o v12 fun v13 => f129_3 o c n k s1 v12 v13 (.i .i64 0) h
theorem f129_1_ok : R Pq o c n (cB b129) (kend Pq o c n w rs129 k) = fun t _ h => f129_1 o c n k (t 1) (t 2) h := (kseq rfl (kseq (f129_3_ok o c n k w) rfl)).tk
noncomputable def f129 (a0 a1 : AV) (h : Heap) : α :=
  boxF o a0 h h.next fun v14 h => f129_1 o c n k a1 v14 h
theorem f129_ok : R Pq o c n b129 (kend Pq o c n w rs129 k) = fun t _ h => f129 o c n k (t 0) (t 1) h := (kseq (f129_1_ok o c n k w) rfl).tk
theorem f129_good : Good Pq (cfg mm) 129 (entF Pq (cfg mm) 129 2 fun α => f129) := entG b129 rs129 27 fun _ => f129_ok
noncomputable def b130 := bdy Tryz.f130
noncomputable def rs130 := Tryz.f130.results.toList
noncomputable def f130_2K : Ex → K α := (nxK (R Pq o c n (cB (cB b130)) (kend Pq o c n w rs130 k)) (kend Pq o c n w rs130 k))
noncomputable def f130_3 {α : Type} (o : α) (c : Call' α) (n : Nat) (k : AV → Heap → α) (s16 : AV) (h : Heap) : α :=
  ifF o s16 (k (.i .i64 6) h) (k (.i .i64 0) h)
theorem f130_3_ok : R Pq o c n (cB (cA (cB b130))) (f130_2K o c n k w) = fun t _ h => f130_3 o c n k (t 16) h := by kernel_rfl
noncomputable def f130_4K : Ex → K α := (nxK (fun t _ h => f130_3 o c n k (t 16) h) (f130_2K o c n k w))
noncomputable def f130_1 (s0 s2 s4 : AV) (h : Heap) : α :=
  faF o 0 s4 fun v1 => load1F o h v1 fun v2 => c 131 [v2] h fun v3 h => pk k v3 h <| bkF o false v3 (loadNF o h 1 s2 fun v4 => faF o 0 s4 fun v5 => load1F o h v5 fun v6 => c 132 [v4, v6] h fun v7 h => pk k v7 h <| lssF Pq o 3 v7 s0 fun v8 => pickF o v3 (.b true) v8 fun v9 => f130_3 o c n k v9 h) (pickF o v3 (.b true) (.tup []) fun v10 => f130_3 o c n k v10 h)
theorem f130_1_ok : R Pq o c n (cB b130) (kend Pq o c n w rs130 k) = fun t _ h => f130_1 o c n k (t 0) (t 2) (t 4) h := (kseq rfl (kseq (f130_3_ok o c n k w) (r_start 4 (by kernel_rfl) (q_guard 4 10 (3, false) (by kernel_rfl) (by kernel_rfl) (by kernel_rfl) rfl)))).tk
noncomputable def f130 (a0 a1 a2 : AV) (h : Heap) : α :=
  boxF o a1 h h.next fun v11 h => f130_1 o c n k a0 a2 v11 h
theorem f130_ok : R Pq o c n b130 (kend Pq o c n w rs130 k) = fun t _ h => f130 o c n k (t 0) (t 1) (t 2) h := (kseq (f130_1_ok o c n k w) rfl).tk
theorem f130_good : Good Pq (cfg mm) 130 (entF Pq (cfg mm) 130 3 fun α => f130) := entG b130 rs130 17 fun _ => f130_ok
noncomputable def b131 := bdy Tryz.f131
noncomputable def rs131 := Tryz.f131.results.toList
noncomputable def f131 {α : Type} (o : α) (c : Call' α) (n : Nat) (k : AV → Heap → α) (a0 : AV) (h : Heap) : α :=
  fil1 o 1 5 0 (.s 9 2037169923944901474373) (lrep [(.s 0 0)] 5) fun v1 => fil1 o 1 5 1 (.s 9 2147637572233774003534) v1 fun v2 => fil1 o 1 5 2 (.s 9 2147637572233908674883) v2 fun v3 => fil1 o 1 5 3 (.s 9 2147637572233824724314) v3 fun v4 => fil1 o 1 5 4 (.s 10 549795218491815995793746) v4 fun v5 => newEF h h.next 1 5 v5 fun v6 h => c 53 [v6, a0] h fun v7 h => pk k v7 h <| k v7 h
theorem f131_ok : R Pq o c n b131 (kend Pq o c n w rs131 k) = fun t _ h => f131 o c n k (t 0) h := by kernel_rfl
theorem f131_good : Good Pq (cfg mm) 131 (entF Pq (cfg mm) 131 1 fun α => f131) := entG b131 rs131 6 fun _ => f131_ok
noncomputable def b132 := bdy Tryz.f132
noncomputable def rs132 := Tryz.f132.results.toList
noncomputable def f132 {α : Type} (o : α) (c : Call' α) (n : Nat) (k : AV → Heap → α) (a0 a1 : AV) (h : Heap) : α :=
  boxF o a0 h h.next fun v1 h => boxF o a1 h h.next fun v2 h => faF o 0 v1 fun v3 => load1F o h v3 fun v4 => c 180 [v4, (.fn (.func 181) [] [v2])] h fun v5 h => pk k v5 h <| k v5 h
theorem f132_ok : R Pq o c n b132 (kend Pq o c n w rs132 k) = fun t _ h => f132 o c n k (t 0) (t 1) h := by kernel_rfl
theorem f132_good : Good Pq (cfg mm) 132 (entF Pq (cfg mm) 132 2 fun α => f132) := entG b132 rs132 9 fun _ => f132_ok
noncomputable def b133 := bdy Tryz.f133
noncomputable def rs133 := Tryz.f133.results.toList
noncomputable def f133 {α : Type} (o : α) (c : Call' α) (n : Nat) (k : AV → Heap → α) (a0 a1 a2 : AV) (h : Heap) : α :=
  boxF o a1 h h.next fun v1 h => faF o 1 v1 fun v2 => load1F o h v2 fun v3 => eqsF Pq o 9 v3 (.s 0 0) fun v4 => ifF o v4 (k (.i .i64 0) h) (loadNF o h 1 a2 fun v5 => faF o 1 v1 fun v6 => load1F o h v6 fun v7 => c 134 [v5, v7] h fun v8 h => pk k v8 h <| notF o v8 fun v9 => ifF o v9 (k (.i .i64 7) h) (loadNF o h 1 a2 fun v10 => faF o 0 v1 fun v11 => load1F o h v11 fun v12 => c 135 [v10, v12] h fun v13 h => pk k v13 h <| dreg o h 9 fun base h => loadNF o (h.look 0) 1 a2 fun v14 => lenF o v13 fun v15 => binA Pq o .sub 3 v15 (.i .i64 1) fun v16 => ixF o 1 v13 v16 fun v17 => rootF o v17 v13 <| load1F o (h.look 62) v17 fun v18 => callD o c [] 136 [v14, v18] (h.look 0) fun v19 h => pnF v19 (fun x => hb h.shut fun hd => k x.pn hd) <| hb h.shut fun h => c 53 [v13, v19] h fun v20 h => pk k v20 h <| ifF o v20 (k (.i .i64 8) h) (k (.i .i64 0) h)))
theorem f133_ok : R Pq o c n b133 (kend Pq o c n w rs133 k) = fun t _ h => f133 o c n k (t 0) (t 1) (t 2) h := by kernel_rfl
theorem f133_good : Good Pq (cfg mm) 133 (entF Pq (cfg mm) 133 3 fun α => f133) := entG b133 rs133 31 fun _ => f133_ok
noncomputable def b134 := bdy Tryz.f134
noncomputable def rs134 := Tryz.f134.results.toList
noncomputable def f134_2K : Ex → K α := (nxK (R Pq o c n (cB (cB b134)) (kend Pq o c n w rs134 k)) (kend Pq o c n w rs134 k))
noncomputable def f134_1 {α : Type} (o : α) (c : Call' α) (n : Nat) (k : AV → Heap → α) (s1 s2 : AV) (h : Heap) : α :=
  c 131 [s1] h fun v1 h => pk k v1 h <| bkF o false v1 (loadNF o h 1 s2 fun v2 => c 132 [v2, s1] h fun v3 h => pk k v3 h <| geqF Pq o 3 v3 (.i .i64 0) fun v4 => pickF o v1 (.b true) v4 fun v5 => k v5 h) (pickF o v1 (.b true) (.tup []) fun v6 => k v6 h)
theorem f134_1_ok : R Pq o c n (cB b134) (kend Pq o c n w rs134 k) = fun t _ h => f134_1 o c n k (t 1) (t 2) h := (kseq rfl (r_start 3 (by kernel_rfl) (q_guard 3 7 (2, false) (by kernel_rfl) (by kernel_rfl) (by kernel_rfl) rfl))).tk
noncomputable def f134 (a0 a1 : AV) (h : Heap) : α :=
  boxF o a0 h h.next fun v7 h => f134_1 o c n k a1 v7 h
theorem f134_ok : R Pq o c n b134 (kend Pq o c n w rs134 k) = fun t _ h => f134 o c n k (t 0) (t 1) h := (kseq (f134_1_ok o c n k w) rfl).tk
theorem f134_good : Good Pq (cfg mm) 134 (entF Pq (cfg mm) 134 2 fun α => f134) := entG b134 rs134 13 fun _ => f134_ok
noncomputable def b135 := bdy Tryz.f135
noncomputable def rs135 := Tryz.f135.results.toList
noncomputable def f135_3K : Ex → K α := (nxK (R Pq o c n (cB (cB (cB b135))) (kend Pq o c n w rs135 k)) (kend Pq o c n w rs135 k))
noncomputable def f135_5K (lp0 : AVs (Heap → α) 3) : Ex → K α := (nxK (fun t _ h => lp0 (t 1) (t 2) (t 5) h) (blockK (cI (cA (cB (cB b135)))) (f135_3K o c n k w)))
noncomputable def f135_6 {α : Type} (o : α) (c : Call' α) (n : Nat) (k : AV → Heap → α) (lp0 : AVs (Heap → α) 3) (s1 s2 s5 : AV) (h : Heap) : α :=
  fil1 o 1 1 0 s1 [[(.s 0 0)]] fun v1 => newEF h h.next 1 1 v1 fun v2 h => appX Pq o h h.next 58 58 s5 v2 fun v3 h => loadNF o h 1 s2 fun v4 => c 136 [v4, s1] h fun v5 h => pk k v5 h <| lp0 v5 s2 v3 h
theorem f135_6_ok (lp0 : AVs (Heap → α) 3) : R Pq o c n (cB (cA (cA (cA (cB (cB b135)))))) (f135_5K o c n k w lp0) = fun t _ h => f135_6 o c n k lp0 (t 1) (t 2) (t 5) h := by kernel_rfl
noncomputable def f135_7K (lp0 : AVs (Heap → α) 3) : Ex → K α := (nxK (fun t _ h => f135_6 o c n k lp0 (t 1) (t 2) (t 5) h) (f135_5K o c n k w lp0))
noncomputable def f135_8K (lp0 : AVs (Heap → α) 3) : Ex → K α := (nxK (R Pq o c n (cB (cA (cA (cA (cA (cB (cB b135))))))) (f135_7K o c n k w lp0)) (f135_7K o c n k w lp0))
noncomputable def f135_4 (m : Nat) : AVs (Heap → α) 3 :=
  Nat.rec (motive := fun _ => AVs (Heap → α) 3) (fun _ _ _ _ => o) (fun _ lp0 s1 s2 s5 h => loadNF o h 1 s2 fun v6 => c 134 [v6, s1] h fun v7 h => pk k v7 h <| bkF o true v7 (c 53 [s5, s1] h fun v8 h => pk k v8 h <| notF o v8 fun v9 => pickF o v7 v9 (.b false) fun v10 => ifF o v10 (f135_6 o c n k lp0 s1 s2 s5 h) (k s5 h)) (pickF o v7 (.tup []) (.b false) fun v11 => ifF o v11 (f135_6 o c n k lp0 s1 s2 s5 h) (k s5 h))) m
theorem f135_4_ok : R Pq o c n (cA (cA (cB (cB b135)))) (blockK (cI (cA (cB (cB b135)))) (f135_3K o c n k w)) = fun t _ h => f135_4 o c n k n (t 1) (t 2) (t 5) h :=
  c_loop (F := fun m t _ h => f135_4 o c n k m (t 1) (t 2) (t 5) h) (by kernel_rfl) (by kernel_rfl) fun m => (kseq (f135_6_ok o c n k w (f135_4 o c n k m)) (kseq rfl (r_start 4 (by kernel_rfl) (q_guard 4 8 (3, true) (by kernel_rfl) (by kernel_rfl) (by kernel_rfl) rfl)))).tk
noncomputable def f135_2 (s1 s2 s5 : AV) (h : Heap) : α :=
  f135_4 o c n k n s1 s2 s5 h
theorem f135_2_ok : R Pq o c n (cB (cB b135)) (kend Pq o c n w rs135 k) = fun t _ h => f135_2 o c n k (t 1) (t 2) (t 5) h := (kseq rfl (kblk (f135_4_ok o c n k w))).tk
noncomputable def f135_1 (s1 s2 : AV) (h : Heap) : α :=
  f135_2 o c n k s1 s2 .nsl h
theorem f135_1_ok : R Pq o c n (cB b135) (kend Pq o c n w rs135 k) = fun t _ h => f135_1 o c n k (t 1) (t 2) h := (kseq (f135_2_ok o c n k w) rfl).tk
noncomputable def f135 (a0 a1 : AV) (h : Heap) : α :=
  boxF o a0 h h.next fun v12 h => f135_1 o c n k a1 v12 h
theorem f135_ok : R Pq o c n b135 (kend Pq o c n w rs135 k) = fun t _ h => f135 o c n k (t 0) (t 1) h := (kseq (f135_1_ok o c n k w) rfl).tk
theorem f135_good : Good Pq (cfg mm) 135 (entF Pq (cfg mm) 135 2 fun α => f135) := entG b135 rs135 23 fun _ => f135_ok
noncomputable def b136 := bdy Tryz.f136
noncomputable def rs136 := Tryz.f136.results.toList
noncomputable def f136 {α : Type} (o : α) (c : Call' α) (n : Nat) (k : AV → Heap → α) (a0 a1 : AV) (h : Heap) : α :=
  boxF o a0 h h.next fun v1 h => c 131 [a1] h fun v2 h => pk k v2 h <| ifF o v2 (eqsF Pq o 9 a1 (.s 9 2037169923944901474373) fun v3 => ifF o v3 (k (.s 0 0) h) (k (.s 9 2037169923944901474373) h)) (loadNF o h 1 v1 fun v4 => c 132 [v4, a1] h fun v5 h => pk k v5 h <| lssF Pq o 3 v5 (.i .i64 0) fun v6 => ifF o v6 (k (.s 0 0) h) (faF o 0 v1 fun v7 => load1F o h v7 fun v8 => ixF o 4 v8 v5 fun v9 => faF o 1 v9 fun v10 => load1F o h v10 fun v11 => k v11 h))
theorem f136_ok : R Pq o c n b136 (kend Pq o c n w rs136 k) = fun t _ h => f136 o c n k (t 0) (t 1) h := by kernel_rfl
theorem f136_good : Good Pq (cfg mm) 136 (entF Pq (cfg mm) 136 2 fun α => f136) := entG b136 rs136 21 fun _ => f136_ok
noncomputable def b137 := bdy Tryz.f137
noncomputable def rs137 := Tryz.f137.results.toList
noncomputable def f137 {α : Type} (o : α) (c : Call' α) (n : Nat) (k : AV → Heap → α) (a0 : AV) (h : Heap) : α :=
  boxF o a0 h h.next fun v1 h => loadNF o h 1 v1 fun v2 => c 90 [v2] h fun v3 h => pk k v3 h <| exF o v3 0 fun v4 => exF o v3 1 fun v5 => eqiF Pq o 3 v4 (.i .i64 0) fun v6 => k v6 h
theorem f137_ok : R Pq o c n b137 (kend Pq o c n w rs137 k) = fun t _ h => f137 o c n k (t 0) h := by kernel_rfl
theorem f137_good : Good Pq (cfg mm) 137 (entF Pq (cfg mm) 137 1 fun α => f137) := entG b137 rs137 12 fun _ => f137_ok
noncomputable def b138 := bdy Tryz.f138
noncomputable def rs138 := Tryz.f138.results.toList
noncomputable def f138 {α : Type} (o : α) (c : Call' α) (n : Nat) (k : AV → Heap → α) (a0 a1 a2 : AV) (h : Heap) : α :=
  boxF o a0 h h.next fun v1 h => boxF o a2 h h.next fun v2 h => loadNF o h 1 v1 fun v3 => c 183 [v3, a1] h fun v4 h => pk k v4 h <| c 182 [v4, (.fn (.func 184) [] [v2])] h fun v5 h => pk k v5 h <| k v5 h
theorem f138_ok : R Pq o c n b138 (kend Pq o c n w rs138 k) = fun t _ h => f138 o c n k (t 0) (t 1) (t 2) h := by kernel_rfl
theorem f138_good : Good Pq (cfg mm) 138 (entF Pq (cfg mm) 138 3 fun α => f138) := entG b138 rs138 12 fun _ => f138_ok
noncomputable def b139 := bdy Tryz.f139
noncomputable def rs139 := Tryz.f139.results.toList
noncomputable def f139_2K : Ex → K α := (nxK (R Pq o c n (cB (cB b139)) (kend Pq o c n w rs139 k)) (kend Pq o c n w rs139 k))
noncomputable def f139_4 {α : Type} (o : α) (c : Call' α) (n : Nat) (k : AV → Heap → α) (s1 s2 s11 s13 : AV) (h : Heap) : α :=
  pickF o s11 (.b true) s13 fun v1 => bkF o false v1 (loadNF o h 1 s2 fun v2 => c 134 [v2, s1] h fun v3 h => pk k v3 h <| pickF o v1 (.b true) v3 fun v4 => k v4 h) (pickF o v1 (.b true) (.tup []) fun v5 => k v5 h)
theorem f139_4_ok : Q Pq o c (cO (cA (cB b139))) (f139_2K o c n k w) 9 = fun t _ h => f139_4 o c n k (t 1) (t 2) (t 11) (t 13) h := (q_seg 9 11 (by kernel_rfl) (q_guard 11 14 (10, false) (by kernel_rfl) (by kernel_rfl) (by kernel_rfl) rfl)).tk
noncomputable def f139_3 (s1 s2 s7 s9 : AV) (h : Heap) : α :=
  pickF o s7 (.b true) s9 fun v6 => bkF o false v6 (eqsF Pq o 9 s1 (.s 6 113723913172051) fun v7 => f139_4 o c n k s1 s2 v6 v7 h) (f139_4 o c n k s1 s2 v6 (.tup []) h)
theorem f139_3_ok : Q Pq o c (cO (cA (cB b139))) (f139_2K o c n k w) 5 = fun t _ h => f139_3 o c n k (t 1) (t 2) (t 7) (t 9) h := (q_seg 5 7 (by kernel_rfl) (q_guard 7 9 (6, false) (by kernel_rfl) (by kernel_rfl) (by kernel_rfl) (f139_4_ok o c n k w))).tk
noncomputable def f139_1 (s1 s2 : AV) (h : Heap) : α :=
  eqsF Pq o 9 s1 (.s 3 7630441) fun v8 => bkF o false v8 (eqsF Pq o 9 s1 (.s 7 31069335677005666) fun v9 => f139_3 o c n k s1 s2 v8 v9 h) (f139_3 o c n k s1 s2 v8 (.tup []) h)
theorem f139_1_ok : R Pq o c n (cB b139) (kend Pq o c n w rs139 k) = fun t _ h => f139_1 o c n k (t 1) (t 2) h := (kseq rfl (r_start 3 (by kernel_rfl) (q_guard 3 5 (2, false) (by kernel_rfl) (by kernel_rfl) (by kernel_rfl) (f139_3_ok o c n k w)))).tk
noncomputable def f139 (a0 a1 : AV) (h : Heap) : α :=
  boxF o a0 h h.next fun v10 h => f139_1 o c n k a1 v10 h
theorem f139_ok : R Pq o c n b139 (kend Pq o c n w rs139 k) = fun t _ h => f139 o c n k (t 0) (t 1) h := (kseq (f139_1_ok o c n k w) rfl).tk
theorem f139_good : Good Pq (cfg mm) 139 (entF Pq (cfg mm) 139 2 fun α => f139) := entG b139 rs139 20 fun _ => f139_ok
noncomputable def b140 := bdy Tryz.f140
noncomputable def rs140 := Tryz.f140.results.toList
noncomputable def f140 {α : Type} (o : α) (c : Call' α) (n : Nat) (k : AV → Heap → α) (a0 : AV) (h : Heap) : α :=
  boxF o a0 h h.next fun v1 h => loadNF o h 1 v1 fun v2 => c 90 [v2] h fun v3 h => pk k v3 h <| exF o v3 0 fun v4 => exF o v3 1 fun v5 => eqiF Pq o 3 v4 (.i .i64 0) fun v6 => k v6 h
theorem f140_ok : R Pq o c n b140 (kend Pq o c n w rs140 k) = fun t _ h => f140 o c n k (t 0) h := by kernel_rfl
theorem f140_good : Good Pq (cfg mm) 140 (entF Pq (cfg mm) 140 1 fun α => f140) := entG b140 rs140 12 fun _ => f140_ok
noncomputable def b141 := bdy Tryz.f141
noncomputable def rs141 := Tryz.f141.results.toList
noncomputable def f141_7K : Ex → K α := (nxK (R Pq o c n (cB (cB (cB (cB (cB (cB (cB b141))))))) (kend Pq o c n w rs141 k)) (kend Pq o c n w rs141 k))
noncomputable def f141_11 {α : Type} (o : α) (c : Call' α) (n : Nat) (k : AV → Heap → α) (s107 : AV) (h : Heap) : α :=
  ifF o s107 (k (.i .i64 9) h) (k (.i .i64 0) h)
theorem f141_11_ok : R Pq o c n (cB (cB (cA (cB (cB (cA (cB (cB (cB (cB (cB (cB b141)))))))))))) (f141_7K o c n k w) = fun t _ h => f141_11 o c n k (t 107) h := by kernel_rfl
noncomputable def f141_12K : Ex → K α := (nxK (fun t _ h => f141_11 o c n k (t 107) h) (f141_7K o c n k w))
noncomputable def f141_10 (s7 s14 : AV) (h : Heap) : α :=
  faF o 2 s14 fun v1 => load1F o h v1 fun v2 => faF o 2 s7 fun v3 => load1F o h v3 fun v4 => nesF Pq o 9 v2 v4 fun v5 => bkF o false v5 (faF o 0 s14 fun v6 => load1F o h v6 fun v7 => faF o 0 s7 fun v8 => load1F o h v8 fun v9 => neiF Pq o 4 v7 v9 fun v10 => pickF o v5 (.b true) v10 fun v11 => f141_11 o c n k v11 h) (pickF o v5 (.b true) (.tup []) fun v12 => f141_11 o c n k v12 h)
theorem f141_10_ok : R Pq o c n (cB (cA (cB (cB (cA (cB (cB (cB (cB (cB (cB b141))))))))))) (f141_7K o c n k w) = fun t _ h => f141_10 o c n k (t 7) (t 14) h := (kseq (f141_11_ok o c n k w) (r_start 6 (by kernel_rfl) (q_guard 6 11 (5, false) (by kernel_rfl) (by kernel_rfl) (by kernel_rfl) rfl))).tk
noncomputable def f141_9 (s3 s7 s12 s89 : AV) (h : Heap) : α :=
  ifF o s89 (loadNF o h 1 s3 fun v13 => loadNF o h 2 s12 fun v14 => c 192 [v13, v14] h fun v15 h => pk k v15 h <| exF o v15 0 fun v16 => exF o v15 1 fun v17 => newF h h.next 6 [(.b false), (.b false), (.s 0 0), (.s 0 0), .nsl, .nsl] fun v18 h => storeF o h 6 v18 v16 fun h => f141_10 o c n k s7 v18 h) (k (.i .i64 0) h)
theorem f141_9_ok : R Pq o c n (cB (cB (cA (cB (cB (cB (cB (cB (cB b141))))))))) (f141_7K o c n k w) = fun t _ h => f141_9 o c n k (t 3) (t 7) (t 12) (t 89) h := (c_cond (by kernel_rfl) (kseq (f141_10_ok o c n k w) rfl) rfl).tk
noncomputable def f141_13K : Ex → K α := (nxK (fun t _ h => f141_9 o c n k (t 3) (t 7) (t 12) (t 89) h) (f141_7K o c n k w))
noncomputable def f141_8 (s3 s7 s12 s13 : AV) (h : Heap) : α :=
  bkF o true s13 (faF o 1 s7 fun v19 => load1F o h v19 fun v20 => notF o v20 fun v21 => pickF o s13 v21 (.b false) fun v22 => f141_9 o c n k s3 s7 s12 v22 h) (pickF o s13 (.tup []) (.b false) fun v23 => f141_9 o c n k s3 s7 s12 v23 h)
theorem f141_8_ok : R Pq o c n (cB (cA (cB (cB (cB (cB (cB (cB b141)))))))) (f141_7K o c n k w) = fun t _ h => f141_8 o c n k (t 3) (t 7) (t 12) (t 13) h := (kseq (f141_9_ok o c n k w) (r_start 2 (by kernel_rfl) (q_guard 2 5 (1, true) (by kernel_rfl) (by kernel_rfl) (by kernel_rfl) rfl))).tk
noncomputable def f141_6 (s3 s4 s7 : AV) (h : Heap) : α :=
  dreg o h 14 fun base h => loadNF o (h.look 0) 1 s3 fun v24 => loadNF o (h.look 0) 1 s3 fun v25 => faF o 0 s4 fun v26 => rootF o v26 s4 <| load1F o (h.look 4) v26 fun v27 => callD o c (hidD false [(.fn (.func 135) [] []), v25, v27] (lapp [Nat.add base 11] []) (sBlk s3 (sBlk s7 []))) 135 [v25, v27] (h.look 0) fun v28 h => pnF v28 (fun x => o) <| slF Pq o 58 v28 (some (.i .i64 1)) none fun v29 => loadNF o (h.look 0) 6 s7 fun v30 => callD o c (lapp (lapp [Nat.add base 11] []) []) 191 [v24, v29, v30] (h.look 0) fun v31 h => pnF v31 (fun x => o) <| exF o v31 0 fun v32 => exF o v31 1 fun v33 => newF (h.look 0) (Nat.add base 11) 2 [(.s 0 0), (.i .i64 0)] fun v34 h => storeF o (h.look 3071) 2 v34 v32 fun h => hb h.shut fun h => f141_8 o c n k s3 s7 v34 v33 h
theorem f141_6_ok : R Pq o c n (cB (cB (cB (cB (cB (cB b141)))))) (kend Pq o c n w rs141 k) = fun t _ h => f141_6 o c n k (t 3) (t 4) (t 7) h := (kseq rfl (kseq (f141_8_ok o c n k w) rfl)).tk
noncomputable def f141_14K : Ex → K α := (nxK (fun t _ h => f141_6 o c n k (t 3) (t 4) (t 7) h) (kend Pq o c n w rs141 k))
noncomputable def f141_15 (s3 s4 s7 s72 : AV) (h : Heap) : α :=
  ifF o s72 (k (.i .i64 7) h) (f141_6 o c n k s3 s4 s7 h)
theorem f141_15_ok : R Pq o c n (cB (cA (cB (cB (cB (cB (cB b141))))))) (f141_14K o c n k w) = fun t _ h => f141_15 o c n k (t 3) (t 4) (t 7) (t 72) h := by kernel_rfl
noncomputable def f141_16K : Ex → K α := (nxK (fun t _ h => f141_15 o c n k (t 3) (t 4) (t 7) (t 72) h) (f141_14K o c n k w))
noncomputable def f141_18 (s3 s4 s7 s60 s65 : AV) (h : Heap) : α :=
  pickF o s60 s65 (.b false) fun v35 => bkF o false v35 (faF o 4 s7 fun v36 => load1F o h v36 fun v37 => c 189 [v37, (.fn (.func 190) [] [s3])] h fun v38 h => pk k v38 h <| pickF o v35 (.b true) v38 fun v39 => f141_15 o c n k s3 s4 s7 v39 h) (pickF o v35 (.b true) (.tup []) fun v40 => f141_15 o c n k s3 s4 s7 v40 h)
theorem f141_18_ok : Q Pq o c (cO (cA (cA (cB (cB (cB (cB (cB b141)))))))) (f141_16K o c n k w) 14 = fun t _ h => f141_18 o c n k (t 3) (t 4) (t 7) (t 60) (t 65) h := (q_seg 14 16 (by kernel_rfl) (q_guard 16 20 (15, false) (by kernel_rfl) (by kernel_rfl) (by kernel_rfl) rfl)).tk
noncomputable def f141_17 (s3 s4 s7 s55 s58 : AV) (h : Heap) : α :=
  pickF o s55 s58 (.b false) fun v41 => bkF o true v41 (loadNF o h 1 s3 fun v42 => faF o 2 s7 fun v43 => load1F o h v43 fun v44 => c 139 [v42, v44] h fun v45 h => pk k v45 h <| notF o v45 fun v46 => f141_18 o c n k s3 s4 s7 v41 v46 h) (f141_18 o c n k s3 s4 s7 v41 (.tup []) h)
theorem f141_17_ok : Q Pq o c (cO (cA (cA (cB (cB (cB (cB (cB b141)))))))) (f141_16K o c n k w) 7 = fun t _ h => f141_17 o c n k (t 3) (t 4) (t 7) (t 55) (t 58) h := (q_seg 7 9 (by kernel_rfl) (q_guard 9 14 (8, true) (by kernel_rfl) (by kernel_rfl) (by kernel_rfl) (f141_18_ok o c n k w))).tk
noncomputable def f141_5 (s3 s4 s7 : AV) (h : Heap) : α :=
  faF o 1 s7 fun v47 => load1F o h v47 fun v48 => notF o v48 fun v49 => bkF o true v49 (faF o 2 s7 fun v50 => load1F o h v50 fun v51 => nesF Pq o 9 v51 (.s 4 1684631414) fun v52 => f141_17 o c n k s3 s4 s7 v49 v52 h) (f141_17 o c n k s3 s4 s7 v49 (.tup []) h)
theorem f141_5_ok : R Pq o c n (cB (cB (cB (cB (cB b141))))) (kend Pq o c n w rs141 k) = fun t _ h => f141_5 o c n k (t 3) (t 4) (t 7) h := (kseq (f141_6_ok o c n k w) (kseq (f141_15_ok o c n k w) (r_start 4 (by kernel_rfl) (q_guard 4 7 (3, true) (by kernel_rfl) (by kernel_rfl) (by kernel_rfl) (f141_17_ok o c n k w))))).tk
noncomputable def f141_19K : Ex → K α := (nxK (fun t _ h => f141_5 o c n k (t 3) (t 4) (t 7) h) (kend Pq o c n w rs141 k))
noncomputable def f141_21 (m : Nat) : AVs (Heap → α) 6 :=
  Nat.rec (motive := fun _ => AVs (Heap → α) 6) (fun _ _ _ _ _ _ _ => o) (fun _ lp0 s3 s4 s7 s8 s44 s45 h => lssF Pq o 3 s45 s44 fun v53 => ifF o v53 (cfF o s8 [s45] c h fun v54 h => pk k v54 h <| ifF o v54 (k (.i .i64 6) h) (addF Pq o 3 s45 (.i .i64 1) fun v55 => lp0 s3 s4 s7 s8 s44 v55 h)) (f141_5 o c n k s3 s4 s7 h)) m
theorem f141_21_ok : R Pq o c n (cA (cB (cA (cB (cB (cB (cB b141))))))) (blockK (cI (cB (cA (cB (cB (cB (cB b141))))))) (f141_19K o c n k w)) = fun t _ h => f141_21 o c n k n (t 3) (t 4) (t 7) (t 8) (t 44) (t 45) h :=
  c_loop (F := fun m t _ h => f141_21 o c n k m (t 3) (t 4) (t 7) (t 8) (t 44) (t 45) h) (by kernel_rfl) (by kernel_rfl) fun m => by kernel_rfl
noncomputable def f141_20 (s3 s4 s7 s8 s44 s45 : AV) (h : Heap) : α :=
  f141_21 o c n k n s3 s4 s7 s8 s44 s45 h
theorem f141_20_ok : R Pq o c n (cB (cA (cB (cB (cB (cB b141)))))) (f141_19K o c n k w) = fun t _ h => f141_20 o c n k (t 3) (t 4) (t 7) (t 8) (t 44) (t 45) h := (kblk (f141_21_ok o c n k w)).tk
noncomputable def f141_4 (s3 s4 s7 s8 : AV) (h : Heap) : α :=
  faF o 4 s7 fun v56 => load1F o h v56 fun v57 => lenF o v57 fun v58 => f141_20 o c n k s3 s4 s7 s8 v58 (.i .i64 0) h
theorem f141_4_ok : R Pq o c n (cB (cB (cB (cB b141)))) (kend Pq o c n w rs141 k) = fun t _ h => f141_4 o c n k (t 3) (t 4) (t 7) (t 8) h := (kseq (f141_5_ok o c n k w) (kseq (f141_20_ok o c n k w) rfl)).tk
noncomputable def f141_22K : Ex → K α := (nxK (fun t _ h => f141_4 o c n k (t 3) (t 4) (t 7) (t 8) h) (kend Pq o c n w rs141 k))
noncomputable def f141_25K (lp0 : AVs (Heap → α) 7) : Ex → K α := (nxK (fun t _ h => lp0 (t 3) (t 4) (t 7) (t 8) (t 25) (t 26) (t 27) h) (blockK (cI (cB (cA (cB (cB (cB b141)))))) (f141_22K o c n k w)))
noncomputable def f141_28K (lp0 : AVs (Heap → α) 7) : Ex → K α := (nxK (R Pq o c n (cB (cB (cB (cA (cA (cB (cA (cB (cB (cB b141)))))))))) (f141_25K o c n k w lp0)) (f141_25K o c n k w lp0))
noncomputable def f141_30 {α : Type} (o : α) (c : Call' α) (n : Nat) (k : AV → Heap → α) (lp0 : AVs (Heap → α) 7) (s3 s4 s7 s8 s25 s26 s27 s40 : AV) (h : Heap) : α :=
  ifF o s40 (k (.i .i64 6) h) (addF Pq o 3 s27 (.i .i64 1) fun v59 => lp0 s3 s4 s7 s8 s25 s26 v59 h)
theorem f141_30_ok (lp0 : AVs (Heap → α) 7) : R Pq o c n (cB (cB (cA (cA (cB (cB (cA (cA (cB (cA (cB (cB (cB b141))))))))))))) (blockK (cI (cA (cB (cB (cA (cA (cB (cA (cB (cB (cB b141))))))))))) (f141_28K o c n k w lp0)) = fun t _ h => f141_30 o c n k lp0 (t 3) (t 4) (t 7) (t 8) (t 25) (t 26) (t 27) (t 40) h := by kernel_rfl
noncomputable def f141_31K (lp0 : AVs (Heap → α) 7) : Ex → K α := (nxK (fun t _ h => f141_30 o c n k lp0 (t 3) (t 4) (t 7) (t 8) (t 25) (t 26) (t 27) (t 40) h) (blockK (cI (cA (cB (cB (cA (cA (cB (cA (cB (cB (cB b141))))))))))) (f141_28K o c n k w lp0)))
noncomputable def f141_29 (lp0 : AVs (Heap → α) 7) (s3 s4 s7 s8 s10 s25 s26 s27 : AV) (h : Heap) : α :=
  faF o 1 s10 fun v60 => load1F o h v60 fun v61 => faF o 1 s7 fun v62 => load1F o h v62 fun v63 => eqiF Pq o 4 v61 v63 fun v64 => bkF o true v64 (loadNF o h 6 s10 fun v65 => loadNF o h 6 s7 fun v66 => c 188 [v65, v66] h fun v67 h => pk k v67 h <| pickF o v64 v67 (.b false) fun v68 => f141_30 o c n k lp0 s3 s4 s7 s8 s25 s26 s27 v68 h) (pickF o v64 (.tup []) (.b false) fun v69 => f141_30 o c n k lp0 s3 s4 s7 s8 s25 s26 s27 v69 h)
theorem f141_29_ok (lp0 : AVs (Heap → α) 7) : R Pq o c n (cB (cA (cA (cB (cB (cA (cA (cB (cA (cB (cB (cB b141)))))))))))) (blockK (cI (cA (cB (cB (cA (cA (cB (cA (cB (cB (cB b141))))))))))) (f141_28K o c n k w lp0)) = fun t _ h => f141_29 o c n k lp0 (t 3) (t 4) (t 7) (t 8) (t 10) (t 25) (t 26) (t 27) h := (kseq (f141_30_ok o c n k w lp0) (r_start 6 (by kernel_rfl) (q_guard 6 9 (5, true) (by kernel_rfl) (by kernel_rfl) (by kernel_rfl) rfl))).tk
noncomputable def f141_27 (lp0 : AVs (Heap → α) 7) (s3 s4 s7 s8 s25 s26 s27 : AV) (h : Heap) : α :=
  ixF o 6 s25 s27 fun v70 => loadNF o h 6 v70 fun v71 => newF h h.next 6 [(.b false), (.b false), (.s 0 0), (.s 0 0), .nsl, .nsl] fun v72 h => storeF o h 6 v72 v71 fun h => f141_29 o c n k lp0 s3 s4 s7 s8 v72 s25 s26 s27 h
theorem f141_27_ok (lp0 : AVs (Heap → α) 7) : R Pq o c n (cB (cB (cA (cA (cB (cA (cB (cB (cB b141))))))))) (f141_25K o c n k w lp0) = fun t _ h => f141_27 o c n k lp0 (t 3) (t 4) (t 7) (t 8) (t 25) (t 26) (t 27) h := (kseq rfl (kblk (kseq (f141_29_ok o c n k w lp0) rfl))).tk
noncomputable def f141_26 (lp0 : AVs (Heap → α) 7) (s3 s4 s7 s8 s25 s26 s27 s28 : AV) (h : Heap) : α :=
  ifF o s28 (f141_27 o c n k lp0 s3 s4 s7 s8 s25 s26 s27 h) (f141_4 o c n k s3 s4 s7 s8 h)
theorem f141_26_ok (lp0 : AVs (Heap → α) 7) : R Pq o c n (cB (cA (cA (cB (cA (cB (cB (cB b141)))))))) (f141_25K o c n k w lp0) = fun t _ h => f141_26 o c n k lp0 (t 3) (t 4) (t 7) (t 8) (t 25) (t 26) (t 27) (t 28) h := (kseq (f141_27_ok o c n k w lp0) rfl).tk
noncomputable def f141_24 (m : Nat) : AVs (Heap → α) 7 :=
  Nat.rec (motive := fun _ => AVs (Heap → α) 7) (fun _ _ _ _ _ _ _ _ => o) (fun _ lp0 s3 s4 s7 s8 s25 s26 s27 h => lssF Pq o 3 s27 s26 fun v73 => f141_26 o c n k lp0 s3 s4 s7 s8 s25 s26 s27 v73 h) m
theorem f141_24_ok : R Pq o c n (cA (cB (cA (cB (cB (cB b141)))))) (blockK (cI (cB (cA (cB (cB (cB b141)))))) (f141_22K o c n k w)) = fun t _ h => f141_24 o c n k n (t 3) (t 4) (t 7) (t 8) (t 25) (t 26) (t 27) h :=
  c_loop (F := fun m t _ h => f141_24 o c n k m (t 3) (t 4) (t 7) (t 8) (t 25) (t 26) (t 27) h) (by kernel_rfl) (by kernel_rfl) fun m => (kseq (f141_26_ok o c n k w (f141_24 o c n k m)) rfl).tk
noncomputable def f141_23 (s3 s4 s7 s8 s25 s26 s27 : AV) (h : Heap) : α :=
  f141_24 o c n k n s3 s4 s7 s8 s25 s26 s27 h
theorem f141_23_ok : R Pq o c n (cB (cA (cB (cB (cB b141))))) (f141_22K o c n k w) = fun t _ h => f141_23 o c n k (t 3) (t 4) (t 7) (t 8) (t 25) (t 26) (t 27) h := (kblk (f141_24_ok o c n k w)).tk
noncomputable def f141_3 (s2 s3 s4 s7 s8 : AV) (h : Heap) : α :=
  faF o 3 s4 fun v74 => load1F o h v74 fun v75 => slF Pq o 49 v75 none (some s2) fun v76 => lenF o v76 fun v77 => f141_23 o c n k s3 s4 s7 s8 v76 v77 (.i .i64 0) h
theorem f141_3_ok : R Pq o c n (cB (cB (cB b141))) (kend Pq o c n w rs141 k) = fun t _ h => f141_3 o c n k (t 2) (t 3) (t 4) (t 7) (t 8) h := (kseq (f141_4_ok o c n k w) (kseq (f141_23_ok o c n k w) rfl)).tk
noncomputable def f141_2 (s2 s3 s4 s7 : AV) (h : Heap) : α :=
  f141_3 o c n k s2 s3 s4 s7 (.fn (.func 185) [] [s7]) h
theorem f141_2_ok : R Pq o c n (cB (cB b141)) (kend Pq o c n w rs141 k) = fun t _ h => f141_2 o c n k (t 2) (t 3) (t 4) (t 7) h := (kseq (f141_3_ok o c n k w) rfl).tk
noncomputable def f141_1 (s2 s3 s4 : AV) (h : Heap) : α :=
  faF o 3 s4 fun v78 => load1F o h v78 fun v79 => ixF o 6 v79 s2 fun v80 => loadNF o h 6 v80 fun v81 => newF h h.next 6 [(.b false), (.b false), (.s 0 0), (.s 0 0), .nsl, .nsl] fun v82 h => storeF o h 6 v82 v81 fun h => f141_2 o c n k s2 s3 s4 v82 h
theorem f141_1_ok : R Pq o c n (cB b141) (kend Pq o c n w rs141 k) = fun t _ h => f141_1 o c n k (t 2) (t 3) (t 4) h := (kseq (f141_2_ok o c n k w) rfl).tk
noncomputable def f141 (a0 a1 a2 : AV) (h : Heap) : α :=
  boxF o a0 h h.next fun v83 h => boxF o a1 h h.next fun v84 h => f141_1 o c n k a2 v83 v84 h
theorem f141_ok : R Pq o c n b141 (kend Pq o c n w rs141 k) = fun t _ h => f141 o c n k (t 0) (t 1) (t 2) h := (kseq (f141_1_ok o c n k w) rfl).tk
theorem f141_good : Good Pq (cfg mm) 141 (entF Pq (cfg mm) 141 3 fun α => f141) := entG b141 rs141 108 fun _ => f141_ok
noncomputable def b143 := bdy Tryz.f143
noncomputable def rs143 := Tryz.f143.results.toList
noncomputable def f143 {α : Type} (o : α) (c : Call' α) (n : Nat) (k : AV → Heap → α) (a0 : AV) (h : Heap) : α :=
  eqiF Pq o 66 a0 .nsl fun v1 => ifF o v1 (k .nsl h) (newEF h h.next 8 0 [] fun v2 h => appX Pq o h h.next 66 66 v2 a0 fun v3 h => k v3 h)
theorem f143_ok : R Pq o c n b143 (kend Pq o c n w rs143 k) = fun t _ h => f143 o c n k (t 0) h := by kernel_rfl
theorem f143_good : Good Pq (cfg mm) 143 (entF Pq (cfg mm) 143 1 fun α => f143) := entG b143 rs143 8 fun _ => f143_ok
noncomputable def b144 := bdy Tryz.f144
noncomputable def rs144 := Tryz.f144.results.toList
noncomputable def f144_2K : Ex → K α := (nxK (R Pq o c n (cB (cB b144)) (kend Pq o c n w rs144 k)) (kend Pq o c n w rs144 k))
noncomputable def f144_3 {α : Type} (o : α) (c : Call' α) (n : Nat) (k : AV → Heap → α) (base : Nat) (s4 s19 : AV) (h : Heap) : α :=
  exF o s19 0 fun v1 => exF o s19 1 fun v2 => exF o s19 2 fun v3 => newF (h.look 0) (Nat.add base 14) 8 [(.i .i64 0), (.i .i32 0), (.s 0 0), (.s 0 0), (.s 0 0), .nsl, (.s 0 0), (.i .i64 0)] fun v4 h => storeF o (h.look 20479) 8 v4 v1 fun h => hb h.shut fun h => eqiF Pq o 3 v3 (.i .i64 0) fun v5 => c 194 [v5, v3] h fun v6 h => pk k v6 h <| loadNF o h 8 v4 fun v7 => storeF o h 8 s4 v7 fun h => on o (resV Pq h [(s4, some 71), (v2, none)]) fun v => k v h
theorem f144_3_ok (base : Nat) : QD Pq o c (cO (cA (cB b144))) base ((f144_2K o c n k w)) 10 = fun t _ h => f144_3 o c n k base (t 4) (t 19) h := by kernel_rfl
noncomputable def f144_1 (s0 s3 s4 : AV) (h : Heap) : α :=
  dreg o h 18 fun base h => nilChk o s0 fun v8 => faF o 0 v8 fun v9 => rootF o v9 s0 <| loadNF o (h.look 7) 1 v9 fun v10 => nilChk o s0 fun v11 => faF o 1 v11 fun v12 => rootF o v12 s0 <| loadNF o (h.look 112) 3 v12 fun v13 => loadNF o (h.look 0) 8 s3 fun v14 => callD o c (lapp (lapp [Nat.add base 14] []) []) 193 [v10, v13, v14] (h.look 0) fun v15 h => pnF v15 (fun x => o) <| f144_3 o c n k base s4 v15 h
theorem f144_1_ok : R Pq o c n (cB b144) (kend Pq o c n w rs144 k) = fun t _ h => f144_1 o c n k (t 0) (t 3) (t 4) h := (kseq rfl (r_startD 10 (by kernel_rfl) (by kernel_rfl) (X := fun base => fun t _ h => f144_3 o c n k base (t 4) (t 19) h) (fun base => f144_3_ok o c n k w base))).tk
noncomputable def f144 (a0 a1 : AV) (h : Heap) : α :=
  boxF o a1 h h.next fun v16 h => newF h h.next 8 [(.i .i64 0), (.i .i32 0), (.s 0 0), (.s 0 0), (.s 0 0), .nsl, (.s 0 0), (.i .i64 0)] fun v17 h => f144_1 o c n k a0 v16 v17 h
theorem f144_ok : R Pq o c n b144 (kend Pq o c n w rs144 k) = fun t _ h => f144 o c n k (t 0) (t 1) h := (kseq (f144_1_ok o c n k w) rfl).tk
theorem f144_good : Good Pq (cfg mm) 144 (entF Pq (cfg mm) 144 2 fun α => f144) := entG b144 rs144 29 fun _ => f144_ok
noncomputable def b145 := bdy Tryz.f145
noncomputable def rs145 := Tryz.f145.results.toList
noncomputable def f145 {α : Type} (o : α) (c : Call' α) (n : Nat) (k : AV → Heap → α) (a0 a1 a2 : AV) (h : Heap) : α :=
  nilChk o a0 fun v1 => faF o 0 v1 fun v2 => loadNF o h 1 v2 fun v3 => c 195 [v3, a1, a2] h fun v4 h => pk k v4 h <| c 194 [v4, (.i .i64 14)] h fun v5 h => pk k v5 h <| k (.tup []) h
theorem f145_ok : R Pq o c n b145 (kend Pq o c n w rs145 k) = fun t _ h => f145 o c n k (t 0) (t 1) (t 2) h := by kernel_rfl
theorem f145_good : Good Pq (cfg mm) 145 (entF Pq (cfg mm) 145 3 fun α => f145) := entG b145 rs145 14 fun _ => f145_ok
noncomputable def b146 := bdy Tryz.f146
noncomputable def rs146 := Tryz.f146.results.toList
noncomputable def f146_3 {α : Type} (o : α) (c : Call' α) (n : Nat) (k : AV → Heap → α) (s5 s6 s7 : AV) (h : Heap) : α :=
  faF o 5 s5 fun v1 => load1F o h v1 fun v2 => c 197 [s7, v2, .nsl] h fun v3 h => pk k v3 h <| faF o 5 s5 fun v4 => storeF o h 1 v4 v3 fun h => loadNF o h 6 s5 fun v5 => c 198 [v5] h fun v6 h => pk k v6 h <| c 194 [v6, (.i .i64 15)] h fun v7 h => pk k v7 h <| loadNF o h 6 s5 fun v8 => storeF o h 6 s6 v8 fun h => on o (resV Pq h [(s6, some 78)]) fun v => k v h
theorem f146_3_ok : R Pq o c n (cB (cB (cB b146))) (kend Pq o c n w rs146 k) = fun t _ h => f146_3 o c n k (t 5) (t 6) (t 7) h := by kernel_rfl
noncomputable def f146_4K : Ex → K α := (nxK (fun t _ h => f146_3 o c n k (t 5) (t 6) (t 7) h) (kend Pq o c n w rs146 k))
noncomputable def f146_5 (s1 s3 s5 s6 s7 s26 : AV) (h : Heap) : α :=
  ifF o s26 (loadNF o h 1 s3 fun v9 => c 149 [v9, s1] h fun v10 h => pk k v10 h <| f146_3 o c n k s5 s6 s7 h) (f146_3 o c n k s5 s6 s7 h)
theorem f146_5_ok : R Pq o c n (cB (cA (cB (cB b146)))) (f146_4K o c n k w) = fun t _ h => f146_5 o c n k (t 1) (t 3) (t 5) (t 6) (t 7) (t 26) h := by kernel_rfl
noncomputable def f146_6K : Ex → K α := (nxK (fun t _ h => f146_5 o c n k (t 1) (t 3) (t 5) (t 6) (t 7) (t 26) h) (f146_4K o c n k w))
noncomputable def f146_2 (s1 s3 s5 s6 s7 : AV) (h : Heap) : α :=
  faF o 1 s5 fun v11 => load1F o h v11 fun v12 => bkF o true v12 (faF o 5 s5 fun v13 => load1F o h v13 fun v14 => c 196 [v14] h fun v15 h => pk k v15 h <| notF o v15 fun v16 => pickF o v12 v16 (.b false) fun v17 => f146_5 o c n k s1 s3 s5 s6 s7 v17 h) (pickF o v12 (.tup []) (.b false) fun v18 => f146_5 o c n k s1 s3 s5 s6 s7 v18 h)
theorem f146_2_ok : R Pq o c n (cB (cB b146)) (kend Pq o c n w rs146 k) = fun t _ h => f146_2 o c n k (t 1) (t 3) (t 5) (t 6) (t 7) h := (kseq (f146_3_ok o c n k w) (kseq (f146_5_ok o c n k w) (r_start 3 (by kernel_rfl) (q_guard 3 7 (2, true) (by kernel_rfl) (by kernel_rfl) (by kernel_rfl) rfl)))).tk
noncomputable def f146_1 (s1 s3 s5 s6 : AV) (h : Heap) : α :=
  dreg o h 12 fun base h => loadNF o (h.look 0) 1 s3 fun v19 => faF o 0 s5 fun v20 => rootF o v20 s5 <| load1F o (h.look 4) v20 fun v21 => faF o 4 s5 fun v22 => rootF o v22 s5 <| load1F o (h.look 16) v22 fun v23 => callD o c (hidD false [(.fn (.func 108) [] []), v23] [] (sBlk s3 (sBlk s5 (sBlk s5 [])))) 108 [v23] (h.look 0) fun v24 h => pnF v24 (fun x => hb h.shut fun hd => loadNF o (h.look 0) 6 s5 fun v25 => k x.pn hd) <| layF o 0 s1 [(.s 0 0), (.b false), .nsl] fun v26 => layF o 1 v21 v26 fun v27 => layF o 2 v24 v27 fun v28 => loadNF o (h.look 0) 6 s5 fun v29 => layF o 0 v19 [.nsl, (.s 0 0), (.b false), .nsl, (.b false), (.b false), (.s 0 0), (.s 0 0), .nsl, .nsl] fun v30 => lay1 o 1 3 (.agg v28) v30 fun v31 => lay1 o 4 6 v29 v31 fun v32 => boxF o (.agg v32) (h.look 1023) (Nat.add base 10) fun v33 h => hb h.shut fun h => f146_2 o c n k s1 s3 s5 s6 v33 h
theorem f146_1_ok : R Pq o c n (cB b146) (kend Pq o c n w rs146 k) = fun t _ h => f146_1 o c n k (t 1) (t 3) (t 5) (t 6) h := (kseq (f146_2_ok o c n k w) rfl).tk
noncomputable def f146 (a0 a1 a2 : AV) (h : Heap) : α :=
  boxF o a0 h h.next fun v34 h => boxF o a2 h h.next fun v35 h => newF h h.next 6 [(.b false), (.b false), (.s 0 0), (.s 0 0), .nsl, .nsl] fun v36 h => f146_1 o c n k a1 v34 v35 v36 h
theorem f146_ok : R Pq o c n b146 (kend Pq o c n w rs146 k) = fun t _ h => f146 o c n k (t 0) (t 1) (t 2) h := (kseq (f146_1_ok o c n k w) rfl).tk
theorem f146_good : Good Pq (cfg mm) 146 (entF Pq (cfg mm) 146 3 fun α => f146) := entG b146 rs146 39 fun _ => f146_ok
noncomputable def b147 := bdy Tryz.f147
noncomputable def rs147 := Tryz.f147.results.toList
noncomputable def f147 {α : Type} (o : α) (c : Call' α) (n : Nat) (k : AV → Heap → α) (a0 a1 : AV) (h : Heap) : α :=
  c 199 [a0, a1] h fun v1 h => pk k v1 h <| geqF Pq o 3 v1 (.i .i64 0) fun v2 => k v2 h
theorem f147_ok : R Pq o c n b147 (kend Pq o c n w rs147 k) = fun t _ h => f147 o c n k (t 0) (t 1) h := by kernel_rfl
theorem f147_good : Good Pq (cfg mm) 147 (entF Pq (cfg mm) 147 2 fun α => f147) := entG b147 rs147 9 fun _ => f147_ok
noncomputable def b175 := bdy Tryz.f175
noncomputable def rs175 := Tryz.f175.results.toList
noncomputable def f175_2K : Ex → K α := (nxK (R Pq o c n (cB (cB b175)) (kend Pq o c n w rs175 k)) (kend Pq o c n w rs175 k))
noncomputable def f175_4 {α : Type} (o : α) (c : Call' α) (n : Nat) (k : AV → Heap → α) (s1 s11 s15 : AV) (h : Heap) : α :=
  pickF o s11 s15 (.b false) fun v1 => bkF o true v1 (faF o 3 s1 fun v2 => load1F o h v2 fun v3 => c 243 [v3, (.fn (.func 244) [] [])] h fun v4 h => pk k v4 h <| notF o v4 fun v5 => pickF o v1 v5 (.b false) fun v6 => k v6 h) (pickF o v1 (.tup []) (.b false) fun v7 => k v7 h)
theorem f175_4_ok : Q Pq o c (cO (cA (cB b175))) (f175_2K o c n k w) 13 = fun t _ h => f175_4 o c n k (t 1) (t 11) (t 15) h := (q_seg 13 15 (by kernel_rfl) (q_guard 15 19 (14, true) (by kernel_rfl) (by kernel_rfl) (by kernel_rfl) rfl)).tk
noncomputable def f175_3 (s1 s6 s9 : AV) (h : Heap) : α :=
  pickF o s6 s9 (.b false) fun v8 => bkF o true v8 (faF o 3 s1 fun v9 => load1F o h v9 fun v10 => lenF o v10 fun v11 => leqF Pq o 3 v11 (.i .i64 1) fun v12 => f175_4 o c n k s1 v8 v12 h) (f175_4 o c n k s1 v8 (.tup []) h)
theorem f175_3_ok : Q Pq o c (cO (cA (cB b175))) (f175_2K o c n k w) 7 = fun t _ h => f175_3 o c n k (t 1) (t 6) (t 9) h := (q_seg 7 9 (by kernel_rfl) (q_guard 9 13 (8, true) (by kernel_rfl) (by kernel_rfl) (by kernel_rfl) (f175_4_ok o c n k w))).tk
noncomputable def f175_1 (s1 : AV) (h : Heap) : α :=
  faF o 1 s1 fun v13 => load1F o h v13 fun v14 => c 241 [v14] h fun v15 h => pk k v15 h <| bkF o true v15 (faF o 2 s1 fun v16 => load1F o h v16 fun v17 => c 242 [v17] h fun v18 h => pk k v18 h <| f175_3 o c n k s1 v15 v18 h) (f175_3 o c n k s1 v15 (.tup []) h)
theorem f175_1_ok : R Pq o c n (cB b175) (kend Pq o c n w rs175 k) = fun t _ h => f175_1 o c n k (t 1) h := (kseq rfl (r_start 4 (by kernel_rfl) (q_guard 4 7 (3, true) (by kernel_rfl) (by kernel_rfl) (by kernel_rfl) (f175_3_ok o c n k w)))).tk
noncomputable def f175 (a0 : AV) (h : Heap) : α :=
  boxF o a0 h h.next fun v19 h => f175_1 o c n k v19 h
theorem f175_ok : R Pq o c n b175 (kend Pq o c n w rs175 k) = fun t _ h => f175 o c n k (t 0) h := (kseq (f175_1_ok o c n k w) rfl).tk
theorem f175_good : Good Pq (cfg mm) 175 (entF Pq (cfg mm) 175 1 fun α => f175) := entG b175 rs175 23 fun _ => f175_ok
end Go.Zev.Cf
