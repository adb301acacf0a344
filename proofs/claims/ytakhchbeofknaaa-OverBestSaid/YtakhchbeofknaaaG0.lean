/-
  Printed by zgen.py: clean forms.
-/
import Derived.Test.YtakhchbeofknaaaZ3
import Derived.Test.YtakhchbeofknaaaProg
import Derived.KernelRfl
set_option linter.unusedVariables false
set_option maxRecDepth 20000
namespace Go.Zev.Ob
open Go Go.Zev Go.Proofs
noncomputable abbrev Pq : Program := Try.prog
noncomputable def cfg (memo : FuncId → Option (List AV → Option AV)) : Cfg := ⟨fun f => Nat.beq f 20, fun f => 512, memo, fun f => false⟩
variable {mm : FuncId → Option (List AV → Option AV)}
noncomputable def b3 := bdy Try.f3
noncomputable def rs3 := Try.f3.results.toList
variable {α : Type} (o : α) (c : Call' α) (n : Nat) (k : AV → Heap → α) (w : FuncId → Nat)
noncomputable def f3_9K : Ex → K α := (nxK (R Pq o c n (cB (cB (cB (cB (cB (cB (cB (cB (cB b3))))))))) (kend Pq o c n w rs3 k)) (kend Pq o c n w rs3 k))
noncomputable def f3_10 {α : Type} (o : α) (c : Call' α) (n : Nat) (k : AV → Heap → α) (s10 s117 s119 : AV) (h : Heap) : α :=
  pickF o s117 s119 (.b false) fun v1 => bkF o true v1 (eqiF Pq o 3 s10 (.i .i64 0) fun v2 => pickF o v1 v2 (.b false) fun v3 => k v3 h) (pickF o v1 (.tup []) (.b false) fun v4 => k v4 h)
theorem f3_10_ok : Q Pq o c (cO (cA (cB (cB (cB (cB (cB (cB (cB (cB b3)))))))))) (f3_9K o c n k w) 4 = fun t _ h => f3_10 o c n k (t 10) (t 117) (t 119) h := (q_seg 4 6 (by kernel_rfl) (q_guard 6 8 (5, true) (by kernel_rfl) (by kernel_rfl) (by kernel_rfl) rfl)).tk
noncomputable def f3_8 (s10 s13 : AV) (h : Heap) : α :=
  c 9 [] h fun v5 h => pk k v5 h <| bkF o true v5 (eqiF Pq o 3 s13 (.i .i64 1) fun v6 => f3_10 o c n k s10 v5 v6 h) (f3_10 o c n k s10 v5 (.tup []) h)
theorem f3_8_ok : R Pq o c n (cB (cB (cB (cB (cB (cB (cB (cB b3)))))))) (kend Pq o c n w rs3 k) = fun t _ h => f3_8 o c n k (t 10) (t 13) h := (kseq rfl (r_start 2 (by kernel_rfl) (q_guard 2 4 (1, true) (by kernel_rfl) (by kernel_rfl) (by kernel_rfl) (f3_10_ok o c n k w)))).tk
noncomputable def f3_11K : Ex → K α := (nxK (fun t _ h => f3_8 o c n k (t 10) (t 13) h) (kend Pq o c n w rs3 k))
noncomputable def f3_13K : Ex → K α := (nxK (R Pq o c n (cB (cA (cB (cA (cA (cB (cB (cB (cB (cB (cB (cB b3)))))))))))) (blockK (cI (cA (cB (cB (cB (cB (cB (cB (cB b3))))))))) (f3_11K o c n k w))) (blockK (cI (cA (cB (cB (cB (cB (cB (cB (cB b3))))))))) (f3_11K o c n k w)))
noncomputable def f3_14 {α : Type} (o : α) (c : Call' α) (n : Nat) (k : AV → Heap → α) (s9 s94 s96 : AV) (h : Heap) : α :=
  pickF o s94 s96 (.b false) fun v7 => bkF o true v7 (loadNF o h 2 s9 fun v8 => eqiF Pq o 30 v8 (.agg [(.s 0 0), (.i .i64 0)]) fun v9 => pickF o v7 v9 (.b false) fun v10 => k v10 h) (pickF o v7 (.tup []) (.b false) fun v11 => k v11 h)
theorem f3_14_ok : Q Pq o c (cO (cA (cA (cB (cA (cA (cB (cB (cB (cB (cB (cB (cB b3))))))))))))) (f3_13K o c n k w) 4 = fun t _ h => f3_14 o c n k (t 9) (t 94) (t 96) h := (q_seg 4 6 (by kernel_rfl) (q_guard 6 9 (5, true) (by kernel_rfl) (by kernel_rfl) (by kernel_rfl) rfl)).tk
noncomputable def f3_16K : Ex → K α := (nxK (R Pq o c n (cB (cA (cB (cB (cB (cA (cA (cB (cB (cB (cB (cB (cB (cB b3)))))))))))))) (blockK (cI (cA (cB (cB (cB (cB (cB (cB (cB b3))))))))) (f3_11K o c n k w))) (blockK (cI (cA (cB (cB (cB (cB (cB (cB (cB b3))))))))) (f3_11K o c n k w)))
noncomputable def f3_17 {α : Type} (o : α) (c : Call' α) (n : Nat) (k : AV → Heap → α) (s9 s107 s109 : AV) (h : Heap) : α :=
  pickF o s107 s109 (.b false) fun v12 => bkF o true v12 (loadNF o h 2 s9 fun v13 => eqiF Pq o 30 v13 (.agg [(.s 0 0), (.i .i64 0)]) fun v14 => pickF o v12 v14 (.b false) fun v15 => k v15 h) (pickF o v12 (.tup []) (.b false) fun v16 => k v16 h)
theorem f3_17_ok : Q Pq o c (cO (cA (cA (cB (cB (cB (cA (cA (cB (cB (cB (cB (cB (cB (cB b3))))))))))))))) (f3_16K o c n k w) 4 = fun t _ h => f3_17 o c n k (t 9) (t 107) (t 109) h := (q_seg 4 6 (by kernel_rfl) (q_guard 6 9 (5, true) (by kernel_rfl) (by kernel_rfl) (by kernel_rfl) rfl)).tk
noncomputable def f3_15 (s9 s10 s13 s103 : AV) (h : Heap) : α :=
  ifF o s103 (c 9 [] h fun v17 h => pk k v17 h <| bkF o true v17 (eqiF Pq o 3 s10 (.i .i64 12) fun v18 => f3_17 o c n k s9 v17 v18 h) (f3_17 o c n k s9 v17 (.tup []) h)) (f3_8 o c n k s10 s13 h)
theorem f3_15_ok : R Pq o c n (cB (cB (cB (cA (cA (cB (cB (cB (cB (cB (cB (cB b3)))))))))))) (blockK (cI (cA (cB (cB (cB (cB (cB (cB (cB b3))))))))) (f3_11K o c n k w)) = fun t _ h => f3_15 o c n k (t 9) (t 10) (t 13) (t 103) h := (c_cond (by kernel_rfl) (kseq rfl (r_start 2 (by kernel_rfl) (q_guard 2 4 (1, true) (by kernel_rfl) (by kernel_rfl) (by kernel_rfl) (f3_17_ok o c n k w)))) rfl).tk
noncomputable def f3_12 (s9 s10 s13 s90 : AV) (h : Heap) : α :=
  ifF o s90 (c 9 [] h fun v19 h => pk k v19 h <| bkF o true v19 (eqiF Pq o 3 s10 (.i .i64 11) fun v20 => f3_14 o c n k s9 v19 v20 h) (f3_14 o c n k s9 v19 (.tup []) h)) (eqiF Pq o 3 s13 (.i .i64 0) fun v21 => f3_15 o c n k s9 s10 s13 v21 h)
theorem f3_12_ok : R Pq o c n (cB (cA (cA (cB (cB (cB (cB (cB (cB (cB b3)))))))))) (blockK (cI (cA (cB (cB (cB (cB (cB (cB (cB b3))))))))) (f3_11K o c n k w)) = fun t _ h => f3_12 o c n k (t 9) (t 10) (t 13) (t 90) h := (c_cond (by kernel_rfl) (kseq rfl (r_start 2 (by kernel_rfl) (q_guard 2 4 (1, true) (by kernel_rfl) (by kernel_rfl) (by kernel_rfl) (f3_14_ok o c n k w)))) (kseq (f3_15_ok o c n k w) rfl)).tk
noncomputable def f3_7 (s9 s10 s12 s13 : AV) (h : Heap) : α :=
  eqiF Pq o 3 s12 (.i .i64 0) fun v22 => f3_12 o c n k s9 s10 s13 v22 h
theorem f3_7_ok : R Pq o c n (cB (cB (cB (cB (cB (cB (cB b3))))))) (kend Pq o c n w rs3 k) = fun t _ h => f3_7 o c n k (t 9) (t 10) (t 12) (t 13) h := (kseq (f3_8_ok o c n k w) (kblk (kseq (f3_12_ok o c n k w) rfl))).tk
noncomputable def f3_18K : Ex → K α := (nxK (fun t _ h => f3_7 o c n k (t 9) (t 10) (t 12) (t 13) h) (kend Pq o c n w rs3 k))
noncomputable def f3_21K (lp0 : AVs (Heap → α) 8) : Ex → K α := (nxK (fun t _ h => lp0 (t 7) (t 8) (t 9) (t 10) (t 11) (t 12) (t 13) (t 14) h) (blockK (cI (cB (cA (cB (cB (cB (cB (cB (cB b3))))))))) (f3_18K o c n k w)))
noncomputable def f3_23 {α : Type} (o : α) (c : Call' α) (n : Nat) (k : AV → Heap → α) (lp0 : AVs (Heap → α) 8) (s7 s8 s9 s10 s11 s12 s13 s14 : AV) (h : Heap) : α :=
  addF Pq o 3 s14 (.i .i64 1) fun v23 => lp0 s7 s8 s9 s10 s11 s12 s13 v23 h
theorem f3_23_ok (lp0 : AVs (Heap → α) 8) : R Pq o c n (cB (cB (cA (cA (cB (cA (cB (cB (cB (cB (cB (cB b3)))))))))))) (f3_21K o c n k w lp0) = fun t _ h => f3_23 o c n k lp0 (t 7) (t 8) (t 9) (t 10) (t 11) (t 12) (t 13) (t 14) h := by kernel_rfl
noncomputable def f3_24K (lp0 : AVs (Heap → α) 8) : Ex → K α := (nxK (fun t _ h => f3_23 o c n k lp0 (t 7) (t 8) (t 9) (t 10) (t 11) (t 12) (t 13) (t 14) h) (f3_21K o c n k w lp0))
noncomputable def f3_31 (lp0 : AVs (Heap → α) 8) (s7 s8 s9 s10 s11 s12 s13 s14 s89 : AV) (h : Heap) : α :=
  ifF o s89 (k (.b false) h) (f3_23 o c n k lp0 s7 s8 s9 s10 s11 s12 s13 s14 h)
theorem f3_31_ok (lp0 : AVs (Heap → α) 8) : R Pq o c n (cB (cB (cA (cB (cB (cB (cB (cB (cA (cA (cB (cA (cA (cB (cA (cB (cB (cB (cB (cB (cB b3))))))))))))))))))))) (blockK (cI (cA (cB (cA (cA (cB (cA (cB (cB (cB (cB (cB (cB b3))))))))))))) (f3_24K o c n k w lp0)) = fun t _ h => f3_31 o c n k lp0 (t 7) (t 8) (t 9) (t 10) (t 11) (t 12) (t 13) (t 14) (t 89) h := by kernel_rfl
noncomputable def f3_32K (lp0 : AVs (Heap → α) 8) : Ex → K α := (nxK (fun t _ h => f3_31 o c n k lp0 (t 7) (t 8) (t 9) (t 10) (t 11) (t 12) (t 13) (t 14) (t 89) h) (blockK (cI (cA (cB (cA (cA (cB (cA (cB (cB (cB (cB (cB (cB b3))))))))))))) (f3_24K o c n k w lp0)))
noncomputable def f3_30 (lp0 : AVs (Heap → α) 8) (s7 s8 s9 s10 s11 s12 s13 s14 : AV) (h : Heap) : α :=
  neiF Pq o 3 s10 (.i .i64 0) fun v24 => bkF o false v24 (loadNF o h 2 s9 fun v25 => layF o 0 (.s 1 65) [(.s 0 0), (.i .i64 0)] fun v26 => layF o 1 s14 v26 fun v27 => neiF Pq o 30 v25 (.agg v27) fun v28 => pickF o v24 (.b true) v28 fun v29 => f3_31 o c n k lp0 s7 s8 s9 s10 s11 s12 s13 s14 v29 h) (pickF o v24 (.b true) (.tup []) fun v30 => f3_31 o c n k lp0 s7 s8 s9 s10 s11 s12 s13 s14 v30 h)
theorem f3_30_ok (lp0 : AVs (Heap → α) 8) : R Pq o c n (cB (cA (cB (cB (cB (cB (cB (cA (cA (cB (cA (cA (cB (cA (cB (cB (cB (cB (cB (cB b3)))))))))))))))))))) (blockK (cI (cA (cB (cA (cA (cB (cA (cB (cB (cB (cB (cB (cB b3))))))))))))) (f3_24K o c n k w lp0)) = fun t _ h => f3_30 o c n k lp0 (t 7) (t 8) (t 9) (t 10) (t 11) (t 12) (t 13) (t 14) h := (kseq (f3_31_ok o c n k w lp0) (r_start 3 (by kernel_rfl) (q_guard 3 7 (2, false) (by kernel_rfl) (by kernel_rfl) (by kernel_rfl) rfl))).tk
noncomputable def f3_29 (lp0 : AVs (Heap → α) 8) (s7 s8 s9 s10 s11 s12 s13 s14 s79 : AV) (h : Heap) : α :=
  ifF o s79 (addF Pq o 3 s13 (.i .i64 1) fun v31 => f3_30 o c n k lp0 s7 s8 s9 s10 s11 s12 v31 s14 h) (f3_23 o c n k lp0 s7 s8 s9 s10 s11 s12 s13 s14 h)
theorem f3_29_ok (lp0 : AVs (Heap → α) 8) : R Pq o c n (cB (cB (cB (cB (cB (cA (cA (cB (cA (cA (cB (cA (cB (cB (cB (cB (cB (cB b3)))))))))))))))))) (blockK (cI (cA (cB (cA (cA (cB (cA (cB (cB (cB (cB (cB (cB b3))))))))))))) (f3_24K o c n k w lp0)) = fun t _ h => f3_29 o c n k lp0 (t 7) (t 8) (t 9) (t 10) (t 11) (t 12) (t 13) (t 14) (t 79) h := (c_cond (by kernel_rfl) (kseq (f3_30_ok o c n k w lp0) rfl) rfl).tk
noncomputable def f3_28 (lp0 : AVs (Heap → α) 8) (s7 s8 s9 s10 s11 s12 s13 s14 s15 : AV) (h : Heap) : α :=
  f3_29 o c n k lp0 s7 s8 s9 s10 s11 s12 s13 s14 s15 h
theorem f3_28_ok (lp0 : AVs (Heap → α) 8) : R Pq o c n (cB (cB (cB (cB (cA (cA (cB (cA (cA (cB (cA (cB (cB (cB (cB (cB (cB b3))))))))))))))))) (blockK (cI (cA (cB (cA (cA (cB (cA (cB (cB (cB (cB (cB (cB b3))))))))))))) (f3_24K o c n k w lp0)) = fun t _ h => f3_28 o c n k lp0 (t 7) (t 8) (t 9) (t 10) (t 11) (t 12) (t 13) (t 14) (t 15) h := (kseq (f3_29_ok o c n k w lp0) rfl).tk
noncomputable def f3_33K (lp0 : AVs (Heap → α) 8) : Ex → K α := (nxK (fun t _ h => f3_28 o c n k lp0 (t 7) (t 8) (t 9) (t 10) (t 11) (t 12) (t 13) (t 14) (t 15) h) (blockK (cI (cA (cB (cA (cA (cB (cA (cB (cB (cB (cB (cB (cB b3))))))))))))) (f3_24K o c n k w lp0)))
noncomputable def f3_36K (lp0 : AVs (Heap → α) 8) (lp1 : AVs (Heap → α) 10) : Ex → K α := (nxK (fun t _ h => lp1 (t 7) (t 8) (t 9) (t 10) (t 11) (t 12) (t 13) (t 14) (t 15) (t 16) h) (blockK (cI (cB (cA (cB (cB (cB (cA (cA (cB (cA (cA (cB (cA (cB (cB (cB (cB (cB (cB b3))))))))))))))))))) (f3_33K o c n k w lp0)))
noncomputable def f3_38K (lp0 : AVs (Heap → α) 8) (lp1 : AVs (Heap → α) 10) : Ex → K α := (nxK (R Pq o c n (cB (cB (cA (cA (cB (cA (cB (cB (cB (cA (cA (cB (cA (cA (cB (cA (cB (cB (cB (cB (cB (cB b3)))))))))))))))))))))) (f3_36K o c n k w lp0 lp1)) (f3_36K o c n k w lp0 lp1))
noncomputable def f3_58 {α : Type} (o : α) (c : Call' α) (n : Nat) (k : AV → Heap → α) (lp0 : AVs (Heap → α) 8) (lp1 : AVs (Heap → α) 10) (base : Nat) (s7 s8 s9 s10 s11 s12 s13 s14 s16 s57 s77 : AV) (h : Heap) : α :=
  pickF o s57 s77 (.b false) fun v32 => hb h.shut fun h => addF Pq o 3 s16 (.i .i64 1) fun v33 => lp1 s7 s8 s9 s10 s11 s12 s13 s14 v32 v33 h
theorem f3_58_ok (lp0 : AVs (Heap → α) 8) (lp1 : AVs (Heap → α) 10) (base : Nat) : QD Pq o c (cO (cA (cA (cB (cA (cA (cB (cA (cB (cB (cB (cA (cA (cB (cA (cA (cB (cA (cB (cB (cB (cB (cB (cB b3)))))))))))))))))))))))) base ((blockK (cI (cA (cB (cA (cA (cB (cA (cB (cB (cB (cA (cA (cB (cA (cA (cB (cA (cB (cB (cB (cB (cB (cB b3))))))))))))))))))))))) (f3_38K o c n k w lp0 lp1))) 22 = fun t _ h => f3_58 o c n k lp0 lp1 base (t 7) (t 8) (t 9) (t 10) (t 11) (t 12) (t 13) (t 14) (t 16) (t 57) (t 77) h := by kernel_rfl
noncomputable def f3_57 (lp0 : AVs (Heap → α) 8) (lp1 : AVs (Heap → α) 10) (base : Nat) (s7 s8 s9 s10 s11 s12 s13 s14 s16 s57 s66 s76 : AV) (h : Heap) : α :=
  bkF o true s57 (pickF o s66 (.b true) s76 fun v34 => f3_58 o c n k lp0 lp1 base s7 s8 s9 s10 s11 s12 s13 s14 s16 s57 v34 (h.look 0)) (f3_58 o c n k lp0 lp1 base s7 s8 s9 s10 s11 s12 s13 s14 s16 s57 (.tup []) (h.look 0))
theorem f3_57_ok (lp0 : AVs (Heap → α) 8) (lp1 : AVs (Heap → α) 10) (base : Nat) : QD Pq o c (cO (cA (cA (cB (cA (cA (cB (cA (cB (cB (cB (cA (cA (cB (cA (cA (cB (cA (cB (cB (cB (cB (cB (cB b3)))))))))))))))))))))))) base ((blockK (cI (cA (cB (cA (cA (cB (cA (cB (cB (cB (cA (cA (cB (cA (cA (cB (cA (cB (cB (cB (cB (cB (cB b3))))))))))))))))))))))) (f3_38K o c n k w lp0 lp1))) 21 = fun t _ h => f3_57 o c n k lp0 lp1 base (t 7) (t 8) (t 9) (t 10) (t 11) (t 12) (t 13) (t 14) (t 16) (t 57) (t 66) (t 76) h := (qd_seg 21 22 (by kernel_rfl) (f3_58_ok o c n k w lp0 lp1 base)).tk
noncomputable def f3_56 (lp0 : AVs (Heap → α) 8) (lp1 : AVs (Heap → α) 10) (base : Nat) (s7 s8 s9 s10 s11 s12 s13 s14 s16 s57 s66 s67 s71 s75 : AV) (h : Heap) : α :=
  bkF o false s66 (callD o c [] 8 [s67, s71, s75] h fun v35 h => pnF v35 (fun x => hb h.shut fun hd => k x.pn hd) <| f3_57 o c n k lp0 lp1 base s7 s8 s9 s10 s11 s12 s13 s14 s16 s57 s66 v35 h) (f3_57 o c n k lp0 lp1 base s7 s8 s9 s10 s11 s12 s13 s14 s16 s57 s66 (.tup []) h)
theorem f3_56_ok (lp0 : AVs (Heap → α) 8) (lp1 : AVs (Heap → α) 10) (base : Nat) : QD Pq o c (cO (cA (cA (cB (cA (cA (cB (cA (cB (cB (cB (cA (cA (cB (cA (cA (cB (cA (cB (cB (cB (cB (cB (cB b3)))))))))))))))))))))))) base ((blockK (cI (cA (cB (cA (cA (cB (cA (cB (cB (cB (cA (cA (cB (cA (cA (cB (cA (cB (cB (cB (cB (cB (cB b3))))))))))))))))))))))) (f3_38K o c n k w lp0 lp1))) 20 = fun t _ h => f3_56 o c n k lp0 lp1 base (t 7) (t 8) (t 9) (t 10) (t 11) (t 12) (t 13) (t 14) (t 16) (t 57) (t 66) (t 67) (t 71) (t 75) h := (qd_seg 20 21 (by kernel_rfl) (f3_57_ok o c n k w lp0 lp1 base)).tk
noncomputable def f3_55 (lp0 : AVs (Heap → α) 8) (lp1 : AVs (Heap → α) 10) (base : Nat) (s7 s8 s9 s10 s11 s12 s13 s14 s16 s57 s66 s67 s71 s74 : AV) (h : Heap) : α :=
  rootF o s74 s11 <| bkF o false s66 (loadNF o (h.look 460799) 6 s74 fun v36 => f3_56 o c n k lp0 lp1 base s7 s8 s9 s10 s11 s12 s13 s14 s16 s57 s66 s67 s71 v36 (h.look 0)) (f3_56 o c n k lp0 lp1 base s7 s8 s9 s10 s11 s12 s13 s14 s16 s57 s66 s67 s71 (.tup []) (h.look 0))
theorem f3_55_ok (lp0 : AVs (Heap → α) 8) (lp1 : AVs (Heap → α) 10) (base : Nat) : QD Pq o c (cO (cA (cA (cB (cA (cA (cB (cA (cB (cB (cB (cA (cA (cB (cA (cA (cB (cA (cB (cB (cB (cB (cB (cB b3)))))))))))))))))))))))) base ((blockK (cI (cA (cB (cA (cA (cB (cA (cB (cB (cB (cA (cA (cB (cA (cA (cB (cA (cB (cB (cB (cB (cB (cB b3))))))))))))))))))))))) (f3_38K o c n k w lp0 lp1))) 19 = fun t _ h => f3_55 o c n k lp0 lp1 base (t 7) (t 8) (t 9) (t 10) (t 11) (t 12) (t 13) (t 14) (t 16) (t 57) (t 66) (t 67) (t 71) (t 74) h := (qd_seg 19 20 (by kernel_rfl) (f3_56_ok o c n k w lp0 lp1 base)).tk
noncomputable def f3_54 (lp0 : AVs (Heap → α) 8) (lp1 : AVs (Heap → α) 10) (base : Nat) (s7 s8 s9 s10 s11 s12 s13 s14 s16 s57 s66 s67 s71 s72 s73 : AV) (h : Heap) : α :=
  bkF o false s66 (ixF o 6 s72 s73 fun v37 => f3_55 o c n k lp0 lp1 base s7 s8 s9 s10 s11 s12 s13 s14 s16 s57 s66 s67 s71 v37 (h.look 0)) (f3_55 o c n k lp0 lp1 base s7 s8 s9 s10 s11 s12 s13 s14 s16 s57 s66 s67 s71 (.tup []) (h.look 0))
theorem f3_54_ok (lp0 : AVs (Heap → α) 8) (lp1 : AVs (Heap → α) 10) (base : Nat) : QD Pq o c (cO (cA (cA (cB (cA (cA (cB (cA (cB (cB (cB (cA (cA (cB (cA (cA (cB (cA (cB (cB (cB (cB (cB (cB b3)))))))))))))))))))))))) base ((blockK (cI (cA (cB (cA (cA (cB (cA (cB (cB (cB (cA (cA (cB (cA (cA (cB (cA (cB (cB (cB (cB (cB (cB b3))))))))))))))))))))))) (f3_38K o c n k w lp0 lp1))) 18 = fun t _ h => f3_54 o c n k lp0 lp1 base (t 7) (t 8) (t 9) (t 10) (t 11) (t 12) (t 13) (t 14) (t 16) (t 57) (t 66) (t 67) (t 71) (t 72) (t 73) h := (qd_seg 18 19 (by kernel_rfl) (f3_55_ok o c n k w lp0 lp1 base)).tk
noncomputable def f3_53 (lp0 : AVs (Heap → α) 8) (lp1 : AVs (Heap → α) 10) (base : Nat) (s7 s8 s9 s10 s11 s12 s13 s14 s16 s57 s66 s67 s71 s72 : AV) (h : Heap) : α :=
  bkF o false s66 (f3_54 o c n k lp0 lp1 base s7 s8 s9 s10 s11 s12 s13 s14 s16 s57 s66 s67 s71 s72 s16 (h.look 0)) (f3_54 o c n k lp0 lp1 base s7 s8 s9 s10 s11 s12 s13 s14 s16 s57 s66 s67 s71 s72 (.tup []) (h.look 0))
theorem f3_53_ok (lp0 : AVs (Heap → α) 8) (lp1 : AVs (Heap → α) 10) (base : Nat) : QD Pq o c (cO (cA (cA (cB (cA (cA (cB (cA (cB (cB (cB (cA (cA (cB (cA (cA (cB (cA (cB (cB (cB (cB (cB (cB b3)))))))))))))))))))))))) base ((blockK (cI (cA (cB (cA (cA (cB (cA (cB (cB (cB (cA (cA (cB (cA (cA (cB (cA (cB (cB (cB (cB (cB (cB b3))))))))))))))))))))))) (f3_38K o c n k w lp0 lp1))) 17 = fun t _ h => f3_53 o c n k lp0 lp1 base (t 7) (t 8) (t 9) (t 10) (t 11) (t 12) (t 13) (t 14) (t 16) (t 57) (t 66) (t 67) (t 71) (t 72) h := (qd_seg 17 18 (by kernel_rfl) (f3_54_ok o c n k w lp0 lp1 base)).tk
noncomputable def f3_52 (lp0 : AVs (Heap → α) 8) (lp1 : AVs (Heap → α) 10) (base : Nat) (s7 s8 s9 s10 s11 s12 s13 s14 s16 s57 s66 s67 s71 : AV) (h : Heap) : α :=
  bkF o false s66 (f3_53 o c n k lp0 lp1 base s7 s8 s9 s10 s11 s12 s13 s14 s16 s57 s66 s67 s71 s11 (h.look 0)) (f3_53 o c n k lp0 lp1 base s7 s8 s9 s10 s11 s12 s13 s14 s16 s57 s66 s67 s71 (.tup []) (h.look 0))
theorem f3_52_ok (lp0 : AVs (Heap → α) 8) (lp1 : AVs (Heap → α) 10) (base : Nat) : QD Pq o c (cO (cA (cA (cB (cA (cA (cB (cA (cB (cB (cB (cA (cA (cB (cA (cA (cB (cA (cB (cB (cB (cB (cB (cB b3)))))))))))))))))))))))) base ((blockK (cI (cA (cB (cA (cA (cB (cA (cB (cB (cB (cA (cA (cB (cA (cA (cB (cA (cB (cB (cB (cB (cB (cB b3))))))))))))))))))))))) (f3_38K o c n k w lp0 lp1))) 16 = fun t _ h => f3_52 o c n k lp0 lp1 base (t 7) (t 8) (t 9) (t 10) (t 11) (t 12) (t 13) (t 14) (t 16) (t 57) (t 66) (t 67) (t 71) h := (qd_seg 16 17 (by kernel_rfl) (f3_53_ok o c n k w lp0 lp1 base)).tk
noncomputable def f3_51 (lp0 : AVs (Heap → α) 8) (lp1 : AVs (Heap → α) 10) (base : Nat) (s7 s8 s9 s10 s11 s12 s13 s14 s16 s57 s66 s67 s70 : AV) (h : Heap) : α :=
  rootF o s70 s11 <| bkF o false s66 (loadNF o (h.look 30719) 6 s70 fun v38 => f3_52 o c n k lp0 lp1 base s7 s8 s9 s10 s11 s12 s13 s14 s16 s57 s66 s67 v38 (h.look 0)) (f3_52 o c n k lp0 lp1 base s7 s8 s9 s10 s11 s12 s13 s14 s16 s57 s66 s67 (.tup []) (h.look 0))
theorem f3_51_ok (lp0 : AVs (Heap → α) 8) (lp1 : AVs (Heap → α) 10) (base : Nat) : QD Pq o c (cO (cA (cA (cB (cA (cA (cB (cA (cB (cB (cB (cA (cA (cB (cA (cA (cB (cA (cB (cB (cB (cB (cB (cB b3)))))))))))))))))))))))) base ((blockK (cI (cA (cB (cA (cA (cB (cA (cB (cB (cB (cA (cA (cB (cA (cA (cB (cA (cB (cB (cB (cB (cB (cB b3))))))))))))))))))))))) (f3_38K o c n k w lp0 lp1))) 15 = fun t _ h => f3_51 o c n k lp0 lp1 base (t 7) (t 8) (t 9) (t 10) (t 11) (t 12) (t 13) (t 14) (t 16) (t 57) (t 66) (t 67) (t 70) h := (qd_seg 15 16 (by kernel_rfl) (f3_52_ok o c n k w lp0 lp1 base)).tk
noncomputable def f3_50 (lp0 : AVs (Heap → α) 8) (lp1 : AVs (Heap → α) 10) (base : Nat) (s7 s8 s9 s10 s11 s12 s13 s14 s16 s57 s66 s67 s68 s69 : AV) (h : Heap) : α :=
  bkF o false s66 (ixF o 6 s68 s69 fun v39 => f3_51 o c n k lp0 lp1 base s7 s8 s9 s10 s11 s12 s13 s14 s16 s57 s66 s67 v39 (h.look 0)) (f3_51 o c n k lp0 lp1 base s7 s8 s9 s10 s11 s12 s13 s14 s16 s57 s66 s67 (.tup []) (h.look 0))
theorem f3_50_ok (lp0 : AVs (Heap → α) 8) (lp1 : AVs (Heap → α) 10) (base : Nat) : QD Pq o c (cO (cA (cA (cB (cA (cA (cB (cA (cB (cB (cB (cA (cA (cB (cA (cA (cB (cA (cB (cB (cB (cB (cB (cB b3)))))))))))))))))))))))) base ((blockK (cI (cA (cB (cA (cA (cB (cA (cB (cB (cB (cA (cA (cB (cA (cA (cB (cA (cB (cB (cB (cB (cB (cB b3))))))))))))))))))))))) (f3_38K o c n k w lp0 lp1))) 14 = fun t _ h => f3_50 o c n k lp0 lp1 base (t 7) (t 8) (t 9) (t 10) (t 11) (t 12) (t 13) (t 14) (t 16) (t 57) (t 66) (t 67) (t 68) (t 69) h := (qd_seg 14 15 (by kernel_rfl) (f3_51_ok o c n k w lp0 lp1 base)).tk
noncomputable def f3_49 (lp0 : AVs (Heap → α) 8) (lp1 : AVs (Heap → α) 10) (base : Nat) (s7 s8 s9 s10 s11 s12 s13 s14 s16 s57 s66 s67 s68 : AV) (h : Heap) : α :=
  bkF o false s66 (f3_50 o c n k lp0 lp1 base s7 s8 s9 s10 s11 s12 s13 s14 s16 s57 s66 s67 s68 s14 (h.look 0)) (f3_50 o c n k lp0 lp1 base s7 s8 s9 s10 s11 s12 s13 s14 s16 s57 s66 s67 s68 (.tup []) (h.look 0))
theorem f3_49_ok (lp0 : AVs (Heap → α) 8) (lp1 : AVs (Heap → α) 10) (base : Nat) : QD Pq o c (cO (cA (cA (cB (cA (cA (cB (cA (cB (cB (cB (cA (cA (cB (cA (cA (cB (cA (cB (cB (cB (cB (cB (cB b3)))))))))))))))))))))))) base ((blockK (cI (cA (cB (cA (cA (cB (cA (cB (cB (cB (cA (cA (cB (cA (cA (cB (cA (cB (cB (cB (cB (cB (cB b3))))))))))))))))))))))) (f3_38K o c n k w lp0 lp1))) 13 = fun t _ h => f3_49 o c n k lp0 lp1 base (t 7) (t 8) (t 9) (t 10) (t 11) (t 12) (t 13) (t 14) (t 16) (t 57) (t 66) (t 67) (t 68) h := (qd_seg 13 14 (by kernel_rfl) (f3_50_ok o c n k w lp0 lp1 base)).tk
noncomputable def f3_48 (lp0 : AVs (Heap → α) 8) (lp1 : AVs (Heap → α) 10) (base : Nat) (s7 s8 s9 s10 s11 s12 s13 s14 s16 s57 s66 s67 : AV) (h : Heap) : α :=
  bkF o false s66 (f3_49 o c n k lp0 lp1 base s7 s8 s9 s10 s11 s12 s13 s14 s16 s57 s66 s67 s11 (h.look 0)) (f3_49 o c n k lp0 lp1 base s7 s8 s9 s10 s11 s12 s13 s14 s16 s57 s66 s67 (.tup []) (h.look 0))
theorem f3_48_ok (lp0 : AVs (Heap → α) 8) (lp1 : AVs (Heap → α) 10) (base : Nat) : QD Pq o c (cO (cA (cA (cB (cA (cA (cB (cA (cB (cB (cB (cA (cA (cB (cA (cA (cB (cA (cB (cB (cB (cB (cB (cB b3)))))))))))))))))))))))) base ((blockK (cI (cA (cB (cA (cA (cB (cA (cB (cB (cB (cA (cA (cB (cA (cA (cB (cA (cB (cB (cB (cB (cB (cB b3))))))))))))))))))))))) (f3_38K o c n k w lp0 lp1))) 12 = fun t _ h => f3_48 o c n k lp0 lp1 base (t 7) (t 8) (t 9) (t 10) (t 11) (t 12) (t 13) (t 14) (t 16) (t 57) (t 66) (t 67) h := (qd_seg 12 13 (by kernel_rfl) (f3_49_ok o c n k w lp0 lp1 base)).tk
noncomputable def f3_47 (lp0 : AVs (Heap → α) 8) (lp1 : AVs (Heap → α) 10) (base : Nat) (s7 s8 s9 s10 s11 s12 s13 s14 s16 s57 s66 : AV) (h : Heap) : α :=
  bkF o false s66 (loadNF o (h.look 2047) 1 s7 fun v40 => f3_48 o c n k lp0 lp1 base s7 s8 s9 s10 s11 s12 s13 s14 s16 s57 s66 v40 (h.look 0)) (f3_48 o c n k lp0 lp1 base s7 s8 s9 s10 s11 s12 s13 s14 s16 s57 s66 (.tup []) (h.look 0))
theorem f3_47_ok (lp0 : AVs (Heap → α) 8) (lp1 : AVs (Heap → α) 10) (base : Nat) : QD Pq o c (cO (cA (cA (cB (cA (cA (cB (cA (cB (cB (cB (cA (cA (cB (cA (cA (cB (cA (cB (cB (cB (cB (cB (cB b3)))))))))))))))))))))))) base ((blockK (cI (cA (cB (cA (cA (cB (cA (cB (cB (cB (cA (cA (cB (cA (cA (cB (cA (cB (cB (cB (cB (cB (cB b3))))))))))))))))))))))) (f3_38K o c n k w lp0 lp1))) 11 = fun t _ h => f3_47 o c n k lp0 lp1 base (t 7) (t 8) (t 9) (t 10) (t 11) (t 12) (t 13) (t 14) (t 16) (t 57) (t 66) h := (qd_seg 11 12 (by kernel_rfl) (f3_48_ok o c n k w lp0 lp1 base)).tk
noncomputable def f3_46 (lp0 : AVs (Heap → α) 8) (lp1 : AVs (Heap → α) 10) (base : Nat) (s7 s8 s9 s10 s11 s12 s13 s14 s16 s57 s65 : AV) (h : Heap) : α :=
  bkF o true s57 (f3_47 o c n k lp0 lp1 base s7 s8 s9 s10 s11 s12 s13 s14 s16 s57 s65 (h.look 0)) (f3_47 o c n k lp0 lp1 base s7 s8 s9 s10 s11 s12 s13 s14 s16 s57 (.tup []) (h.look 0))
theorem f3_46_ok (lp0 : AVs (Heap → α) 8) (lp1 : AVs (Heap → α) 10) (base : Nat) : QD Pq o c (cO (cA (cA (cB (cA (cA (cB (cA (cB (cB (cB (cA (cA (cB (cA (cA (cB (cA (cB (cB (cB (cB (cB (cB b3)))))))))))))))))))))))) base ((blockK (cI (cA (cB (cA (cA (cB (cA (cB (cB (cB (cA (cA (cB (cA (cA (cB (cA (cB (cB (cB (cB (cB (cB b3))))))))))))))))))))))) (f3_38K o c n k w lp0 lp1))) 10 = fun t _ h => f3_46 o c n k lp0 lp1 base (t 7) (t 8) (t 9) (t 10) (t 11) (t 12) (t 13) (t 14) (t 16) (t 57) (t 65) h := (qd_seg 10 11 (by kernel_rfl) (f3_47_ok o c n k w lp0 lp1 base)).tk
noncomputable def f3_45 (lp0 : AVs (Heap → α) 8) (lp1 : AVs (Heap → α) 10) (base : Nat) (s7 s8 s9 s10 s11 s12 s13 s14 s16 s57 s64 : AV) (h : Heap) : α :=
  bkF o true s57 (notF o s64 fun v41 => f3_46 o c n k lp0 lp1 base s7 s8 s9 s10 s11 s12 s13 s14 s16 s57 v41 (h.look 0)) (f3_46 o c n k lp0 lp1 base s7 s8 s9 s10 s11 s12 s13 s14 s16 s57 (.tup []) (h.look 0))
theorem f3_45_ok (lp0 : AVs (Heap → α) 8) (lp1 : AVs (Heap → α) 10) (base : Nat) : QD Pq o c (cO (cA (cA (cB (cA (cA (cB (cA (cB (cB (cB (cA (cA (cB (cA (cA (cB (cA (cB (cB (cB (cB (cB (cB b3)))))))))))))))))))))))) base ((blockK (cI (cA (cB (cA (cA (cB (cA (cB (cB (cB (cA (cA (cB (cA (cA (cB (cA (cB (cB (cB (cB (cB (cB b3))))))))))))))))))))))) (f3_38K o c n k w lp0 lp1))) 9 = fun t _ h => f3_45 o c n k lp0 lp1 base (t 7) (t 8) (t 9) (t 10) (t 11) (t 12) (t 13) (t 14) (t 16) (t 57) (t 64) h := (qd_seg 9 10 (by kernel_rfl) (f3_46_ok o c n k w lp0 lp1 base)).tk
noncomputable def f3_44 (lp0 : AVs (Heap → α) 8) (lp1 : AVs (Heap → α) 10) (base : Nat) (s7 s8 s9 s10 s11 s12 s13 s14 s16 s57 s58 s62 s63 : AV) (h : Heap) : α :=
  bkF o true s57 (callD o c [] 7 [s58, s62, s63] h fun v42 h => pnF v42 (fun x => hb h.shut fun hd => k x.pn hd) <| f3_45 o c n k lp0 lp1 base s7 s8 s9 s10 s11 s12 s13 s14 s16 s57 v42 h) (f3_45 o c n k lp0 lp1 base s7 s8 s9 s10 s11 s12 s13 s14 s16 s57 (.tup []) h)
theorem f3_44_ok (lp0 : AVs (Heap → α) 8) (lp1 : AVs (Heap → α) 10) (base : Nat) : QD Pq o c (cO (cA (cA (cB (cA (cA (cB (cA (cB (cB (cB (cA (cA (cB (cA (cA (cB (cA (cB (cB (cB (cB (cB (cB b3)))))))))))))))))))))))) base ((blockK (cI (cA (cB (cA (cA (cB (cA (cB (cB (cB (cA (cA (cB (cA (cA (cB (cA (cB (cB (cB (cB (cB (cB b3))))))))))))))))))))))) (f3_38K o c n k w lp0 lp1))) 8 = fun t _ h => f3_44 o c n k lp0 lp1 base (t 7) (t 8) (t 9) (t 10) (t 11) (t 12) (t 13) (t 14) (t 16) (t 57) (t 58) (t 62) (t 63) h := (qd_seg 8 9 (by kernel_rfl) (f3_45_ok o c n k w lp0 lp1 base)).tk
noncomputable def f3_43 (lp0 : AVs (Heap → α) 8) (lp1 : AVs (Heap → α) 10) (base : Nat) (s7 s8 s9 s10 s11 s12 s13 s14 s16 s57 s58 s62 : AV) (h : Heap) : α :=
  bkF o true s57 (f3_44 o c n k lp0 lp1 base s7 s8 s9 s10 s11 s12 s13 s14 s16 s57 s58 s62 s8 (h.look 0)) (f3_44 o c n k lp0 lp1 base s7 s8 s9 s10 s11 s12 s13 s14 s16 s57 s58 s62 (.tup []) (h.look 0))
theorem f3_43_ok (lp0 : AVs (Heap → α) 8) (lp1 : AVs (Heap → α) 10) (base : Nat) : QD Pq o c (cO (cA (cA (cB (cA (cA (cB (cA (cB (cB (cB (cA (cA (cB (cA (cA (cB (cA (cB (cB (cB (cB (cB (cB b3)))))))))))))))))))))))) base ((blockK (cI (cA (cB (cA (cA (cB (cA (cB (cB (cB (cA (cA (cB (cA (cA (cB (cA (cB (cB (cB (cB (cB (cB b3))))))))))))))))))))))) (f3_38K o c n k w lp0 lp1))) 7 = fun t _ h => f3_43 o c n k lp0 lp1 base (t 7) (t 8) (t 9) (t 10) (t 11) (t 12) (t 13) (t 14) (t 16) (t 57) (t 58) (t 62) h := (qd_seg 7 8 (by kernel_rfl) (f3_44_ok o c n k w lp0 lp1 base)).tk
noncomputable def f3_42 (lp0 : AVs (Heap → α) 8) (lp1 : AVs (Heap → α) 10) (base : Nat) (s7 s8 s9 s10 s11 s12 s13 s14 s16 s57 s58 s61 : AV) (h : Heap) : α :=
  rootF o s61 s11 <| bkF o true s57 (loadNF o (h.look 59) 6 s61 fun v43 => f3_43 o c n k lp0 lp1 base s7 s8 s9 s10 s11 s12 s13 s14 s16 s57 s58 v43 (h.look 0)) (f3_43 o c n k lp0 lp1 base s7 s8 s9 s10 s11 s12 s13 s14 s16 s57 s58 (.tup []) (h.look 0))
theorem f3_42_ok (lp0 : AVs (Heap → α) 8) (lp1 : AVs (Heap → α) 10) (base : Nat) : QD Pq o c (cO (cA (cA (cB (cA (cA (cB (cA (cB (cB (cB (cA (cA (cB (cA (cA (cB (cA (cB (cB (cB (cB (cB (cB b3)))))))))))))))))))))))) base ((blockK (cI (cA (cB (cA (cA (cB (cA (cB (cB (cB (cA (cA (cB (cA (cA (cB (cA (cB (cB (cB (cB (cB (cB b3))))))))))))))))))))))) (f3_38K o c n k w lp0 lp1))) 6 = fun t _ h => f3_42 o c n k lp0 lp1 base (t 7) (t 8) (t 9) (t 10) (t 11) (t 12) (t 13) (t 14) (t 16) (t 57) (t 58) (t 61) h := (qd_seg 6 7 (by kernel_rfl) (f3_43_ok o c n k w lp0 lp1 base)).tk
noncomputable def f3_41 (lp0 : AVs (Heap → α) 8) (lp1 : AVs (Heap → α) 10) (base : Nat) (s7 s8 s9 s10 s11 s12 s13 s14 s16 s57 s58 s59 s60 : AV) (h : Heap) : α :=
  bkF o true s57 (ixF o 6 s59 s60 fun v44 => f3_42 o c n k lp0 lp1 base s7 s8 s9 s10 s11 s12 s13 s14 s16 s57 s58 v44 (h.look 0)) (f3_42 o c n k lp0 lp1 base s7 s8 s9 s10 s11 s12 s13 s14 s16 s57 s58 (.tup []) (h.look 0))
theorem f3_41_ok (lp0 : AVs (Heap → α) 8) (lp1 : AVs (Heap → α) 10) (base : Nat) : QD Pq o c (cO (cA (cA (cB (cA (cA (cB (cA (cB (cB (cB (cA (cA (cB (cA (cA (cB (cA (cB (cB (cB (cB (cB (cB b3)))))))))))))))))))))))) base ((blockK (cI (cA (cB (cA (cA (cB (cA (cB (cB (cB (cA (cA (cB (cA (cA (cB (cA (cB (cB (cB (cB (cB (cB b3))))))))))))))))))))))) (f3_38K o c n k w lp0 lp1))) 5 = fun t _ h => f3_41 o c n k lp0 lp1 base (t 7) (t 8) (t 9) (t 10) (t 11) (t 12) (t 13) (t 14) (t 16) (t 57) (t 58) (t 59) (t 60) h := (qd_seg 5 6 (by kernel_rfl) (f3_42_ok o c n k w lp0 lp1 base)).tk
noncomputable def f3_40 (lp0 : AVs (Heap → α) 8) (lp1 : AVs (Heap → α) 10) (base : Nat) (s7 s8 s9 s10 s11 s12 s13 s14 s16 s57 s58 s59 : AV) (h : Heap) : α :=
  bkF o true s57 (f3_41 o c n k lp0 lp1 base s7 s8 s9 s10 s11 s12 s13 s14 s16 s57 s58 s59 s16 (h.look 0)) (f3_41 o c n k lp0 lp1 base s7 s8 s9 s10 s11 s12 s13 s14 s16 s57 s58 s59 (.tup []) (h.look 0))
theorem f3_40_ok (lp0 : AVs (Heap → α) 8) (lp1 : AVs (Heap → α) 10) (base : Nat) : QD Pq o c (cO (cA (cA (cB (cA (cA (cB (cA (cB (cB (cB (cA (cA (cB (cA (cA (cB (cA (cB (cB (cB (cB (cB (cB b3)))))))))))))))))))))))) base ((blockK (cI (cA (cB (cA (cA (cB (cA (cB (cB (cB (cA (cA (cB (cA (cA (cB (cA (cB (cB (cB (cB (cB (cB b3))))))))))))))))))))))) (f3_38K o c n k w lp0 lp1))) 4 = fun t _ h => f3_40 o c n k lp0 lp1 base (t 7) (t 8) (t 9) (t 10) (t 11) (t 12) (t 13) (t 14) (t 16) (t 57) (t 58) (t 59) h := (qd_seg 4 5 (by kernel_rfl) (f3_41_ok o c n k w lp0 lp1 base)).tk
noncomputable def f3_39 (lp0 : AVs (Heap → α) 8) (lp1 : AVs (Heap → α) 10) (base : Nat) (s7 s8 s9 s10 s11 s12 s13 s14 s16 s57 s58 : AV) (h : Heap) : α :=
  bkF o true s57 (f3_40 o c n k lp0 lp1 base s7 s8 s9 s10 s11 s12 s13 s14 s16 s57 s58 s11 (h.look 0)) (f3_40 o c n k lp0 lp1 base s7 s8 s9 s10 s11 s12 s13 s14 s16 s57 s58 (.tup []) (h.look 0))
theorem f3_39_ok (lp0 : AVs (Heap → α) 8) (lp1 : AVs (Heap → α) 10) (base : Nat) : QD Pq o c (cO (cA (cA (cB (cA (cA (cB (cA (cB (cB (cB (cA (cA (cB (cA (cA (cB (cA (cB (cB (cB (cB (cB (cB b3)))))))))))))))))))))))) base ((blockK (cI (cA (cB (cA (cA (cB (cA (cB (cB (cB (cA (cA (cB (cA (cA (cB (cA (cB (cB (cB (cB (cB (cB b3))))))))))))))))))))))) (f3_38K o c n k w lp0 lp1))) 3 = fun t _ h => f3_39 o c n k lp0 lp1 base (t 7) (t 8) (t 9) (t 10) (t 11) (t 12) (t 13) (t 14) (t 16) (t 57) (t 58) h := (qd_seg 3 4 (by kernel_rfl) (f3_40_ok o c n k w lp0 lp1 base)).tk
noncomputable def f3_37 (lp0 : AVs (Heap → α) 8) (lp1 : AVs (Heap → α) 10) (s7 s8 s9 s10 s11 s12 s13 s14 s15 s16 : AV) (h : Heap) : α :=
  dreg o h 24 fun base h => bkF o true s15 (loadNF o (h.look 3) 1 s7 fun v45 => f3_39 o c n k lp0 lp1 base s7 s8 s9 s10 s11 s12 s13 s14 s16 s15 v45 (h.look 0)) (f3_39 o c n k lp0 lp1 base s7 s8 s9 s10 s11 s12 s13 s14 s16 s15 (.tup []) (h.look 0))
theorem f3_37_ok (lp0 : AVs (Heap → α) 8) (lp1 : AVs (Heap → α) 10) : R Pq o c n (cB (cA (cA (cB (cA (cB (cB (cB (cA (cA (cB (cA (cA (cB (cA (cB (cB (cB (cB (cB (cB b3))))))))))))))))))))) (f3_36K o c n k w lp0 lp1) = fun t _ h => f3_37 o c n k lp0 lp1 (t 7) (t 8) (t 9) (t 10) (t 11) (t 12) (t 13) (t 14) (t 15) (t 16) h := (kseq rfl (kblk (r_startD 3 (by kernel_rfl) (by kernel_rfl) (X := fun base => fun t _ h => f3_39 o c n k lp0 lp1 base (t 7) (t 8) (t 9) (t 10) (t 11) (t 12) (t 13) (t 14) (t 16) (t 57) (t 58) h) (fun base => f3_39_ok o c n k w lp0 lp1 base)))).tk
noncomputable def f3_35 (lp0 : AVs (Heap → α) 8) (m : Nat) : AVs (Heap → α) 10 :=
  Nat.rec (motive := fun _ => AVs (Heap → α) 10) (fun _ _ _ _ _ _ _ _ _ _ _ => o) (fun _ lp1 s7 s8 s9 s10 s11 s12 s13 s14 s15 s16 h => lenF o s11 fun v46 => lssF Pq o 3 s16 v46 fun v47 => ifF o v47 (f3_37 o c n k lp0 lp1 s7 s8 s9 s10 s11 s12 s13 s14 s15 s16 h) (f3_28 o c n k lp0 s7 s8 s9 s10 s11 s12 s13 s14 s15 h)) m
theorem f3_35_ok (lp0 : AVs (Heap → α) 8) : R Pq o c n (cA (cB (cA (cB (cB (cB (cA (cA (cB (cA (cA (cB (cA (cB (cB (cB (cB (cB (cB b3))))))))))))))))))) (blockK (cI (cB (cA (cB (cB (cB (cA (cA (cB (cA (cA (cB (cA (cB (cB (cB (cB (cB (cB b3))))))))))))))))))) (f3_33K o c n k w lp0)) = fun t _ h => f3_35 o c n k lp0 n (t 7) (t 8) (t 9) (t 10) (t 11) (t 12) (t 13) (t 14) (t 15) (t 16) h :=
  c_loop (F := fun m t _ h => f3_35 o c n k lp0 m (t 7) (t 8) (t 9) (t 10) (t 11) (t 12) (t 13) (t 14) (t 15) (t 16) h) (by kernel_rfl) (by kernel_rfl) fun m => (kseq (f3_37_ok o c n k w lp0 (f3_35 o c n k lp0 m)) rfl).tk
noncomputable def f3_34 (lp0 : AVs (Heap → α) 8) (s7 s8 s9 s10 s11 s12 s13 s14 s15 s16 : AV) (h : Heap) : α :=
  f3_35 o c n k lp0 n s7 s8 s9 s10 s11 s12 s13 s14 s15 s16 h
theorem f3_34_ok (lp0 : AVs (Heap → α) 8) : R Pq o c n (cB (cA (cB (cB (cB (cA (cA (cB (cA (cA (cB (cA (cB (cB (cB (cB (cB (cB b3)))))))))))))))))) (f3_33K o c n k w lp0) = fun t _ h => f3_34 o c n k lp0 (t 7) (t 8) (t 9) (t 10) (t 11) (t 12) (t 13) (t 14) (t 15) (t 16) h := (kblk (f3_35_ok o c n k w lp0)).tk
noncomputable def f3_27 (lp0 : AVs (Heap → α) 8) (s7 s8 s9 s10 s11 s12 s13 s14 s15 : AV) (h : Heap) : α :=
  f3_34 o c n k lp0 s7 s8 s9 s10 s11 s12 s13 s14 s15 (.i .i64 0) h
theorem f3_27_ok (lp0 : AVs (Heap → α) 8) : R Pq o c n (cB (cB (cB (cA (cA (cB (cA (cA (cB (cA (cB (cB (cB (cB (cB (cB b3)))))))))))))))) (blockK (cI (cA (cB (cA (cA (cB (cA (cB (cB (cB (cB (cB (cB b3))))))))))))) (f3_24K o c n k w lp0)) = fun t _ h => f3_27 o c n k lp0 (t 7) (t 8) (t 9) (t 10) (t 11) (t 12) (t 13) (t 14) (t 15) h := (kseq (f3_28_ok o c n k w lp0) (kseq (f3_34_ok o c n k w lp0) rfl)).tk
noncomputable def f3_26 (lp0 : AVs (Heap → α) 8) (s7 s8 s9 s10 s11 s12 s13 s14 : AV) (h : Heap) : α :=
  f3_27 o c n k lp0 s7 s8 s9 s10 s11 s12 s13 s14 (.b true) h
theorem f3_26_ok (lp0 : AVs (Heap → α) 8) : R Pq o c n (cB (cB (cA (cA (cB (cA (cA (cB (cA (cB (cB (cB (cB (cB (cB b3))))))))))))))) (blockK (cI (cA (cB (cA (cA (cB (cA (cB (cB (cB (cB (cB (cB b3))))))))))))) (f3_24K o c n k w lp0)) = fun t _ h => f3_26 o c n k lp0 (t 7) (t 8) (t 9) (t 10) (t 11) (t 12) (t 13) (t 14) h := (kseq (f3_27_ok o c n k w lp0) rfl).tk
noncomputable def f3_25 (lp0 : AVs (Heap → α) 8) (s7 s8 s9 s10 s11 s12 s13 s14 : AV) (h : Heap) : α :=
  addF Pq o 3 s12 (.i .i64 1) fun v48 => f3_26 o c n k lp0 s7 s8 s9 s10 s11 v48 s13 s14 h
theorem f3_25_ok (lp0 : AVs (Heap → α) 8) : R Pq o c n (cB (cA (cA (cB (cA (cA (cB (cA (cB (cB (cB (cB (cB (cB b3)))))))))))))) (blockK (cI (cA (cB (cA (cA (cB (cA (cB (cB (cB (cB (cB (cB b3))))))))))))) (f3_24K o c n k w lp0)) = fun t _ h => f3_25 o c n k lp0 (t 7) (t 8) (t 9) (t 10) (t 11) (t 12) (t 13) (t 14) h := (kseq (f3_26_ok o c n k w lp0) rfl).tk
noncomputable def f3_22 (lp0 : AVs (Heap → α) 8) (s7 s8 s9 s10 s11 s12 s13 s14 : AV) (h : Heap) : α :=
  dreg o h 8 fun base h => loadNF o (h.look 0) 1 s7 fun v49 => ixF o 6 s11 s14 fun v50 => rootF o v50 s11 <| loadNF o (h.look 14) 6 v50 fun v51 => callD o c [] 7 [v49, v51, s8] (h.look 0) fun v52 h => pnF v52 (fun x => hb h.shut fun hd => k x.pn hd) <| notF o v52 fun v53 => hb h.shut fun h => ifF o v53 (f3_23 o c n k lp0 s7 s8 s9 s10 s11 s12 s13 s14 h) (f3_25 o c n k lp0 s7 s8 s9 s10 s11 s12 s13 s14 h)
theorem f3_22_ok (lp0 : AVs (Heap → α) 8) : R Pq o c n (cB (cA (cA (cB (cA (cB (cB (cB (cB (cB (cB b3))))))))))) (f3_21K o c n k w lp0) = fun t _ h => f3_22 o c n k lp0 (t 7) (t 8) (t 9) (t 10) (t 11) (t 12) (t 13) (t 14) h := (kseq (f3_23_ok o c n k w lp0) (kblk (kseq (f3_25_ok o c n k w lp0) rfl))).tk
noncomputable def f3_20 (m : Nat) : AVs (Heap → α) 8 :=
  Nat.rec (motive := fun _ => AVs (Heap → α) 8) (fun _ _ _ _ _ _ _ _ _ => o) (fun _ lp0 s7 s8 s9 s10 s11 s12 s13 s14 h => lenF o s11 fun v54 => lssF Pq o 3 s14 v54 fun v55 => ifF o v55 (f3_22 o c n k lp0 s7 s8 s9 s10 s11 s12 s13 s14 h) (f3_7 o c n k s9 s10 s12 s13 h)) m
theorem f3_20_ok : R Pq o c n (cA (cB (cA (cB (cB (cB (cB (cB (cB b3))))))))) (blockK (cI (cB (cA (cB (cB (cB (cB (cB (cB b3))))))))) (f3_18K o c n k w)) = fun t _ h => f3_20 o c n k n (t 7) (t 8) (t 9) (t 10) (t 11) (t 12) (t 13) (t 14) h :=
  c_loop (F := fun m t _ h => f3_20 o c n k m (t 7) (t 8) (t 9) (t 10) (t 11) (t 12) (t 13) (t 14) h) (by kernel_rfl) (by kernel_rfl) fun m => (kseq (f3_22_ok o c n k w (f3_20 o c n k m)) rfl).tk
noncomputable def f3_19 (s7 s8 s9 s10 s11 s12 s13 s14 : AV) (h : Heap) : α :=
  f3_20 o c n k n s7 s8 s9 s10 s11 s12 s13 s14 h
theorem f3_19_ok : R Pq o c n (cB (cA (cB (cB (cB (cB (cB (cB b3)))))))) (f3_18K o c n k w) = fun t _ h => f3_19 o c n k (t 7) (t 8) (t 9) (t 10) (t 11) (t 12) (t 13) (t 14) h := (kblk (f3_20_ok o c n k w)).tk
noncomputable def f3_6 (s7 s8 s9 s10 s11 s12 s13 : AV) (h : Heap) : α :=
  f3_19 o c n k s7 s8 s9 s10 s11 s12 s13 (.i .i64 0) h
theorem f3_6_ok : R Pq o c n (cB (cB (cB (cB (cB (cB b3)))))) (kend Pq o c n w rs3 k) = fun t _ h => f3_6 o c n k (t 7) (t 8) (t 9) (t 10) (t 11) (t 12) (t 13) h := (kseq (f3_7_ok o c n k w) (kseq (f3_19_ok o c n k w) rfl)).tk
noncomputable def f3_5 (s7 s8 s9 s10 s11 : AV) (h : Heap) : α :=
  f3_6 o c n k s7 s8 s9 s10 s11 (.i .i64 0) (.i .i64 0) h
theorem f3_5_ok : R Pq o c n (cB (cB (cB (cB (cB b3))))) (kend Pq o c n w rs3 k) = fun t _ h => f3_5 o c n k (t 7) (t 8) (t 9) (t 10) (t 11) h := (kseq (f3_6_ok o c n k w) rfl).tk
noncomputable def f3_4 (s7 s8 s9 s10 : AV) (h : Heap) : α :=
  faF o 0 s7 fun v56 => load1F o h v56 fun v57 => ixF o 4 v57 (.i .i64 0) fun v58 => faF o 3 v58 fun v59 => load1F o h v59 fun v60 => f3_5 o c n k s7 s8 s9 s10 v60 h
theorem f3_4_ok : R Pq o c n (cB (cB (cB (cB b3)))) (kend Pq o c n w rs3 k) = fun t _ h => f3_4 o c n k (t 7) (t 8) (t 9) (t 10) h := (kseq (f3_5_ok o c n k w) rfl).tk
noncomputable def f3_3 (s7 s8 : AV) (h : Heap) : α :=
  loadNF o h 1 s7 fun v61 => c 6 [v61, (.s 1 66), (.s 1 102), s8] h fun v62 h => pk k v62 h <| exF o v62 0 fun v63 => exF o v62 1 fun v64 => newF h h.next 2 [(.s 0 0), (.i .i64 0)] fun v65 h => storeF o h 2 v65 v63 fun h => f3_4 o c n k s7 s8 v65 v64 h
theorem f3_3_ok : R Pq o c n (cB (cB (cB b3))) (kend Pq o c n w rs3 k) = fun t _ h => f3_3 o c n k (t 7) (t 8) h := (kseq (f3_4_ok o c n k w) rfl).tk
noncomputable def f3_2 (s1 s2 s7 : AV) (h : Heap) : α :=
  fil1 o 1 2 0 s1 [[(.i .i64 0)], [(.i .i64 0)]] fun v66 => fil1 o 1 2 1 s2 v66 fun v67 => newEF h h.next 1 2 v67 fun v68 h => c 5 [v68] h fun v69 h => pk k v69 h <| f3_3 o c n k s7 v69 h
theorem f3_2_ok : R Pq o c n (cB (cB b3)) (kend Pq o c n w rs3 k) = fun t _ h => f3_2 o c n k (t 1) (t 2) (t 7) h := (kseq (f3_3_ok o c n k w) rfl).tk
noncomputable def f3_1 (s0 s1 s2 : AV) (h : Heap) : α :=
  c 4 [s0] h fun v70 h => pk k v70 h <| newF h h.next 1 [.nsl] fun v71 h => storeF o h 1 v71 v70 fun h => f3_2 o c n k s1 s2 v71 h
theorem f3_1_ok : R Pq o c n (cB b3) (kend Pq o c n w rs3 k) = fun t _ h => f3_1 o c n k (t 0) (t 1) (t 2) h := (kseq (f3_2_ok o c n k w) rfl).tk
noncomputable def f3 (a0 a1 a2 : AV) (h : Heap) : α :=
  f3_1 o c n k a0 a1 a2 h
theorem f3_ok : R Pq o c n b3 (kend Pq o c n w rs3 k) = fun t _ h => f3 o c n k (t 0) (t 1) (t 2) h := (kseq (f3_1_ok o c n k w) rfl).tk
theorem f3_good : Good Pq (cfg mm) 3 (entF Pq (cfg mm) 3 3 fun α => f3) := entG b3 rs3 125 fun _ => f3_ok
noncomputable def b4 := bdy Try.f4
noncomputable def rs4 := Try.f4.results.toList
noncomputable def f4_4K : Ex → K α := (nxK (R Pq o c n (cB (cB (cB (cB b4)))) (kend Pq o c n w rs4 k)) (kend Pq o c n w rs4 k))
noncomputable def f4_7K (lp0 : AVs (Heap → α) 5) : Ex → K α := (nxK (fun t _ h => lp0 (t 0) (t 2) (t 3) (t 4) (t 5) h) (blockK (cI (cB (cA (cB (cB (cB b4)))))) (f4_4K o c n k w)))
noncomputable def f4_9 {α : Type} (o : α) (c : Call' α) (n : Nat) (k : AV → Heap → α) (lp0 : AVs (Heap → α) 5) (s0 s2 s3 s4 s5 : AV) (h : Heap) : α :=
  addF Pq o 3 s5 (.i .i64 1) fun v1 => lp0 s0 s2 s3 s4 v1 h
theorem f4_9_ok (lp0 : AVs (Heap → α) 5) : R Pq o c n (cB (cB (cA (cA (cB (cA (cB (cB (cB b4))))))))) (f4_7K o c n k w lp0) = fun t _ h => f4_9 o c n k lp0 (t 0) (t 2) (t 3) (t 4) (t 5) h := by kernel_rfl
noncomputable def f4_8 (lp0 : AVs (Heap → α) 5) (s0 s2 s3 s4 s5 : AV) (h : Heap) : α :=
  convA Pq o 3 45 s5 fun v2 => binA Pq o .shr 3 s0 v2 fun v3 => binA Pq o .and 3 v3 (.i .i64 1) fun v4 => eqiF Pq o 3 v4 (.i .i64 1) fun v5 => ifF o v5 (dreg o h 26 fun base h => faF o 0 s4 fun v6 => rootF o v6 s4 <| load1F o (h.look 1) v6 fun v7 => faF o 0 s4 fun v8 => rootF o v8 s4 <| load1F o (h.look 4) v8 fun v9 => ixF o 4 v9 (.i .i64 0) fun v10 => faF o 3 v10 fun v11 => load1F o (h.look 60) v11 fun v12 => binA Pq o .quo 3 s5 (.i .i64 3) fun v13 => ixF o 1 s3 v13 fun v14 => rootF o v14 s3 <| load1F o (h.look 1920) v14 fun v15 => layF o 0 v15 [(.s 0 0), (.s 0 0)] fun v16 => layF o 1 (.s 1 97) v16 fun v17 => binA Pq o .rem 3 s5 (.i .i64 3) fun v18 => ixF o 1 s3 v18 fun v19 => rootF o v19 s3 <| load1F o (h.look 122880) v19 fun v20 => layF o 0 v20 [(.s 0 0), (.s 0 0)] fun v21 => layF o 1 (.s 1 98) v21 fun v22 => fil1 o 2 2 0 (.agg v17) [[(.s 0 0), (.s 0 0)], [(.s 0 0), (.s 0 0)]] fun v23 => fil1 o 2 2 1 (.agg v22) v23 fun v24 => newEF (h.look 524160) (Nat.add base 19) 2 2 v24 fun v25 h => layF o 2 (.s 3 7630441) [(.b false), (.b false), (.s 0 0), (.s 0 0), .nsl, .nsl] fun v26 => layF o 3 (.s 1 102) v26 fun v27 => layF o 4 v25 v27 fun v28 => fil1 o 6 1 0 (.agg v28) [[(.b false), (.b false), (.s 0 0), (.s 0 0), .nsl, .nsl]] fun v29 => newEF (h.look 2097024) (Nat.add base 21) 6 1 v29 fun v30 h => lb (sBlk v6 []) fun ids => appD o ids (Nat.add base 22) <| appendY Pq o (hide ids (h.look 4194300)) (Nat.add base 22) 34 34 v12 v30 fun v31 g => hb (back h ids g) fun h => ixF o 4 v7 (.i .i64 0) fun v32 => faF o 3 v32 fun v33 => storeF o (h.look 33554431) 1 v33 v31 fun h => hb h.shut fun h => f4_9 o c n k lp0 s0 s2 s3 s4 s5 h) (f4_9 o c n k lp0 s0 s2 s3 s4 s5 h)
theorem f4_8_ok (lp0 : AVs (Heap → α) 5) : R Pq o c n (cB (cA (cA (cB (cA (cB (cB (cB b4)))))))) (f4_7K o c n k w lp0) = fun t _ h => f4_8 o c n k lp0 (t 0) (t 2) (t 3) (t 4) (t 5) h := (kseq (f4_9_ok o c n k w lp0) rfl).tk
noncomputable def f4_6 (m : Nat) : AVs (Heap → α) 5 :=
  Nat.rec (motive := fun _ => AVs (Heap → α) 5) (fun _ _ _ _ _ _ => o) (fun _ lp0 s0 s2 s3 s4 s5 h => lssF Pq o 3 s5 (.i .i64 9) fun v34 => ifF o v34 (f4_8 o c n k lp0 s0 s2 s3 s4 s5 h) (loadNF o h 1 s4 fun v35 => storeF o h 1 s2 v35 fun h => on o (resV Pq h [(s2, some 24)]) fun v => k v h)) m
theorem f4_6_ok : R Pq o c n (cA (cB (cA (cB (cB (cB b4)))))) (blockK (cI (cB (cA (cB (cB (cB b4)))))) (f4_4K o c n k w)) = fun t _ h => f4_6 o c n k n (t 0) (t 2) (t 3) (t 4) (t 5) h :=
  c_loop (F := fun m t _ h => f4_6 o c n k m (t 0) (t 2) (t 3) (t 4) (t 5) h) (by kernel_rfl) (by kernel_rfl) fun m => (kseq (f4_8_ok o c n k w (f4_6 o c n k m)) rfl).tk
noncomputable def f4_5 (s0 s2 s3 s4 s5 : AV) (h : Heap) : α :=
  f4_6 o c n k n s0 s2 s3 s4 s5 h
theorem f4_5_ok : R Pq o c n (cB (cA (cB (cB (cB b4))))) (f4_4K o c n k w) = fun t _ h => f4_5 o c n k (t 0) (t 2) (t 3) (t 4) (t 5) h := (kblk (f4_6_ok o c n k w)).tk
noncomputable def f4_3 (s0 s2 s3 s4 : AV) (h : Heap) : α :=
  f4_5 o c n k s0 s2 s3 s4 (.i .i64 0) h
theorem f4_3_ok : R Pq o c n (cB (cB (cB b4))) (kend Pq o c n w rs4 k) = fun t _ h => f4_3 o c n k (t 0) (t 2) (t 3) (t 4) h := (kseq rfl (kseq (f4_5_ok o c n k w) rfl)).tk
noncomputable def f4_2 (s0 s2 s3 : AV) (h : Heap) : α :=
  layF o 0 (.s 1 65) [(.s 0 0), (.s 0 0), .nsl, .nsl] fun v36 => layF o 0 (.s 1 66) [(.s 0 0), (.s 0 0), .nsl, .nsl] fun v37 => layF o 1 (.s 1 65) v37 fun v38 => fil1 o 4 2 0 (.agg v36) [[(.s 0 0), (.s 0 0), .nsl, .nsl], [(.s 0 0), (.s 0 0), .nsl, .nsl]] fun v39 => fil1 o 4 2 1 (.agg v38) v39 fun v40 => newEF h h.next 4 2 v40 fun v41 h => layF o 0 v41 [.nsl] fun v42 => newF h h.next 1 [.nsl] fun v43 h => storeF o h 1 v43 (.agg v42) fun h => f4_3 o c n k s0 s2 s3 v43 h
theorem f4_2_ok : R Pq o c n (cB (cB b4)) (kend Pq o c n w rs4 k) = fun t _ h => f4_2 o c n k (t 0) (t 2) (t 3) h := (kseq (f4_3_ok o c n k w) rfl).tk
noncomputable def f4_1 (s0 s2 : AV) (h : Heap) : α :=
  fil1 o 1 3 0 (.s 3 7630441) [[(.s 0 0)], [(.s 0 0)], [(.s 0 0)]] fun v44 => fil1 o 1 3 1 (.s 1 65) v44 fun v45 => fil1 o 1 3 2 (.s 1 66) v45 fun v46 => newEF h h.next 1 3 v46 fun v47 h => f4_2 o c n k s0 s2 v47 h
theorem f4_1_ok : R Pq o c n (cB b4) (kend Pq o c n w rs4 k) = fun t _ h => f4_1 o c n k (t 0) (t 2) h := (kseq (f4_2_ok o c n k w) rfl).tk
noncomputable def f4 (a0 : AV) (h : Heap) : α :=
  newF h h.next 1 [.nsl] fun v48 h => f4_1 o c n k a0 v48 h
theorem f4_ok : R Pq o c n b4 (kend Pq o c n w rs4 k) = fun t _ h => f4 o c n k (t 0) h := (kseq (f4_1_ok o c n k w) rfl).tk
theorem f4_good : Good Pq (cfg mm) 4 (entF Pq (cfg mm) 4 1 fun α => f4) := entG b4 rs4 47 fun _ => f4_ok
noncomputable def b5 := bdy Try.f5
noncomputable def rs5 := Try.f5.results.toList
noncomputable def f5_3K : Ex → K α := (nxK (R Pq o c n (cB (cB (cB b5))) (kend Pq o c n w rs5 k)) (kend Pq o c n w rs5 k))
noncomputable def f5_6K (lp0 : AVs (Heap → α) 3) : Ex → K α := (nxK (fun t _ h => lp0 (t 0) (t 3) (t 4) h) (blockK (cI (cB (cA (cB (cB b5))))) (f5_3K o c n k w)))
noncomputable def f5_7 {α : Type} (o : α) (c : Call' α) (n : Nat) (k : AV → Heap → α) (lp0 : AVs (Heap → α) 3) (s0 s3 s4 : AV) (h : Heap) : α :=
  fil1 o 1 7 0 (.s 3 7630441) (lrep [(.s 0 0)] 7) fun v1 => fil1 o 1 7 1 (.s 1 65) v1 fun v2 => fil1 o 1 7 2 (.s 1 66) v2 fun v3 => fil1 o 1 7 3 (.s 4 1819047278) v3 fun v4 => fil1 o 1 7 4 (.s 7 31069335677005666) v4 fun v5 => fil1 o 1 7 5 (.s 6 113723913172051) v5 fun v6 => fil1 o 1 7 6 (.s 2 31322) v6 fun v7 => newEF h h.next 1 7 v7 fun v8 h => ixF o 1 s0 s4 fun v9 => load1F o h v9 fun v10 => convA Pq o 3 45 v10 fun v11 => binA Pq o .rem 45 v11 (.i .u64 7) fun v12 => ixF o 1 v8 v12 fun v13 => load1F o h v13 fun v14 => fil1 o 1 1 0 v14 [[(.s 0 0)]] fun v15 => newEF h h.next 1 1 v15 fun v16 h => appX Pq o h h.next 26 26 s3 v16 fun v17 h => addF Pq o 3 s4 (.i .i64 1) fun v18 => lp0 s0 v17 v18 h
theorem f5_7_ok (lp0 : AVs (Heap → α) 3) : R Pq o c n (cB (cA (cA (cB (cA (cB (cB b5))))))) (f5_6K o c n k w lp0) = fun t _ h => f5_7 o c n k lp0 (t 0) (t 3) (t 4) h := by kernel_rfl
noncomputable def f5_8K (lp0 : AVs (Heap → α) 3) : Ex → K α := (nxK (fun t _ h => f5_7 o c n k lp0 (t 0) (t 3) (t 4) h) (f5_6K o c n k w lp0))
noncomputable def f5_9K (lp0 : AVs (Heap → α) 3) : Ex → K α := (nxK (R Pq o c n (cB (cA (cA (cA (cB (cA (cB (cB b5)))))))) (f5_8K o c n k w lp0)) (f5_8K o c n k w lp0))
noncomputable def f5_5 (m : Nat) : AVs (Heap → α) 3 :=
  Nat.rec (motive := fun _ => AVs (Heap → α) 3) (fun _ _ _ _ => o) (fun _ lp0 s0 s3 s4 h => lenF o s0 fun v19 => lssF Pq o 3 s4 v19 fun v20 => bkF o true v20 (lssF Pq o 3 s4 (.i .i64 4) fun v21 => pickF o v20 v21 (.b false) fun v22 => ifF o v22 (f5_7 o c n k lp0 s0 s3 s4 h) (k s3 h)) (pickF o v20 (.tup []) (.b false) fun v23 => ifF o v23 (f5_7 o c n k lp0 s0 s3 s4 h) (k s3 h))) m
theorem f5_5_ok : R Pq o c n (cA (cB (cA (cB (cB b5))))) (blockK (cI (cB (cA (cB (cB b5))))) (f5_3K o c n k w)) = fun t _ h => f5_5 o c n k n (t 0) (t 3) (t 4) h :=
  c_loop (F := fun m t _ h => f5_5 o c n k m (t 0) (t 3) (t 4) h) (by kernel_rfl) (by kernel_rfl) fun m => (kseq (f5_7_ok o c n k w (f5_5 o c n k m)) (kseq rfl (r_start 5 (by kernel_rfl) (q_guard 5 7 (4, true) (by kernel_rfl) (by kernel_rfl) (by kernel_rfl) rfl)))).tk
noncomputable def f5_4 (s0 s3 s4 : AV) (h : Heap) : α :=
  f5_5 o c n k n s0 s3 s4 h
theorem f5_4_ok : R Pq o c n (cB (cA (cB (cB b5)))) (f5_3K o c n k w) = fun t _ h => f5_4 o c n k (t 0) (t 3) (t 4) h := (kblk (f5_5_ok o c n k w)).tk
noncomputable def f5_2 (s0 s3 : AV) (h : Heap) : α :=
  f5_4 o c n k s0 s3 (.i .i64 0) h
theorem f5_2_ok : R Pq o c n (cB (cB b5)) (kend Pq o c n w rs5 k) = fun t _ h => f5_2 o c n k (t 0) (t 3) h := (kseq rfl (kseq (f5_4_ok o c n k w) rfl)).tk
noncomputable def f5_1 (s0 : AV) (h : Heap) : α :=
  f5_2 o c n k s0 .nsl h
theorem f5_1_ok : R Pq o c n (cB b5) (kend Pq o c n w rs5 k) = fun t _ h => f5_1 o c n k (t 0) h := (kseq (f5_2_ok o c n k w) rfl).tk
noncomputable def f5 (a0 : AV) (h : Heap) : α :=
  f5_1 o c n k a0 h
theorem f5_ok : R Pq o c n b5 (kend Pq o c n w rs5 k) = fun t _ h => f5 o c n k (t 0) h := (kseq (f5_1_ok o c n k w) rfl).tk
theorem f5_good : Good Pq (cfg mm) 5 (entF Pq (cfg mm) 5 1 fun α => f5) := entG b5 rs5 28 fun _ => f5_ok
noncomputable def b6 := bdy Try.f6
noncomputable def rs6 := Try.f6.results.toList
noncomputable def f6 {α : Type} (o : α) (c : Call' α) (n : Nat) (k : AV → Heap → α) (a0 a1 a2 a3 : AV) (h : Heap) : α :=
  boxF o a0 h h.next fun v1 h => newF h h.next 2 [(.s 0 0), (.i .i64 0)] fun v2 h => dreg o h 11 fun base h => loadNF o (h.look 0) 1 v1 fun v3 => loadNF o (h.look 0) 1 v1 fun v4 => callD o c (hidD false [(.fn (.func 11) [] []), v4, a1, a2] [] (sBlk v1 [])) 11 [v4, a1, a2] (h.look 0) fun v5 h => pnF v5 (fun x => hb h.shut fun hd => k x.pn hd) <| callD o c [] 10 [v3, v5, a3] (h.look 0) fun v6 h => pnF v6 (fun x => hb h.shut fun hd => k x.pn hd) <| exF o v6 0 fun v7 => exF o v6 1 fun v8 => storeF o (h.look 511) 2 v2 v7 fun h => hb h.shut fun h => on o (resV Pq h [(v2, some 30), (v8, none)]) fun v => k v h
theorem f6_ok : R Pq o c n b6 (kend Pq o c n w rs6 k) = fun t _ h => f6 o c n k (t 0) (t 1) (t 2) (t 3) h := by kernel_rfl
theorem f6_good : Good Pq (cfg mm) 6 (entF Pq (cfg mm) 6 4 fun α => f6) := entG b6 rs6 19 fun _ => f6_ok
noncomputable def b7 := bdy Try.f7
noncomputable def rs7 := Try.f7.results.toList
noncomputable def f7 {α : Type} (o : α) (c : Call' α) (n : Nat) (k : AV → Heap → α) (a0 a1 a2 : AV) (h : Heap) : α :=
  boxF o a0 h h.next fun v1 h => boxF o a1 h h.next fun v2 h => faF o 4 v2 fun v3 => load1F o h v3 fun v4 => c 12 [v4, a2, (.fn (.func 13) [] [v1])] h fun v5 h => pk k v5 h <| k v5 h
theorem f7_ok : R Pq o c n b7 (kend Pq o c n w rs7 k) = fun t _ h => f7 o c n k (t 0) (t 1) (t 2) h := by kernel_rfl
theorem f7_good : Good Pq (cfg mm) 7 (entF Pq (cfg mm) 7 3 fun α => f7) := entG b7 rs7 12 fun _ => f7_ok
noncomputable def b8 := bdy Try.f8
noncomputable def rs8 := Try.f8.results.toList
noncomputable def f8 {α : Type} (o : α) (c : Call' α) (n : Nat) (k : AV → Heap → α) (a0 a1 a2 : AV) (h : Heap) : α :=
  boxF o a0 h h.next fun v1 h => boxF o a1 h h.next fun v2 h => boxF o a2 h h.next fun v3 h => faF o 4 v2 fun v4 => load1F o h v4 fun v5 => faF o 4 v3 fun v6 => load1F o h v6 fun v7 => c 15 [v5, v7, (.fn (.func 16) [] [v1])] h fun v8 h => pk k v8 h <| k v8 h
theorem f8_ok : R Pq o c n b8 (kend Pq o c n w rs8 k) = fun t _ h => f8 o c n k (t 0) (t 1) (t 2) h := by kernel_rfl
theorem f8_good : Good Pq (cfg mm) 8 (entF Pq (cfg mm) 8 3 fun α => f8) := entG b8 rs8 13 fun _ => f8_ok
noncomputable def b9 := bdy Try.f9
noncomputable def rs9 := Try.f9.results.toList
noncomputable def f9_8K : Ex → K α := (nxK (R Pq o c n (cB (cB (cB (cB (cB (cB (cB (cB b9)))))))) (kend Pq o c n w rs9 k)) (kend Pq o c n w rs9 k))
noncomputable def f9_65 {α : Type} (o : α) (c : Call' α) (n : Nat) (k : AV → Heap → α) (base : Nat) (s99 s116 : AV) (h : Heap) : α :=
  pickF o s99 s116 (.b false) fun v1 => hb h.shut fun h => k v1 h
theorem f9_65_ok (base : Nat) : QD Pq o c (cO (cA (cB (cB (cB (cB (cB (cB (cB b9))))))))) base ((f9_8K o c n k w)) 76 = fun t _ h => f9_65 o c n k base (t 99) (t 116) h := by kernel_rfl
noncomputable def f9_64 (base : Nat) (s99 s115 : AV) (h : Heap) : α :=
  bkF o true s99 (notF o s115 fun v2 => f9_65 o c n k base s99 v2 (h.look 0)) (f9_65 o c n k base s99 (.tup []) (h.look 0))
theorem f9_64_ok (base : Nat) : QD Pq o c (cO (cA (cB (cB (cB (cB (cB (cB (cB b9))))))))) base ((f9_8K o c n k w)) 75 = fun t _ h => f9_64 o c n k base (t 99) (t 115) h := (qd_seg 75 76 (by kernel_rfl) (f9_65_ok o c n k w base)).tk
noncomputable def f9_63 (base : Nat) (s99 s100 s107 s114 : AV) (h : Heap) : α :=
  bkF o true s99 (callD o c [] 8 [s100, s107, s114] h fun v3 h => pnF v3 (fun x => hb h.shut fun hd => k x.pn hd) <| f9_64 o c n k base s99 v3 h) (f9_64 o c n k base s99 (.tup []) h)
theorem f9_63_ok (base : Nat) : QD Pq o c (cO (cA (cB (cB (cB (cB (cB (cB (cB b9))))))))) base ((f9_8K o c n k w)) 74 = fun t _ h => f9_63 o c n k base (t 99) (t 100) (t 107) (t 114) h := (qd_seg 74 75 (by kernel_rfl) (f9_64_ok o c n k w base)).tk
noncomputable def f9_62 (base : Nat) (s99 s100 s107 s113 : AV) (h : Heap) : α :=
  bkF o true s99 (loadNF o (h.look 9297735473901917437951) 6 s113 fun v4 => f9_63 o c n k base s99 s100 s107 v4 (h.look 0)) (f9_63 o c n k base s99 s100 s107 (.tup []) (h.look 0))
theorem f9_62_ok (base : Nat) : QD Pq o c (cO (cA (cB (cB (cB (cB (cB (cB (cB b9))))))))) base ((f9_8K o c n k w)) 73 = fun t _ h => f9_62 o c n k base (t 99) (t 100) (t 107) (t 113) h := (qd_seg 73 74 (by kernel_rfl) (f9_63_ok o c n k w base)).tk
noncomputable def f9_61 (base : Nat) (s99 s100 s107 s112 : AV) (h : Heap) : α :=
  bkF o true s99 (ixF o 6 s112 (.i .i64 1) fun v5 => f9_62 o c n k base s99 s100 s107 v5 (h.look 0)) (f9_62 o c n k base s99 s100 s107 (.tup []) (h.look 0))
theorem f9_61_ok (base : Nat) : QD Pq o c (cO (cA (cB (cB (cB (cB (cB (cB (cB b9))))))))) base ((f9_8K o c n k w)) 72 = fun t _ h => f9_61 o c n k base (t 99) (t 100) (t 107) (t 112) h := (qd_seg 72 73 (by kernel_rfl) (f9_62_ok o c n k w base)).tk
noncomputable def f9_60 (base : Nat) (s99 s100 s107 s111 : AV) (h : Heap) : α :=
  bkF o true s99 (load1F o (h.look 2214185749597449617407) s111 fun v6 => f9_61 o c n k base s99 s100 s107 v6 (h.look 0)) (f9_61 o c n k base s99 s100 s107 (.tup []) (h.look 0))
theorem f9_60_ok (base : Nat) : QD Pq o c (cO (cA (cB (cB (cB (cB (cB (cB (cB b9))))))))) base ((f9_8K o c n k w)) 71 = fun t _ h => f9_60 o c n k base (t 99) (t 100) (t 107) (t 111) h := (qd_seg 71 72 (by kernel_rfl) (f9_61_ok o c n k w base)).tk
noncomputable def f9_59 (base : Nat) (s99 s100 s107 s110 : AV) (h : Heap) : α :=
  bkF o true s99 (faF o 3 s110 fun v7 => f9_60 o c n k base s99 s100 s107 v7 (h.look 0)) (f9_60 o c n k base s99 s100 s107 (.tup []) (h.look 0))
theorem f9_59_ok (base : Nat) : QD Pq o c (cO (cA (cB (cB (cB (cB (cB (cB (cB b9))))))))) base ((f9_8K o c n k w)) 70 = fun t _ h => f9_59 o c n k base (t 99) (t 100) (t 107) (t 110) h := (qd_seg 70 71 (by kernel_rfl) (f9_60_ok o c n k w base)).tk
noncomputable def f9_58 (base : Nat) (s99 s100 s107 s109 : AV) (h : Heap) : α :=
  bkF o true s99 (ixF o 4 s109 (.i .i64 0) fun v8 => f9_59 o c n k base s99 s100 s107 v8 (h.look 0)) (f9_59 o c n k base s99 s100 s107 (.tup []) (h.look 0))
theorem f9_58_ok (base : Nat) : QD Pq o c (cO (cA (cB (cB (cB (cB (cB (cB (cB b9))))))))) base ((f9_8K o c n k w)) 69 = fun t _ h => f9_58 o c n k base (t 99) (t 100) (t 107) (t 109) h := (qd_seg 69 70 (by kernel_rfl) (f9_59_ok o c n k w base)).tk
noncomputable def f9_57 (base : Nat) (s1 s99 s100 s107 s108 : AV) (h : Heap) : α :=
  rootF o s108 s1 <| bkF o true s99 (load1F o (h.look 148150413341979836415) s108 fun v9 => f9_58 o c n k base s99 s100 s107 v9 (h.look 0)) (f9_58 o c n k base s99 s100 s107 (.tup []) (h.look 0))
theorem f9_57_ok (base : Nat) : QD Pq o c (cO (cA (cB (cB (cB (cB (cB (cB (cB b9))))))))) base ((f9_8K o c n k w)) 68 = fun t _ h => f9_57 o c n k base (t 1) (t 99) (t 100) (t 107) (t 108) h := (qd_seg 68 69 (by kernel_rfl) (f9_58_ok o c n k w base)).tk
noncomputable def f9_56 (base : Nat) (s1 s99 s100 s107 : AV) (h : Heap) : α :=
  bkF o true s99 (faF o 0 s1 fun v10 => f9_57 o c n k base s1 s99 s100 s107 v10 (h.look 0)) (f9_57 o c n k base s1 s99 s100 s107 (.tup []) (h.look 0))
theorem f9_56_ok (base : Nat) : QD Pq o c (cO (cA (cB (cB (cB (cB (cB (cB (cB b9))))))))) base ((f9_8K o c n k w)) 67 = fun t _ h => f9_56 o c n k base (t 1) (t 99) (t 100) (t 107) h := (qd_seg 67 68 (by kernel_rfl) (f9_57_ok o c n k w base)).tk
noncomputable def f9_55 (base : Nat) (s1 s99 s100 s106 : AV) (h : Heap) : α :=
  bkF o true s99 (loadNF o (h.look 73210515542534782975) 6 s106 fun v11 => f9_56 o c n k base s1 s99 s100 v11 (h.look 0)) (f9_56 o c n k base s1 s99 s100 (.tup []) (h.look 0))
theorem f9_55_ok (base : Nat) : QD Pq o c (cO (cA (cB (cB (cB (cB (cB (cB (cB b9))))))))) base ((f9_8K o c n k w)) 66 = fun t _ h => f9_55 o c n k base (t 1) (t 99) (t 100) (t 106) h := (qd_seg 66 67 (by kernel_rfl) (f9_56_ok o c n k w base)).tk
noncomputable def f9_54 (base : Nat) (s1 s99 s100 s105 : AV) (h : Heap) : α :=
  bkF o true s99 (ixF o 6 s105 (.i .i64 0) fun v12 => f9_55 o c n k base s1 s99 s100 v12 (h.look 0)) (f9_55 o c n k base s1 s99 s100 (.tup []) (h.look 0))
theorem f9_54_ok (base : Nat) : QD Pq o c (cO (cA (cB (cB (cB (cB (cB (cB (cB b9))))))))) base ((f9_8K o c n k w)) 65 = fun t _ h => f9_54 o c n k base (t 1) (t 99) (t 100) (t 105) h := (qd_seg 65 66 (by kernel_rfl) (f9_55_ok o c n k w base)).tk
noncomputable def f9_53 (base : Nat) (s1 s99 s100 s104 : AV) (h : Heap) : α :=
  bkF o true s99 (load1F o (h.look 17870283321406128127) s104 fun v13 => f9_54 o c n k base s1 s99 s100 v13 (h.look 0)) (f9_54 o c n k base s1 s99 s100 (.tup []) (h.look 0))
theorem f9_53_ok (base : Nat) : QD Pq o c (cO (cA (cB (cB (cB (cB (cB (cB (cB b9))))))))) base ((f9_8K o c n k w)) 64 = fun t _ h => f9_53 o c n k base (t 1) (t 99) (t 100) (t 104) h := (qd_seg 64 65 (by kernel_rfl) (f9_54_ok o c n k w base)).tk
noncomputable def f9_52 (base : Nat) (s1 s99 s100 s103 : AV) (h : Heap) : α :=
  bkF o true s99 (faF o 3 s103 fun v14 => f9_53 o c n k base s1 s99 s100 v14 (h.look 0)) (f9_53 o c n k base s1 s99 s100 (.tup []) (h.look 0))
theorem f9_52_ok (base : Nat) : QD Pq o c (cO (cA (cB (cB (cB (cB (cB (cB (cB b9))))))))) base ((f9_8K o c n k w)) 63 = fun t _ h => f9_52 o c n k base (t 1) (t 99) (t 100) (t 103) h := (qd_seg 63 64 (by kernel_rfl) (f9_53_ok o c n k w base)).tk
noncomputable def f9_51 (base : Nat) (s1 s99 s100 s102 : AV) (h : Heap) : α :=
  bkF o true s99 (ixF o 4 s102 (.i .i64 0) fun v15 => f9_52 o c n k base s1 s99 s100 v15 (h.look 0)) (f9_52 o c n k base s1 s99 s100 (.tup []) (h.look 0))
theorem f9_51_ok (base : Nat) : QD Pq o c (cO (cA (cB (cB (cB (cB (cB (cB (cB b9))))))))) base ((f9_8K o c n k w)) 62 = fun t _ h => f9_51 o c n k base (t 1) (t 99) (t 100) (t 102) h := (qd_seg 62 63 (by kernel_rfl) (f9_52_ok o c n k w base)).tk
noncomputable def f9_50 (base : Nat) (s1 s99 s100 s101 : AV) (h : Heap) : α :=
  rootF o s101 s1 <| bkF o true s99 (load1F o (h.look 1729382256910270463) s101 fun v16 => f9_51 o c n k base s1 s99 s100 v16 (h.look 0)) (f9_51 o c n k base s1 s99 s100 (.tup []) (h.look 0))
theorem f9_50_ok (base : Nat) : QD Pq o c (cO (cA (cB (cB (cB (cB (cB (cB (cB b9))))))))) base ((f9_8K o c n k w)) 61 = fun t _ h => f9_50 o c n k base (t 1) (t 99) (t 100) (t 101) h := (qd_seg 61 62 (by kernel_rfl) (f9_51_ok o c n k w base)).tk
noncomputable def f9_49 (base : Nat) (s1 s99 s100 : AV) (h : Heap) : α :=
  bkF o true s99 (faF o 0 s1 fun v17 => f9_50 o c n k base s1 s99 s100 v17 (h.look 0)) (f9_50 o c n k base s1 s99 s100 (.tup []) (h.look 0))
theorem f9_49_ok (base : Nat) : QD Pq o c (cO (cA (cB (cB (cB (cB (cB (cB (cB b9))))))))) base ((f9_8K o c n k w)) 60 = fun t _ h => f9_49 o c n k base (t 1) (t 99) (t 100) h := (qd_seg 60 61 (by kernel_rfl) (f9_50_ok o c n k w base)).tk
noncomputable def f9_48 (base : Nat) (s1 s81 s97 : AV) (h : Heap) : α :=
  pickF o s81 s97 (.b false) fun v18 => bkF o true v18 (loadNF o (h.look 576460752303423487) 1 s1 fun v19 => f9_49 o c n k base s1 v18 v19 (h.look 0)) (f9_49 o c n k base s1 v18 (.tup []) (h.look 0))
theorem f9_48_ok (base : Nat) : QD Pq o c (cO (cA (cB (cB (cB (cB (cB (cB (cB b9))))))))) base ((f9_8K o c n k w)) 57 = fun t _ h => f9_48 o c n k base (t 1) (t 81) (t 97) h := (qd_seg 57 60 (by kernel_rfl) (f9_49_ok o c n k w base)).tk
noncomputable def f9_47 (base : Nat) (s1 s81 s82 s89 s96 : AV) (h : Heap) : α :=
  bkF o true s81 (callD o c [] 8 [s82, s89, s96] h fun v20 h => pnF v20 (fun x => hb h.shut fun hd => k x.pn hd) <| f9_48 o c n k base s1 s81 v20 h) (f9_48 o c n k base s1 s81 (.tup []) h)
theorem f9_47_ok (base : Nat) : QD Pq o c (cO (cA (cB (cB (cB (cB (cB (cB (cB b9))))))))) base ((f9_8K o c n k w)) 56 = fun t _ h => f9_47 o c n k base (t 1) (t 81) (t 82) (t 89) (t 96) h := (qd_seg 56 57 (by kernel_rfl) (f9_48_ok o c n k w base)).tk
noncomputable def f9_46 (base : Nat) (s1 s81 s82 s89 s95 : AV) (h : Heap) : α :=
  bkF o true s81 (loadNF o (h.look 35468046088798207) 6 s95 fun v21 => f9_47 o c n k base s1 s81 s82 s89 v21 (h.look 0)) (f9_47 o c n k base s1 s81 s82 s89 (.tup []) (h.look 0))
theorem f9_46_ok (base : Nat) : QD Pq o c (cO (cA (cB (cB (cB (cB (cB (cB (cB b9))))))))) base ((f9_8K o c n k w)) 55 = fun t _ h => f9_46 o c n k base (t 1) (t 81) (t 82) (t 89) (t 95) h := (qd_seg 55 56 (by kernel_rfl) (f9_47_ok o c n k w base)).tk
noncomputable def f9_45 (base : Nat) (s1 s81 s82 s89 s94 : AV) (h : Heap) : α :=
  bkF o true s81 (ixF o 6 s94 (.i .i64 0) fun v22 => f9_46 o c n k base s1 s81 s82 s89 v22 (h.look 0)) (f9_46 o c n k base s1 s81 s82 s89 (.tup []) (h.look 0))
theorem f9_45_ok (base : Nat) : QD Pq o c (cO (cA (cB (cB (cB (cB (cB (cB (cB b9))))))))) base ((f9_8K o c n k w)) 54 = fun t _ h => f9_45 o c n k base (t 1) (t 81) (t 82) (t 89) (t 94) h := (qd_seg 54 55 (by kernel_rfl) (f9_46_ok o c n k w base)).tk
noncomputable def f9_44 (base : Nat) (s1 s81 s82 s89 s93 : AV) (h : Heap) : α :=
  bkF o true s81 (load1F o (h.look 8446448324575231) s93 fun v23 => f9_45 o c n k base s1 s81 s82 s89 v23 (h.look 0)) (f9_45 o c n k base s1 s81 s82 s89 (.tup []) (h.look 0))
theorem f9_44_ok (base : Nat) : QD Pq o c (cO (cA (cB (cB (cB (cB (cB (cB (cB b9))))))))) base ((f9_8K o c n k w)) 53 = fun t _ h => f9_44 o c n k base (t 1) (t 81) (t 82) (t 89) (t 93) h := (qd_seg 53 54 (by kernel_rfl) (f9_45_ok o c n k w base)).tk
noncomputable def f9_43 (base : Nat) (s1 s81 s82 s89 s92 : AV) (h : Heap) : α :=
  bkF o true s81 (faF o 3 s92 fun v24 => f9_44 o c n k base s1 s81 s82 s89 v24 (h.look 0)) (f9_44 o c n k base s1 s81 s82 s89 (.tup []) (h.look 0))
theorem f9_43_ok (base : Nat) : QD Pq o c (cO (cA (cB (cB (cB (cB (cB (cB (cB b9))))))))) base ((f9_8K o c n k w)) 52 = fun t _ h => f9_43 o c n k base (t 1) (t 81) (t 82) (t 89) (t 92) h := (qd_seg 52 53 (by kernel_rfl) (f9_44_ok o c n k w base)).tk
noncomputable def f9_42 (base : Nat) (s1 s81 s82 s89 s91 : AV) (h : Heap) : α :=
  bkF o true s81 (ixF o 4 s91 (.i .i64 0) fun v25 => f9_43 o c n k base s1 s81 s82 s89 v25 (h.look 0)) (f9_43 o c n k base s1 s81 s82 s89 (.tup []) (h.look 0))
theorem f9_42_ok (base : Nat) : QD Pq o c (cO (cA (cB (cB (cB (cB (cB (cB (cB b9))))))))) base ((f9_8K o c n k w)) 51 = fun t _ h => f9_42 o c n k base (t 1) (t 81) (t 82) (t 89) (t 91) h := (qd_seg 51 52 (by kernel_rfl) (f9_43_ok o c n k w base)).tk
noncomputable def f9_41 (base : Nat) (s1 s81 s82 s89 s90 : AV) (h : Heap) : α :=
  rootF o s90 s1 <| bkF o true s81 (load1F o (h.look 565148976676863) s90 fun v26 => f9_42 o c n k base s1 s81 s82 s89 v26 (h.look 0)) (f9_42 o c n k base s1 s81 s82 s89 (.tup []) (h.look 0))
theorem f9_41_ok (base : Nat) : QD Pq o c (cO (cA (cB (cB (cB (cB (cB (cB (cB b9))))))))) base ((f9_8K o c n k w)) 50 = fun t _ h => f9_41 o c n k base (t 1) (t 81) (t 82) (t 89) (t 90) h := (qd_seg 50 51 (by kernel_rfl) (f9_42_ok o c n k w base)).tk
noncomputable def f9_40 (base : Nat) (s1 s81 s82 s89 : AV) (h : Heap) : α :=
  bkF o true s81 (faF o 0 s1 fun v27 => f9_41 o c n k base s1 s81 s82 s89 v27 (h.look 0)) (f9_41 o c n k base s1 s81 s82 s89 (.tup []) (h.look 0))
theorem f9_40_ok (base : Nat) : QD Pq o c (cO (cA (cB (cB (cB (cB (cB (cB (cB b9))))))))) base ((f9_8K o c n k w)) 49 = fun t _ h => f9_40 o c n k base (t 1) (t 81) (t 82) (t 89) h := (qd_seg 49 50 (by kernel_rfl) (f9_41_ok o c n k w base)).tk
noncomputable def f9_39 (base : Nat) (s1 s81 s82 s88 : AV) (h : Heap) : α :=
  bkF o true s81 (loadNF o (h.look 279275953455103) 6 s88 fun v28 => f9_40 o c n k base s1 s81 s82 v28 (h.look 0)) (f9_40 o c n k base s1 s81 s82 (.tup []) (h.look 0))
theorem f9_39_ok (base : Nat) : QD Pq o c (cO (cA (cB (cB (cB (cB (cB (cB (cB b9))))))))) base ((f9_8K o c n k w)) 48 = fun t _ h => f9_39 o c n k base (t 1) (t 81) (t 82) (t 88) h := (qd_seg 48 49 (by kernel_rfl) (f9_40_ok o c n k w base)).tk
noncomputable def f9_38 (base : Nat) (s1 s81 s82 s87 : AV) (h : Heap) : α :=
  bkF o true s81 (ixF o 6 s87 (.i .i64 1) fun v29 => f9_39 o c n k base s1 s81 s82 v29 (h.look 0)) (f9_39 o c n k base s1 s81 s82 (.tup []) (h.look 0))
theorem f9_38_ok (base : Nat) : QD Pq o c (cO (cA (cB (cB (cB (cB (cB (cB (cB b9))))))))) base ((f9_8K o c n k w)) 47 = fun t _ h => f9_38 o c n k base (t 1) (t 81) (t 82) (t 87) h := (qd_seg 47 48 (by kernel_rfl) (f9_39_ok o c n k w base)).tk
noncomputable def f9_37 (base : Nat) (s1 s81 s82 s86 : AV) (h : Heap) : α :=
  bkF o true s81 (load1F o (h.look 68169720922111) s86 fun v30 => f9_38 o c n k base s1 s81 s82 v30 (h.look 0)) (f9_38 o c n k base s1 s81 s82 (.tup []) (h.look 0))
theorem f9_37_ok (base : Nat) : QD Pq o c (cO (cA (cB (cB (cB (cB (cB (cB (cB b9))))))))) base ((f9_8K o c n k w)) 46 = fun t _ h => f9_37 o c n k base (t 1) (t 81) (t 82) (t 86) h := (qd_seg 46 47 (by kernel_rfl) (f9_38_ok o c n k w base)).tk
noncomputable def f9_36 (base : Nat) (s1 s81 s82 s85 : AV) (h : Heap) : α :=
  bkF o true s81 (faF o 3 s85 fun v31 => f9_37 o c n k base s1 s81 s82 v31 (h.look 0)) (f9_37 o c n k base s1 s81 s82 (.tup []) (h.look 0))
theorem f9_36_ok (base : Nat) : QD Pq o c (cO (cA (cB (cB (cB (cB (cB (cB (cB b9))))))))) base ((f9_8K o c n k w)) 45 = fun t _ h => f9_36 o c n k base (t 1) (t 81) (t 82) (t 85) h := (qd_seg 45 46 (by kernel_rfl) (f9_37_ok o c n k w base)).tk
noncomputable def f9_35 (base : Nat) (s1 s81 s82 s84 : AV) (h : Heap) : α :=
  bkF o true s81 (ixF o 4 s84 (.i .i64 0) fun v32 => f9_36 o c n k base s1 s81 s82 v32 (h.look 0)) (f9_36 o c n k base s1 s81 s82 (.tup []) (h.look 0))
theorem f9_35_ok (base : Nat) : QD Pq o c (cO (cA (cB (cB (cB (cB (cB (cB (cB b9))))))))) base ((f9_8K o c n k w)) 44 = fun t _ h => f9_35 o c n k base (t 1) (t 81) (t 82) (t 84) h := (qd_seg 44 45 (by kernel_rfl) (f9_36_ok o c n k w base)).tk
noncomputable def f9_34 (base : Nat) (s1 s81 s82 s83 : AV) (h : Heap) : α :=
  rootF o s83 s1 <| bkF o true s81 (load1F o (h.look 6597069766655) s83 fun v33 => f9_35 o c n k base s1 s81 s82 v33 (h.look 0)) (f9_35 o c n k base s1 s81 s82 (.tup []) (h.look 0))
theorem f9_34_ok (base : Nat) : QD Pq o c (cO (cA (cB (cB (cB (cB (cB (cB (cB b9))))))))) base ((f9_8K o c n k w)) 43 = fun t _ h => f9_34 o c n k base (t 1) (t 81) (t 82) (t 83) h := (qd_seg 43 44 (by kernel_rfl) (f9_35_ok o c n k w base)).tk
noncomputable def f9_33 (base : Nat) (s1 s81 s82 : AV) (h : Heap) : α :=
  bkF o true s81 (faF o 0 s1 fun v34 => f9_34 o c n k base s1 s81 s82 v34 (h.look 0)) (f9_34 o c n k base s1 s81 s82 (.tup []) (h.look 0))
theorem f9_33_ok (base : Nat) : QD Pq o c (cO (cA (cB (cB (cB (cB (cB (cB (cB b9))))))))) base ((f9_8K o c n k w)) 42 = fun t _ h => f9_33 o c n k base (t 1) (t 81) (t 82) h := (qd_seg 42 43 (by kernel_rfl) (f9_34_ok o c n k w base)).tk
noncomputable def f9_32 (base : Nat) (s1 s69 s79 : AV) (h : Heap) : α :=
  pickF o s69 s79 (.b false) fun v35 => bkF o true v35 (loadNF o (h.look 2199023255551) 1 s1 fun v36 => f9_33 o c n k base s1 v35 v36 (h.look 0)) (f9_33 o c n k base s1 v35 (.tup []) (h.look 0))
theorem f9_32_ok (base : Nat) : QD Pq o c (cO (cA (cB (cB (cB (cB (cB (cB (cB b9))))))))) base ((f9_8K o c n k w)) 39 = fun t _ h => f9_32 o c n k base (t 1) (t 69) (t 79) h := (qd_seg 39 42 (by kernel_rfl) (f9_33_ok o c n k w base)).tk
noncomputable def f9_31 (base : Nat) (s1 s69 s70 s77 s78 : AV) (h : Heap) : α :=
  bkF o true s69 (callD o c [] 7 [s70, s77, s78] h fun v37 h => pnF v37 (fun x => hb h.shut fun hd => k x.pn hd) <| f9_32 o c n k base s1 s69 v37 h) (f9_32 o c n k base s1 s69 (.tup []) h)
theorem f9_31_ok (base : Nat) : QD Pq o c (cO (cA (cB (cB (cB (cB (cB (cB (cB b9))))))))) base ((f9_8K o c n k w)) 38 = fun t _ h => f9_31 o c n k base (t 1) (t 69) (t 70) (t 77) (t 78) h := (qd_seg 38 39 (by kernel_rfl) (f9_32_ok o c n k w base)).tk
noncomputable def f9_30 (base : Nat) (s1 s69 s70 s77 : AV) (h : Heap) : α :=
  bkF o true s69 (fil1 o 1 2 0 (.s 4 1819047278) [[(.s 0 0)], [(.s 0 0)]] fun v38 => fil1 o 1 2 1 (.s 1 66) v38 fun v39 => newEF (h.look 536870911) (Nat.add base 37) 1 2 v39 fun v40 h => f9_31 o c n k base s1 s69 s70 s77 v40 (h.look 0)) (f9_31 o c n k base s1 s69 s70 s77 (.tup []) (h.look 0))
theorem f9_30_ok (base : Nat) : QD Pq o c (cO (cA (cB (cB (cB (cB (cB (cB (cB b9))))))))) base ((f9_8K o c n k w)) 37 = fun t _ h => f9_30 o c n k base (t 1) (t 69) (t 70) (t 77) h := (qd_seg 37 38 (by kernel_rfl) (f9_31_ok o c n k w base)).tk
noncomputable def f9_29 (base : Nat) (s1 s69 s70 s76 : AV) (h : Heap) : α :=
  bkF o true s69 (loadNF o (h.look 68182605823) 6 s76 fun v41 => f9_30 o c n k base s1 s69 s70 v41 (h.look 0)) (f9_30 o c n k base s1 s69 s70 (.tup []) (h.look 0))
theorem f9_29_ok (base : Nat) : QD Pq o c (cO (cA (cB (cB (cB (cB (cB (cB (cB b9))))))))) base ((f9_8K o c n k w)) 36 = fun t _ h => f9_29 o c n k base (t 1) (t 69) (t 70) (t 76) h := (qd_seg 36 37 (by kernel_rfl) (f9_30_ok o c n k w base)).tk
noncomputable def f9_28 (base : Nat) (s1 s69 s70 s75 : AV) (h : Heap) : α :=
  bkF o true s69 (ixF o 6 s75 (.i .i64 0) fun v42 => f9_29 o c n k base s1 s69 s70 v42 (h.look 0)) (f9_29 o c n k base s1 s69 s70 (.tup []) (h.look 0))
theorem f9_28_ok (base : Nat) : QD Pq o c (cO (cA (cB (cB (cB (cB (cB (cB (cB b9))))))))) base ((f9_8K o c n k w)) 35 = fun t _ h => f9_28 o c n k base (t 1) (t 69) (t 70) (t 75) h := (qd_seg 35 36 (by kernel_rfl) (f9_29_ok o c n k w base)).tk
noncomputable def f9_27 (base : Nat) (s1 s69 s70 s74 : AV) (h : Heap) : α :=
  bkF o true s69 (load1F o (h.look 16642998271) s74 fun v43 => f9_28 o c n k base s1 s69 s70 v43 (h.look 0)) (f9_28 o c n k base s1 s69 s70 (.tup []) (h.look 0))
theorem f9_27_ok (base : Nat) : QD Pq o c (cO (cA (cB (cB (cB (cB (cB (cB (cB b9))))))))) base ((f9_8K o c n k w)) 34 = fun t _ h => f9_27 o c n k base (t 1) (t 69) (t 70) (t 74) h := (qd_seg 34 35 (by kernel_rfl) (f9_28_ok o c n k w base)).tk
noncomputable def f9_26 (base : Nat) (s1 s69 s70 s73 : AV) (h : Heap) : α :=
  bkF o true s69 (faF o 3 s73 fun v44 => f9_27 o c n k base s1 s69 s70 v44 (h.look 0)) (f9_27 o c n k base s1 s69 s70 (.tup []) (h.look 0))
theorem f9_26_ok (base : Nat) : QD Pq o c (cO (cA (cB (cB (cB (cB (cB (cB (cB b9))))))))) base ((f9_8K o c n k w)) 33 = fun t _ h => f9_26 o c n k base (t 1) (t 69) (t 70) (t 73) h := (qd_seg 33 34 (by kernel_rfl) (f9_27_ok o c n k w base)).tk
noncomputable def f9_25 (base : Nat) (s1 s69 s70 s72 : AV) (h : Heap) : α :=
  bkF o true s69 (ixF o 4 s72 (.i .i64 0) fun v45 => f9_26 o c n k base s1 s69 s70 v45 (h.look 0)) (f9_26 o c n k base s1 s69 s70 (.tup []) (h.look 0))
theorem f9_25_ok (base : Nat) : QD Pq o c (cO (cA (cB (cB (cB (cB (cB (cB (cB b9))))))))) base ((f9_8K o c n k w)) 32 = fun t _ h => f9_25 o c n k base (t 1) (t 69) (t 70) (t 72) h := (qd_seg 32 33 (by kernel_rfl) (f9_26_ok o c n k w base)).tk
noncomputable def f9_24 (base : Nat) (s1 s69 s70 s71 : AV) (h : Heap) : α :=
  rootF o s71 s1 <| bkF o true s69 (load1F o (h.look 1610612735) s71 fun v46 => f9_25 o c n k base s1 s69 s70 v46 (h.look 0)) (f9_25 o c n k base s1 s69 s70 (.tup []) (h.look 0))
theorem f9_24_ok (base : Nat) : QD Pq o c (cO (cA (cB (cB (cB (cB (cB (cB (cB b9))))))))) base ((f9_8K o c n k w)) 31 = fun t _ h => f9_24 o c n k base (t 1) (t 69) (t 70) (t 71) h := (qd_seg 31 32 (by kernel_rfl) (f9_25_ok o c n k w base)).tk
noncomputable def f9_23 (base : Nat) (s1 s69 s70 : AV) (h : Heap) : α :=
  bkF o true s69 (faF o 0 s1 fun v47 => f9_24 o c n k base s1 s69 s70 v47 (h.look 0)) (f9_24 o c n k base s1 s69 s70 (.tup []) (h.look 0))
theorem f9_23_ok (base : Nat) : QD Pq o c (cO (cA (cB (cB (cB (cB (cB (cB (cB b9))))))))) base ((f9_8K o c n k w)) 30 = fun t _ h => f9_23 o c n k base (t 1) (t 69) (t 70) h := (qd_seg 30 31 (by kernel_rfl) (f9_24_ok o c n k w base)).tk
noncomputable def f9_22 (base : Nat) (s1 s64 s67 : AV) (h : Heap) : α :=
  pickF o s64 s67 (.b false) fun v48 => bkF o true v48 (loadNF o (h.look 536870911) 1 s1 fun v49 => f9_23 o c n k base s1 v48 v49 (h.look 0)) (f9_23 o c n k base s1 v48 (.tup []) (h.look 0))
theorem f9_22_ok (base : Nat) : QD Pq o c (cO (cA (cB (cB (cB (cB (cB (cB (cB b9))))))))) base ((f9_8K o c n k w)) 27 = fun t _ h => f9_22 o c n k base (t 1) (t 64) (t 67) h := (qd_seg 27 30 (by kernel_rfl) (f9_23_ok o c n k w base)).tk
noncomputable def f9_21 (base : Nat) (s1 s64 s66 : AV) (h : Heap) : α :=
  bkF o true s64 (eqiF Pq o 3 s66 (.i .i64 (-1)) fun v50 => f9_22 o c n k base s1 s64 v50 (h.look 0)) (f9_22 o c n k base s1 s64 (.tup []) (h.look 0))
theorem f9_21_ok (base : Nat) : QD Pq o c (cO (cA (cB (cB (cB (cB (cB (cB (cB b9))))))))) base ((f9_8K o c n k w)) 26 = fun t _ h => f9_21 o c n k base (t 1) (t 64) (t 66) h := (qd_seg 26 27 (by kernel_rfl) (f9_22_ok o c n k w base)).tk
noncomputable def f9_20 (base : Nat) (s1 s10 s64 s65 : AV) (h : Heap) : α :=
  rootF o s65 s10 <| bkF o true s64 (load1F o (h.look 33554431) s65 fun v51 => f9_21 o c n k base s1 s64 v51 (h.look 0)) (f9_21 o c n k base s1 s64 (.tup []) (h.look 0))
theorem f9_20_ok (base : Nat) : QD Pq o c (cO (cA (cB (cB (cB (cB (cB (cB (cB b9))))))))) base ((f9_8K o c n k w)) 25 = fun t _ h => f9_20 o c n k base (t 1) (t 10) (t 64) (t 65) h := (qd_seg 25 26 (by kernel_rfl) (f9_21_ok o c n k w base)).tk
noncomputable def f9_19 (base : Nat) (s1 s10 s60 s62 : AV) (h : Heap) : α :=
  pickF o s60 s62 (.b false) fun v52 => bkF o true v52 (faF o 1 s10 fun v53 => f9_20 o c n k base s1 s10 v52 v53 (h.look 0)) (f9_20 o c n k base s1 s10 v52 (.tup []) (h.look 0))
theorem f9_19_ok (base : Nat) : QD Pq o c (cO (cA (cB (cB (cB (cB (cB (cB (cB b9))))))))) base ((f9_8K o c n k w)) 22 = fun t _ h => f9_19 o c n k base (t 1) (t 10) (t 60) (t 62) h := (qd_seg 22 25 (by kernel_rfl) (f9_20_ok o c n k w base)).tk
noncomputable def f9_18 (base : Nat) (s1 s10 s60 s61 : AV) (h : Heap) : α :=
  bkF o true s60 (eqiF Pq o 3 s61 (.i .i64 0) fun v54 => f9_19 o c n k base s1 s10 s60 v54 (h.look 0)) (f9_19 o c n k base s1 s10 s60 (.tup []) (h.look 0))
theorem f9_18_ok (base : Nat) : QD Pq o c (cO (cA (cB (cB (cB (cB (cB (cB (cB b9))))))))) base ((f9_8K o c n k w)) 21 = fun t _ h => f9_18 o c n k base (t 1) (t 10) (t 60) (t 61) h := (qd_seg 21 22 (by kernel_rfl) (f9_19_ok o c n k w base)).tk
noncomputable def f9_17 (base : Nat) (s1 s10 s11 s56 s58 : AV) (h : Heap) : α :=
  pickF o s56 s58 (.b false) fun v55 => bkF o true v55 (f9_18 o c n k base s1 s10 v55 s11 (h.look 0)) (f9_18 o c n k base s1 s10 v55 (.tup []) (h.look 0))
theorem f9_17_ok (base : Nat) : QD Pq o c (cO (cA (cB (cB (cB (cB (cB (cB (cB b9))))))))) base ((f9_8K o c n k w)) 18 = fun t _ h => f9_17 o c n k base (t 1) (t 10) (t 11) (t 56) (t 58) h := (qd_seg 18 21 (by kernel_rfl) (f9_18_ok o c n k w base)).tk
noncomputable def f9_16 (base : Nat) (s1 s10 s11 s56 s57 : AV) (h : Heap) : α :=
  bkF o true s56 (eqiF Pq o 3 s57 (.i .i64 7) fun v56 => f9_17 o c n k base s1 s10 s11 s56 v56 (h.look 0)) (f9_17 o c n k base s1 s10 s11 s56 (.tup []) (h.look 0))
theorem f9_16_ok (base : Nat) : QD Pq o c (cO (cA (cB (cB (cB (cB (cB (cB (cB b9))))))))) base ((f9_8K o c n k w)) 17 = fun t _ h => f9_16 o c n k base (t 1) (t 10) (t 11) (t 56) (t 57) h := (qd_seg 17 18 (by kernel_rfl) (f9_17_ok o c n k w base)).tk
noncomputable def f9_15 (base : Nat) (s1 s9 s10 s11 s52 s54 : AV) (h : Heap) : α :=
  pickF o s52 s54 (.b false) fun v57 => bkF o true v57 (f9_16 o c n k base s1 s10 s11 v57 s9 (h.look 0)) (f9_16 o c n k base s1 s10 s11 v57 (.tup []) (h.look 0))
theorem f9_15_ok (base : Nat) : QD Pq o c (cO (cA (cB (cB (cB (cB (cB (cB (cB b9))))))))) base ((f9_8K o c n k w)) 14 = fun t _ h => f9_15 o c n k base (t 1) (t 9) (t 10) (t 11) (t 52) (t 54) h := (qd_seg 14 17 (by kernel_rfl) (f9_16_ok o c n k w base)).tk
noncomputable def f9_14 (base : Nat) (s1 s9 s10 s11 s52 s53 : AV) (h : Heap) : α :=
  bkF o true s52 (eqiF Pq o 3 s53 (.i .i64 11) fun v58 => f9_15 o c n k base s1 s9 s10 s11 s52 v58 (h.look 0)) (f9_15 o c n k base s1 s9 s10 s11 s52 (.tup []) (h.look 0))
theorem f9_14_ok (base : Nat) : QD Pq o c (cO (cA (cB (cB (cB (cB (cB (cB (cB b9))))))))) base ((f9_8K o c n k w)) 13 = fun t _ h => f9_14 o c n k base (t 1) (t 9) (t 10) (t 11) (t 52) (t 53) h := (qd_seg 13 14 (by kernel_rfl) (f9_15_ok o c n k w base)).tk
noncomputable def f9_13 (base : Nat) (s1 s7 s9 s10 s11 s48 s50 : AV) (h : Heap) : α :=
  pickF o s48 s50 (.b false) fun v59 => bkF o true v59 (f9_14 o c n k base s1 s9 s10 s11 v59 s7 (h.look 0)) (f9_14 o c n k base s1 s9 s10 s11 v59 (.tup []) (h.look 0))
theorem f9_13_ok (base : Nat) : QD Pq o c (cO (cA (cB (cB (cB (cB (cB (cB (cB b9))))))))) base ((f9_8K o c n k w)) 10 = fun t _ h => f9_13 o c n k base (t 1) (t 7) (t 9) (t 10) (t 11) (t 48) (t 50) h := (qd_seg 10 13 (by kernel_rfl) (f9_14_ok o c n k w base)).tk
noncomputable def f9_12 (base : Nat) (s1 s7 s9 s10 s11 s48 s49 : AV) (h : Heap) : α :=
  bkF o true s48 (eqiF Pq o 3 s49 (.i .i64 12) fun v60 => f9_13 o c n k base s1 s7 s9 s10 s11 s48 v60 (h.look 0)) (f9_13 o c n k base s1 s7 s9 s10 s11 s48 (.tup []) (h.look 0))
theorem f9_12_ok (base : Nat) : QD Pq o c (cO (cA (cB (cB (cB (cB (cB (cB (cB b9))))))))) base ((f9_8K o c n k w)) 9 = fun t _ h => f9_12 o c n k base (t 1) (t 7) (t 9) (t 10) (t 11) (t 48) (t 49) h := (qd_seg 9 10 (by kernel_rfl) (f9_13_ok o c n k w base)).tk
noncomputable def f9_11 (base : Nat) (s1 s5 s7 s9 s10 s11 s43 s46 : AV) (h : Heap) : α :=
  pickF o s43 s46 (.b false) fun v61 => bkF o true v61 (f9_12 o c n k base s1 s7 s9 s10 s11 v61 s5 (h.look 0)) (f9_12 o c n k base s1 s7 s9 s10 s11 v61 (.tup []) (h.look 0))
theorem f9_11_ok (base : Nat) : QD Pq o c (cO (cA (cB (cB (cB (cB (cB (cB (cB b9))))))))) base ((f9_8K o c n k w)) 6 = fun t _ h => f9_11 o c n k base (t 1) (t 5) (t 7) (t 9) (t 10) (t 11) (t 43) (t 46) h := (qd_seg 6 9 (by kernel_rfl) (f9_12_ok o c n k w base)).tk
noncomputable def f9_10 (base : Nat) (s1 s5 s7 s9 s10 s11 s43 s44 s45 : AV) (h : Heap) : α :=
  bkF o true s43 (eqiF Pq o 30 s44 s45 fun v62 => f9_11 o c n k base s1 s5 s7 s9 s10 s11 s43 v62 (h.look 0)) (f9_11 o c n k base s1 s5 s7 s9 s10 s11 s43 (.tup []) (h.look 0))
theorem f9_10_ok (base : Nat) : QD Pq o c (cO (cA (cB (cB (cB (cB (cB (cB (cB b9))))))))) base ((f9_8K o c n k w)) 5 = fun t _ h => f9_10 o c n k base (t 1) (t 5) (t 7) (t 9) (t 10) (t 11) (t 43) (t 44) (t 45) h := (qd_seg 5 6 (by kernel_rfl) (f9_11_ok o c n k w base)).tk
noncomputable def f9_9 (base : Nat) (s1 s5 s7 s9 s10 s11 s43 s44 : AV) (h : Heap) : α :=
  bkF o true s43 (layF o 0 (.s 1 65) [(.s 0 0), (.i .i64 0)] fun v63 => layF o 1 (.i .i64 1) v63 fun v64 => f9_10 o c n k base s1 s5 s7 s9 s10 s11 s43 s44 (.agg v64) (h.look 0)) (f9_10 o c n k base s1 s5 s7 s9 s10 s11 s43 s44 (.tup []) (h.look 0))
theorem f9_9_ok (base : Nat) : QD Pq o c (cO (cA (cB (cB (cB (cB (cB (cB (cB b9))))))))) base ((f9_8K o c n k w)) 4 = fun t _ h => f9_9 o c n k base (t 1) (t 5) (t 7) (t 9) (t 10) (t 11) (t 43) (t 44) h := (qd_seg 4 5 (by kernel_rfl) (f9_10_ok o c n k w base)).tk
noncomputable def f9_7 (s1 s2 s3 s5 s7 s9 s10 s11 : AV) (h : Heap) : α :=
  dreg o h 78 fun base h => eqiF Pq o 3 s3 (.i .i64 0) fun v65 => bkF o true v65 (loadNF o (h.look 7) 2 s2 fun v66 => f9_9 o c n k base s1 s5 s7 s9 s10 s11 v65 v66 (h.look 0)) (f9_9 o c n k base s1 s5 s7 s9 s10 s11 v65 (.tup []) (h.look 0))
theorem f9_7_ok : R Pq o c n (cB (cB (cB (cB (cB (cB (cB b9))))))) (kend Pq o c n w rs9 k) = fun t _ h => f9_7 o c n k (t 1) (t 2) (t 3) (t 5) (t 7) (t 9) (t 10) (t 11) h := (kseq rfl (r_startD 4 (by kernel_rfl) (by kernel_rfl) (X := fun base => fun t _ h => f9_9 o c n k base (t 1) (t 5) (t 7) (t 9) (t 10) (t 11) (t 43) (t 44) h) (fun base => f9_9_ok o c n k w base))).tk
noncomputable def f9_6 (s1 s2 s3 s5 s7 s9 : AV) (h : Heap) : α :=
  loadNF o h 1 s1 fun v67 => c 17 [v67, (.s 1 65), .nsl] h fun v68 h => pk k v68 h <| exF o v68 0 fun v69 => exF o v68 1 fun v70 => newF h h.next 2 [(.s 0 0), (.i .i64 0)] fun v71 h => storeF o h 2 v71 v69 fun h => f9_7 o c n k s1 s2 s3 s5 s7 s9 v71 v70 h
theorem f9_6_ok : R Pq o c n (cB (cB (cB (cB (cB (cB b9)))))) (kend Pq o c n w rs9 k) = fun t _ h => f9_6 o c n k (t 1) (t 2) (t 3) (t 5) (t 7) (t 9) h := (kseq (f9_7_ok o c n k w) rfl).tk
noncomputable def f9_5 (s1 s2 s3 s5 s7 : AV) (h : Heap) : α :=
  loadNF o h 1 s1 fun v72 => c 17 [v72, (.s 1 90), .nsl] h fun v73 h => pk k v73 h <| exF o v73 0 fun v74 => exF o v73 1 fun v75 => newF h h.next 2 [(.s 0 0), (.i .i64 0)] fun v76 h => storeF o h 2 v76 v74 fun h => f9_6 o c n k s1 s2 s3 s5 s7 v75 h
theorem f9_5_ok : R Pq o c n (cB (cB (cB (cB (cB b9))))) (kend Pq o c n w rs9 k) = fun t _ h => f9_5 o c n k (t 1) (t 2) (t 3) (t 5) (t 7) h := (kseq (f9_6_ok o c n k w) rfl).tk
noncomputable def f9_4 (s1 s2 s3 s5 : AV) (h : Heap) : α :=
  loadNF o h 1 s1 fun v77 => fil1 o 1 2 0 (.s 3 7630441) [[(.s 0 0)], [(.s 0 0)]] fun v78 => fil1 o 1 2 1 (.s 1 66) v78 fun v79 => newEF h h.next 1 2 v79 fun v80 h => c 6 [v77, (.s 1 65), (.s 1 102), v80] h fun v81 h => pk k v81 h <| exF o v81 0 fun v82 => exF o v81 1 fun v83 => newF h h.next 2 [(.s 0 0), (.i .i64 0)] fun v84 h => storeF o h 2 v84 v82 fun h => f9_5 o c n k s1 s2 s3 s5 v83 h
theorem f9_4_ok : R Pq o c n (cB (cB (cB (cB b9)))) (kend Pq o c n w rs9 k) = fun t _ h => f9_4 o c n k (t 1) (t 2) (t 3) (t 5) h := (kseq (f9_5_ok o c n k w) rfl).tk
noncomputable def f9_3 (s1 s2 s3 : AV) (h : Heap) : α :=
  loadNF o h 1 s1 fun v85 => fil1 o 1 2 0 (.s 1 66) [[(.s 0 0)], [(.s 0 0)]] fun v86 => fil1 o 1 2 1 (.s 1 66) v86 fun v87 => newEF h h.next 1 2 v87 fun v88 h => c 6 [v85, (.s 1 65), (.s 1 102), v88] h fun v89 h => pk k v89 h <| exF o v89 0 fun v90 => exF o v89 1 fun v91 => newF h h.next 2 [(.s 0 0), (.i .i64 0)] fun v92 h => storeF o h 2 v92 v90 fun h => f9_4 o c n k s1 s2 s3 v91 h
theorem f9_3_ok : R Pq o c n (cB (cB (cB b9))) (kend Pq o c n w rs9 k) = fun t _ h => f9_3 o c n k (t 1) (t 2) (t 3) h := (kseq (f9_4_ok o c n k w) rfl).tk
noncomputable def f9_2 (s1 : AV) (h : Heap) : α :=
  loadNF o h 1 s1 fun v93 => fil1 o 1 2 0 (.s 1 65) [[(.s 0 0)], [(.s 0 0)]] fun v94 => fil1 o 1 2 1 (.s 1 66) v94 fun v95 => newEF h h.next 1 2 v95 fun v96 h => c 6 [v93, (.s 1 66), (.s 1 102), v96] h fun v97 h => pk k v97 h <| exF o v97 0 fun v98 => exF o v97 1 fun v99 => newF h h.next 2 [(.s 0 0), (.i .i64 0)] fun v100 h => storeF o h 2 v100 v98 fun h => f9_3 o c n k s1 v100 v99 h
theorem f9_2_ok : R Pq o c n (cB (cB b9)) (kend Pq o c n w rs9 k) = fun t _ h => f9_2 o c n k (t 1) h := (kseq (f9_3_ok o c n k w) rfl).tk
noncomputable def f9_1 (h : Heap) : α :=
  c 4 [(.i .i64 176)] h fun v101 h => pk k v101 h <| newF h h.next 1 [.nsl] fun v102 h => storeF o h 1 v102 v101 fun h => f9_2 o c n k v102 h
theorem f9_1_ok : R Pq o c n (cB b9) (kend Pq o c n w rs9 k) = fun t _ h => f9_1 o c n k h := (kseq (f9_2_ok o c n k w) rfl).tk
noncomputable def f9 (h : Heap) : α :=
  f9_1 o c n k h
theorem f9_ok : R Pq o c n b9 (kend Pq o c n w rs9 k) = fun t _ h => f9 o c n k h := (kseq (f9_1_ok o c n k w) rfl).tk
theorem f9_good : Good Pq (cfg mm) 9 (entF Pq (cfg mm) 9 0 fun α => f9) := entG b9 rs9 118 fun _ => f9_ok
noncomputable def b10 := bdy Try.f10
noncomputable def rs10 := Try.f10.results.toList
noncomputable def f10_2 {α : Type} (o : α) (c : Call' α) (n : Nat) (k : AV → Heap → α) (s1 s2 s3 s6 : AV) (h : Heap) : α :=
  loadNF o h 1 s3 fun v1 => c 22 [v1, s1, s2] h fun v2 h => pk k v2 h <| exF o v2 0 fun v3 => exF o v2 1 fun v4 => storeF o h 2 s6 v3 fun h => on o (resV Pq h [(s6, some 30), (v4, none)]) fun v => k v h
theorem f10_2_ok : R Pq o c n (cB (cB b10)) (kend Pq o c n w rs10 k) = fun t _ h => f10_2 o c n k (t 1) (t 2) (t 3) (t 6) h := by kernel_rfl
noncomputable def f10_1 (s1 s2 s3 s6 : AV) (h : Heap) : α :=
  loadNF o h 1 s3 fun v5 => c 18 [v5] h fun v6 h => pk k v6 h <| exF o v6 0 fun v7 => exF o v6 1 fun v8 => neiF Pq o 3 v7 (.i .i64 0) fun v9 => ifF o v9 (c 20 [s1] h fun v10 h => pk k v10 h <| c 19 [v10, (.fn (.func 21) [] [])] h fun v11 h => pk k v11 h <| f10_2 o c n k v11 s2 s3 s6 h) (f10_2 o c n k s1 s2 s3 s6 h)
theorem f10_1_ok : R Pq o c n (cB b10) (kend Pq o c n w rs10 k) = fun t _ h => f10_1 o c n k (t 1) (t 2) (t 3) (t 6) h := (kseq (f10_2_ok o c n k w) rfl).tk
noncomputable def f10 (a0 a1 a2 : AV) (h : Heap) : α :=
  boxF o a0 h h.next fun v12 h => newF h h.next 2 [(.s 0 0), (.i .i64 0)] fun v13 h => f10_1 o c n k a1 a2 v12 v13 h
theorem f10_ok : R Pq o c n b10 (kend Pq o c n w rs10 k) = fun t _ h => f10 o c n k (t 0) (t 1) (t 2) h := (kseq (f10_1_ok o c n k w) rfl).tk
theorem f10_good : Good Pq (cfg mm) 10 (entF Pq (cfg mm) 10 3 fun α => f10) := entG b10 rs10 26 fun _ => f10_ok
noncomputable def b11 := bdy Try.f11
noncomputable def rs11 := Try.f11.results.toList
noncomputable def f11 {α : Type} (o : α) (c : Call' α) (n : Nat) (k : AV → Heap → α) (a0 a1 a2 : AV) (h : Heap) : α :=
  boxF o a0 h h.next fun v1 h => loadNF o h 1 v1 fun v2 => c 23 [v2] h fun v3 h => pk k v3 h <| notF o v3 fun v4 => ifF o v4 (k .nsl h) (loadNF o h 1 v1 fun v5 => c 24 [v5, a1, a2] h fun v6 h => pk k v6 h <| k v6 h)
theorem f11_ok : R Pq o c n b11 (kend Pq o c n w rs11 k) = fun t _ h => f11 o c n k (t 0) (t 1) (t 2) h := by kernel_rfl
theorem f11_good : Good Pq (cfg mm) 11 (entF Pq (cfg mm) 11 3 fun α => f11) := entG b11 rs11 14 fun _ => f11_ok
noncomputable def b12 := bdy Try.f12
noncomputable def rs12 := Try.f12.results.toList
noncomputable def f12_3K : Ex → K α := (nxK (R Pq o c n (cB (cB (cB b12))) (kend Pq o c n w rs12 k)) (kend Pq o c n w rs12 k))
noncomputable def f12_5 {α : Type} (o : α) (c : Call' α) (n : Nat) (k : AV → Heap → α) (m : Nat) : AVs (Heap → α) 5 :=
  Nat.rec (motive := fun _ => AVs (Heap → α) 5) (fun _ _ _ _ _ _ => o) (fun _ lp0 s1 s2 s15 s16 s17 h => lssF Pq o 3 s17 s16 fun v1 => ifF o v1 (ixF o 2 s15 s17 fun v2 => loadNF o h 2 v2 fun v3 => newF h h.next 2 [(.s 0 0), (.s 0 0)] fun v4 h => storeF o h 2 v4 v3 fun h => ixF o 1 s1 s17 fun v5 => load1F o h v5 fun v6 => loadNF o h 2 v4 fun v7 => cfF o s2 [v7, v6] c h fun v8 h => pk k v8 h <| notF o v8 fun v9 => ifF o v9 (k (.b false) h) (addF Pq o 3 s17 (.i .i64 1) fun v10 => lp0 s1 s2 s15 s16 v10 h)) (k (.b true) h)) m
theorem f12_5_ok : R Pq o c n (cA (cB (cA (cB (cB b12))))) (blockK (cI (cB (cA (cB (cB b12))))) (f12_3K o c n k w)) = fun t _ h => f12_5 o c n k n (t 1) (t 2) (t 15) (t 16) (t 17) h :=
  c_loop (F := fun m t _ h => f12_5 o c n k m (t 1) (t 2) (t 15) (t 16) (t 17) h) (by kernel_rfl) (by kernel_rfl) fun m => by kernel_rfl
noncomputable def f12_4 (s1 s2 s15 s16 s17 : AV) (h : Heap) : α :=
  f12_5 o c n k n s1 s2 s15 s16 s17 h
theorem f12_4_ok : R Pq o c n (cB (cA (cB (cB b12)))) (f12_3K o c n k w) = fun t _ h => f12_4 o c n k (t 1) (t 2) (t 15) (t 16) (t 17) h := (kblk (f12_5_ok o c n k w)).tk
noncomputable def f12_2 (s0 s1 s2 : AV) (h : Heap) : α :=
  lenF o s0 fun v11 => f12_4 o c n k s1 s2 s0 v11 (.i .i64 0) h
theorem f12_2_ok : R Pq o c n (cB (cB b12)) (kend Pq o c n w rs12 k) = fun t _ h => f12_2 o c n k (t 0) (t 1) (t 2) h := (kseq rfl (kseq (f12_4_ok o c n k w) rfl)).tk
noncomputable def f12_1 (s0 s1 s2 : AV) (h : Heap) : α :=
  lenF o s0 fun v12 => lenF o s1 fun v13 => neiF Pq o 3 v12 v13 fun v14 => ifF o v14 (k (.b false) h) (f12_2 o c n k s0 s1 s2 h)
theorem f12_1_ok : R Pq o c n (cB b12) (kend Pq o c n w rs12 k) = fun t _ h => f12_1 o c n k (t 0) (t 1) (t 2) h := (kseq (f12_2_ok o c n k w) rfl).tk
noncomputable def f12 (a0 a1 a2 : AV) (h : Heap) : α :=
  f12_1 o c n k a0 a1 a2 h
theorem f12_ok : R Pq o c n b12 (kend Pq o c n w rs12 k) = fun t _ h => f12 o c n k (t 0) (t 1) (t 2) h := (kseq (f12_1_ok o c n k w) rfl).tk
theorem f12_good : Good Pq (cfg mm) 12 (entF Pq (cfg mm) 12 3 fun α => f12) := entG b12 rs12 32 fun _ => f12_ok
noncomputable def b13 := bdy Try.f13
noncomputable def rs13 := Try.f13.results.toList
noncomputable def f13 {α : Type} (o : α) (c : Call' α) (n : Nat) (k : AV → Heap → α) (a0 a1 a2 : AV) (h : Heap) : α :=
  boxF o a0 h h.next fun v1 h => loadNF o h 1 a2 fun v2 => faF o 0 v1 fun v3 => load1F o h v3 fun v4 => c 14 [v2, a1, v4] h fun v5 h => pk k v5 h <| k v5 h
theorem f13_ok : R Pq o c n b13 (kend Pq o c n w rs13 k) = fun t _ h => f13 o c n k (t 0) (t 1) (t 2) h := by kernel_rfl
theorem f13_good : Good Pq (cfg mm) 13 (entF Pq (cfg mm) 13 3 fun α => f13) := entG b13 rs13 11 fun _ => f13_ok
noncomputable def b14 := bdy Try.f14
noncomputable def rs14 := Try.f14.results.toList
noncomputable def f14_3K : Ex → K α := (nxK (R Pq o c n (cB (cB (cB b14))) (kend Pq o c n w rs14 k)) (kend Pq o c n w rs14 k))
noncomputable def f14_2 {α : Type} (o : α) (c : Call' α) (n : Nat) (k : AV → Heap → α) (s1 s2 s3 : AV) (h : Heap) : α :=
  loadNF o h 1 s3 fun v1 => c 26 [v1, s1] h fun v2 h => pk k v2 h <| bkF o true v2 (loadNF o h 1 s3 fun v3 => c 28 [v3, s1] h fun v4 h => pk k v4 h <| c 27 [v4, s2] h fun v5 h => pk k v5 h <| pickF o v2 v5 (.b false) fun v6 => k v6 h) (pickF o v2 (.tup []) (.b false) fun v7 => k v7 h)
theorem f14_2_ok : R Pq o c n (cB (cB b14)) (kend Pq o c n w rs14 k) = fun t _ h => f14_2 o c n k (t 1) (t 2) (t 3) h := (kseq rfl (r_start 4 (by kernel_rfl) (q_guard 4 9 (3, true) (by kernel_rfl) (by kernel_rfl) (by kernel_rfl) rfl))).tk
noncomputable def f14_4K : Ex → K α := (nxK (fun t _ h => f14_2 o c n k (t 1) (t 2) (t 3) h) (kend Pq o c n w rs14 k))
noncomputable def f14_6K : Ex → K α := (nxK (R Pq o c n (cB (cA (cB (cA (cA (cB b14)))))) (blockK (cI (cA (cB b14))) (f14_4K o c n k w))) (blockK (cI (cA (cB b14))) (f14_4K o c n k w)))
noncomputable def f14_5 (s1 s2 s3 s7 : AV) (h : Heap) : α :=
  ifF o s7 (eqsF Pq o 9 s1 (.s 4 1819047278) fun v8 => bkF o false v8 (loadNF o h 1 s3 fun v9 => c 25 [v9, s1] h fun v10 h => pk k v10 h <| pickF o v8 (.b true) v10 fun v11 => k v11 h) (pickF o v8 (.b true) (.tup []) fun v12 => k v12 h)) (eqsF Pq o 9 s1 (.s 4 1819047278) fun v13 => ifF o v13 (loadNF o h 1 s3 fun v14 => c 26 [v14, s2] h fun v15 h => pk k v15 h <| k v15 h) (f14_2 o c n k s1 s2 s3 h))
theorem f14_5_ok : R Pq o c n (cB (cA (cA (cB b14)))) (blockK (cI (cA (cB b14))) (f14_4K o c n k w)) = fun t _ h => f14_5 o c n k (t 1) (t 2) (t 3) (t 7) h := (c_cond (by kernel_rfl) (kseq rfl (r_start 3 (by kernel_rfl) (q_guard 3 6 (2, false) (by kernel_rfl) (by kernel_rfl) (by kernel_rfl) rfl))) rfl).tk
noncomputable def f14_1 (s1 s2 s3 : AV) (h : Heap) : α :=
  eqsF Pq o 9 s1 s2 fun v16 => f14_5 o c n k s1 s2 s3 v16 h
theorem f14_1_ok : R Pq o c n (cB b14) (kend Pq o c n w rs14 k) = fun t _ h => f14_1 o c n k (t 1) (t 2) (t 3) h := (kseq (f14_2_ok o c n k w) (kblk (kseq (f14_5_ok o c n k w) rfl))).tk
noncomputable def f14 (a0 a1 a2 : AV) (h : Heap) : α :=
  boxF o a0 h h.next fun v17 h => f14_1 o c n k a1 a2 v17 h
theorem f14_ok : R Pq o c n b14 (kend Pq o c n w rs14 k) = fun t _ h => f14 o c n k (t 0) (t 1) (t 2) h := (kseq (f14_1_ok o c n k w) rfl).tk
theorem f14_good : Good Pq (cfg mm) 14 (entF Pq (cfg mm) 14 3 fun α => f14) := entG b14 rs14 34 fun _ => f14_ok
noncomputable def b15 := bdy Try.f15
noncomputable def rs15 := Try.f15.results.toList
noncomputable def f15_3K : Ex → K α := (nxK (R Pq o c n (cB (cB (cB b15))) (kend Pq o c n w rs15 k)) (kend Pq o c n w rs15 k))
noncomputable def f15_5 {α : Type} (o : α) (c : Call' α) (n : Nat) (k : AV → Heap → α) (m : Nat) : AVs (Heap → α) 5 :=
  Nat.rec (motive := fun _ => AVs (Heap → α) 5) (fun _ _ _ _ _ _ => o) (fun _ lp0 s1 s2 s15 s16 s17 h => lssF Pq o 3 s17 s16 fun v1 => ifF o v1 (ixF o 2 s15 s17 fun v2 => loadNF o h 2 v2 fun v3 => newF h h.next 2 [(.s 0 0), (.s 0 0)] fun v4 h => storeF o h 2 v4 v3 fun h => ixF o 2 s1 s17 fun v5 => loadNF o h 2 v5 fun v6 => newF h h.next 2 [(.s 0 0), (.s 0 0)] fun v7 h => storeF o h 2 v7 v6 fun h => loadNF o h 2 v4 fun v8 => loadNF o h 2 v7 fun v9 => cfF o s2 [v8, v9] c h fun v10 h => pk k v10 h <| notF o v10 fun v11 => ifF o v11 (k (.b false) h) (addF Pq o 3 s17 (.i .i64 1) fun v12 => lp0 s1 s2 s15 s16 v12 h)) (k (.b true) h)) m
theorem f15_5_ok : R Pq o c n (cA (cB (cA (cB (cB b15))))) (blockK (cI (cB (cA (cB (cB b15))))) (f15_3K o c n k w)) = fun t _ h => f15_5 o c n k n (t 1) (t 2) (t 15) (t 16) (t 17) h :=
  c_loop (F := fun m t _ h => f15_5 o c n k m (t 1) (t 2) (t 15) (t 16) (t 17) h) (by kernel_rfl) (by kernel_rfl) fun m => by kernel_rfl
noncomputable def f15_4 (s1 s2 s15 s16 s17 : AV) (h : Heap) : α :=
  f15_5 o c n k n s1 s2 s15 s16 s17 h
theorem f15_4_ok : R Pq o c n (cB (cA (cB (cB b15)))) (f15_3K o c n k w) = fun t _ h => f15_4 o c n k (t 1) (t 2) (t 15) (t 16) (t 17) h := (kblk (f15_5_ok o c n k w)).tk
noncomputable def f15_2 (s0 s1 s2 : AV) (h : Heap) : α :=
  lenF o s0 fun v13 => f15_4 o c n k s1 s2 s0 v13 (.i .i64 0) h
theorem f15_2_ok : R Pq o c n (cB (cB b15)) (kend Pq o c n w rs15 k) = fun t _ h => f15_2 o c n k (t 0) (t 1) (t 2) h := (kseq rfl (kseq (f15_4_ok o c n k w) rfl)).tk
noncomputable def f15_1 (s0 s1 s2 : AV) (h : Heap) : α :=
  lenF o s0 fun v14 => lenF o s1 fun v15 => neiF Pq o 3 v14 v15 fun v16 => ifF o v16 (k (.b false) h) (f15_2 o c n k s0 s1 s2 h)
theorem f15_1_ok : R Pq o c n (cB b15) (kend Pq o c n w rs15 k) = fun t _ h => f15_1 o c n k (t 0) (t 1) (t 2) h := (kseq (f15_2_ok o c n k w) rfl).tk
noncomputable def f15 (a0 a1 a2 : AV) (h : Heap) : α :=
  f15_1 o c n k a0 a1 a2 h
theorem f15_ok : R Pq o c n b15 (kend Pq o c n w rs15 k) = fun t _ h => f15 o c n k (t 0) (t 1) (t 2) h := (kseq (f15_1_ok o c n k w) rfl).tk
theorem f15_good : Good Pq (cfg mm) 15 (entF Pq (cfg mm) 15 3 fun α => f15) := entG b15 rs15 32 fun _ => f15_ok
noncomputable def b16 := bdy Try.f16
noncomputable def rs16 := Try.f16.results.toList
noncomputable def f16 {α : Type} (o : α) (c : Call' α) (n : Nat) (k : AV → Heap → α) (a0 a1 a2 : AV) (h : Heap) : α :=
  boxF o a0 h h.next fun v1 h => boxF o a1 h h.next fun v2 h => loadNF o h 1 a2 fun v3 => faF o 0 v1 fun v4 => load1F o h v4 fun v5 => faF o 0 v2 fun v6 => load1F o h v6 fun v7 => c 14 [v3, v5, v7] h fun v8 h => pk k v8 h <| k v8 h
theorem f16_ok : R Pq o c n b16 (kend Pq o c n w rs16 k) = fun t _ h => f16 o c n k (t 0) (t 1) (t 2) h := by kernel_rfl
theorem f16_good : Good Pq (cfg mm) 16 (entF Pq (cfg mm) 16 3 fun α => f16) := entG b16 rs16 12 fun _ => f16_ok
noncomputable def b17 := bdy Try.f17
noncomputable def rs17 := Try.f17.results.toList
noncomputable def f17 {α : Type} (o : α) (c : Call' α) (n : Nat) (k : AV → Heap → α) (a0 a1 a2 : AV) (h : Heap) : α :=
  boxF o a0 h h.next fun v1 h => newF h h.next 2 [(.s 0 0), (.i .i64 0)] fun v2 h => loadNF o h 1 v1 fun v3 => c 26 [v3, a1] h fun v4 h => pk k v4 h <| notF o v4 fun v5 => ifF o v5 (storeF o h 2 v2 (.agg [(.s 0 0), (.i .i64 0)]) fun h => on o (resV Pq h [(v2, some 30), ((.i .i64 7), none)]) fun v => k v h) (dreg o h 10 fun base h => loadNF o (h.look 0) 1 v1 fun v6 => loadNF o (h.look 0) 1 v1 fun v7 => callD o c (hidD false [(.fn (.func 29) [] []), v7, a1] [] (sBlk v1 [])) 29 [v7, a1] (h.look 0) fun v8 h => pnF v8 (fun x => hb h.shut fun hd => k x.pn hd) <| callD o c [] 10 [v6, v8, a2] (h.look 0) fun v9 h => pnF v9 (fun x => hb h.shut fun hd => k x.pn hd) <| exF o v9 0 fun v10 => exF o v9 1 fun v11 => storeF o (h.look 255) 2 v2 v10 fun h => hb h.shut fun h => on o (resV Pq h [(v2, some 30), (v11, none)]) fun v => k v h)
theorem f17_ok : R Pq o c n b17 (kend Pq o c n w rs17 k) = fun t _ h => f17 o c n k (t 0) (t 1) (t 2) h := by kernel_rfl
theorem f17_good : Good Pq (cfg mm) 17 (entF Pq (cfg mm) 17 3 fun α => f17) := entG b17 rs17 21 fun _ => f17_ok
noncomputable def b18 := bdy Try.f18
noncomputable def rs18 := Try.f18.results.toList
noncomputable def f18 {α : Type} (o : α) (c : Call' α) (n : Nat) (k : AV → Heap → α) (a0 : AV) (h : Heap) : α :=
  boxF o a0 h h.next fun v1 h => loadNF o h 1 v1 fun v2 => c 30 [v2, (.fn (.func 31) [] [v1])] h fun v3 h => pk k v3 h <| assertA Pq o v3 68 true fun v4 => exF o v4 0 fun v5 => exF o v4 1 fun v6 => newF h h.next 2 [(.i .i64 0), (.i .i64 0)] fun v7 h => storeF o h 2 v7 v5 fun h => ifF o v6 (dreg o h 6 fun base h => faF o 0 v7 fun v8 => rootF o v8 v7 <| load1F o (h.look 1) v8 fun v9 => faF o 1 v7 fun v10 => rootF o v10 v7 <| load1F o (h.look 4) v10 fun v11 => hb h.shut fun h => k (.tup [v9, v11]) h) (loadNF o h 1 v1 fun v12 => c 30 [v12, (.fn (.func 34) [] [v1])] h fun v13 h => pk k v13 h <| assertA Pq o v13 68 true fun v14 => exF o v14 0 fun v15 => exF o v14 1 fun v16 => newF h h.next 2 [(.i .i64 0), (.i .i64 0)] fun v17 h => storeF o h 2 v17 v15 fun h => ifF o v16 (dreg o h 6 fun base h => faF o 0 v17 fun v18 => rootF o v18 v17 <| load1F o (h.look 1) v18 fun v19 => faF o 1 v17 fun v20 => rootF o v20 v17 <| load1F o (h.look 4) v20 fun v21 => hb h.shut fun h => k (.tup [v19, v21]) h) (k (.tup [(.i .i64 0), (.i .i64 0)]) h))
theorem f18_ok : R Pq o c n b18 (kend Pq o c n w rs18 k) = fun t _ h => f18 o c n k (t 0) h := by kernel_rfl
theorem f18_good : Good Pq (cfg mm) 18 (entF Pq (cfg mm) 18 1 fun α => f18) := entG b18 rs18 32 fun _ => f18_ok
noncomputable def b22 := bdy Try.f22
noncomputable def rs22 := Try.f22.results.toList
noncomputable def f22_5K : Ex → K α := (nxK (R Pq o c n (cB (cB (cB (cB (cB b22))))) (kend Pq o c n w rs22 k)) (kend Pq o c n w rs22 k))
noncomputable def f22_7 {α : Type} (o : α) (c : Call' α) (n : Nat) (k : AV → Heap → α) (m : Nat) : AVs (Heap → α) 6 :=
  Nat.rec (motive := fun _ => AVs (Heap → α) 6) (fun _ _ _ _ _ _ _ => o) (fun _ lp0 s3 s6 s8 s45 s46 s47 h => lssF Pq o 3 s47 s46 fun v1 => ifF o v1 (ixF o 8 s45 s47 fun v2 => loadNF o h 8 v2 fun v3 => newF h h.next 8 [(.s 0 0), (.i .i64 0), (.b false), (.b false), (.s 0 0), (.s 0 0), .nsl, .nsl] fun v4 h => storeF o h 8 v4 v3 fun h => c 38 [s8, (.fn (.func 39) [] [s3, v4])] h fun v5 h => pk k v5 h <| notF o v5 fun v6 => ifF o v6 (faF o 0 v4 fun v7 => loadNF o h 2 v7 fun v8 => storeF o h 2 s6 v8 fun h => on o (resV Pq h [(s6, some 30), ((.i .i64 0), none)]) fun v => k v h) (addF Pq o 3 s47 (.i .i64 1) fun v9 => lp0 s3 s6 s8 s45 s46 v9 h)) (storeF o h 2 s6 (.agg [(.s 0 0), (.i .i64 0)]) fun h => on o (resV Pq h [(s6, some 30), ((.i .i64 12), none)]) fun v => k v h)) m
theorem f22_7_ok : R Pq o c n (cA (cB (cA (cB (cB (cB (cB b22))))))) (blockK (cI (cB (cA (cB (cB (cB (cB b22))))))) (f22_5K o c n k w)) = fun t _ h => f22_7 o c n k n (t 3) (t 6) (t 8) (t 45) (t 46) (t 47) h :=
  c_loop (F := fun m t _ h => f22_7 o c n k m (t 3) (t 6) (t 8) (t 45) (t 46) (t 47) h) (by kernel_rfl) (by kernel_rfl) fun m => by kernel_rfl
noncomputable def f22_6 (s3 s6 s8 s45 s46 s47 : AV) (h : Heap) : α :=
  f22_7 o c n k n s3 s6 s8 s45 s46 s47 h
theorem f22_6_ok : R Pq o c n (cB (cA (cB (cB (cB (cB b22)))))) (f22_5K o c n k w) = fun t _ h => f22_6 o c n k (t 3) (t 6) (t 8) (t 45) (t 46) (t 47) h := (kblk (f22_7_ok o c n k w)).tk
noncomputable def f22_4 (s3 s6 s8 : AV) (h : Heap) : α :=
  lenF o s8 fun v10 => f22_6 o c n k s3 s6 s8 s8 v10 (.i .i64 0) h
theorem f22_4_ok : R Pq o c n (cB (cB (cB (cB b22)))) (kend Pq o c n w rs22 k) = fun t _ h => f22_4 o c n k (t 3) (t 6) (t 8) h := (kseq rfl (kseq (f22_6_ok o c n k w) rfl)).tk
noncomputable def f22_3 (s3 s6 s8 : AV) (h : Heap) : α :=
  lenF o s8 fun v11 => eqiF Pq o 3 v11 (.i .i64 0) fun v12 => ifF o v12 (storeF o h 2 s6 (.agg [(.s 0 0), (.i .i64 0)]) fun h => on o (resV Pq h [(s6, some 30), ((.i .i64 11), none)]) fun v => k v h) (f22_4 o c n k s3 s6 s8 h)
theorem f22_3_ok : R Pq o c n (cB (cB (cB b22))) (kend Pq o c n w rs22 k) = fun t _ h => f22_3 o c n k (t 3) (t 6) (t 8) h := (kseq (f22_4_ok o c n k w) rfl).tk
noncomputable def f22_8K : Ex → K α := (nxK (fun t _ h => f22_3 o c n k (t 3) (t 6) (t 8) h) (kend Pq o c n w rs22 k))
noncomputable def f22_11K (lp0 : AVs (Heap → α) 7) : Ex → K α := (nxK (fun t _ h => lp0 (t 2) (t 3) (t 6) (t 8) (t 15) (t 16) (t 17) h) (blockK (cI (cB (cA (cB (cB b22))))) (f22_8K o c n k w)))
noncomputable def f22_14K (lp0 : AVs (Heap → α) 7) : Ex → K α := (nxK (R Pq o c n (cB (cB (cB (cA (cA (cB (cA (cB (cB b22))))))))) (f22_11K o c n k w lp0)) (f22_11K o c n k w lp0))
noncomputable def f22_17 {α : Type} (o : α) (c : Call' α) (n : Nat) (k : AV → Heap → α) (lp0 : AVs (Heap → α) 7) (s2 s3 s6 s8 s11 s15 s16 s17 s35 : AV) (h : Heap) : α :=
  ifF o s35 (loadNF o h 8 s11 fun v13 => fil1 o 8 1 0 v13 [[(.s 0 0), (.i .i64 0), (.b false), (.b false), (.s 0 0), (.s 0 0), .nsl, .nsl]] fun v14 => newEF h h.next 8 1 v14 fun v15 h => appX Pq o h h.next 76 76 s8 v15 fun v16 h => addF Pq o 3 s17 (.i .i64 1) fun v17 => lp0 s2 s3 s6 v16 s15 s16 v17 h) (addF Pq o 3 s17 (.i .i64 1) fun v18 => lp0 s2 s3 s6 s8 s15 s16 v18 h)
theorem f22_17_ok (lp0 : AVs (Heap → α) 7) : R Pq o c n (cB (cB (cB (cA (cA (cB (cB (cA (cA (cB (cA (cB (cB b22))))))))))))) (blockK (cI (cA (cB (cB (cA (cA (cB (cA (cB (cB b22)))))))))) (f22_14K o c n k w lp0)) = fun t _ h => f22_17 o c n k lp0 (t 2) (t 3) (t 6) (t 8) (t 11) (t 15) (t 16) (t 17) (t 35) h := by kernel_rfl
noncomputable def f22_18K (lp0 : AVs (Heap → α) 7) : Ex → K α := (nxK (fun t _ h => f22_17 o c n k lp0 (t 2) (t 3) (t 6) (t 8) (t 11) (t 15) (t 16) (t 17) (t 35) h) (blockK (cI (cA (cB (cB (cA (cA (cB (cA (cB (cB b22)))))))))) (f22_14K o c n k w lp0)))
noncomputable def f22_16 (lp0 : AVs (Heap → α) 7) (s2 s3 s6 s8 s11 s12 s15 s16 s17 : AV) (h : Heap) : α :=
  bkF o true s12 (loadNF o h 1 s3 fun v19 => faF o 2 s11 fun v20 => loadNF o h 6 v20 fun v21 => c 7 [v19, v21, s2] h fun v22 h => pk k v22 h <| pickF o s12 v22 (.b false) fun v23 => f22_17 o c n k lp0 s2 s3 s6 s8 s11 s15 s16 s17 v23 h) (pickF o s12 (.tup []) (.b false) fun v24 => f22_17 o c n k lp0 s2 s3 s6 s8 s11 s15 s16 s17 v24 h)
theorem f22_16_ok (lp0 : AVs (Heap → α) 7) : R Pq o c n (cB (cB (cA (cA (cB (cB (cA (cA (cB (cA (cB (cB b22)))))))))))) (blockK (cI (cA (cB (cB (cA (cA (cB (cA (cB (cB b22)))))))))) (f22_14K o c n k w lp0)) = fun t _ h => f22_16 o c n k lp0 (t 2) (t 3) (t 6) (t 8) (t 11) (t 12) (t 15) (t 16) (t 17) h := (kseq (f22_17_ok o c n k w lp0) (r_start 2 (by kernel_rfl) (q_guard 2 7 (1, true) (by kernel_rfl) (by kernel_rfl) (by kernel_rfl) rfl))).tk
noncomputable def f22_15 (lp0 : AVs (Heap → α) 7) (s2 s3 s6 s8 s10 s15 s16 s17 : AV) (h : Heap) : α :=
  loadNF o h 1 s3 fun v25 => loadNF o h 2 s10 fun v26 => c 37 [v25, v26] h fun v27 h => pk k v27 h <| assertA Pq o v27 78 true fun v28 => exF o v28 0 fun v29 => exF o v28 1 fun v30 => newF h h.next 8 [(.s 0 0), (.i .i64 0), (.b false), (.b false), (.s 0 0), (.s 0 0), .nsl, .nsl] fun v31 h => storeF o h 8 v31 v29 fun h => f22_16 o c n k lp0 s2 s3 s6 s8 v31 v30 s15 s16 s17 h
theorem f22_15_ok (lp0 : AVs (Heap → α) 7) : R Pq o c n (cB (cA (cA (cB (cB (cA (cA (cB (cA (cB (cB b22))))))))))) (blockK (cI (cA (cB (cB (cA (cA (cB (cA (cB (cB b22)))))))))) (f22_14K o c n k w lp0)) = fun t _ h => f22_15 o c n k lp0 (t 2) (t 3) (t 6) (t 8) (t 10) (t 15) (t 16) (t 17) h := (kseq (f22_16_ok o c n k w lp0) rfl).tk
noncomputable def f22_13 (lp0 : AVs (Heap → α) 7) (s2 s3 s6 s8 s15 s16 s17 : AV) (h : Heap) : α :=
  ixF o 2 s15 s17 fun v32 => loadNF o h 2 v32 fun v33 => newF h h.next 2 [(.s 0 0), (.i .i64 0)] fun v34 h => storeF o h 2 v34 v33 fun h => f22_15 o c n k lp0 s2 s3 s6 s8 v34 s15 s16 s17 h
theorem f22_13_ok (lp0 : AVs (Heap → α) 7) : R Pq o c n (cB (cB (cA (cA (cB (cA (cB (cB b22)))))))) (f22_11K o c n k w lp0) = fun t _ h => f22_13 o c n k lp0 (t 2) (t 3) (t 6) (t 8) (t 15) (t 16) (t 17) h := (kseq rfl (kblk (kseq (f22_15_ok o c n k w lp0) rfl))).tk
noncomputable def f22_12 (lp0 : AVs (Heap → α) 7) (s2 s3 s6 s8 s15 s16 s17 s18 : AV) (h : Heap) : α :=
  ifF o s18 (f22_13 o c n k lp0 s2 s3 s6 s8 s15 s16 s17 h) (f22_3 o c n k s3 s6 s8 h)
theorem f22_12_ok (lp0 : AVs (Heap → α) 7) : R Pq o c n (cB (cA (cA (cB (cA (cB (cB b22))))))) (f22_11K o c n k w lp0) = fun t _ h => f22_12 o c n k lp0 (t 2) (t 3) (t 6) (t 8) (t 15) (t 16) (t 17) (t 18) h := (kseq (f22_13_ok o c n k w lp0) rfl).tk
noncomputable def f22_10 (m : Nat) : AVs (Heap → α) 7 :=
  Nat.rec (motive := fun _ => AVs (Heap → α) 7) (fun _ _ _ _ _ _ _ _ => o) (fun _ lp0 s2 s3 s6 s8 s15 s16 s17 h => lssF Pq o 3 s17 s16 fun v35 => f22_12 o c n k lp0 s2 s3 s6 s8 s15 s16 s17 v35 h) m
theorem f22_10_ok : R Pq o c n (cA (cB (cA (cB (cB b22))))) (blockK (cI (cB (cA (cB (cB b22))))) (f22_8K o c n k w)) = fun t _ h => f22_10 o c n k n (t 2) (t 3) (t 6) (t 8) (t 15) (t 16) (t 17) h :=
  c_loop (F := fun m t _ h => f22_10 o c n k m (t 2) (t 3) (t 6) (t 8) (t 15) (t 16) (t 17) h) (by kernel_rfl) (by kernel_rfl) fun m => (kseq (f22_12_ok o c n k w (f22_10 o c n k m)) rfl).tk
noncomputable def f22_9 (s2 s3 s6 s8 s15 s16 s17 : AV) (h : Heap) : α :=
  f22_10 o c n k n s2 s3 s6 s8 s15 s16 s17 h
theorem f22_9_ok : R Pq o c n (cB (cA (cB (cB b22)))) (f22_8K o c n k w) = fun t _ h => f22_9 o c n k (t 2) (t 3) (t 6) (t 8) (t 15) (t 16) (t 17) h := (kblk (f22_10_ok o c n k w)).tk
noncomputable def f22_2 (s1 s2 s3 s6 s8 : AV) (h : Heap) : α :=
  lenF o s1 fun v36 => f22_9 o c n k s2 s3 s6 s8 s1 v36 (.i .i64 0) h
theorem f22_2_ok : R Pq o c n (cB (cB b22)) (kend Pq o c n w rs22 k) = fun t _ h => f22_2 o c n k (t 1) (t 2) (t 3) (t 6) (t 8) h := (kseq (f22_3_ok o c n k w) (kseq (f22_9_ok o c n k w) rfl)).tk
noncomputable def f22_1 (s1 s2 s3 s6 : AV) (h : Heap) : α :=
  f22_2 o c n k s1 s2 s3 s6 .nsl h
theorem f22_1_ok : R Pq o c n (cB b22) (kend Pq o c n w rs22 k) = fun t _ h => f22_1 o c n k (t 1) (t 2) (t 3) (t 6) h := (kseq (f22_2_ok o c n k w) rfl).tk
noncomputable def f22 (a0 a1 a2 : AV) (h : Heap) : α :=
  boxF o a0 h h.next fun v37 h => newF h h.next 2 [(.s 0 0), (.i .i64 0)] fun v38 h => f22_1 o c n k a1 a2 v37 v38 h
theorem f22_ok : R Pq o c n b22 (kend Pq o c n w rs22 k) = fun t _ h => f22 o c n k (t 0) (t 1) (t 2) h := (kseq (f22_1_ok o c n k w) rfl).tk
theorem f22_good : Good Pq (cfg mm) 22 (entF Pq (cfg mm) 22 3 fun α => f22) := entG b22 rs22 59 fun _ => f22_ok
noncomputable def b23 := bdy Try.f23
noncomputable def rs23 := Try.f23.results.toList
noncomputable def f23 {α : Type} (o : α) (c : Call' α) (n : Nat) (k : AV → Heap → α) (a0 : AV) (h : Heap) : α :=
  boxF o a0 h h.next fun v1 h => loadNF o h 1 v1 fun v2 => c 18 [v2] h fun v3 h => pk k v3 h <| exF o v3 0 fun v4 => exF o v3 1 fun v5 => eqiF Pq o 3 v4 (.i .i64 0) fun v6 => k v6 h
theorem f23_ok : R Pq o c n b23 (kend Pq o c n w rs23 k) = fun t _ h => f23 o c n k (t 0) h := by kernel_rfl
theorem f23_good : Good Pq (cfg mm) 23 (entF Pq (cfg mm) 23 1 fun α => f23) := entG b23 rs23 12 fun _ => f23_ok
noncomputable def b24 := bdy Try.f24
noncomputable def rs24 := Try.f24.results.toList
noncomputable def f24_4K : Ex → K α := (nxK (R Pq o c n (cB (cB (cB (cB b24)))) (kend Pq o c n w rs24 k)) (kend Pq o c n w rs24 k))
noncomputable def f24_7K (lp0 : AVs (Heap → α) 7) : Ex → K α := (nxK (fun t _ h => lp0 (t 2) (t 3) (t 7) (t 8) (t 15) (t 16) (t 17) h) (blockK (cI (cB (cA (cB (cB (cB b24)))))) (f24_4K o c n k w)))
noncomputable def f24_10K (lp0 : AVs (Heap → α) 7) : Ex → K α := (nxK (R Pq o c n (cB (cB (cB (cA (cA (cB (cA (cB (cB (cB b24)))))))))) (f24_7K o c n k w lp0)) (f24_7K o c n k w lp0))
noncomputable def f24_14K (lp0 : AVs (Heap → α) 7) (lp1 : AVs (Heap → α) 11) : Ex → K α := (nxK (fun t _ h => lp1 (t 2) (t 3) (t 7) (t 8) (t 10) (t 15) (t 16) (t 17) (t 23) (t 24) (t 25) h) (blockK (cI (cB (cB (cA (cA (cB (cB (cA (cA (cB (cA (cB (cB (cB b24)))))))))))))) (blockK (cI (cA (cB (cB (cA (cA (cB (cA (cB (cB (cB b24))))))))))) (f24_10K o c n k w lp0))))
noncomputable def f24_17K (lp0 : AVs (Heap → α) 7) (lp1 : AVs (Heap → α) 11) : Ex → K α := (nxK (R Pq o c n (cB (cB (cB (cA (cA (cB (cB (cA (cA (cB (cB (cA (cA (cB (cA (cB (cB (cB b24)))))))))))))))))) (f24_14K o c n k w lp0 lp1)) (f24_14K o c n k w lp0 lp1))
noncomputable def f24_19 {α : Type} (o : α) (c : Call' α) (n : Nat) (k : AV → Heap → α) (lp0 : AVs (Heap → α) 7) (lp1 : AVs (Heap → α) 11) (s2 s3 s7 s8 s10 s11 s12 s15 s16 s17 s23 s24 s25 : AV) (h : Heap) : α :=
  dreg o h 12 fun base h => layF o 0 s10 [(.s 0 0), (.i .i64 0)] fun v1 => layF o 1 s11 v1 fun v2 => fil1 o 2 1 0 (.agg v2) [[(.s 0 0), (.i .i64 0)]] fun v3 => newEF (h.look 14) (Nat.add base 4) 2 1 v3 fun v4 h => lb [] fun ids => appD o ids (Nat.add base 5) <| appendY Pq o (hide ids (h.look 31)) (Nat.add base 5) 49 49 s7 v4 fun v5 g => hb (back h ids g) fun h => lb (sBlk s7 []) fun ids => loadNF o (hide ids (h.look 0)) 6 s12 fun v6 => hb (back h ids (hide ids (h.look 0))) fun h => fil1 o 6 1 0 v6 [[(.b false), (.b false), (.s 0 0), (.s 0 0), .nsl, .nsl]] fun v7 => newEF (h.look 128) (Nat.add base 8) 6 1 v7 fun v8 h => lb [] fun ids => appD o ids (Nat.add base 9) <| appendY Pq o (hide ids (h.look 511)) (Nat.add base 9) 34 34 s8 v8 fun v9 g => hb (back h ids g) fun h => hb h.shut fun h => addF Pq o 3 s25 (.i .i64 1) fun v10 => lp1 s2 s3 v5 v9 s10 s15 s16 s17 s23 s24 v10 h
theorem f24_19_ok (lp0 : AVs (Heap → α) 7) (lp1 : AVs (Heap → α) 11) : R Pq o c n (cB (cB (cA (cA (cB (cB (cA (cA (cB (cB (cA (cA (cB (cB (cA (cA (cB (cA (cB (cB (cB b24))))))))))))))))))))) (blockK (cI (cA (cB (cB (cA (cA (cB (cB (cA (cA (cB (cB (cA (cA (cB (cA (cB (cB (cB b24))))))))))))))))))) (f24_17K o c n k w lp0 lp1)) = fun t _ h => f24_19 o c n k lp0 lp1 (t 2) (t 3) (t 7) (t 8) (t 10) (t 11) (t 12) (t 15) (t 16) (t 17) (t 23) (t 24) (t 25) h := by kernel_rfl
noncomputable def f24_20K (lp0 : AVs (Heap → α) 7) (lp1 : AVs (Heap → α) 11) : Ex → K α := (nxK (fun t _ h => f24_19 o c n k lp0 lp1 (t 2) (t 3) (t 7) (t 8) (t 10) (t 11) (t 12) (t 15) (t 16) (t 17) (t 23) (t 24) (t 25) h) (blockK (cI (cA (cB (cB (cA (cA (cB (cB (cA (cA (cB (cB (cA (cA (cB (cA (cB (cB (cB b24))))))))))))))))))) (f24_17K o c n k w lp0 lp1)))
noncomputable def f24_21K (lp0 : AVs (Heap → α) 7) (lp1 : AVs (Heap → α) 11) : Ex → K α := (nxK (R Pq o c n (cB (cA (cB (cA (cA (cB (cB (cA (cA (cB (cB (cA (cA (cB (cB (cA (cA (cB (cA (cB (cB (cB b24)))))))))))))))))))))) (f24_20K o c n k w lp0 lp1)) (f24_20K o c n k w lp0 lp1))
noncomputable def f24_22 (lp0 : AVs (Heap → α) 7) (lp1 : AVs (Heap → α) 11) (s2 s3 s7 s8 s10 s11 s12 s15 s16 s17 s23 s24 s25 s32 s36 : AV) (h : Heap) : α :=
  pickF o s32 (.b true) s36 fun v11 => bkF o false v11 (c 41 [s8, (.fn (.func 42) [] [s12])] h fun v12 h => pk k v12 h <| pickF o v11 (.b true) v12 fun v13 => ifF o v13 (addF Pq o 3 s25 (.i .i64 1) fun v14 => lp1 s2 s3 s7 s8 s10 s15 s16 s17 s23 s24 v14 h) (f24_19 o c n k lp0 lp1 s2 s3 s7 s8 s10 s11 s12 s15 s16 s17 s23 s24 s25 h)) (pickF o v11 (.b true) (.tup []) fun v15 => ifF o v15 (addF Pq o 3 s25 (.i .i64 1) fun v16 => lp1 s2 s3 s7 s8 s10 s15 s16 s17 s23 s24 v16 h) (f24_19 o c n k lp0 lp1 s2 s3 s7 s8 s10 s11 s12 s15 s16 s17 s23 s24 s25 h))
theorem f24_22_ok (lp0 : AVs (Heap → α) 7) (lp1 : AVs (Heap → α) 11) : Q Pq o c (cO (cA (cA (cB (cA (cA (cB (cB (cA (cA (cB (cB (cA (cA (cB (cB (cA (cA (cB (cA (cB (cB (cB b24))))))))))))))))))))))) (f24_21K o c n k w lp0 lp1) 7 = fun t _ h => f24_22 o c n k lp0 lp1 (t 2) (t 3) (t 7) (t 8) (t 10) (t 11) (t 12) (t 15) (t 16) (t 17) (t 23) (t 24) (t 25) (t 32) (t 36) h := (q_seg 7 9 (by kernel_rfl) (q_guard 9 12 (8, false) (by kernel_rfl) (by kernel_rfl) (by kernel_rfl) rfl)).tk
noncomputable def f24_18 (lp0 : AVs (Heap → α) 7) (lp1 : AVs (Heap → α) 11) (s2 s3 s7 s8 s10 s11 s12 s15 s16 s17 s23 s24 s25 : AV) (h : Heap) : α :=
  faF o 1 s12 fun v17 => load1F o h v17 fun v18 => bkF o false v18 (faF o 3 s12 fun v19 => load1F o h v19 fun v20 => nesF Pq o 9 v20 s2 fun v21 => f24_22 o c n k lp0 lp1 s2 s3 s7 s8 s10 s11 s12 s15 s16 s17 s23 s24 s25 v18 v21 h) (f24_22 o c n k lp0 lp1 s2 s3 s7 s8 s10 s11 s12 s15 s16 s17 s23 s24 s25 v18 (.tup []) h)
theorem f24_18_ok (lp0 : AVs (Heap → α) 7) (lp1 : AVs (Heap → α) 11) : R Pq o c n (cB (cA (cA (cB (cB (cA (cA (cB (cB (cA (cA (cB (cB (cA (cA (cB (cA (cB (cB (cB b24)))))))))))))))))))) (blockK (cI (cA (cB (cB (cA (cA (cB (cB (cA (cA (cB (cB (cA (cA (cB (cA (cB (cB (cB b24))))))))))))))))))) (f24_17K o c n k w lp0 lp1)) = fun t _ h => f24_18 o c n k lp0 lp1 (t 2) (t 3) (t 7) (t 8) (t 10) (t 11) (t 12) (t 15) (t 16) (t 17) (t 23) (t 24) (t 25) h := (kseq (f24_19_ok o c n k w lp0 lp1) (kseq rfl (r_start 3 (by kernel_rfl) (q_guard 3 7 (2, false) (by kernel_rfl) (by kernel_rfl) (by kernel_rfl) (f24_22_ok o c n k w lp0 lp1))))).tk
noncomputable def f24_16 (lp0 : AVs (Heap → α) 7) (lp1 : AVs (Heap → α) 11) (s2 s3 s7 s8 s10 s15 s16 s17 s23 s24 s25 : AV) (h : Heap) : α :=
  ixF o 6 s23 s25 fun v22 => loadNF o h 6 v22 fun v23 => newF h h.next 6 [(.b false), (.b false), (.s 0 0), (.s 0 0), .nsl, .nsl] fun v24 h => storeF o h 6 v24 v23 fun h => f24_18 o c n k lp0 lp1 s2 s3 s7 s8 s10 s25 v24 s15 s16 s17 s23 s24 s25 h
theorem f24_16_ok (lp0 : AVs (Heap → α) 7) (lp1 : AVs (Heap → α) 11) : R Pq o c n (cB (cB (cA (cA (cB (cB (cA (cA (cB (cB (cA (cA (cB (cA (cB (cB (cB b24))))))))))))))))) (f24_14K o c n k w lp0 lp1) = fun t _ h => f24_16 o c n k lp0 lp1 (t 2) (t 3) (t 7) (t 8) (t 10) (t 15) (t 16) (t 17) (t 23) (t 24) (t 25) h := (kseq rfl (kblk (kseq (f24_18_ok o c n k w lp0 lp1) rfl))).tk
noncomputable def f24_15 (lp0 : AVs (Heap → α) 7) (lp1 : AVs (Heap → α) 11) (s2 s3 s7 s8 s10 s15 s16 s17 s23 s24 s25 s26 : AV) (h : Heap) : α :=
  ifF o s26 (f24_16 o c n k lp0 lp1 s2 s3 s7 s8 s10 s15 s16 s17 s23 s24 s25 h) (addF Pq o 3 s17 (.i .i64 1) fun v25 => lp0 s2 s3 s7 s8 s15 s16 v25 h)
theorem f24_15_ok (lp0 : AVs (Heap → α) 7) (lp1 : AVs (Heap → α) 11) : R Pq o c n (cB (cA (cA (cB (cB (cA (cA (cB (cB (cA (cA (cB (cA (cB (cB (cB b24)))))))))))))))) (f24_14K o c n k w lp0 lp1) = fun t _ h => f24_15 o c n k lp0 lp1 (t 2) (t 3) (t 7) (t 8) (t 10) (t 15) (t 16) (t 17) (t 23) (t 24) (t 25) (t 26) h := (kseq (f24_16_ok o c n k w lp0 lp1) rfl).tk
noncomputable def f24_13 (lp0 : AVs (Heap → α) 7) (m : Nat) : AVs (Heap → α) 11 :=
  Nat.rec (motive := fun _ => AVs (Heap → α) 11) (fun _ _ _ _ _ _ _ _ _ _ _ _ => o) (fun _ lp1 s2 s3 s7 s8 s10 s15 s16 s17 s23 s24 s25 h => lssF Pq o 3 s25 s24 fun v26 => f24_15 o c n k lp0 lp1 s2 s3 s7 s8 s10 s15 s16 s17 s23 s24 s25 v26 h) m
theorem f24_13_ok (lp0 : AVs (Heap → α) 7) : R Pq o c n (cA (cB (cB (cA (cA (cB (cB (cA (cA (cB (cA (cB (cB (cB b24)))))))))))))) (blockK (cI (cB (cB (cA (cA (cB (cB (cA (cA (cB (cA (cB (cB (cB b24)))))))))))))) (blockK (cI (cA (cB (cB (cA (cA (cB (cA (cB (cB (cB b24))))))))))) (f24_10K o c n k w lp0))) = fun t _ h => f24_13 o c n k lp0 n (t 2) (t 3) (t 7) (t 8) (t 10) (t 15) (t 16) (t 17) (t 23) (t 24) (t 25) h :=
  c_loop (F := fun m t _ h => f24_13 o c n k lp0 m (t 2) (t 3) (t 7) (t 8) (t 10) (t 15) (t 16) (t 17) (t 23) (t 24) (t 25) h) (by kernel_rfl) (by kernel_rfl) fun m => (kseq (f24_15_ok o c n k w lp0 (f24_13 o c n k lp0 m)) rfl).tk
noncomputable def f24_12 (lp0 : AVs (Heap → α) 7) (s2 s3 s7 s8 s10 s15 s16 s17 s23 s24 s25 : AV) (h : Heap) : α :=
  f24_13 o c n k lp0 n s2 s3 s7 s8 s10 s15 s16 s17 s23 s24 s25 h
theorem f24_12_ok (lp0 : AVs (Heap → α) 7) : R Pq o c n (cB (cB (cA (cA (cB (cB (cA (cA (cB (cA (cB (cB (cB b24))))))))))))) (blockK (cI (cA (cB (cB (cA (cA (cB (cA (cB (cB (cB b24))))))))))) (f24_10K o c n k w lp0)) = fun t _ h => f24_12 o c n k lp0 (t 2) (t 3) (t 7) (t 8) (t 10) (t 15) (t 16) (t 17) (t 23) (t 24) (t 25) h := (kblk (f24_13_ok o c n k w lp0)).tk
noncomputable def f24_11 (lp0 : AVs (Heap → α) 7) (s2 s3 s7 s8 s10 s15 s16 s17 : AV) (h : Heap) : α :=
  loadNF o h 1 s3 fun v27 => c 40 [v27, s10] h fun v28 h => pk k v28 h <| lenF o v28 fun v29 => f24_12 o c n k lp0 s2 s3 s7 s8 s10 s15 s16 s17 v28 v29 (.i .i64 0) h
theorem f24_11_ok (lp0 : AVs (Heap → α) 7) : R Pq o c n (cB (cA (cA (cB (cB (cA (cA (cB (cA (cB (cB (cB b24)))))))))))) (blockK (cI (cA (cB (cB (cA (cA (cB (cA (cB (cB (cB b24))))))))))) (f24_10K o c n k w lp0)) = fun t _ h => f24_11 o c n k lp0 (t 2) (t 3) (t 7) (t 8) (t 10) (t 15) (t 16) (t 17) h := (kseq (f24_12_ok o c n k w lp0) rfl).tk
noncomputable def f24_9 (lp0 : AVs (Heap → α) 7) (s2 s3 s7 s8 s15 s16 s17 : AV) (h : Heap) : α :=
  ixF o 1 s15 s17 fun v30 => load1F o h v30 fun v31 => f24_11 o c n k lp0 s2 s3 s7 s8 v31 s15 s16 s17 h
theorem f24_9_ok (lp0 : AVs (Heap → α) 7) : R Pq o c n (cB (cB (cA (cA (cB (cA (cB (cB (cB b24))))))))) (f24_7K o c n k w lp0) = fun t _ h => f24_9 o c n k lp0 (t 2) (t 3) (t 7) (t 8) (t 15) (t 16) (t 17) h := (kseq rfl (kblk (kseq (f24_11_ok o c n k w lp0) rfl))).tk
noncomputable def f24_8 (lp0 : AVs (Heap → α) 7) (s2 s3 s7 s8 s15 s16 s17 s18 : AV) (h : Heap) : α :=
  ifF o s18 (f24_9 o c n k lp0 s2 s3 s7 s8 s15 s16 s17 h) (k s7 h)
theorem f24_8_ok (lp0 : AVs (Heap → α) 7) : R Pq o c n (cB (cA (cA (cB (cA (cB (cB (cB b24)))))))) (f24_7K o c n k w lp0) = fun t _ h => f24_8 o c n k lp0 (t 2) (t 3) (t 7) (t 8) (t 15) (t 16) (t 17) (t 18) h := (kseq (f24_9_ok o c n k w lp0) rfl).tk
noncomputable def f24_6 (m : Nat) : AVs (Heap → α) 7 :=
  Nat.rec (motive := fun _ => AVs (Heap → α) 7) (fun _ _ _ _ _ _ _ _ => o) (fun _ lp0 s2 s3 s7 s8 s15 s16 s17 h => lssF Pq o 3 s17 s16 fun v32 => f24_8 o c n k lp0 s2 s3 s7 s8 s15 s16 s17 v32 h) m
theorem f24_6_ok : R Pq o c n (cA (cB (cA (cB (cB (cB b24)))))) (blockK (cI (cB (cA (cB (cB (cB b24)))))) (f24_4K o c n k w)) = fun t _ h => f24_6 o c n k n (t 2) (t 3) (t 7) (t 8) (t 15) (t 16) (t 17) h :=
  c_loop (F := fun m t _ h => f24_6 o c n k m (t 2) (t 3) (t 7) (t 8) (t 15) (t 16) (t 17) h) (by kernel_rfl) (by kernel_rfl) fun m => (kseq (f24_8_ok o c n k w (f24_6 o c n k m)) rfl).tk
noncomputable def f24_5 (s2 s3 s7 s8 s15 s16 s17 : AV) (h : Heap) : α :=
  f24_6 o c n k n s2 s3 s7 s8 s15 s16 s17 h
theorem f24_5_ok : R Pq o c n (cB (cA (cB (cB (cB b24))))) (f24_4K o c n k w) = fun t _ h => f24_5 o c n k (t 2) (t 3) (t 7) (t 8) (t 15) (t 16) (t 17) h := (kblk (f24_6_ok o c n k w)).tk
noncomputable def f24_3 (s1 s2 s3 s7 s8 : AV) (h : Heap) : α :=
  loadNF o h 1 s3 fun v33 => c 28 [v33, s1] h fun v34 h => pk k v34 h <| lenF o v34 fun v35 => f24_5 o c n k s2 s3 s7 s8 v34 v35 (.i .i64 0) h
theorem f24_3_ok : R Pq o c n (cB (cB (cB b24))) (kend Pq o c n w rs24 k) = fun t _ h => f24_3 o c n k (t 1) (t 2) (t 3) (t 7) (t 8) h := (kseq rfl (kseq (f24_5_ok o c n k w) rfl)).tk
noncomputable def f24_2 (s1 s2 s3 s7 : AV) (h : Heap) : α :=
  f24_3 o c n k s1 s2 s3 s7 .nsl h
theorem f24_2_ok : R Pq o c n (cB (cB b24)) (kend Pq o c n w rs24 k) = fun t _ h => f24_2 o c n k (t 1) (t 2) (t 3) (t 7) h := (kseq (f24_3_ok o c n k w) rfl).tk
noncomputable def f24_1 (s1 s2 s3 : AV) (h : Heap) : α :=
  f24_2 o c n k s1 s2 s3 .nsl h
theorem f24_1_ok : R Pq o c n (cB b24) (kend Pq o c n w rs24 k) = fun t _ h => f24_1 o c n k (t 1) (t 2) (t 3) h := (kseq (f24_2_ok o c n k w) rfl).tk
noncomputable def f24 (a0 a1 a2 : AV) (h : Heap) : α :=
  boxF o a0 h h.next fun v36 h => f24_1 o c n k a1 a2 v36 h
theorem f24_ok : R Pq o c n b24 (kend Pq o c n w rs24 k) = fun t _ h => f24 o c n k (t 0) (t 1) (t 2) h := (kseq (f24_1_ok o c n k w) rfl).tk
theorem f24_good : Good Pq (cfg mm) 24 (entF Pq (cfg mm) 24 3 fun α => f24) := entG b24 rs24 56 fun _ => f24_ok
noncomputable def b25 := bdy Try.f25
noncomputable def rs25 := Try.f25.results.toList
noncomputable def f25_2K : Ex → K α := (nxK (R Pq o c n (cB (cB b25)) (kend Pq o c n w rs25 k)) (kend Pq o c n w rs25 k))
noncomputable def f25_4 {α : Type} (o : α) (c : Call' α) (n : Nat) (k : AV → Heap → α) (s1 s2 s11 s13 : AV) (h : Heap) : α :=
  pickF o s11 (.b true) s13 fun v1 => bkF o false v1 (loadNF o h 1 s2 fun v2 => c 26 [v2, s1] h fun v3 h => pk k v3 h <| pickF o v1 (.b true) v3 fun v4 => k v4 h) (pickF o v1 (.b true) (.tup []) fun v5 => k v5 h)
theorem f25_4_ok : Q Pq o c (cO (cA (cB b25))) (f25_2K o c n k w) 9 = fun t _ h => f25_4 o c n k (t 1) (t 2) (t 11) (t 13) h := (q_seg 9 11 (by kernel_rfl) (q_guard 11 14 (10, false) (by kernel_rfl) (by kernel_rfl) (by kernel_rfl) rfl)).tk
noncomputable def f25_3 (s1 s2 s7 s9 : AV) (h : Heap) : α :=
  pickF o s7 (.b true) s9 fun v6 => bkF o false v6 (eqsF Pq o 9 s1 (.s 6 113723913172051) fun v7 => f25_4 o c n k s1 s2 v6 v7 h) (f25_4 o c n k s1 s2 v6 (.tup []) h)
theorem f25_3_ok : Q Pq o c (cO (cA (cB b25))) (f25_2K o c n k w) 5 = fun t _ h => f25_3 o c n k (t 1) (t 2) (t 7) (t 9) h := (q_seg 5 7 (by kernel_rfl) (q_guard 7 9 (6, false) (by kernel_rfl) (by kernel_rfl) (by kernel_rfl) (f25_4_ok o c n k w))).tk
noncomputable def f25_1 (s1 s2 : AV) (h : Heap) : α :=
  eqsF Pq o 9 s1 (.s 3 7630441) fun v8 => bkF o false v8 (eqsF Pq o 9 s1 (.s 7 31069335677005666) fun v9 => f25_3 o c n k s1 s2 v8 v9 h) (f25_3 o c n k s1 s2 v8 (.tup []) h)
theorem f25_1_ok : R Pq o c n (cB b25) (kend Pq o c n w rs25 k) = fun t _ h => f25_1 o c n k (t 1) (t 2) h := (kseq rfl (r_start 3 (by kernel_rfl) (q_guard 3 5 (2, false) (by kernel_rfl) (by kernel_rfl) (by kernel_rfl) (f25_3_ok o c n k w)))).tk
noncomputable def f25 (a0 a1 : AV) (h : Heap) : α :=
  boxF o a0 h h.next fun v10 h => f25_1 o c n k a1 v10 h
theorem f25_ok : R Pq o c n b25 (kend Pq o c n w rs25 k) = fun t _ h => f25 o c n k (t 0) (t 1) h := (kseq (f25_1_ok o c n k w) rfl).tk
theorem f25_good : Good Pq (cfg mm) 25 (entF Pq (cfg mm) 25 2 fun α => f25) := entG b25 rs25 20 fun _ => f25_ok
noncomputable def b26 := bdy Try.f26
noncomputable def rs26 := Try.f26.results.toList
noncomputable def f26_2K : Ex → K α := (nxK (R Pq o c n (cB (cB b26)) (kend Pq o c n w rs26 k)) (kend Pq o c n w rs26 k))
noncomputable def f26_1 {α : Type} (o : α) (c : Call' α) (n : Nat) (k : AV → Heap → α) (s1 s2 : AV) (h : Heap) : α :=
  c 32 [s1] h fun v1 h => pk k v1 h <| bkF o false v1 (loadNF o h 1 s2 fun v2 => c 33 [v2, s1] h fun v3 h => pk k v3 h <| geqF Pq o 3 v3 (.i .i64 0) fun v4 => pickF o v1 (.b true) v4 fun v5 => k v5 h) (pickF o v1 (.b true) (.tup []) fun v6 => k v6 h)
theorem f26_1_ok : R Pq o c n (cB b26) (kend Pq o c n w rs26 k) = fun t _ h => f26_1 o c n k (t 1) (t 2) h := (kseq rfl (r_start 3 (by kernel_rfl) (q_guard 3 7 (2, false) (by kernel_rfl) (by kernel_rfl) (by kernel_rfl) rfl))).tk
noncomputable def f26 (a0 a1 : AV) (h : Heap) : α :=
  boxF o a0 h h.next fun v7 h => f26_1 o c n k a1 v7 h
theorem f26_ok : R Pq o c n b26 (kend Pq o c n w rs26 k) = fun t _ h => f26 o c n k (t 0) (t 1) h := (kseq (f26_1_ok o c n k w) rfl).tk
theorem f26_good : Good Pq (cfg mm) 26 (entF Pq (cfg mm) 26 2 fun α => f26) := entG b26 rs26 13 fun _ => f26_ok
noncomputable def b27 := bdy Try.f27
noncomputable def rs27 := Try.f27.results.toList
noncomputable def f27 {α : Type} (o : α) (c : Call' α) (n : Nat) (k : AV → Heap → α) (a0 a1 : AV) (h : Heap) : α :=
  c 44 [a0, a1] h fun v1 h => pk k v1 h <| geqF Pq o 3 v1 (.i .i64 0) fun v2 => k v2 h
theorem f27_ok : R Pq o c n b27 (kend Pq o c n w rs27 k) = fun t _ h => f27 o c n k (t 0) (t 1) h := by kernel_rfl
theorem f27_good : Good Pq (cfg mm) 27 (entF Pq (cfg mm) 27 2 fun α => f27) := entG b27 rs27 9 fun _ => f27_ok
noncomputable def b28 := bdy Try.f28
noncomputable def rs28 := Try.f28.results.toList
noncomputable def f28_3K : Ex → K α := (nxK (R Pq o c n (cB (cB (cB b28))) (kend Pq o c n w rs28 k)) (kend Pq o c n w rs28 k))
noncomputable def f28_5K (lp0 : AVs (Heap → α) 3) : Ex → K α := (nxK (fun t _ h => lp0 (t 1) (t 2) (t 5) h) (blockK (cI (cA (cB (cB b28)))) (f28_3K o c n k w)))
noncomputable def f28_6 {α : Type} (o : α) (c : Call' α) (n : Nat) (k : AV → Heap → α) (lp0 : AVs (Heap → α) 3) (s1 s2 s5 : AV) (h : Heap) : α :=
  fil1 o 1 1 0 s1 [[(.s 0 0)]] fun v1 => newEF h h.next 1 1 v1 fun v2 h => appX Pq o h h.next 26 26 s5 v2 fun v3 h => loadNF o h 1 s2 fun v4 => c 35 [v4, s1] h fun v5 h => pk k v5 h <| lp0 v5 s2 v3 h
theorem f28_6_ok (lp0 : AVs (Heap → α) 3) : R Pq o c n (cB (cA (cA (cA (cB (cB b28)))))) (f28_5K o c n k w lp0) = fun t _ h => f28_6 o c n k lp0 (t 1) (t 2) (t 5) h := by kernel_rfl
noncomputable def f28_7K (lp0 : AVs (Heap → α) 3) : Ex → K α := (nxK (fun t _ h => f28_6 o c n k lp0 (t 1) (t 2) (t 5) h) (f28_5K o c n k w lp0))
noncomputable def f28_8K (lp0 : AVs (Heap → α) 3) : Ex → K α := (nxK (R Pq o c n (cB (cA (cA (cA (cA (cB (cB b28))))))) (f28_7K o c n k w lp0)) (f28_7K o c n k w lp0))
noncomputable def f28_4 (m : Nat) : AVs (Heap → α) 3 :=
  Nat.rec (motive := fun _ => AVs (Heap → α) 3) (fun _ _ _ _ => o) (fun _ lp0 s1 s2 s5 h => loadNF o h 1 s2 fun v6 => c 26 [v6, s1] h fun v7 h => pk k v7 h <| bkF o true v7 (c 27 [s5, s1] h fun v8 h => pk k v8 h <| notF o v8 fun v9 => pickF o v7 v9 (.b false) fun v10 => ifF o v10 (f28_6 o c n k lp0 s1 s2 s5 h) (k s5 h)) (pickF o v7 (.tup []) (.b false) fun v11 => ifF o v11 (f28_6 o c n k lp0 s1 s2 s5 h) (k s5 h))) m
theorem f28_4_ok : R Pq o c n (cA (cA (cB (cB b28)))) (blockK (cI (cA (cB (cB b28)))) (f28_3K o c n k w)) = fun t _ h => f28_4 o c n k n (t 1) (t 2) (t 5) h :=
  c_loop (F := fun m t _ h => f28_4 o c n k m (t 1) (t 2) (t 5) h) (by kernel_rfl) (by kernel_rfl) fun m => (kseq (f28_6_ok o c n k w (f28_4 o c n k m)) (kseq rfl (r_start 4 (by kernel_rfl) (q_guard 4 8 (3, true) (by kernel_rfl) (by kernel_rfl) (by kernel_rfl) rfl)))).tk
noncomputable def f28_2 (s1 s2 s5 : AV) (h : Heap) : α :=
  f28_4 o c n k n s1 s2 s5 h
theorem f28_2_ok : R Pq o c n (cB (cB b28)) (kend Pq o c n w rs28 k) = fun t _ h => f28_2 o c n k (t 1) (t 2) (t 5) h := (kseq rfl (kblk (f28_4_ok o c n k w))).tk
noncomputable def f28_1 (s1 s2 : AV) (h : Heap) : α :=
  f28_2 o c n k s1 s2 .nsl h
theorem f28_1_ok : R Pq o c n (cB b28) (kend Pq o c n w rs28 k) = fun t _ h => f28_1 o c n k (t 1) (t 2) h := (kseq (f28_2_ok o c n k w) rfl).tk
noncomputable def f28 (a0 a1 : AV) (h : Heap) : α :=
  boxF o a0 h h.next fun v12 h => f28_1 o c n k a1 v12 h
theorem f28_ok : R Pq o c n b28 (kend Pq o c n w rs28 k) = fun t _ h => f28 o c n k (t 0) (t 1) h := (kseq (f28_1_ok o c n k w) rfl).tk
theorem f28_good : Good Pq (cfg mm) 28 (entF Pq (cfg mm) 28 2 fun α => f28) := entG b28 rs28 23 fun _ => f28_ok
noncomputable def b29 := bdy Try.f29
noncomputable def rs29 := Try.f29.results.toList
noncomputable def f29 {α : Type} (o : α) (c : Call' α) (n : Nat) (k : AV → Heap → α) (a0 a1 : AV) (h : Heap) : α :=
  boxF o a0 h h.next fun v1 h => loadNF o h 1 v1 fun v2 => c 23 [v2] h fun v3 h => pk k v3 h <| notF o v3 fun v4 => ifF o v4 (k .nsl h) (loadNF o h 1 v1 fun v5 => c 45 [v5, a1] h fun v6 h => pk k v6 h <| k v6 h)
theorem f29_ok : R Pq o c n b29 (kend Pq o c n w rs29 k) = fun t _ h => f29 o c n k (t 0) (t 1) h := by kernel_rfl
theorem f29_good : Good Pq (cfg mm) 29 (entF Pq (cfg mm) 29 2 fun α => f29) := entG b29 rs29 11 fun _ => f29_ok
noncomputable def b30 := bdy Try.f30
noncomputable def rs30 := Try.f30.results.toList
noncomputable def f30_2K : Ex → K α := (nxK (R Pq o c n (cB (cB b30)) (kend Pq o c n w rs30 k)) (kend Pq o c n w rs30 k))
noncomputable def f30_4 {α : Type} (o : α) (c : Call' α) (n : Nat) (k : AV → Heap → α) (m : Nat) : AVs (Heap → α) 4 :=
  Nat.rec (motive := fun _ => AVs (Heap → α) 4) (fun _ _ _ _ _ => o) (fun _ lp0 s1 s9 s10 s11 h => lssF Pq o 3 s11 s10 fun v1 => ifF o v1 (ixF o 4 s9 s11 fun v2 => loadNF o h 4 v2 fun v3 => newF h h.next 4 [(.s 0 0), (.s 0 0), .nsl, .nsl] fun v4 h => storeF o h 4 v4 v3 fun h => loadNF o h 4 v4 fun v5 => cfF o s1 [s11, v5] c h fun v6 h => pk k v6 h <| neiF Pq o 3 v6 (.i .i64 0) fun v7 => ifF o v7 (layF o 0 v6 [(.i .i64 0), (.i .i64 0)] fun v8 => layF o 1 s11 v8 fun v9 => k (.ifc 68 (.agg v9)) h) (addF Pq o 3 s11 (.i .i64 1) fun v10 => lp0 s1 s9 s10 v10 h)) (k .nifc h)) m
theorem f30_4_ok : R Pq o c n (cA (cB (cA (cB b30)))) (blockK (cI (cB (cA (cB b30)))) (f30_2K o c n k w)) = fun t _ h => f30_4 o c n k n (t 1) (t 9) (t 10) (t 11) h :=
  c_loop (F := fun m t _ h => f30_4 o c n k m (t 1) (t 9) (t 10) (t 11) h) (by kernel_rfl) (by kernel_rfl) fun m => by kernel_rfl
noncomputable def f30_3 (s1 s9 s10 s11 : AV) (h : Heap) : α :=
  f30_4 o c n k n s1 s9 s10 s11 h
theorem f30_3_ok : R Pq o c n (cB (cA (cB b30))) (f30_2K o c n k w) = fun t _ h => f30_3 o c n k (t 1) (t 9) (t 10) (t 11) h := (kblk (f30_4_ok o c n k w)).tk
noncomputable def f30_1 (s1 s2 : AV) (h : Heap) : α :=
  faF o 0 s2 fun v11 => load1F o h v11 fun v12 => lenF o v12 fun v13 => f30_3 o c n k s1 v12 v13 (.i .i64 0) h
theorem f30_1_ok : R Pq o c n (cB b30) (kend Pq o c n w rs30 k) = fun t _ h => f30_1 o c n k (t 1) (t 2) h := (kseq rfl (kseq (f30_3_ok o c n k w) rfl)).tk
noncomputable def f30 (a0 a1 : AV) (h : Heap) : α :=
  boxF o a0 h h.next fun v14 h => f30_1 o c n k a1 v14 h
theorem f30_ok : R Pq o c n b30 (kend Pq o c n w rs30 k) = fun t _ h => f30 o c n k (t 0) (t 1) h := (kseq (f30_1_ok o c n k w) rfl).tk
theorem f30_good : Good Pq (cfg mm) 30 (entF Pq (cfg mm) 30 2 fun α => f30) := entG b30 rs30 27 fun _ => f30_ok
noncomputable def b31 := bdy Try.f31
noncomputable def rs31 := Try.f31.results.toList
noncomputable def f31_2K : Ex → K α := (nxK (R Pq o c n (cB (cB b31)) (kend Pq o c n w rs31 k)) (kend Pq o c n w rs31 k))
noncomputable def f31_3 {α : Type} (o : α) (c : Call' α) (n : Nat) (k : AV → Heap → α) (s16 : AV) (h : Heap) : α :=
  ifF o s16 (k (.i .i64 6) h) (k (.i .i64 0) h)
theorem f31_3_ok : R Pq o c n (cB (cA (cB b31))) (f31_2K o c n k w) = fun t _ h => f31_3 o c n k (t 16) h := by kernel_rfl
noncomputable def f31_4K : Ex → K α := (nxK (fun t _ h => f31_3 o c n k (t 16) h) (f31_2K o c n k w))
noncomputable def f31_1 (s0 s2 s4 : AV) (h : Heap) : α :=
  faF o 0 s4 fun v1 => load1F o h v1 fun v2 => c 32 [v2] h fun v3 h => pk k v3 h <| bkF o false v3 (loadNF o h 1 s2 fun v4 => faF o 0 s4 fun v5 => load1F o h v5 fun v6 => c 33 [v4, v6] h fun v7 h => pk k v7 h <| lssF Pq o 3 v7 s0 fun v8 => pickF o v3 (.b true) v8 fun v9 => f31_3 o c n k v9 h) (pickF o v3 (.b true) (.tup []) fun v10 => f31_3 o c n k v10 h)
theorem f31_1_ok : R Pq o c n (cB b31) (kend Pq o c n w rs31 k) = fun t _ h => f31_1 o c n k (t 0) (t 2) (t 4) h := (kseq rfl (kseq (f31_3_ok o c n k w) (r_start 4 (by kernel_rfl) (q_guard 4 10 (3, false) (by kernel_rfl) (by kernel_rfl) (by kernel_rfl) rfl)))).tk
noncomputable def f31 (a0 a1 a2 : AV) (h : Heap) : α :=
  boxF o a1 h h.next fun v11 h => f31_1 o c n k a0 a2 v11 h
theorem f31_ok : R Pq o c n b31 (kend Pq o c n w rs31 k) = fun t _ h => f31 o c n k (t 0) (t 1) (t 2) h := (kseq (f31_1_ok o c n k w) rfl).tk
theorem f31_good : Good Pq (cfg mm) 31 (entF Pq (cfg mm) 31 3 fun α => f31) := entG b31 rs31 17 fun _ => f31_ok
noncomputable def b32 := bdy Try.f32
noncomputable def rs32 := Try.f32.results.toList
noncomputable def f32 {α : Type} (o : α) (c : Call' α) (n : Nat) (k : AV → Heap → α) (a0 : AV) (h : Heap) : α :=
  fil1 o 1 5 0 (.s 9 2037169923944901474373) (lrep [(.s 0 0)] 5) fun v1 => fil1 o 1 5 1 (.s 9 2147637572233774003534) v1 fun v2 => fil1 o 1 5 2 (.s 9 2147637572233908674883) v2 fun v3 => fil1 o 1 5 3 (.s 9 2147637572233824724314) v3 fun v4 => fil1 o 1 5 4 (.s 10 549795218491815995793746) v4 fun v5 => newEF h h.next 1 5 v5 fun v6 h => c 27 [v6, a0] h fun v7 h => pk k v7 h <| k v7 h
theorem f32_ok : R Pq o c n b32 (kend Pq o c n w rs32 k) = fun t _ h => f32 o c n k (t 0) h := by kernel_rfl
theorem f32_good : Good Pq (cfg mm) 32 (entF Pq (cfg mm) 32 1 fun α => f32) := entG b32 rs32 6 fun _ => f32_ok
noncomputable def b33 := bdy Try.f33
noncomputable def rs33 := Try.f33.results.toList
noncomputable def f33 {α : Type} (o : α) (c : Call' α) (n : Nat) (k : AV → Heap → α) (a0 a1 : AV) (h : Heap) : α :=
  boxF o a0 h h.next fun v1 h => boxF o a1 h h.next fun v2 h => faF o 0 v1 fun v3 => load1F o h v3 fun v4 => c 46 [v4, (.fn (.func 47) [] [v2])] h fun v5 h => pk k v5 h <| k v5 h
theorem f33_ok : R Pq o c n b33 (kend Pq o c n w rs33 k) = fun t _ h => f33 o c n k (t 0) (t 1) h := by kernel_rfl
theorem f33_good : Good Pq (cfg mm) 33 (entF Pq (cfg mm) 33 2 fun α => f33) := entG b33 rs33 9 fun _ => f33_ok
noncomputable def b34 := bdy Try.f34
noncomputable def rs34 := Try.f34.results.toList
noncomputable def f34 {α : Type} (o : α) (c : Call' α) (n : Nat) (k : AV → Heap → α) (a0 a1 a2 : AV) (h : Heap) : α :=
  boxF o a1 h h.next fun v1 h => faF o 1 v1 fun v2 => load1F o h v2 fun v3 => eqsF Pq o 9 v3 (.s 0 0) fun v4 => ifF o v4 (k (.i .i64 0) h) (loadNF o h 1 a2 fun v5 => faF o 1 v1 fun v6 => load1F o h v6 fun v7 => c 26 [v5, v7] h fun v8 h => pk k v8 h <| notF o v8 fun v9 => ifF o v9 (k (.i .i64 7) h) (loadNF o h 1 a2 fun v10 => faF o 0 v1 fun v11 => load1F o h v11 fun v12 => c 28 [v10, v12] h fun v13 h => pk k v13 h <| dreg o h 9 fun base h => loadNF o (h.look 0) 1 a2 fun v14 => lenF o v13 fun v15 => binA Pq o .sub 3 v15 (.i .i64 1) fun v16 => ixF o 1 v13 v16 fun v17 => rootF o v17 v13 <| load1F o (h.look 62) v17 fun v18 => callD o c [] 35 [v14, v18] (h.look 0) fun v19 h => pnF v19 (fun x => hb h.shut fun hd => k x.pn hd) <| hb h.shut fun h => c 27 [v13, v19] h fun v20 h => pk k v20 h <| ifF o v20 (k (.i .i64 8) h) (k (.i .i64 0) h)))
theorem f34_ok : R Pq o c n b34 (kend Pq o c n w rs34 k) = fun t _ h => f34 o c n k (t 0) (t 1) (t 2) h := by kernel_rfl
theorem f34_good : Good Pq (cfg mm) 34 (entF Pq (cfg mm) 34 3 fun α => f34) := entG b34 rs34 31 fun _ => f34_ok
noncomputable def b35 := bdy Try.f35
noncomputable def rs35 := Try.f35.results.toList
noncomputable def f35 {α : Type} (o : α) (c : Call' α) (n : Nat) (k : AV → Heap → α) (a0 a1 : AV) (h : Heap) : α :=
  boxF o a0 h h.next fun v1 h => c 32 [a1] h fun v2 h => pk k v2 h <| ifF o v2 (eqsF Pq o 9 a1 (.s 9 2037169923944901474373) fun v3 => ifF o v3 (k (.s 0 0) h) (k (.s 9 2037169923944901474373) h)) (loadNF o h 1 v1 fun v4 => c 33 [v4, a1] h fun v5 h => pk k v5 h <| lssF Pq o 3 v5 (.i .i64 0) fun v6 => ifF o v6 (k (.s 0 0) h) (faF o 0 v1 fun v7 => load1F o h v7 fun v8 => ixF o 4 v8 v5 fun v9 => faF o 1 v9 fun v10 => load1F o h v10 fun v11 => k v11 h))
theorem f35_ok : R Pq o c n b35 (kend Pq o c n w rs35 k) = fun t _ h => f35 o c n k (t 0) (t 1) h := by kernel_rfl
theorem f35_good : Good Pq (cfg mm) 35 (entF Pq (cfg mm) 35 2 fun α => f35) := entG b35 rs35 21 fun _ => f35_ok
noncomputable def b37 := bdy Try.f37
noncomputable def rs37 := Try.f37.results.toList
noncomputable def f37 {α : Type} (o : α) (c : Call' α) (n : Nat) (k : AV → Heap → α) (a0 a1 : AV) (h : Heap) : α :=
  boxF o a0 h h.next fun v1 h => boxF o a1 h h.next fun v2 h => loadNF o h 1 v1 fun v3 => loadNF o h 2 v2 fun v4 => c 48 [v3, v4] h fun v5 h => pk k v5 h <| exF o v5 0 fun v6 => exF o v5 1 fun v7 => newF h h.next 6 [(.b false), (.b false), (.s 0 0), (.s 0 0), .nsl, .nsl] fun v8 h => storeF o h 6 v8 v6 fun h => loadNF o h 2 v2 fun v9 => loadNF o h 6 v8 fun v10 => lay1 o 0 2 v9 [(.s 0 0), (.i .i64 0), (.b false), (.b false), (.s 0 0), (.s 0 0), .nsl, .nsl] fun v11 => lay1 o 2 6 v10 v11 fun v12 => k (.ifc 78 (.agg v12)) h
theorem f37_ok : R Pq o c n b37 (kend Pq o c n w rs37 k) = fun t _ h => f37 o c n k (t 0) (t 1) h := by kernel_rfl
theorem f37_good : Good Pq (cfg mm) 37 (entF Pq (cfg mm) 37 2 fun α => f37) := entG b37 rs37 17 fun _ => f37_ok
noncomputable def b38 := bdy Try.f38
noncomputable def rs38 := Try.f38.results.toList
noncomputable def f38 {α : Type} (o : α) (c : Call' α) (n : Nat) (k : AV → Heap → α) (a0 a1 : AV) (h : Heap) : α :=
  c 49 [a0, a1] h fun v1 h => pk k v1 h <| geqF Pq o 3 v1 (.i .i64 0) fun v2 => k v2 h
theorem f38_ok : R Pq o c n b38 (kend Pq o c n w rs38 k) = fun t _ h => f38 o c n k (t 0) (t 1) h := by kernel_rfl
theorem f38_good : Good Pq (cfg mm) 38 (entF Pq (cfg mm) 38 2 fun α => f38) := entG b38 rs38 9 fun _ => f38_ok
noncomputable def b39 := bdy Try.f39
noncomputable def rs39 := Try.f39.results.toList
noncomputable def f39 {α : Type} (o : α) (c : Call' α) (n : Nat) (k : AV → Heap → α) (a0 a1 a2 : AV) (h : Heap) : α :=
  boxF o a0 h h.next fun v1 h => loadNF o h 1 a1 fun v2 => faF o 2 a2 fun v3 => loadNF o h 6 v3 fun v4 => faF o 2 v1 fun v5 => loadNF o h 6 v5 fun v6 => c 8 [v2, v4, v6] h fun v7 h => pk k v7 h <| notF o v7 fun v8 => k v8 h
theorem f39_ok : R Pq o c n b39 (kend Pq o c n w rs39 k) = fun t _ h => f39 o c n k (t 0) (t 1) (t 2) h := by kernel_rfl
theorem f39_good : Good Pq (cfg mm) 39 (entF Pq (cfg mm) 39 3 fun α => f39) := entG b39 rs39 12 fun _ => f39_ok
noncomputable def b40 := bdy Try.f40
noncomputable def rs40 := Try.f40.results.toList
noncomputable def f40 {α : Type} (o : α) (c : Call' α) (n : Nat) (k : AV → Heap → α) (a0 a1 : AV) (h : Heap) : α :=
  boxF o a0 h h.next fun v1 h => loadNF o h 1 v1 fun v2 => c 50 [v2, a1] h fun v3 h => pk k v3 h <| assertA Pq o v3 36 true fun v4 => exF o v4 0 fun v5 => exF o v4 1 fun v6 => newF h h.next 4 [(.s 0 0), (.s 0 0), .nsl, .nsl] fun v7 h => storeF o h 4 v7 v5 fun h => notF o v6 fun v8 => ifF o v8 (k .nsl h) (faF o 3 v7 fun v9 => load1F o h v9 fun v10 => k v10 h)
theorem f40_ok : R Pq o c n b40 (kend Pq o c n w rs40 k) = fun t _ h => f40 o c n k (t 0) (t 1) h := by kernel_rfl
theorem f40_good : Good Pq (cfg mm) 40 (entF Pq (cfg mm) 40 2 fun α => f40) := entG b40 rs40 18 fun _ => f40_ok
noncomputable def b41 := bdy Try.f41
noncomputable def rs41 := Try.f41.results.toList
noncomputable def f41 {α : Type} (o : α) (c : Call' α) (n : Nat) (k : AV → Heap → α) (a0 a1 : AV) (h : Heap) : α :=
  c 51 [a0, a1] h fun v1 h => pk k v1 h <| geqF Pq o 3 v1 (.i .i64 0) fun v2 => k v2 h
theorem f41_ok : R Pq o c n b41 (kend Pq o c n w rs41 k) = fun t _ h => f41 o c n k (t 0) (t 1) h := by kernel_rfl
theorem f41_good : Good Pq (cfg mm) 41 (entF Pq (cfg mm) 41 2 fun α => f41) := entG b41 rs41 9 fun _ => f41_ok
noncomputable def b42 := bdy Try.f42
noncomputable def rs42 := Try.f42.results.toList
noncomputable def f42 {α : Type} (o : α) (c : Call' α) (n : Nat) (k : AV → Heap → α) (a0 a1 : AV) (h : Heap) : α :=
  boxF o a0 h h.next fun v1 h => loadNF o h 6 v1 fun v2 => loadNF o h 6 a1 fun v3 => c 43 [v2, v3] h fun v4 h => pk k v4 h <| k v4 h
theorem f42_ok : R Pq o c n b42 (kend Pq o c n w rs42 k) = fun t _ h => f42 o c n k (t 0) (t 1) h := by kernel_rfl
theorem f42_good : Good Pq (cfg mm) 42 (entF Pq (cfg mm) 42 2 fun α => f42) := entG b42 rs42 7 fun _ => f42_ok
noncomputable def b43 := bdy Try.f43
noncomputable def rs43 := Try.f43.results.toList
noncomputable def f43_2K : Ex → K α := (nxK (R Pq o c n (cB (cB b43)) (kend Pq o c n w rs43 k)) (kend Pq o c n w rs43 k))
noncomputable def f43_1 {α : Type} (o : α) (c : Call' α) (n : Nat) (k : AV → Heap → α) (s2 s3 : AV) (h : Heap) : α :=
  faF o 3 s2 fun v1 => load1F o h v1 fun v2 => faF o 3 s3 fun v3 => load1F o h v3 fun v4 => eqsF Pq o 9 v2 v4 fun v5 => bkF o true v5 (loadNF o h 6 s2 fun v6 => loadNF o h 6 s3 fun v7 => c 52 [v6, v7] h fun v8 h => pk k v8 h <| pickF o v5 v8 (.b false) fun v9 => k v9 h) (pickF o v5 (.tup []) (.b false) fun v10 => k v10 h)
theorem f43_1_ok : R Pq o c n (cB b43) (kend Pq o c n w rs43 k) = fun t _ h => f43_1 o c n k (t 2) (t 3) h := (kseq rfl (r_start 6 (by kernel_rfl) (q_guard 6 9 (5, true) (by kernel_rfl) (by kernel_rfl) (by kernel_rfl) rfl))).tk
noncomputable def f43 (a0 a1 : AV) (h : Heap) : α :=
  boxF o a0 h h.next fun v11 h => boxF o a1 h h.next fun v12 h => f43_1 o c n k v11 v12 h
theorem f43_ok : R Pq o c n b43 (kend Pq o c n w rs43 k) = fun t _ h => f43 o c n k (t 0) (t 1) h := (kseq (f43_1_ok o c n k w) rfl).tk
theorem f43_good : Good Pq (cfg mm) 43 (entF Pq (cfg mm) 43 2 fun α => f43) := entG b43 rs43 15 fun _ => f43_ok
noncomputable def b44 := bdy Try.f44
noncomputable def rs44 := Try.f44.results.toList
noncomputable def f44_2K : Ex → K α := (nxK (R Pq o c n (cB (cB b44)) (kend Pq o c n w rs44 k)) (kend Pq o c n w rs44 k))
noncomputable def f44_4 {α : Type} (o : α) (c : Call' α) (n : Nat) (k : AV → Heap → α) (m : Nat) : AVs (Heap → α) 4 :=
  Nat.rec (motive := fun _ => AVs (Heap → α) 4) (fun _ _ _ _ _ => o) (fun _ lp0 s0 s1 s7 s8 h => lssF Pq o 3 s8 s7 fun v1 => ifF o v1 (ixF o 1 s0 s8 fun v2 => load1F o h v2 fun v3 => eqsF Pq o 9 s1 v3 fun v4 => ifF o v4 (k s8 h) (addF Pq o 3 s8 (.i .i64 1) fun v5 => lp0 s0 s1 s7 v5 h)) (k (.i .i64 (-1)) h)) m
theorem f44_4_ok : R Pq o c n (cA (cB (cA (cB b44)))) (blockK (cI (cB (cA (cB b44)))) (f44_2K o c n k w)) = fun t _ h => f44_4 o c n k n (t 0) (t 1) (t 7) (t 8) h :=
  c_loop (F := fun m t _ h => f44_4 o c n k m (t 0) (t 1) (t 7) (t 8) h) (by kernel_rfl) (by kernel_rfl) fun m => by kernel_rfl
noncomputable def f44_3 (s0 s1 s7 s8 : AV) (h : Heap) : α :=
  f44_4 o c n k n s0 s1 s7 s8 h
theorem f44_3_ok : R Pq o c n (cB (cA (cB b44))) (f44_2K o c n k w) = fun t _ h => f44_3 o c n k (t 0) (t 1) (t 7) (t 8) h := (kblk (f44_4_ok o c n k w)).tk
noncomputable def f44_1 (s0 s1 : AV) (h : Heap) : α :=
  lenF o s0 fun v6 => f44_3 o c n k s0 s1 v6 (.i .i64 0) h
theorem f44_1_ok : R Pq o c n (cB b44) (kend Pq o c n w rs44 k) = fun t _ h => f44_1 o c n k (t 0) (t 1) h := (kseq rfl (kseq (f44_3_ok o c n k w) rfl)).tk
noncomputable def f44 (a0 a1 : AV) (h : Heap) : α :=
  f44_1 o c n k a0 a1 h
theorem f44_ok : R Pq o c n b44 (kend Pq o c n w rs44 k) = fun t _ h => f44 o c n k (t 0) (t 1) h := (kseq (f44_1_ok o c n k w) rfl).tk
theorem f44_good : Good Pq (cfg mm) 44 (entF Pq (cfg mm) 44 2 fun α => f44) := entG b44 rs44 19 fun _ => f44_ok
noncomputable def b45 := bdy Try.f45
noncomputable def rs45 := Try.f45.results.toList
noncomputable def f45_5 {α : Type} (o : α) (c : Call' α) (n : Nat) (k : AV → Heap → α) (s5 : AV) (h : Heap) : α :=
  k s5 h
theorem f45_5_ok : R Pq o c n (cB (cB (cB (cB (cB b45))))) (kend Pq o c n w rs45 k) = fun t _ h => f45_5 o c n k (t 5) h := by kernel_rfl
noncomputable def f45_4 (s1 s5 : AV) (h : Heap) : α :=
  lenF o s5 fun v1 => eqiF Pq o 3 v1 (.i .i64 0) fun v2 => ifF o v2 (layF o 0 s1 [(.s 0 0), (.i .i64 0)] fun v3 => layF o 1 (.i .i64 (-1)) v3 fun v4 => fil1 o 2 1 0 (.agg v4) [[(.s 0 0), (.i .i64 0)]] fun v5 => newEF h h.next 2 1 v5 fun v6 h => appX Pq o h h.next 49 49 s5 v6 fun v7 h => f45_5 o c n k v7 h) (f45_5 o c n k s5 h)
theorem f45_4_ok : R Pq o c n (cB (cB (cB (cB b45)))) (kend Pq o c n w rs45 k) = fun t _ h => f45_4 o c n k (t 1) (t 5) h := (kseq (f45_5_ok o c n k w) rfl).tk
noncomputable def f45_6K : Ex → K α := (nxK (fun t _ h => f45_4 o c n k (t 1) (t 5) h) (kend Pq o c n w rs45 k))
noncomputable def f45_8 (m : Nat) : AVs (Heap → α) 5 :=
  Nat.rec (motive := fun _ => AVs (Heap → α) 5) (fun _ _ _ _ _ _ => o) (fun _ lp0 s1 s5 s14 s15 s16 h => lssF Pq o 3 s16 s15 fun v8 => ifF o v8 (ixF o 6 s14 s16 fun v9 => loadNF o h 6 v9 fun v10 => newF h h.next 6 [(.b false), (.b false), (.s 0 0), (.s 0 0), .nsl, .nsl] fun v11 h => storeF o h 6 v11 v10 fun h => faF o 1 v11 fun v12 => load1F o h v12 fun v13 => ifF o v13 (layF o 0 s1 [(.s 0 0), (.i .i64 0)] fun v14 => layF o 1 s16 v14 fun v15 => fil1 o 2 1 0 (.agg v15) [[(.s 0 0), (.i .i64 0)]] fun v16 => newEF h h.next 2 1 v16 fun v17 h => appX Pq o h h.next 49 49 s5 v17 fun v18 h => addF Pq o 3 s16 (.i .i64 1) fun v19 => lp0 s1 v18 s14 s15 v19 h) (addF Pq o 3 s16 (.i .i64 1) fun v20 => lp0 s1 s5 s14 s15 v20 h)) (f45_4 o c n k s1 s5 h)) m
theorem f45_8_ok : R Pq o c n (cA (cB (cA (cB (cB (cB b45)))))) (blockK (cI (cB (cA (cB (cB (cB b45)))))) (f45_6K o c n k w)) = fun t _ h => f45_8 o c n k n (t 1) (t 5) (t 14) (t 15) (t 16) h :=
  c_loop (F := fun m t _ h => f45_8 o c n k m (t 1) (t 5) (t 14) (t 15) (t 16) h) (by kernel_rfl) (by kernel_rfl) fun m => by kernel_rfl
noncomputable def f45_7 (s1 s5 s14 s15 s16 : AV) (h : Heap) : α :=
  f45_8 o c n k n s1 s5 s14 s15 s16 h
theorem f45_7_ok : R Pq o c n (cB (cA (cB (cB (cB b45))))) (f45_6K o c n k w) = fun t _ h => f45_7 o c n k (t 1) (t 5) (t 14) (t 15) (t 16) h := (kblk (f45_8_ok o c n k w)).tk
noncomputable def f45_3 (s1 s2 s5 : AV) (h : Heap) : α :=
  loadNF o h 1 s2 fun v21 => c 40 [v21, s1] h fun v22 h => pk k v22 h <| lenF o v22 fun v23 => f45_7 o c n k s1 s5 v22 v23 (.i .i64 0) h
theorem f45_3_ok : R Pq o c n (cB (cB (cB b45))) (kend Pq o c n w rs45 k) = fun t _ h => f45_3 o c n k (t 1) (t 2) (t 5) h := (kseq (f45_4_ok o c n k w) (kseq (f45_7_ok o c n k w) rfl)).tk
noncomputable def f45_2 (s1 s2 : AV) (h : Heap) : α :=
  f45_3 o c n k s1 s2 .nsl h
theorem f45_2_ok : R Pq o c n (cB (cB b45)) (kend Pq o c n w rs45 k) = fun t _ h => f45_2 o c n k (t 1) (t 2) h := (kseq (f45_3_ok o c n k w) rfl).tk
noncomputable def f45_1 (s1 s2 : AV) (h : Heap) : α :=
  loadNF o h 1 s2 fun v24 => c 26 [v24, s1] h fun v25 h => pk k v25 h <| notF o v25 fun v26 => ifF o v26 (k .nsl h) (f45_2 o c n k s1 s2 h)
theorem f45_1_ok : R Pq o c n (cB b45) (kend Pq o c n w rs45 k) = fun t _ h => f45_1 o c n k (t 1) (t 2) h := (kseq (f45_2_ok o c n k w) rfl).tk
noncomputable def f45 (a0 a1 : AV) (h : Heap) : α :=
  boxF o a0 h h.next fun v27 h => f45_1 o c n k a1 v27 h
theorem f45_ok : R Pq o c n b45 (kend Pq o c n w rs45 k) = fun t _ h => f45 o c n k (t 0) (t 1) h := (kseq (f45_1_ok o c n k w) rfl).tk
theorem f45_good : Good Pq (cfg mm) 45 (entF Pq (cfg mm) 45 2 fun α => f45) := entG b45 rs45 39 fun _ => f45_ok
noncomputable def b46 := bdy Try.f46
noncomputable def rs46 := Try.f46.results.toList
noncomputable def f46_2K : Ex → K α := (nxK (R Pq o c n (cB (cB b46)) (kend Pq o c n w rs46 k)) (kend Pq o c n w rs46 k))
noncomputable def f46_4 {α : Type} (o : α) (c : Call' α) (n : Nat) (k : AV → Heap → α) (m : Nat) : AVs (Heap → α) 4 :=
  Nat.rec (motive := fun _ => AVs (Heap → α) 4) (fun _ _ _ _ _ => o) (fun _ lp0 s0 s1 s7 s8 h => lssF Pq o 3 s8 s7 fun v1 => ifF o v1 (ixF o 4 s0 s8 fun v2 => loadNF o h 4 v2 fun v3 => cfF o s1 [v3] c h fun v4 h => pk k v4 h <| ifF o v4 (k s8 h) (addF Pq o 3 s8 (.i .i64 1) fun v5 => lp0 s0 s1 s7 v5 h)) (k (.i .i64 (-1)) h)) m
theorem f46_4_ok : R Pq o c n (cA (cB (cA (cB b46)))) (blockK (cI (cB (cA (cB b46)))) (f46_2K o c n k w)) = fun t _ h => f46_4 o c n k n (t 0) (t 1) (t 7) (t 8) h :=
  c_loop (F := fun m t _ h => f46_4 o c n k m (t 0) (t 1) (t 7) (t 8) h) (by kernel_rfl) (by kernel_rfl) fun m => by kernel_rfl
noncomputable def f46_3 (s0 s1 s7 s8 : AV) (h : Heap) : α :=
  f46_4 o c n k n s0 s1 s7 s8 h
theorem f46_3_ok : R Pq o c n (cB (cA (cB b46))) (f46_2K o c n k w) = fun t _ h => f46_3 o c n k (t 0) (t 1) (t 7) (t 8) h := (kblk (f46_4_ok o c n k w)).tk
noncomputable def f46_1 (s0 s1 : AV) (h : Heap) : α :=
  lenF o s0 fun v6 => f46_3 o c n k s0 s1 v6 (.i .i64 0) h
theorem f46_1_ok : R Pq o c n (cB b46) (kend Pq o c n w rs46 k) = fun t _ h => f46_1 o c n k (t 0) (t 1) h := (kseq rfl (kseq (f46_3_ok o c n k w) rfl)).tk
noncomputable def f46 (a0 a1 : AV) (h : Heap) : α :=
  f46_1 o c n k a0 a1 h
theorem f46_ok : R Pq o c n b46 (kend Pq o c n w rs46 k) = fun t _ h => f46 o c n k (t 0) (t 1) h := (kseq (f46_1_ok o c n k w) rfl).tk
theorem f46_good : Good Pq (cfg mm) 46 (entF Pq (cfg mm) 46 2 fun α => f46) := entG b46 rs46 19 fun _ => f46_ok
noncomputable def b47 := bdy Try.f47
noncomputable def rs47 := Try.f47.results.toList
noncomputable def f47 {α : Type} (o : α) (c : Call' α) (n : Nat) (k : AV → Heap → α) (a0 a1 : AV) (h : Heap) : α :=
  boxF o a0 h h.next fun v1 h => faF o 0 v1 fun v2 => load1F o h v2 fun v3 => load1F o h a1 fun v4 => eqsF Pq o 9 v3 v4 fun v5 => k v5 h
theorem f47_ok : R Pq o c n b47 (kend Pq o c n w rs47 k) = fun t _ h => f47 o c n k (t 0) (t 1) h := by kernel_rfl
theorem f47_good : Good Pq (cfg mm) 47 (entF Pq (cfg mm) 47 2 fun α => f47) := entG b47 rs47 8 fun _ => f47_ok
noncomputable def b48 := bdy Try.f48
noncomputable def rs48 := Try.f48.results.toList
noncomputable def f48_3 {α : Type} (o : α) (c : Call' α) (n : Nat) (k : AV → Heap → α) (s3 s4 s6 : AV) (h : Heap) : α :=
  faF o 1 s3 fun v1 => load1F o h v1 fun v2 => ixF o 6 s6 v2 fun v3 => loadNF o h 6 v3 fun v4 => storeF o h 6 s4 v4 fun h => on o (resV Pq h [(s4, some 41), ((.b true), none)]) fun v => k v h
theorem f48_3_ok : R Pq o c n (cB (cB (cB b48))) (kend Pq o c n w rs48 k) = fun t _ h => f48_3 o c n k (t 3) (t 4) (t 6) h := by kernel_rfl
noncomputable def f48_4K : Ex → K α := (nxK (fun t _ h => f48_3 o c n k (t 3) (t 4) (t 6) h) (kend Pq o c n w rs48 k))
noncomputable def f48_5 (s3 s4 s6 s20 : AV) (h : Heap) : α :=
  ifF o s20 (storeF o h 6 s4 (.agg [(.b false), (.b false), (.s 0 0), (.s 0 0), .nsl, .nsl]) fun h => on o (resV Pq h [(s4, some 41), ((.b false), none)]) fun v => k v h) (f48_3 o c n k s3 s4 s6 h)
theorem f48_5_ok : R Pq o c n (cB (cA (cB (cB b48)))) (f48_4K o c n k w) = fun t _ h => f48_5 o c n k (t 3) (t 4) (t 6) (t 20) h := by kernel_rfl
noncomputable def f48_6K : Ex → K α := (nxK (fun t _ h => f48_5 o c n k (t 3) (t 4) (t 6) (t 20) h) (f48_4K o c n k w))
noncomputable def f48_2 (s3 s4 s6 : AV) (h : Heap) : α :=
  faF o 1 s3 fun v5 => load1F o h v5 fun v6 => lssF Pq o 3 v6 (.i .i64 0) fun v7 => bkF o false v7 (faF o 1 s3 fun v8 => load1F o h v8 fun v9 => lenF o s6 fun v10 => geqF Pq o 3 v9 v10 fun v11 => pickF o v7 (.b true) v11 fun v12 => f48_5 o c n k s3 s4 s6 v12 h) (pickF o v7 (.b true) (.tup []) fun v13 => f48_5 o c n k s3 s4 s6 v13 h)
theorem f48_2_ok : R Pq o c n (cB (cB b48)) (kend Pq o c n w rs48 k) = fun t _ h => f48_2 o c n k (t 3) (t 4) (t 6) h := (kseq (f48_3_ok o c n k w) (kseq (f48_5_ok o c n k w) (r_start 4 (by kernel_rfl) (q_guard 4 9 (3, false) (by kernel_rfl) (by kernel_rfl) (by kernel_rfl) rfl)))).tk
noncomputable def f48_1 (s2 s3 s4 : AV) (h : Heap) : α :=
  loadNF o h 1 s2 fun v14 => faF o 0 s3 fun v15 => load1F o h v15 fun v16 => c 40 [v14, v16] h fun v17 h => pk k v17 h <| f48_2 o c n k s3 s4 v17 h
theorem f48_1_ok : R Pq o c n (cB b48) (kend Pq o c n w rs48 k) = fun t _ h => f48_1 o c n k (t 2) (t 3) (t 4) h := (kseq (f48_2_ok o c n k w) rfl).tk
noncomputable def f48 (a0 a1 : AV) (h : Heap) : α :=
  boxF o a0 h h.next fun v18 h => boxF o a1 h h.next fun v19 h => newF h h.next 6 [(.b false), (.b false), (.s 0 0), (.s 0 0), .nsl, .nsl] fun v20 h => f48_1 o c n k v18 v19 v20 h
theorem f48_ok : R Pq o c n b48 (kend Pq o c n w rs48 k) = fun t _ h => f48 o c n k (t 0) (t 1) h := (kseq (f48_1_ok o c n k w) rfl).tk
theorem f48_good : Good Pq (cfg mm) 48 (entF Pq (cfg mm) 48 2 fun α => f48) := entG b48 rs48 27 fun _ => f48_ok
noncomputable def b49 := bdy Try.f49
noncomputable def rs49 := Try.f49.results.toList
noncomputable def f49_2K : Ex → K α := (nxK (R Pq o c n (cB (cB b49)) (kend Pq o c n w rs49 k)) (kend Pq o c n w rs49 k))
noncomputable def f49_4 {α : Type} (o : α) (c : Call' α) (n : Nat) (k : AV → Heap → α) (m : Nat) : AVs (Heap → α) 4 :=
  Nat.rec (motive := fun _ => AVs (Heap → α) 4) (fun _ _ _ _ _ => o) (fun _ lp0 s0 s1 s7 s8 h => lssF Pq o 3 s8 s7 fun v1 => ifF o v1 (ixF o 8 s0 s8 fun v2 => loadNF o h 8 v2 fun v3 => cfF o s1 [v3] c h fun v4 h => pk k v4 h <| ifF o v4 (k s8 h) (addF Pq o 3 s8 (.i .i64 1) fun v5 => lp0 s0 s1 s7 v5 h)) (k (.i .i64 (-1)) h)) m
theorem f49_4_ok : R Pq o c n (cA (cB (cA (cB b49)))) (blockK (cI (cB (cA (cB b49)))) (f49_2K o c n k w)) = fun t _ h => f49_4 o c n k n (t 0) (t 1) (t 7) (t 8) h :=
  c_loop (F := fun m t _ h => f49_4 o c n k m (t 0) (t 1) (t 7) (t 8) h) (by kernel_rfl) (by kernel_rfl) fun m => by kernel_rfl
noncomputable def f49_3 (s0 s1 s7 s8 : AV) (h : Heap) : α :=
  f49_4 o c n k n s0 s1 s7 s8 h
theorem f49_3_ok : R Pq o c n (cB (cA (cB b49))) (f49_2K o c n k w) = fun t _ h => f49_3 o c n k (t 0) (t 1) (t 7) (t 8) h := (kblk (f49_4_ok o c n k w)).tk
noncomputable def f49_1 (s0 s1 : AV) (h : Heap) : α :=
  lenF o s0 fun v6 => f49_3 o c n k s0 s1 v6 (.i .i64 0) h
theorem f49_1_ok : R Pq o c n (cB b49) (kend Pq o c n w rs49 k) = fun t _ h => f49_1 o c n k (t 0) (t 1) h := (kseq rfl (kseq (f49_3_ok o c n k w) rfl)).tk
noncomputable def f49 (a0 a1 : AV) (h : Heap) : α :=
  f49_1 o c n k a0 a1 h
theorem f49_ok : R Pq o c n b49 (kend Pq o c n w rs49 k) = fun t _ h => f49 o c n k (t 0) (t 1) h := (kseq (f49_1_ok o c n k w) rfl).tk
theorem f49_good : Good Pq (cfg mm) 49 (entF Pq (cfg mm) 49 2 fun α => f49) := entG b49 rs49 19 fun _ => f49_ok
noncomputable def b50 := bdy Try.f50
noncomputable def rs50 := Try.f50.results.toList
noncomputable def f50 {α : Type} (o : α) (c : Call' α) (n : Nat) (k : AV → Heap → α) (a0 a1 : AV) (h : Heap) : α :=
  boxF o a0 h h.next fun v1 h => loadNF o h 1 v1 fun v2 => c 33 [v2, a1] h fun v3 h => pk k v3 h <| geqF Pq o 3 v3 (.i .i64 0) fun v4 => ifF o v4 (faF o 0 v1 fun v5 => load1F o h v5 fun v6 => ixF o 4 v6 v3 fun v7 => loadNF o h 4 v7 fun v8 => k (.ifc 36 v8) h) (k .nifc h)
theorem f50_ok : R Pq o c n b50 (kend Pq o c n w rs50 k) = fun t _ h => f50 o c n k (t 0) (t 1) h := by kernel_rfl
theorem f50_good : Good Pq (cfg mm) 50 (entF Pq (cfg mm) 50 2 fun α => f50) := entG b50 rs50 17 fun _ => f50_ok
noncomputable def b51 := bdy Try.f51
noncomputable def rs51 := Try.f51.results.toList
noncomputable def f51_2K : Ex → K α := (nxK (R Pq o c n (cB (cB b51)) (kend Pq o c n w rs51 k)) (kend Pq o c n w rs51 k))
noncomputable def f51_4 {α : Type} (o : α) (c : Call' α) (n : Nat) (k : AV → Heap → α) (m : Nat) : AVs (Heap → α) 4 :=
  Nat.rec (motive := fun _ => AVs (Heap → α) 4) (fun _ _ _ _ _ => o) (fun _ lp0 s0 s1 s7 s8 h => lssF Pq o 3 s8 s7 fun v1 => ifF o v1 (ixF o 6 s0 s8 fun v2 => loadNF o h 6 v2 fun v3 => cfF o s1 [v3] c h fun v4 h => pk k v4 h <| ifF o v4 (k s8 h) (addF Pq o 3 s8 (.i .i64 1) fun v5 => lp0 s0 s1 s7 v5 h)) (k (.i .i64 (-1)) h)) m
theorem f51_4_ok : R Pq o c n (cA (cB (cA (cB b51)))) (blockK (cI (cB (cA (cB b51)))) (f51_2K o c n k w)) = fun t _ h => f51_4 o c n k n (t 0) (t 1) (t 7) (t 8) h :=
  c_loop (F := fun m t _ h => f51_4 o c n k m (t 0) (t 1) (t 7) (t 8) h) (by kernel_rfl) (by kernel_rfl) fun m => by kernel_rfl
noncomputable def f51_3 (s0 s1 s7 s8 : AV) (h : Heap) : α :=
  f51_4 o c n k n s0 s1 s7 s8 h
theorem f51_3_ok : R Pq o c n (cB (cA (cB b51))) (f51_2K o c n k w) = fun t _ h => f51_3 o c n k (t 0) (t 1) (t 7) (t 8) h := (kblk (f51_4_ok o c n k w)).tk
noncomputable def f51_1 (s0 s1 : AV) (h : Heap) : α :=
  lenF o s0 fun v6 => f51_3 o c n k s0 s1 v6 (.i .i64 0) h
theorem f51_1_ok : R Pq o c n (cB b51) (kend Pq o c n w rs51 k) = fun t _ h => f51_1 o c n k (t 0) (t 1) h := (kseq rfl (kseq (f51_3_ok o c n k w) rfl)).tk
noncomputable def f51 (a0 a1 : AV) (h : Heap) : α :=
  f51_1 o c n k a0 a1 h
theorem f51_ok : R Pq o c n b51 (kend Pq o c n w rs51 k) = fun t _ h => f51 o c n k (t 0) (t 1) h := (kseq (f51_1_ok o c n k w) rfl).tk
theorem f51_good : Good Pq (cfg mm) 51 (entF Pq (cfg mm) 51 2 fun α => f51) := entG b51 rs51 19 fun _ => f51_ok
noncomputable def b52 := bdy Try.f52
noncomputable def rs52 := Try.f52.results.toList
noncomputable def f52 {α : Type} (o : α) (c : Call' α) (n : Nat) (k : AV → Heap → α) (a0 a1 : AV) (h : Heap) : α :=
  boxF o a0 h h.next fun v1 h => boxF o a1 h h.next fun v2 h => faF o 4 v1 fun v3 => load1F o h v3 fun v4 => faF o 4 v2 fun v5 => load1F o h v5 fun v6 => c 15 [v4, v6, (.fn (.func 53) [] [])] h fun v7 h => pk k v7 h <| k v7 h
theorem f52_ok : R Pq o c n b52 (kend Pq o c n w rs52 k) = fun t _ h => f52 o c n k (t 0) (t 1) h := by kernel_rfl
theorem f52_good : Good Pq (cfg mm) 52 (entF Pq (cfg mm) 52 2 fun α => f52) := entG b52 rs52 10 fun _ => f52_ok
noncomputable def b53 := bdy Try.f53
noncomputable def rs53 := Try.f53.results.toList
noncomputable def f53 {α : Type} (o : α) (c : Call' α) (n : Nat) (k : AV → Heap → α) (a0 a1 : AV) (h : Heap) : α :=
  boxF o a0 h h.next fun v1 h => boxF o a1 h h.next fun v2 h => faF o 0 v1 fun v3 => load1F o h v3 fun v4 => faF o 0 v2 fun v5 => load1F o h v5 fun v6 => eqsF Pq o 9 v4 v6 fun v7 => k v7 h
theorem f53_ok : R Pq o c n b53 (kend Pq o c n w rs53 k) = fun t _ h => f53 o c n k (t 0) (t 1) h := by kernel_rfl
theorem f53_good : Good Pq (cfg mm) 53 (entF Pq (cfg mm) 53 2 fun α => f53) := entG b53 rs53 10 fun _ => f53_ok
end Go.Zev.Ob
