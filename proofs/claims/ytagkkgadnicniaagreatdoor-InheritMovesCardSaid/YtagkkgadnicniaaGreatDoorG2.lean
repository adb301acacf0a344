/-
  Printed by zgen.py: clean forms.
-/
import Derived.Test.YtagkkgadnicniaaGreatDoorG1
set_option linter.unusedVariables false
set_option maxRecDepth 20000
namespace Go.Zev.Ih
open Go Go.Zev Go.Proofs
variable {mm : FuncId → Option (List AV → Option AV)}
noncomputable def b268 := bdy Tryz.f268
noncomputable def rs268 := Tryz.f268.results.toList
variable {α : Type} (o : α) (c : Call' α) (n : Nat) (k : AV → Heap → α) (w : FuncId → Nat)
noncomputable def f268 {α : Type} (o : α) (c : Call' α) (n : Nat) (k : AV → Heap → α) (a0 : AV) (h : Heap) : α :=
  newF h h.next 7 [(.b false), (.b false), (.b false), (.b false), (.i .i64 0), (.i .i64 0), (.i .i64 0)] fun v1 h => mapA h h.next fun v2 h => layF o 0 (.b true) [(.b false), (.b false), (.b false), (.b false), (.i .i64 0), (.i .i64 0), (.i .i64 0)] fun v3 => insertN o h .i64 v2 (.i .i64 1) (.agg v3) fun h => layF o 0 (.b true) [(.b false), (.b false), (.b false), (.b false), (.i .i64 0), (.i .i64 0), (.i .i64 0)] fun v4 => insertN o h .i64 v2 (.i .i64 2) (.agg v4) fun h => layF o 1 (.b true) [(.b false), (.b false), (.b false), (.b false), (.i .i64 0), (.i .i64 0), (.i .i64 0)] fun v5 => insertN o h .i64 v2 (.i .i64 3) (.agg v5) fun h => insertN o h .i64 v2 (.i .i64 4) (.agg [(.b false), (.b false), (.b false), (.b false), (.i .i64 0), (.i .i64 0), (.i .i64 0)]) fun h => insertN o h .i64 v2 (.i .i64 5) (.agg [(.b false), (.b false), (.b false), (.b false), (.i .i64 0), (.i .i64 0), (.i .i64 0)]) fun h => layF o 2 (.b true) [(.b false), (.b false), (.b false), (.b false), (.i .i64 0), (.i .i64 0), (.i .i64 0)] fun v6 => insertN o h .i64 v2 (.i .i64 6) (.agg v6) fun h => layF o 2 (.b true) [(.b false), (.b false), (.b false), (.b false), (.i .i64 0), (.i .i64 0), (.i .i64 0)] fun v7 => layF o 4 (.i .i64 1) v7 fun v8 => layF o 5 (.i .i64 1) v8 fun v9 => insertN o h .i64 v2 (.i .i64 7) (.agg v9) fun h => layF o 2 (.b true) [(.b false), (.b false), (.b false), (.b false), (.i .i64 0), (.i .i64 0), (.i .i64 0)] fun v10 => insertN o h .i64 v2 (.i .i64 8) (.agg v10) fun h => layF o 2 (.b true) [(.b false), (.b false), (.b false), (.b false), (.i .i64 0), (.i .i64 0), (.i .i64 0)] fun v11 => layF o 3 (.b true) v11 fun v12 => insertN o h .i64 v2 (.i .i64 9) (.agg v12) fun h => layF o 2 (.b true) [(.b false), (.b false), (.b false), (.b false), (.i .i64 0), (.i .i64 0), (.i .i64 0)] fun v13 => layF o 4 (.i .i64 1) v13 fun v14 => layF o 5 (.i .i64 3000) v14 fun v15 => insertN o h .i64 v2 (.i .i64 10) (.agg v15) fun h => layF o 2 (.b true) [(.b false), (.b false), (.b false), (.b false), (.i .i64 0), (.i .i64 0), (.i .i64 0)] fun v16 => layF o 5 (.i .i64 3000) v16 fun v17 => insertN o h .i64 v2 (.i .i64 11) (.agg v17) fun h => layF o 2 (.b true) [(.b false), (.b false), (.b false), (.b false), (.i .i64 0), (.i .i64 0), (.i .i64 0)] fun v18 => layF o 5 (.i .i64 3000) v18 fun v19 => insertN o h .i64 v2 (.i .i64 12) (.agg v19) fun h => layF o 2 (.b true) [(.b false), (.b false), (.b false), (.b false), (.i .i64 0), (.i .i64 0), (.i .i64 0)] fun v20 => layF o 3 (.b true) v20 fun v21 => layF o 5 (.i .i64 3000) v21 fun v22 => insertN o h .i64 v2 (.i .i64 13) (.agg v22) fun h => layF o 3 (.b true) [(.b false), (.b false), (.b false), (.b false), (.i .i64 0), (.i .i64 0), (.i .i64 0)] fun v23 => layF o 5 (.i .i64 3000) v23 fun v24 => insertN o h .i64 v2 (.i .i64 14) (.agg v24) fun h => layF o 3 (.b true) [(.b false), (.b false), (.b false), (.b false), (.i .i64 0), (.i .i64 0), (.i .i64 0)] fun v25 => layF o 4 (.i .i64 1) v25 fun v26 => layF o 5 (.i .i64 1) v26 fun v27 => insertN o h .i64 v2 (.i .i64 15) (.agg v27) fun h => layF o 3 (.b true) [(.b false), (.b false), (.b false), (.b false), (.i .i64 0), (.i .i64 0), (.i .i64 0)] fun v28 => layF o 4 (.i .i64 1) v28 fun v29 => layF o 5 (.i .i64 1) v29 fun v30 => insertN o h .i64 v2 (.i .i64 16) (.agg v30) fun h => layF o 2 (.b true) [(.b false), (.b false), (.b false), (.b false), (.i .i64 0), (.i .i64 0), (.i .i64 0)] fun v31 => layF o 4 (.i .i64 2) v31 fun v32 => layF o 5 (.i .i64 2) v32 fun v33 => insertN o h .i64 v2 (.i .i64 17) (.agg v33) fun h => layF o 2 (.b true) [(.b false), (.b false), (.b false), (.b false), (.i .i64 0), (.i .i64 0), (.i .i64 0)] fun v34 => layF o 4 (.i .i64 1) v34 fun v35 => layF o 5 (.i .i64 1) v35 fun v36 => insertN o h .i64 v2 (.i .i64 18) (.agg v36) fun h => lookupN o h .i64 (some (.agg [(.b false), (.b false), (.b false), (.b false), (.i .i64 0), (.i .i64 0), (.i .i64 0)])) v2 a0 true fun v37 => exF o v37 0 fun v38 => exF o v37 1 fun v39 => newF h h.next 7 [(.b false), (.b false), (.b false), (.b false), (.i .i64 0), (.i .i64 0), (.i .i64 0)] fun v40 h => storeF o h 7 v40 v38 fun h => loadNF o h 7 v40 fun v41 => storeF o h 7 v1 v41 fun h => on o (resV Pq h [(v1, some 269), (v39, none)]) fun v => k v h
theorem f268_ok : R Pq o c n b268 (kend Pq o c n w rs268 k) = fun t _ h => f268 o c n k (t 0) h := by kernel_rfl
theorem f268_good : Good Pq (cfg mm) 268 (entF Pq (cfg mm) 268 1 fun α => f268) := entG b268 rs268 35 fun _ => f268_ok
noncomputable def b269 := bdy Tryz.f269
noncomputable def rs269 := Tryz.f269.results.toList
noncomputable def f269_2K : Ex → K α := (nxK (R Pq o c n (cB (cB b269)) (kend Pq o c n w rs269 k)) (kend Pq o c n w rs269 k))
noncomputable def f269_9 {α : Type} (o : α) (c : Call' α) (n : Nat) (k : AV → Heap → α) (s5 s6 s41 s45 : AV) (h : Heap) : α :=
  pickF o s41 s45 (.b false) fun v1 => bkF o true v1 (faF o 5 s6 fun v2 => load1F o h v2 fun v3 => leqF Pq o 3 s5 v3 fun v4 => pickF o v1 v4 (.b false) fun v5 => k v5 h) (pickF o v1 (.tup []) (.b false) fun v6 => k v6 h)
theorem f269_9_ok : Q Pq o c (cO (cA (cB b269))) (f269_2K o c n k w) 33 = fun t _ h => f269_9 o c n k (t 5) (t 6) (t 41) (t 45) h := (q_seg 33 35 (by kernel_rfl) (q_guard 35 39 (34, true) (by kernel_rfl) (by kernel_rfl) (by kernel_rfl) rfl)).tk
noncomputable def f269_8 (s5 s6 s34 s39 : AV) (h : Heap) : α :=
  pickF o s34 s39 (.b false) fun v7 => bkF o true v7 (faF o 4 s6 fun v8 => load1F o h v8 fun v9 => geqF Pq o 3 s5 v9 fun v10 => f269_9 o c n k s5 s6 v7 v10 h) (f269_9 o c n k s5 s6 v7 (.tup []) h)
theorem f269_8_ok : Q Pq o c (cO (cA (cB b269))) (f269_2K o c n k w) 27 = fun t _ h => f269_8 o c n k (t 5) (t 6) (t 34) (t 39) h := (q_seg 27 29 (by kernel_rfl) (q_guard 29 33 (28, true) (by kernel_rfl) (by kernel_rfl) (by kernel_rfl) (f269_9_ok o c n k w))).tk
noncomputable def f269_7 (s4 s5 s6 s27 s32 : AV) (h : Heap) : α :=
  pickF o s27 s32 (.b false) fun v11 => bkF o true v11 (faF o 3 s6 fun v12 => load1F o h v12 fun v13 => nesF Pq o 9 s4 (.s 0 0) fun v14 => eqiF Pq o 4 v13 v14 fun v15 => f269_8 o c n k s5 s6 v11 v15 h) (f269_8 o c n k s5 s6 v11 (.tup []) h)
theorem f269_7_ok : Q Pq o c (cO (cA (cB b269))) (f269_2K o c n k w) 20 = fun t _ h => f269_7 o c n k (t 4) (t 5) (t 6) (t 27) (t 32) h := (q_seg 20 22 (by kernel_rfl) (q_guard 22 27 (21, true) (by kernel_rfl) (by kernel_rfl) (by kernel_rfl) (f269_8_ok o c n k w))).tk
noncomputable def f269_6 (s3 s4 s5 s6 s19 s25 : AV) (h : Heap) : α :=
  pickF o s19 s25 (.b false) fun v16 => bkF o true v16 (faF o 2 s6 fun v17 => load1F o h v17 fun v18 => nesF Pq o 9 s3 (.s 0 0) fun v19 => eqiF Pq o 4 v18 v19 fun v20 => f269_7 o c n k s4 s5 s6 v16 v20 h) (f269_7 o c n k s4 s5 s6 v16 (.tup []) h)
theorem f269_6_ok : Q Pq o c (cO (cA (cB b269))) (f269_2K o c n k w) 13 = fun t _ h => f269_6 o c n k (t 3) (t 4) (t 5) (t 6) (t 19) (t 25) h := (q_seg 13 15 (by kernel_rfl) (q_guard 15 20 (14, true) (by kernel_rfl) (by kernel_rfl) (by kernel_rfl) (f269_7_ok o c n k w))).tk
noncomputable def f269_5 (s3 s4 s5 s6 s19 s22 s24 : AV) (h : Heap) : α :=
  bkF o true s19 (pickF o s22 (.b true) s24 fun v21 => f269_6 o c n k s3 s4 s5 s6 s19 v21 h) (f269_6 o c n k s3 s4 s5 s6 s19 (.tup []) h)
theorem f269_5_ok : Q Pq o c (cO (cA (cB b269))) (f269_2K o c n k w) 12 = fun t _ h => f269_5 o c n k (t 3) (t 4) (t 5) (t 6) (t 19) (t 22) (t 24) h := (q_seg 12 12 (by kernel_rfl) (q_guard 12 13 (6, true) (by kernel_rfl) (by kernel_rfl) (by kernel_rfl) (f269_6_ok o c n k w))).tk
noncomputable def f269_4 (s2 s3 s4 s5 s6 s19 s22 : AV) (h : Heap) : α :=
  bkF o false s22 (eqsF Pq o 9 s2 (.s 0 0) fun v22 => f269_5 o c n k s3 s4 s5 s6 s19 s22 v22 h) (f269_5 o c n k s3 s4 s5 s6 s19 s22 (.tup []) h)
theorem f269_4_ok : Q Pq o c (cO (cA (cB b269))) (f269_2K o c n k w) 10 = fun t _ h => f269_4 o c n k (t 2) (t 3) (t 4) (t 5) (t 6) (t 19) (t 22) h := (q_seg 10 10 (by kernel_rfl) (q_guard 10 12 (9, false) (by kernel_rfl) (by kernel_rfl) (by kernel_rfl) (f269_5_ok o c n k w))).tk
noncomputable def f269_3 (s2 s3 s4 s5 s6 s15 s17 : AV) (h : Heap) : α :=
  pickF o s15 (.b true) s17 fun v23 => bkF o true v23 (faF o 1 s6 fun v24 => load1F o h v24 fun v25 => f269_4 o c n k s2 s3 s4 s5 s6 v23 v25 h) (f269_4 o c n k s2 s3 s4 s5 s6 v23 (.tup []) h)
theorem f269_3_ok : Q Pq o c (cO (cA (cB b269))) (f269_2K o c n k w) 5 = fun t _ h => f269_3 o c n k (t 2) (t 3) (t 4) (t 5) (t 6) (t 15) (t 17) h := (q_seg 5 7 (by kernel_rfl) (q_guard 7 10 (6, true) (by kernel_rfl) (by kernel_rfl) (by kernel_rfl) (f269_4_ok o c n k w))).tk
noncomputable def f269_1 (s1 s2 s3 s4 s5 s6 : AV) (h : Heap) : α :=
  faF o 0 s6 fun v26 => load1F o h v26 fun v27 => bkF o false v27 (eqiF Pq o 21 s1 (.i .i32 0) fun v28 => f269_3 o c n k s2 s3 s4 s5 s6 v27 v28 h) (f269_3 o c n k s2 s3 s4 s5 s6 v27 (.tup []) h)
theorem f269_1_ok : R Pq o c n (cB b269) (kend Pq o c n w rs269 k) = fun t _ h => f269_1 o c n k (t 1) (t 2) (t 3) (t 4) (t 5) (t 6) h := (kseq rfl (r_start 3 (by kernel_rfl) (q_guard 3 5 (2, false) (by kernel_rfl) (by kernel_rfl) (by kernel_rfl) (f269_3_ok o c n k w)))).tk
noncomputable def f269 (a0 a1 a2 a3 a4 a5 : AV) (h : Heap) : α :=
  boxF o a0 h h.next fun v29 h => f269_1 o c n k a1 a2 a3 a4 a5 v29 h
theorem f269_ok : R Pq o c n b269 (kend Pq o c n w rs269 k) = fun t _ h => f269 o c n k (t 0) (t 1) (t 2) (t 3) (t 4) (t 5) h := (kseq (f269_1_ok o c n k w) rfl).tk
theorem f269_good : Good Pq (cfg mm) 269 (entF Pq (cfg mm) 269 6 fun α => f269) := entG b269 rs269 53 fun _ => f269_ok
noncomputable def b271 := bdy Tryz.f271
noncomputable def rs271 := Tryz.f271.results.toList
noncomputable def f271 {α : Type} (o : α) (c : Call' α) (n : Nat) (k : AV → Heap → α) (a0 a1 : AV) (h : Heap) : α :=
  eqiF Pq o 3 a0 (.i .i64 17) fun v1 => ifF o v1 (c 306 [a1] h fun v2 h => pk k v2 h <| k v2 h) (eqiF Pq o 3 a0 (.i .i64 18) fun v3 => ifF o v3 (c 307 [a1] h fun v4 h => pk k v4 h <| k v4 h) (c 229 [a1] h fun v5 h => pk k v5 h <| k v5 h))
theorem f271_ok : R Pq o c n b271 (kend Pq o c n w rs271 k) = fun t _ h => f271 o c n k (t 0) (t 1) h := by kernel_rfl
theorem f271_good : Good Pq (cfg mm) 271 (entF Pq (cfg mm) 271 2 fun α => f271) := entG b271 rs271 16 fun _ => f271_ok
noncomputable def b273 := bdy Tryz.f273
noncomputable def rs273 := Tryz.f273.results.toList
noncomputable def f273_5K : Ex → K α := (nxK (R Pq o c n (cB (cB (cB (cB (cB b273))))) (kend Pq o c n w rs273 k)) (kend Pq o c n w rs273 k))
noncomputable def f273_8K (lp0 : AVs (Heap → α) 5) : Ex → K α := (nxK (fun t _ h => lp0 (t 3) (t 5) (t 104) (t 105) (t 106) h) (blockK (cI (cB (cA (cB (cB (cB (cB b273))))))) (f273_5K o c n k w)))
noncomputable def f273_11K (lp0 : AVs (Heap → α) 5) : Ex → K α := (nxK (R Pq o c n (cB (cB (cB (cA (cA (cB (cA (cB (cB (cB (cB b273))))))))))) (f273_8K o c n k w lp0)) (f273_8K o c n k w lp0))
noncomputable def f273_13 {α : Type} (o : α) (c : Call' α) (n : Nat) (k : AV → Heap → α) (lp0 : AVs (Heap → α) 5) (s3 s5 s104 s105 s106 s126 : AV) (h : Heap) : α :=
  ifF o s126 (k (.b false) h) (addF Pq o 3 s106 (.i .i64 1) fun v1 => lp0 s3 s5 s104 s105 v1 h)
theorem f273_13_ok (lp0 : AVs (Heap → α) 5) : R Pq o c n (cB (cB (cA (cA (cB (cB (cA (cA (cB (cA (cB (cB (cB (cB b273)))))))))))))) (blockK (cI (cA (cB (cB (cA (cA (cB (cA (cB (cB (cB (cB b273)))))))))))) (f273_11K o c n k w lp0)) = fun t _ h => f273_13 o c n k lp0 (t 3) (t 5) (t 104) (t 105) (t 106) (t 126) h := by kernel_rfl
noncomputable def f273_14K (lp0 : AVs (Heap → α) 5) : Ex → K α := (nxK (fun t _ h => f273_13 o c n k lp0 (t 3) (t 5) (t 104) (t 105) (t 106) (t 126) h) (blockK (cI (cA (cB (cB (cA (cA (cB (cA (cB (cB (cB (cB b273)))))))))))) (f273_11K o c n k w lp0)))
noncomputable def f273_15 (lp0 : AVs (Heap → α) 5) (s3 s5 s8 s104 s105 s106 s115 s118 : AV) (h : Heap) : α :=
  pickF o s115 s118 (.b false) fun v2 => bkF o false v2 (load1F o h s3 fun v3 => addF Pq o 3 v3 (.i .i64 1) fun v4 => c 234 [s8, v4, (.b false)] h fun v5 h => pk k v5 h <| notF o v5 fun v6 => pickF o v2 (.b true) v6 fun v7 => f273_13 o c n k lp0 s3 s5 s104 s105 s106 v7 h) (pickF o v2 (.b true) (.tup []) fun v8 => f273_13 o c n k lp0 s3 s5 s104 s105 s106 v8 h)
theorem f273_15_ok (lp0 : AVs (Heap → α) 5) : Q Pq o c (cO (cA (cB (cA (cA (cB (cB (cA (cA (cB (cA (cB (cB (cB (cB b273))))))))))))))) (f273_14K o c n k w lp0) 8 = fun t _ h => f273_15 o c n k lp0 (t 3) (t 5) (t 8) (t 104) (t 105) (t 106) (t 115) (t 118) h := (q_seg 8 10 (by kernel_rfl) (q_guard 10 15 (9, false) (by kernel_rfl) (by kernel_rfl) (by kernel_rfl) rfl)).tk
noncomputable def f273_12 (lp0 : AVs (Heap → α) 5) (s3 s5 s7 s8 s104 s105 s106 : AV) (h : Heap) : α :=
  faF o 6 s5 fun v9 => load1F o h v9 fun v10 => geqF Pq o 3 s7 v10 fun v11 => bkF o true v11 (lenF o s8 fun v12 => gtrF Pq o 3 v12 (.i .i64 0) fun v13 => f273_15 o c n k lp0 s3 s5 s8 s104 s105 s106 v11 v13 h) (f273_15 o c n k lp0 s3 s5 s8 s104 s105 s106 v11 (.tup []) h)
theorem f273_12_ok (lp0 : AVs (Heap → α) 5) : R Pq o c n (cB (cA (cA (cB (cB (cA (cA (cB (cA (cB (cB (cB (cB b273))))))))))))) (blockK (cI (cA (cB (cB (cA (cA (cB (cA (cB (cB (cB (cB b273)))))))))))) (f273_11K o c n k w lp0)) = fun t _ h => f273_12 o c n k lp0 (t 3) (t 5) (t 7) (t 8) (t 104) (t 105) (t 106) h := (kseq (f273_13_ok o c n k w lp0) (r_start 5 (by kernel_rfl) (q_guard 5 8 (4, true) (by kernel_rfl) (by kernel_rfl) (by kernel_rfl) (f273_15_ok o c n k w lp0)))).tk
noncomputable def f273_10 (lp0 : AVs (Heap → α) 5) (s3 s5 s104 s105 s106 : AV) (h : Heap) : α :=
  ixF o 1 s104 s106 fun v14 => load1F o h v14 fun v15 => f273_12 o c n k lp0 s3 s5 s106 v15 s104 s105 s106 h
theorem f273_10_ok (lp0 : AVs (Heap → α) 5) : R Pq o c n (cB (cB (cA (cA (cB (cA (cB (cB (cB (cB b273)))))))))) (f273_8K o c n k w lp0) = fun t _ h => f273_10 o c n k lp0 (t 3) (t 5) (t 104) (t 105) (t 106) h := (kseq rfl (kblk (kseq (f273_12_ok o c n k w lp0) rfl))).tk
noncomputable def f273_9 (lp0 : AVs (Heap → α) 5) (s3 s5 s104 s105 s106 s107 : AV) (h : Heap) : α :=
  ifF o s107 (f273_10 o c n k lp0 s3 s5 s104 s105 s106 h) (k (.b true) h)
theorem f273_9_ok (lp0 : AVs (Heap → α) 5) : R Pq o c n (cB (cA (cA (cB (cA (cB (cB (cB (cB b273))))))))) (f273_8K o c n k w lp0) = fun t _ h => f273_9 o c n k lp0 (t 3) (t 5) (t 104) (t 105) (t 106) (t 107) h := (kseq (f273_10_ok o c n k w lp0) rfl).tk
noncomputable def f273_7 (m : Nat) : AVs (Heap → α) 5 :=
  Nat.rec (motive := fun _ => AVs (Heap → α) 5) (fun _ _ _ _ _ _ => o) (fun _ lp0 s3 s5 s104 s105 s106 h => lssF Pq o 3 s106 s105 fun v16 => f273_9 o c n k lp0 s3 s5 s104 s105 s106 v16 h) m
theorem f273_7_ok : R Pq o c n (cA (cB (cA (cB (cB (cB (cB b273))))))) (blockK (cI (cB (cA (cB (cB (cB (cB b273))))))) (f273_5K o c n k w)) = fun t _ h => f273_7 o c n k n (t 3) (t 5) (t 104) (t 105) (t 106) h :=
  c_loop (F := fun m t _ h => f273_7 o c n k m (t 3) (t 5) (t 104) (t 105) (t 106) h) (by kernel_rfl) (by kernel_rfl) fun m => (kseq (f273_9_ok o c n k w (f273_7 o c n k m)) rfl).tk
noncomputable def f273_6 (s3 s5 s104 s105 s106 : AV) (h : Heap) : α :=
  f273_7 o c n k n s3 s5 s104 s105 s106 h
theorem f273_6_ok : R Pq o c n (cB (cA (cB (cB (cB (cB b273)))))) (f273_5K o c n k w) = fun t _ h => f273_6 o c n k (t 3) (t 5) (t 104) (t 105) (t 106) h := (kblk (f273_7_ok o c n k w)).tk
noncomputable def f273_4 (s2 s3 s5 : AV) (h : Heap) : α :=
  faF o 5 s2 fun v17 => load1F o h v17 fun v18 => faF o 6 s2 fun v19 => load1F o h v19 fun v20 => faF o 7 s2 fun v21 => load1F o h v21 fun v22 => fil1 o 1 3 0 v18 [[.nsl], [.nsl], [.nsl]] fun v23 => fil1 o 1 3 1 v20 v23 fun v24 => fil1 o 1 3 2 v22 v24 fun v25 => newEF h h.next 1 3 v25 fun v26 h => lenF o v26 fun v27 => f273_6 o c n k s3 s5 v26 v27 (.i .i64 0) h
theorem f273_4_ok : R Pq o c n (cB (cB (cB (cB b273)))) (kend Pq o c n w rs273 k) = fun t _ h => f273_4 o c n k (t 2) (t 3) (t 5) h := (kseq rfl (kseq (f273_6_ok o c n k w) rfl)).tk
noncomputable def f273_16K : Ex → K α := (nxK (fun t _ h => f273_4 o c n k (t 2) (t 3) (t 5) h) (kend Pq o c n w rs273 k))
noncomputable def f273_17 (s2 s3 s5 s41 : AV) (h : Heap) : α :=
  ifF o s41 (k (.b false) h) (f273_4 o c n k s2 s3 s5 h)
theorem f273_17_ok : R Pq o c n (cB (cA (cA (cB (cB (cB b273)))))) (blockK (cI (cA (cB (cB (cB b273))))) (f273_16K o c n k w)) = fun t _ h => f273_17 o c n k (t 2) (t 3) (t 5) (t 41) h := by kernel_rfl
noncomputable def f273_18K : Ex → K α := (nxK (fun t _ h => f273_17 o c n k (t 2) (t 3) (t 5) (t 41) h) (blockK (cI (cA (cB (cB (cB b273))))) (f273_16K o c n k w)))
noncomputable def f273_23 (s2 s3 s5 s41 : AV) (h : Heap) : α :=
  ifF o s41 (f273_17 o c n k s2 s3 s5 s41 h) (faF o 0 s2 fun v28 => load1F o h v28 fun v29 => eqiF Pq o 3 v29 (.i .i64 3) fun v30 => bkF o true v30 (faF o 4 s2 fun v31 => load1F o h v31 fun v32 => ixF o 8 v32 (.i .i64 0) fun v33 => loadNF o h 8 v33 fun v34 => c 311 [v34] h fun v35 h => pk k v35 h <| notF o v35 fun v36 => pickF o v30 v36 (.b false) fun v37 => f273_17 o c n k s2 s3 s5 v37 h) (pickF o v30 (.tup []) (.b false) fun v38 => f273_17 o c n k s2 s3 s5 v38 h))
theorem f273_23_ok : R Pq o c n (cB (cB (cB (cB (cB (cB (cB (cB (cB (cA (cA (cA (cB (cB (cB b273))))))))))))))) (f273_18K o c n k w) = fun t _ h => f273_23 o c n k (t 2) (t 3) (t 5) (t 41) h := (c_cond (by kernel_rfl) rfl (r_start 4 (by kernel_rfl) (q_guard 4 10 (3, true) (by kernel_rfl) (by kernel_rfl) (by kernel_rfl) rfl))).tk
noncomputable def f273_24K : Ex → K α := (nxK (fun t _ h => f273_23 o c n k (t 2) (t 3) (t 5) (t 41) h) (f273_18K o c n k w))
noncomputable def f273_22 (s2 s3 s5 s41 : AV) (h : Heap) : α :=
  ifF o s41 (f273_17 o c n k s2 s3 s5 s41 h) (faF o 0 s2 fun v39 => load1F o h v39 fun v40 => eqiF Pq o 3 v40 (.i .i64 2) fun v41 => bkF o true v41 (faF o 4 s2 fun v42 => load1F o h v42 fun v43 => ixF o 8 v43 (.i .i64 0) fun v44 => loadNF o h 8 v44 fun v45 => c 310 [v45] h fun v46 h => pk k v46 h <| notF o v46 fun v47 => pickF o v41 v47 (.b false) fun v48 => f273_23 o c n k s2 s3 s5 v48 h) (pickF o v41 (.tup []) (.b false) fun v49 => f273_23 o c n k s2 s3 s5 v49 h))
theorem f273_22_ok : R Pq o c n (cB (cB (cB (cB (cB (cB (cB (cA (cA (cA (cB (cB (cB b273))))))))))))) (f273_18K o c n k w) = fun t _ h => f273_22 o c n k (t 2) (t 3) (t 5) (t 41) h := (c_cond (by kernel_rfl) rfl (kseq (f273_23_ok o c n k w) (r_start 4 (by kernel_rfl) (q_guard 4 10 (3, true) (by kernel_rfl) (by kernel_rfl) (by kernel_rfl) rfl)))).tk
noncomputable def f273_25K : Ex → K α := (nxK (fun t _ h => f273_22 o c n k (t 2) (t 3) (t 5) (t 41) h) (f273_18K o c n k w))
noncomputable def f273_21 (s2 s3 s5 s41 : AV) (h : Heap) : α :=
  ifF o s41 (f273_17 o c n k s2 s3 s5 s41 h) (faF o 0 s2 fun v50 => load1F o h v50 fun v51 => eqiF Pq o 3 v51 (.i .i64 10) fun v52 => bkF o true v52 (faF o 2 s2 fun v53 => load1F o h v53 fun v54 => c 164 [v54] h fun v55 h => pk k v55 h <| notF o v55 fun v56 => pickF o v52 v56 (.b false) fun v57 => f273_22 o c n k s2 s3 s5 v57 h) (pickF o v52 (.tup []) (.b false) fun v58 => f273_22 o c n k s2 s3 s5 v58 h))
theorem f273_21_ok : R Pq o c n (cB (cB (cB (cB (cB (cA (cA (cA (cB (cB (cB b273))))))))))) (f273_18K o c n k w) = fun t _ h => f273_21 o c n k (t 2) (t 3) (t 5) (t 41) h := (c_cond (by kernel_rfl) rfl (kseq (f273_22_ok o c n k w) (r_start 4 (by kernel_rfl) (q_guard 4 8 (3, true) (by kernel_rfl) (by kernel_rfl) (by kernel_rfl) rfl)))).tk
noncomputable def f273_26K : Ex → K α := (nxK (fun t _ h => f273_21 o c n k (t 2) (t 3) (t 5) (t 41) h) (f273_18K o c n k w))
noncomputable def f273_20 (s2 s3 s5 s41 : AV) (h : Heap) : α :=
  ifF o s41 (f273_17 o c n k s2 s3 s5 s41 h) (faF o 0 s2 fun v59 => load1F o h v59 fun v60 => eqiF Pq o 3 v60 (.i .i64 1) fun v61 => bkF o true v61 (faF o 2 s2 fun v62 => load1F o h v62 fun v63 => c 228 [v63] h fun v64 h => pk k v64 h <| notF o v64 fun v65 => pickF o v61 v65 (.b false) fun v66 => f273_21 o c n k s2 s3 s5 v66 h) (pickF o v61 (.tup []) (.b false) fun v67 => f273_21 o c n k s2 s3 s5 v67 h))
theorem f273_20_ok : R Pq o c n (cB (cB (cB (cA (cA (cA (cB (cB (cB b273))))))))) (f273_18K o c n k w) = fun t _ h => f273_20 o c n k (t 2) (t 3) (t 5) (t 41) h := (c_cond (by kernel_rfl) rfl (kseq (f273_21_ok o c n k w) (r_start 4 (by kernel_rfl) (q_guard 4 8 (3, true) (by kernel_rfl) (by kernel_rfl) (by kernel_rfl) rfl)))).tk
noncomputable def f273_27K : Ex → K α := (nxK (fun t _ h => f273_20 o c n k (t 2) (t 3) (t 5) (t 41) h) (f273_18K o c n k w))
noncomputable def f273_19 (s2 s3 s5 s41 : AV) (h : Heap) : α :=
  ifF o s41 (f273_17 o c n k s2 s3 s5 s41 h) (faF o 2 s5 fun v68 => load1F o h v68 fun v69 => bkF o true v69 (faF o 3 s2 fun v70 => load1F o h v70 fun v71 => c 229 [v71] h fun v72 h => pk k v72 h <| notF o v72 fun v73 => pickF o v69 v73 (.b false) fun v74 => f273_20 o c n k s2 s3 s5 v74 h) (pickF o v69 (.tup []) (.b false) fun v75 => f273_20 o c n k s2 s3 s5 v75 h))
theorem f273_19_ok : R Pq o c n (cB (cA (cA (cA (cB (cB (cB b273))))))) (f273_18K o c n k w) = fun t _ h => f273_19 o c n k (t 2) (t 3) (t 5) (t 41) h := (c_cond (by kernel_rfl) rfl (kseq (f273_20_ok o c n k w) (r_start 3 (by kernel_rfl) (q_guard 3 7 (2, true) (by kernel_rfl) (by kernel_rfl) (by kernel_rfl) rfl)))).tk
noncomputable def f273_28K : Ex → K α := (nxK (fun t _ h => f273_19 o c n k (t 2) (t 3) (t 5) (t 41) h) (f273_18K o c n k w))
noncomputable def f273_3 (s2 s3 s5 : AV) (h : Heap) : α :=
  faF o 1 s2 fun v76 => load1F o h v76 fun v77 => lssF Pq o 21 v77 (.i .i32 0) fun v78 => bkF o false v78 (faF o 1 s2 fun v79 => load1F o h v79 fun v80 => gtrF Pq o 21 v80 (.i .i32 9999) fun v81 => pickF o v78 (.b true) v81 fun v82 => f273_19 o c n k s2 s3 s5 v82 h) (pickF o v78 (.b true) (.tup []) fun v83 => f273_19 o c n k s2 s3 s5 v83 h)
theorem f273_3_ok : R Pq o c n (cB (cB (cB b273))) (kend Pq o c n w rs273 k) = fun t _ h => f273_3 o c n k (t 2) (t 3) (t 5) h := (kseq (f273_4_ok o c n k w) (kblk (kseq (f273_17_ok o c n k w) (kseq (f273_19_ok o c n k w) (r_start 4 (by kernel_rfl) (q_guard 4 7 (3, false) (by kernel_rfl) (by kernel_rfl) (by kernel_rfl) rfl)))))).tk
noncomputable def f273_29K : Ex → K α := (nxK (fun t _ h => f273_3 o c n k (t 2) (t 3) (t 5) h) (kend Pq o c n w rs273 k))
noncomputable def f273_30 (s2 s3 s5 s40 : AV) (h : Heap) : α :=
  ifF o s40 (k (.b false) h) (f273_3 o c n k s2 s3 s5 h)
theorem f273_30_ok : R Pq o c n (cB (cA (cB (cB b273)))) (f273_29K o c n k w) = fun t _ h => f273_30 o c n k (t 2) (t 3) (t 5) (t 40) h := by kernel_rfl
noncomputable def f273_31K : Ex → K α := (nxK (fun t _ h => f273_30 o c n k (t 2) (t 3) (t 5) (t 40) h) (f273_29K o c n k w))
noncomputable def f273_33 (s2 s3 s5 s21 s33 : AV) (h : Heap) : α :=
  pickF o s21 (.b true) s33 fun v84 => bkF o false v84 (faF o 4 s2 fun v85 => load1F o h v85 fun v86 => c 230 [v86, (.fn (.func 309) [] [s3])] h fun v87 h => pk k v87 h <| pickF o v84 (.b true) v87 fun v88 => f273_30 o c n k s2 s3 s5 v88 h) (pickF o v84 (.b true) (.tup []) fun v89 => f273_30 o c n k s2 s3 s5 v89 h)
theorem f273_33_ok : Q Pq o c (cO (cA (cA (cB (cB b273))))) (f273_31K o c n k w) 19 = fun t _ h => f273_33 o c n k (t 2) (t 3) (t 5) (t 21) (t 33) h := (q_seg 19 21 (by kernel_rfl) (q_guard 21 25 (20, false) (by kernel_rfl) (by kernel_rfl) (by kernel_rfl) rfl)).tk
noncomputable def f273_32 (s2 s3 s5 s17 s19 : AV) (h : Heap) : α :=
  pickF o s17 (.b true) s19 fun v90 => bkF o false v90 (loadNF o h 7 s5 fun v91 => faF o 1 s2 fun v92 => load1F o h v92 fun v93 => faF o 3 s2 fun v94 => load1F o h v94 fun v95 => faF o 2 s2 fun v96 => load1F o h v96 fun v97 => faF o 4 s2 fun v98 => load1F o h v98 fun v99 => lenF o v99 fun v100 => c 269 [v91, v93, (.s 0 0), v95, v97, v100] h fun v101 h => pk k v101 h <| notF o v101 fun v102 => f273_33 o c n k s2 s3 s5 v90 v102 h) (f273_33 o c n k s2 s3 s5 v90 (.tup []) h)
theorem f273_32_ok : Q Pq o c (cO (cA (cA (cB (cB b273))))) (f273_31K o c n k w) 5 = fun t _ h => f273_32 o c n k (t 2) (t 3) (t 5) (t 17) (t 19) h := (q_seg 5 7 (by kernel_rfl) (q_guard 7 19 (6, false) (by kernel_rfl) (by kernel_rfl) (by kernel_rfl) (f273_33_ok o c n k w))).tk
noncomputable def f273_2 (s2 s3 s5 s6 : AV) (h : Heap) : α :=
  notF o s6 fun v103 => bkF o false v103 (load1F o h s3 fun v104 => gtrF Pq o 3 v104 (.i .i64 40) fun v105 => f273_32 o c n k s2 s3 s5 v103 v105 h) (f273_32 o c n k s2 s3 s5 v103 (.tup []) h)
theorem f273_2_ok : R Pq o c n (cB (cB b273)) (kend Pq o c n w rs273 k) = fun t _ h => f273_2 o c n k (t 2) (t 3) (t 5) (t 6) h := (kseq (f273_3_ok o c n k w) (kseq (f273_30_ok o c n k w) (r_start 3 (by kernel_rfl) (q_guard 3 5 (2, false) (by kernel_rfl) (by kernel_rfl) (by kernel_rfl) (f273_32_ok o c n k w))))).tk
noncomputable def f273_1 (s2 s3 : AV) (h : Heap) : α :=
  faF o 0 s2 fun v106 => load1F o h v106 fun v107 => c 308 [v107] h fun v108 h => pk k v108 h <| exF o v108 0 fun v109 => exF o v108 1 fun v110 => newF h h.next 7 [(.b false), (.b false), (.b false), (.b false), (.i .i64 0), (.i .i64 0), (.i .i64 0)] fun v111 h => storeF o h 7 v111 v109 fun h => f273_2 o c n k s2 s3 v111 v110 h
theorem f273_1_ok : R Pq o c n (cB b273) (kend Pq o c n w rs273 k) = fun t _ h => f273_1 o c n k (t 2) (t 3) h := (kseq (f273_2_ok o c n k w) rfl).tk
noncomputable def f273 (a0 a1 : AV) (h : Heap) : α :=
  boxF o a0 h h.next fun v112 h => boxF o a1 h h.next fun v113 h => f273_1 o c n k v112 v113 h
theorem f273_ok : R Pq o c n b273 (kend Pq o c n w rs273 k) = fun t _ h => f273 o c n k (t 0) (t 1) h := (kseq (f273_1_ok o c n k w) rfl).tk
theorem f273_good : Good Pq (cfg mm) 273 (entF Pq (cfg mm) 273 2 fun α => f273) := entG b273 rs273 128 fun _ => f273_ok
noncomputable def b280 := bdy Tryz.f280
noncomputable def rs280 := Tryz.f280.results.toList
noncomputable def f280_5 {α : Type} (o : α) (c : Call' α) (n : Nat) (k : AV → Heap → α) (s1 s3 s5 : AV) (h : Heap) : α :=
  c 282 [s5] h fun v1 h => pk k v1 h <| ifF o v1 (c 278 [(.i .i64 14)] h fun v2 h => pk k v2 h <| k v2 h) (faF o 0 s1 fun v3 => loadNF o h 1 v3 fun v4 => faF o 4 s1 fun v5 => faF o 3 v5 fun v6 => load1F o h v6 fun v7 => c 317 [v4, s3, v7, s5] h fun v8 h => pk k v8 h <| exF o v8 0 fun v9 => exF o v8 1 fun v10 => newF h h.next 2 [(.s 0 0), (.i .i64 0)] fun v11 h => storeF o h 2 v11 v9 fun h => neiF Pq o 3 v10 (.i .i64 0) fun v12 => ifF o v12 (c 278 [v10] h fun v13 h => pk k v13 h <| k v13 h) (faF o 0 s1 fun v14 => loadNF o h 1 v14 fun v15 => loadNF o h 2 v11 fun v16 => c 178 [v15, v16] h fun v17 h => pk k v17 h <| exF o v17 0 fun v18 => exF o v17 1 fun v19 => newF h h.next 6 [(.b false), (.b false), (.s 0 0), (.s 0 0), .nsl, .nsl] fun v20 h => storeF o h 6 v20 v18 fun h => loadNF o h 13 s1 fun v21 => faF o 0 v20 fun v22 => load1F o h v22 fun v23 => c 316 [v21, v23] h fun v24 h => pk k v24 h <| notF o v24 fun v25 => ifF o v25 (c 278 [(.i .i64 13)] h fun v26 h => pk k v26 h <| k v26 h) (faF o 2 v20 fun v27 => load1F o h v27 fun v28 => loadNF o h 2 v11 fun v29 => layF o 0 v28 [(.s 0 0), (.s 0 0), (.i .i64 0), (.i .i64 0)] fun v30 => lay1 o 1 2 v29 v30 fun v31 => k (.ifc 249 (.agg v31)) h)))
theorem f280_5_ok : R Pq o c n (cB (cB (cB (cB (cB b280))))) (kend Pq o c n w rs280 k) = fun t _ h => f280_5 o c n k (t 1) (t 3) (t 5) h := by kernel_rfl
noncomputable def f280_4 (s1 s3 s5 : AV) (h : Heap) : α :=
  faF o 4 s1 fun v32 => faF o 0 v32 fun v33 => load1F o h v33 fun v34 => eqiF Pq o 3 v34 (.i .i64 10) fun v35 => ifF o v35 (slF Pq o 56 s5 (some (.i .i64 1)) none fun v36 => f280_5 o c n k s1 s3 v36 h) (f280_5 o c n k s1 s3 s5 h)
theorem f280_4_ok : R Pq o c n (cB (cB (cB (cB b280)))) (kend Pq o c n w rs280 k) = fun t _ h => f280_4 o c n k (t 1) (t 3) (t 5) h := (kseq (f280_5_ok o c n k w) rfl).tk
noncomputable def f280_3 (s1 s3 : AV) (h : Heap) : α :=
  faF o 12 s1 fun v37 => load1F o h v37 fun v38 => f280_4 o c n k s1 s3 v38 h
theorem f280_3_ok : R Pq o c n (cB (cB (cB b280))) (kend Pq o c n w rs280 k) = fun t _ h => f280_3 o c n k (t 1) (t 3) h := (kseq (f280_4_ok o c n k w) rfl).tk
noncomputable def f280_2 (s1 s3 s4 : AV) (h : Heap) : α :=
  neiF Pq o 3 s4 (.i .i64 0) fun v39 => ifF o v39 (c 278 [s4] h fun v40 h => pk k v40 h <| k v40 h) (f280_3 o c n k s1 s3 h)
theorem f280_2_ok : R Pq o c n (cB (cB b280)) (kend Pq o c n w rs280 k) = fun t _ h => f280_2 o c n k (t 1) (t 3) (t 4) h := (kseq (f280_3_ok o c n k w) rfl).tk
noncomputable def f280_1 (s1 : AV) (h : Heap) : α :=
  loadNF o h 13 s1 fun v41 => c 313 [v41] h fun v42 h => pk k v42 h <| exF o v42 0 fun v43 => exF o v42 1 fun v44 => f280_2 o c n k s1 v43 v44 h
theorem f280_1_ok : R Pq o c n (cB b280) (kend Pq o c n w rs280 k) = fun t _ h => f280_1 o c n k (t 1) h := (kseq (f280_2_ok o c n k w) rfl).tk
noncomputable def f280 (a0 : AV) (h : Heap) : α :=
  boxF o a0 h h.next fun v45 h => f280_1 o c n k v45 h
theorem f280_ok : R Pq o c n b280 (kend Pq o c n w rs280 k) = fun t _ h => f280 o c n k (t 0) h := (kseq (f280_1_ok o c n k w) rfl).tk
theorem f280_good : Good Pq (cfg mm) 280 (entF Pq (cfg mm) 280 1 fun α => f280) := entG b280 rs280 62 fun _ => f280_ok
noncomputable def b285 := bdy Tryz.f285
noncomputable def rs285 := Tryz.f285.results.toList
noncomputable def f285_3 {α : Type} (o : α) (c : Call' α) (n : Nat) (k : AV → Heap → α) (s0 : AV) (h : Heap) : α :=
  k s0 h
theorem f285_3_ok : R Pq o c n (cB (cB (cB b285))) (kend Pq o c n w rs285 k) = fun t _ h => f285_3 o c n k (t 0) h := by kernel_rfl
noncomputable def f285_2 (s0 s1 : AV) (h : Heap) : α :=
  capN o s0 fun v1 => lenF o s0 fun v2 => binA Pq o .sub 3 v1 v2 fun v3 => binA Pq o .sub 3 s1 v3 fun v4 => gtrF Pq o 3 v4 (.i .i64 0) fun v5 => ifF o v5 (capN o s0 fun v6 => slF Pq o 35 s0 none (some v6) fun v7 => appX Pq o h h.next 35 3 v7 v4 fun v8 h => lenF o s0 fun v9 => slF Pq o 35 v8 none (some v9) fun v10 => f285_3 o c n k v10 h) (f285_3 o c n k s0 h)
theorem f285_2_ok : R Pq o c n (cB (cB b285)) (kend Pq o c n w rs285 k) = fun t _ h => f285_2 o c n k (t 0) (t 1) h := (kseq (f285_3_ok o c n k w) rfl).tk
noncomputable def f285_1 (s0 s1 : AV) (h : Heap) : α :=
  lssF Pq o 3 s1 (.i .i64 0) fun v11 => ifF o v11 (panicA o (.ifc 9 (.s 18 8838634371626034279618351153450530198413667)) fun x => k x.pn h) (f285_2 o c n k s0 s1 h)
theorem f285_1_ok : R Pq o c n (cB b285) (kend Pq o c n w rs285 k) = fun t _ h => f285_1 o c n k (t 0) (t 1) h := (kseq (f285_2_ok o c n k w) rfl).tk
noncomputable def f285 (a0 a1 : AV) (h : Heap) : α :=
  f285_1 o c n k a0 a1 h
theorem f285_ok : R Pq o c n b285 (kend Pq o c n w rs285 k) = fun t _ h => f285 o c n k (t 0) (t 1) h := (kseq (f285_1_ok o c n k w) rfl).tk
theorem f285_good : Good Pq (cfg mm) 285 (entF Pq (cfg mm) 285 2 fun α => f285) := entG b285 rs285 27 fun _ => f285_ok
noncomputable def b292 := bdy Tryz.f292
noncomputable def rs292 := Tryz.f292.results.toList
noncomputable def f292 {α : Type} (o : α) (c : Call' α) (n : Nat) (k : AV → Heap → α) (a0 a1 : AV) (h : Heap) : α :=
  boxF o a0 h h.next fun v1 h => boxF o a1 h h.next fun v2 h => loadNF o h 1 v1 fun v3 => loadNF o h 2 v2 fun v4 => c 178 [v3, v4] h fun v5 h => pk k v5 h <| exF o v5 0 fun v6 => exF o v5 1 fun v7 => newF h h.next 6 [(.b false), (.b false), (.s 0 0), (.s 0 0), .nsl, .nsl] fun v8 h => storeF o h 6 v8 v6 fun h => loadNF o h 2 v2 fun v9 => loadNF o h 6 v8 fun v10 => lay1 o 0 2 v9 [(.s 0 0), (.i .i64 0), (.b false), (.b false), (.s 0 0), (.s 0 0), .nsl, .nsl] fun v11 => lay1 o 2 6 v10 v11 fun v12 => k (.ifc 285 (.agg v12)) h
theorem f292_ok : R Pq o c n b292 (kend Pq o c n w rs292 k) = fun t _ h => f292 o c n k (t 0) (t 1) h := by kernel_rfl
theorem f292_good : Good Pq (cfg mm) 292 (entF Pq (cfg mm) 292 2 fun α => f292) := entG b292 rs292 17 fun _ => f292_ok
noncomputable def b293 := bdy Tryz.f293
noncomputable def rs293 := Tryz.f293.results.toList
noncomputable def f293 {α : Type} (o : α) (c : Call' α) (n : Nat) (k : AV → Heap → α) (a0 a1 a2 : AV) (h : Heap) : α :=
  boxF o a0 h h.next fun v1 h => boxF o a1 h h.next fun v2 h => faF o 4 v2 fun v3 => load1F o h v3 fun v4 => c 321 [v4, a2, (.fn (.func 322) [] [v1])] h fun v5 h => pk k v5 h <| k v5 h
theorem f293_ok : R Pq o c n b293 (kend Pq o c n w rs293 k) = fun t _ h => f293 o c n k (t 0) (t 1) (t 2) h := by kernel_rfl
theorem f293_good : Good Pq (cfg mm) 293 (entF Pq (cfg mm) 293 3 fun α => f293) := entG b293 rs293 12 fun _ => f293_ok
noncomputable def b294 := bdy Tryz.f294
noncomputable def rs294 := Tryz.f294.results.toList
noncomputable def f294 {α : Type} (o : α) (c : Call' α) (n : Nat) (k : AV → Heap → α) (a0 a1 : AV) (h : Heap) : α :=
  c 323 [a0, a1] h fun v1 h => pk k v1 h <| geqF Pq o 3 v1 (.i .i64 0) fun v2 => k v2 h
theorem f294_ok : R Pq o c n b294 (kend Pq o c n w rs294 k) = fun t _ h => f294 o c n k (t 0) (t 1) h := by kernel_rfl
theorem f294_good : Good Pq (cfg mm) 294 (entF Pq (cfg mm) 294 2 fun α => f294) := entG b294 rs294 9 fun _ => f294_ok
noncomputable def b295 := bdy Tryz.f295
noncomputable def rs295 := Tryz.f295.results.toList
noncomputable def f295 {α : Type} (o : α) (c : Call' α) (n : Nat) (k : AV → Heap → α) (a0 a1 a2 : AV) (h : Heap) : α :=
  boxF o a0 h h.next fun v1 h => loadNF o h 1 a1 fun v2 => faF o 2 a2 fun v3 => loadNF o h 6 v3 fun v4 => faF o 2 v1 fun v5 => loadNF o h 6 v5 fun v6 => c 296 [v2, v4, v6] h fun v7 h => pk k v7 h <| notF o v7 fun v8 => k v8 h
theorem f295_ok : R Pq o c n b295 (kend Pq o c n w rs295 k) = fun t _ h => f295 o c n k (t 0) (t 1) (t 2) h := by kernel_rfl
theorem f295_good : Good Pq (cfg mm) 295 (entF Pq (cfg mm) 295 3 fun α => f295) := entG b295 rs295 12 fun _ => f295_ok
noncomputable def b296 := bdy Tryz.f296
noncomputable def rs296 := Tryz.f296.results.toList
noncomputable def f296 {α : Type} (o : α) (c : Call' α) (n : Nat) (k : AV → Heap → α) (a0 a1 a2 : AV) (h : Heap) : α :=
  boxF o a0 h h.next fun v1 h => boxF o a1 h h.next fun v2 h => boxF o a2 h h.next fun v3 h => faF o 4 v2 fun v4 => load1F o h v4 fun v5 => faF o 4 v3 fun v6 => load1F o h v6 fun v7 => c 275 [v5, v7, (.fn (.func 324) [] [v1])] h fun v8 h => pk k v8 h <| k v8 h
theorem f296_ok : R Pq o c n b296 (kend Pq o c n w rs296 k) = fun t _ h => f296 o c n k (t 0) (t 1) (t 2) h := by kernel_rfl
theorem f296_good : Good Pq (cfg mm) 296 (entF Pq (cfg mm) 296 3 fun α => f296) := entG b296 rs296 13 fun _ => f296_ok
noncomputable def b308 := bdy Tryz.f308
noncomputable def rs308 := Tryz.f308.results.toList
noncomputable def f308 {α : Type} (o : α) (c : Call' α) (n : Nat) (k : AV → Heap → α) (a0 : AV) (h : Heap) : α :=
  newF h h.next 7 [(.b false), (.b false), (.b false), (.b false), (.i .i64 0), (.i .i64 0), (.i .i64 0)] fun v1 h => mapA h h.next fun v2 h => layF o 3 (.b true) [(.b false), (.b false), (.b false), (.b false), (.i .i64 0), (.i .i64 0), (.i .i64 0)] fun v3 => layF o 2 (.b true) v3 fun v4 => layF o 4 (.i .i64 1) v4 fun v5 => layF o 5 (.i .i64 1) v5 fun v6 => insertN o h .i64 v2 (.i .i64 1) (.agg v6) fun h => layF o 4 (.i .i64 2) [(.b false), (.b false), (.b false), (.b false), (.i .i64 0), (.i .i64 0), (.i .i64 0)] fun v7 => layF o 5 (.i .i64 2) v7 fun v8 => insertN o h .i64 v2 (.i .i64 2) (.agg v8) fun h => layF o 4 (.i .i64 1) [(.b false), (.b false), (.b false), (.b false), (.i .i64 0), (.i .i64 0), (.i .i64 0)] fun v9 => layF o 5 (.i .i64 1) v9 fun v10 => insertN o h .i64 v2 (.i .i64 3) (.agg v10) fun h => layF o 4 (.i .i64 1) [(.b false), (.b false), (.b false), (.b false), (.i .i64 0), (.i .i64 0), (.i .i64 0)] fun v11 => layF o 5 (.i .i64 1) v11 fun v12 => layF o 6 (.i .i64 2) v12 fun v13 => insertN o h .i64 v2 (.i .i64 4) (.agg v13) fun h => layF o 4 (.i .i64 1) [(.b false), (.b false), (.b false), (.b false), (.i .i64 0), (.i .i64 0), (.i .i64 0)] fun v14 => layF o 5 (.i .i64 1) v14 fun v15 => layF o 6 (.i .i64 1) v15 fun v16 => insertN o h .i64 v2 (.i .i64 5) (.agg v16) fun h => layF o 5 (.i .i64 1) [(.b false), (.b false), (.b false), (.b false), (.i .i64 0), (.i .i64 0), (.i .i64 0)] fun v17 => insertN o h .i64 v2 (.i .i64 6) (.agg v17) fun h => layF o 4 (.i .i64 1) [(.b false), (.b false), (.b false), (.b false), (.i .i64 0), (.i .i64 0), (.i .i64 0)] fun v18 => layF o 5 (.i .i64 1) v18 fun v19 => insertN o h .i64 v2 (.i .i64 7) (.agg v19) fun h => layF o 0 (.b true) [(.b false), (.b false), (.b false), (.b false), (.i .i64 0), (.i .i64 0), (.i .i64 0)] fun v20 => layF o 4 (.i .i64 1) v20 fun v21 => layF o 5 (.i .i64 1) v21 fun v22 => insertN o h .i64 v2 (.i .i64 8) (.agg v22) fun h => layF o 4 (.i .i64 1) [(.b false), (.b false), (.b false), (.b false), (.i .i64 0), (.i .i64 0), (.i .i64 0)] fun v23 => layF o 5 (.i .i64 1) v23 fun v24 => insertN o h .i64 v2 (.i .i64 9) (.agg v24) fun h => layF o 3 (.b true) [(.b false), (.b false), (.b false), (.b false), (.i .i64 0), (.i .i64 0), (.i .i64 0)] fun v25 => layF o 2 (.b true) v25 fun v26 => layF o 6 (.i .i64 3) v26 fun v27 => insertN o h .i64 v2 (.i .i64 10) (.agg v27) fun h => layF o 5 (.i .i64 3000) [(.b false), (.b false), (.b false), (.b false), (.i .i64 0), (.i .i64 0), (.i .i64 0)] fun v28 => insertN o h .i64 v2 (.i .i64 11) (.agg v28) fun h => lookupN o h .i64 (some (.agg [(.b false), (.b false), (.b false), (.b false), (.i .i64 0), (.i .i64 0), (.i .i64 0)])) v2 a0 true fun v29 => exF o v29 0 fun v30 => exF o v29 1 fun v31 => newF h h.next 7 [(.b false), (.b false), (.b false), (.b false), (.i .i64 0), (.i .i64 0), (.i .i64 0)] fun v32 h => storeF o h 7 v32 v30 fun h => loadNF o h 7 v32 fun v33 => storeF o h 7 v1 v33 fun h => on o (resV Pq h [(v1, some 269), (v31, none)]) fun v => k v h
theorem f308_ok : R Pq o c n b308 (kend Pq o c n w rs308 k) = fun t _ h => f308 o c n k (t 0) h := by kernel_rfl
theorem f308_good : Good Pq (cfg mm) 308 (entF Pq (cfg mm) 308 1 fun α => f308) := entG b308 rs308 28 fun _ => f308_ok
noncomputable def b309 := bdy Tryz.f309
noncomputable def rs309 := Tryz.f309.results.toList
noncomputable def f309 {α : Type} (o : α) (c : Call' α) (n : Nat) (k : AV → Heap → α) (a0 a1 : AV) (h : Heap) : α :=
  boxF o a0 h h.next fun v1 h => loadNF o h 8 v1 fun v2 => load1F o h a1 fun v3 => c 232 [v2, v3] h fun v4 h => pk k v4 h <| notF o v4 fun v5 => k v5 h
theorem f309_ok : R Pq o c n b309 (kend Pq o c n w rs309 k) = fun t _ h => f309 o c n k (t 0) (t 1) h := by kernel_rfl
theorem f309_good : Good Pq (cfg mm) 309 (entF Pq (cfg mm) 309 2 fun α => f309) := entG b309 rs309 8 fun _ => f309_ok
noncomputable def b317 := bdy Tryz.f317
noncomputable def rs317 := Tryz.f317.results.toList
noncomputable def f317 {α : Type} (o : α) (c : Call' α) (n : Nat) (k : AV → Heap → α) (a0 a1 a2 a3 : AV) (h : Heap) : α :=
  boxF o a0 h h.next fun v1 h => newF h h.next 2 [(.s 0 0), (.i .i64 0)] fun v2 h => dreg o h 11 fun base h => loadNF o (h.look 0) 1 v1 fun v3 => loadNF o (h.look 0) 1 v1 fun v4 => callD o c (hidD false [(.fn (.func 326) [] []), v4, a1, a2] [] (sBlk v1 [])) 326 [v4, a1, a2] (h.look 0) fun v5 h => pnF v5 (fun x => hb h.shut fun hd => k x.pn hd) <| callD o c [] 245 [v3, v5, a3] (h.look 0) fun v6 h => pnF v6 (fun x => hb h.shut fun hd => k x.pn hd) <| exF o v6 0 fun v7 => exF o v6 1 fun v8 => storeF o (h.look 511) 2 v2 v7 fun h => hb h.shut fun h => on o (resV Pq h [(v2, some 101), (v8, none)]) fun v => k v h
theorem f317_ok : R Pq o c n b317 (kend Pq o c n w rs317 k) = fun t _ h => f317 o c n k (t 0) (t 1) (t 2) (t 3) h := by kernel_rfl
theorem f317_good : Good Pq (cfg mm) 317 (entF Pq (cfg mm) 317 4 fun α => f317) := entG b317 rs317 19 fun _ => f317_ok
noncomputable def b325 := bdy Tryz.f325
noncomputable def rs325 := Tryz.f325.results.toList
noncomputable def f325 {α : Type} (o : α) (c : Call' α) (n : Nat) (k : AV → Heap → α) (a0 : AV) (h : Heap) : α :=
  boxF o a0 h h.next fun v1 h => faF o 0 v1 fun v2 => loadNF o h 1 v2 fun v3 => faF o 1 v1 fun v4 => faF o 0 v4 fun v5 => load1F o h v5 fun v6 => c 88 [v3, v6] h fun v7 h => pk k v7 h <| faF o 1 v1 fun v8 => faF o 1 v8 fun v9 => load1F o h v9 fun v10 => ifF o v10 (k (.tup [(.s 0 0), (.i .i64 13)]) h) (eqsF Pq o 9 v7 (.s 0 0) fun v11 => ifF o v11 (k (.tup [(.s 0 0), (.i .i64 7)]) h) (k (.tup [v7, (.i .i64 0)]) h))
theorem f325_ok : R Pq o c n b325 (kend Pq o c n w rs325 k) = fun t _ h => f325 o c n k (t 0) h := by kernel_rfl
theorem f325_good : Good Pq (cfg mm) 325 (entF Pq (cfg mm) 325 1 fun α => f325) := entG b325 rs325 19 fun _ => f325_ok
end Go.Zev.Ih
