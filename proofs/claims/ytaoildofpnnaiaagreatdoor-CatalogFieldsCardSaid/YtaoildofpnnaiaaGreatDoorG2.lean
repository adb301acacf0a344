/-
  Printed by zgen.py: clean forms.
-/
import Derived.Test.YtaoildofpnnaiaaGreatDoorG1
set_option linter.unusedVariables false
set_option maxRecDepth 20000
namespace Go.Zev.Cf
open Go Go.Zev Go.Proofs
variable {mm : FuncId → Option (List AV → Option AV)}
noncomputable def b303 := bdy Tryz.f303
noncomputable def rs303 := Tryz.f303.results.toList
variable {α : Type} (o : α) (c : Call' α) (n : Nat) (k : AV → Heap → α) (w : FuncId → Nat)
noncomputable def f303_5K : Ex → K α := (nxK (R Pq o c n (cB (cB (cB (cB (cB b303))))) (kend Pq o c n w rs303 k)) (kend Pq o c n w rs303 k))
noncomputable def f303_8K (lp0 : AVs (Heap → α) 5) : Ex → K α := (nxK (fun t _ h => lp0 (t 3) (t 5) (t 104) (t 105) (t 106) h) (blockK (cI (cB (cA (cB (cB (cB (cB b303))))))) (f303_5K o c n k w)))
noncomputable def f303_11K (lp0 : AVs (Heap → α) 5) : Ex → K α := (nxK (R Pq o c n (cB (cB (cB (cA (cA (cB (cA (cB (cB (cB (cB b303))))))))))) (f303_8K o c n k w lp0)) (f303_8K o c n k w lp0))
noncomputable def f303_13 {α : Type} (o : α) (c : Call' α) (n : Nat) (k : AV → Heap → α) (lp0 : AVs (Heap → α) 5) (s3 s5 s104 s105 s106 s126 : AV) (h : Heap) : α :=
  ifF o s126 (k (.b false) h) (addF Pq o 3 s106 (.i .i64 1) fun v1 => lp0 s3 s5 s104 s105 v1 h)
theorem f303_13_ok (lp0 : AVs (Heap → α) 5) : R Pq o c n (cB (cB (cA (cA (cB (cB (cA (cA (cB (cA (cB (cB (cB (cB b303)))))))))))))) (blockK (cI (cA (cB (cB (cA (cA (cB (cA (cB (cB (cB (cB b303)))))))))))) (f303_11K o c n k w lp0)) = fun t _ h => f303_13 o c n k lp0 (t 3) (t 5) (t 104) (t 105) (t 106) (t 126) h := by kernel_rfl
noncomputable def f303_14K (lp0 : AVs (Heap → α) 5) : Ex → K α := (nxK (fun t _ h => f303_13 o c n k lp0 (t 3) (t 5) (t 104) (t 105) (t 106) (t 126) h) (blockK (cI (cA (cB (cB (cA (cA (cB (cA (cB (cB (cB (cB b303)))))))))))) (f303_11K o c n k w lp0)))
noncomputable def f303_15 (lp0 : AVs (Heap → α) 5) (s3 s5 s8 s104 s105 s106 s115 s118 : AV) (h : Heap) : α :=
  pickF o s115 s118 (.b false) fun v2 => bkF o false v2 (load1F o h s3 fun v3 => addF Pq o 3 v3 (.i .i64 1) fun v4 => c 247 [s8, v4, (.b false)] h fun v5 h => pk k v5 h <| notF o v5 fun v6 => pickF o v2 (.b true) v6 fun v7 => f303_13 o c n k lp0 s3 s5 s104 s105 s106 v7 h) (pickF o v2 (.b true) (.tup []) fun v8 => f303_13 o c n k lp0 s3 s5 s104 s105 s106 v8 h)
theorem f303_15_ok (lp0 : AVs (Heap → α) 5) : Q Pq o c (cO (cA (cB (cA (cA (cB (cB (cA (cA (cB (cA (cB (cB (cB (cB b303))))))))))))))) (f303_14K o c n k w lp0) 8 = fun t _ h => f303_15 o c n k lp0 (t 3) (t 5) (t 8) (t 104) (t 105) (t 106) (t 115) (t 118) h := (q_seg 8 10 (by kernel_rfl) (q_guard 10 15 (9, false) (by kernel_rfl) (by kernel_rfl) (by kernel_rfl) rfl)).tk
noncomputable def f303_12 (lp0 : AVs (Heap → α) 5) (s3 s5 s7 s8 s104 s105 s106 : AV) (h : Heap) : α :=
  faF o 6 s5 fun v9 => load1F o h v9 fun v10 => geqF Pq o 3 s7 v10 fun v11 => bkF o true v11 (lenF o s8 fun v12 => gtrF Pq o 3 v12 (.i .i64 0) fun v13 => f303_15 o c n k lp0 s3 s5 s8 s104 s105 s106 v11 v13 h) (f303_15 o c n k lp0 s3 s5 s8 s104 s105 s106 v11 (.tup []) h)
theorem f303_12_ok (lp0 : AVs (Heap → α) 5) : R Pq o c n (cB (cA (cA (cB (cB (cA (cA (cB (cA (cB (cB (cB (cB b303))))))))))))) (blockK (cI (cA (cB (cB (cA (cA (cB (cA (cB (cB (cB (cB b303)))))))))))) (f303_11K o c n k w lp0)) = fun t _ h => f303_12 o c n k lp0 (t 3) (t 5) (t 7) (t 8) (t 104) (t 105) (t 106) h := (kseq (f303_13_ok o c n k w lp0) (r_start 5 (by kernel_rfl) (q_guard 5 8 (4, true) (by kernel_rfl) (by kernel_rfl) (by kernel_rfl) (f303_15_ok o c n k w lp0)))).tk
noncomputable def f303_10 (lp0 : AVs (Heap → α) 5) (s3 s5 s104 s105 s106 : AV) (h : Heap) : α :=
  ixF o 1 s104 s106 fun v14 => load1F o h v14 fun v15 => f303_12 o c n k lp0 s3 s5 s106 v15 s104 s105 s106 h
theorem f303_10_ok (lp0 : AVs (Heap → α) 5) : R Pq o c n (cB (cB (cA (cA (cB (cA (cB (cB (cB (cB b303)))))))))) (f303_8K o c n k w lp0) = fun t _ h => f303_10 o c n k lp0 (t 3) (t 5) (t 104) (t 105) (t 106) h := (kseq rfl (kblk (kseq (f303_12_ok o c n k w lp0) rfl))).tk
noncomputable def f303_9 (lp0 : AVs (Heap → α) 5) (s3 s5 s104 s105 s106 s107 : AV) (h : Heap) : α :=
  ifF o s107 (f303_10 o c n k lp0 s3 s5 s104 s105 s106 h) (k (.b true) h)
theorem f303_9_ok (lp0 : AVs (Heap → α) 5) : R Pq o c n (cB (cA (cA (cB (cA (cB (cB (cB (cB b303))))))))) (f303_8K o c n k w lp0) = fun t _ h => f303_9 o c n k lp0 (t 3) (t 5) (t 104) (t 105) (t 106) (t 107) h := (kseq (f303_10_ok o c n k w lp0) rfl).tk
noncomputable def f303_7 (m : Nat) : AVs (Heap → α) 5 :=
  Nat.rec (motive := fun _ => AVs (Heap → α) 5) (fun _ _ _ _ _ _ => o) (fun _ lp0 s3 s5 s104 s105 s106 h => lssF Pq o 3 s106 s105 fun v16 => f303_9 o c n k lp0 s3 s5 s104 s105 s106 v16 h) m
theorem f303_7_ok : R Pq o c n (cA (cB (cA (cB (cB (cB (cB b303))))))) (blockK (cI (cB (cA (cB (cB (cB (cB b303))))))) (f303_5K o c n k w)) = fun t _ h => f303_7 o c n k n (t 3) (t 5) (t 104) (t 105) (t 106) h :=
  c_loop (F := fun m t _ h => f303_7 o c n k m (t 3) (t 5) (t 104) (t 105) (t 106) h) (by kernel_rfl) (by kernel_rfl) fun m => (kseq (f303_9_ok o c n k w (f303_7 o c n k m)) rfl).tk
noncomputable def f303_6 (s3 s5 s104 s105 s106 : AV) (h : Heap) : α :=
  f303_7 o c n k n s3 s5 s104 s105 s106 h
theorem f303_6_ok : R Pq o c n (cB (cA (cB (cB (cB (cB b303)))))) (f303_5K o c n k w) = fun t _ h => f303_6 o c n k (t 3) (t 5) (t 104) (t 105) (t 106) h := (kblk (f303_7_ok o c n k w)).tk
noncomputable def f303_4 (s2 s3 s5 : AV) (h : Heap) : α :=
  faF o 5 s2 fun v17 => load1F o h v17 fun v18 => faF o 6 s2 fun v19 => load1F o h v19 fun v20 => faF o 7 s2 fun v21 => load1F o h v21 fun v22 => fil1 o 1 3 0 v18 [[.nsl], [.nsl], [.nsl]] fun v23 => fil1 o 1 3 1 v20 v23 fun v24 => fil1 o 1 3 2 v22 v24 fun v25 => newEF h h.next 1 3 v25 fun v26 h => lenF o v26 fun v27 => f303_6 o c n k s3 s5 v26 v27 (.i .i64 0) h
theorem f303_4_ok : R Pq o c n (cB (cB (cB (cB b303)))) (kend Pq o c n w rs303 k) = fun t _ h => f303_4 o c n k (t 2) (t 3) (t 5) h := (kseq rfl (kseq (f303_6_ok o c n k w) rfl)).tk
noncomputable def f303_16K : Ex → K α := (nxK (fun t _ h => f303_4 o c n k (t 2) (t 3) (t 5) h) (kend Pq o c n w rs303 k))
noncomputable def f303_17 (s2 s3 s5 s41 : AV) (h : Heap) : α :=
  ifF o s41 (k (.b false) h) (f303_4 o c n k s2 s3 s5 h)
theorem f303_17_ok : R Pq o c n (cB (cA (cA (cB (cB (cB b303)))))) (blockK (cI (cA (cB (cB (cB b303))))) (f303_16K o c n k w)) = fun t _ h => f303_17 o c n k (t 2) (t 3) (t 5) (t 41) h := by kernel_rfl
noncomputable def f303_18K : Ex → K α := (nxK (fun t _ h => f303_17 o c n k (t 2) (t 3) (t 5) (t 41) h) (blockK (cI (cA (cB (cB (cB b303))))) (f303_16K o c n k w)))
noncomputable def f303_23 (s2 s3 s5 s41 : AV) (h : Heap) : α :=
  ifF o s41 (f303_17 o c n k s2 s3 s5 s41 h) (faF o 0 s2 fun v28 => load1F o h v28 fun v29 => eqiF Pq o 3 v29 (.i .i64 3) fun v30 => bkF o true v30 (faF o 4 s2 fun v31 => load1F o h v31 fun v32 => ixF o 8 v32 (.i .i64 0) fun v33 => loadNF o h 8 v33 fun v34 => c 351 [v34] h fun v35 h => pk k v35 h <| notF o v35 fun v36 => pickF o v30 v36 (.b false) fun v37 => f303_17 o c n k s2 s3 s5 v37 h) (pickF o v30 (.tup []) (.b false) fun v38 => f303_17 o c n k s2 s3 s5 v38 h))
theorem f303_23_ok : R Pq o c n (cB (cB (cB (cB (cB (cB (cB (cB (cB (cA (cA (cA (cB (cB (cB b303))))))))))))))) (f303_18K o c n k w) = fun t _ h => f303_23 o c n k (t 2) (t 3) (t 5) (t 41) h := (c_cond (by kernel_rfl) rfl (r_start 4 (by kernel_rfl) (q_guard 4 10 (3, true) (by kernel_rfl) (by kernel_rfl) (by kernel_rfl) rfl))).tk
noncomputable def f303_24K : Ex → K α := (nxK (fun t _ h => f303_23 o c n k (t 2) (t 3) (t 5) (t 41) h) (f303_18K o c n k w))
noncomputable def f303_22 (s2 s3 s5 s41 : AV) (h : Heap) : α :=
  ifF o s41 (f303_17 o c n k s2 s3 s5 s41 h) (faF o 0 s2 fun v39 => load1F o h v39 fun v40 => eqiF Pq o 3 v40 (.i .i64 2) fun v41 => bkF o true v41 (faF o 4 s2 fun v42 => load1F o h v42 fun v43 => ixF o 8 v43 (.i .i64 0) fun v44 => loadNF o h 8 v44 fun v45 => c 350 [v45] h fun v46 h => pk k v46 h <| notF o v46 fun v47 => pickF o v41 v47 (.b false) fun v48 => f303_23 o c n k s2 s3 s5 v48 h) (pickF o v41 (.tup []) (.b false) fun v49 => f303_23 o c n k s2 s3 s5 v49 h))
theorem f303_22_ok : R Pq o c n (cB (cB (cB (cB (cB (cB (cB (cA (cA (cA (cB (cB (cB b303))))))))))))) (f303_18K o c n k w) = fun t _ h => f303_22 o c n k (t 2) (t 3) (t 5) (t 41) h := (c_cond (by kernel_rfl) rfl (kseq (f303_23_ok o c n k w) (r_start 4 (by kernel_rfl) (q_guard 4 10 (3, true) (by kernel_rfl) (by kernel_rfl) (by kernel_rfl) rfl)))).tk
noncomputable def f303_25K : Ex → K α := (nxK (fun t _ h => f303_22 o c n k (t 2) (t 3) (t 5) (t 41) h) (f303_18K o c n k w))
noncomputable def f303_21 (s2 s3 s5 s41 : AV) (h : Heap) : α :=
  ifF o s41 (f303_17 o c n k s2 s3 s5 s41 h) (faF o 0 s2 fun v50 => load1F o h v50 fun v51 => eqiF Pq o 3 v51 (.i .i64 10) fun v52 => bkF o true v52 (faF o 2 s2 fun v53 => load1F o h v53 fun v54 => c 177 [v54] h fun v55 h => pk k v55 h <| notF o v55 fun v56 => pickF o v52 v56 (.b false) fun v57 => f303_22 o c n k s2 s3 s5 v57 h) (pickF o v52 (.tup []) (.b false) fun v58 => f303_22 o c n k s2 s3 s5 v58 h))
theorem f303_21_ok : R Pq o c n (cB (cB (cB (cB (cB (cA (cA (cA (cB (cB (cB b303))))))))))) (f303_18K o c n k w) = fun t _ h => f303_21 o c n k (t 2) (t 3) (t 5) (t 41) h := (c_cond (by kernel_rfl) rfl (kseq (f303_22_ok o c n k w) (r_start 4 (by kernel_rfl) (q_guard 4 8 (3, true) (by kernel_rfl) (by kernel_rfl) (by kernel_rfl) rfl)))).tk
noncomputable def f303_26K : Ex → K α := (nxK (fun t _ h => f303_21 o c n k (t 2) (t 3) (t 5) (t 41) h) (f303_18K o c n k w))
noncomputable def f303_20 (s2 s3 s5 s41 : AV) (h : Heap) : α :=
  ifF o s41 (f303_17 o c n k s2 s3 s5 s41 h) (faF o 0 s2 fun v59 => load1F o h v59 fun v60 => eqiF Pq o 3 v60 (.i .i64 1) fun v61 => bkF o true v61 (faF o 2 s2 fun v62 => load1F o h v62 fun v63 => c 241 [v63] h fun v64 h => pk k v64 h <| notF o v64 fun v65 => pickF o v61 v65 (.b false) fun v66 => f303_21 o c n k s2 s3 s5 v66 h) (pickF o v61 (.tup []) (.b false) fun v67 => f303_21 o c n k s2 s3 s5 v67 h))
theorem f303_20_ok : R Pq o c n (cB (cB (cB (cA (cA (cA (cB (cB (cB b303))))))))) (f303_18K o c n k w) = fun t _ h => f303_20 o c n k (t 2) (t 3) (t 5) (t 41) h := (c_cond (by kernel_rfl) rfl (kseq (f303_21_ok o c n k w) (r_start 4 (by kernel_rfl) (q_guard 4 8 (3, true) (by kernel_rfl) (by kernel_rfl) (by kernel_rfl) rfl)))).tk
noncomputable def f303_27K : Ex → K α := (nxK (fun t _ h => f303_20 o c n k (t 2) (t 3) (t 5) (t 41) h) (f303_18K o c n k w))
noncomputable def f303_19 (s2 s3 s5 s41 : AV) (h : Heap) : α :=
  ifF o s41 (f303_17 o c n k s2 s3 s5 s41 h) (faF o 2 s5 fun v68 => load1F o h v68 fun v69 => bkF o true v69 (faF o 3 s2 fun v70 => load1F o h v70 fun v71 => c 242 [v71] h fun v72 h => pk k v72 h <| notF o v72 fun v73 => pickF o v69 v73 (.b false) fun v74 => f303_20 o c n k s2 s3 s5 v74 h) (pickF o v69 (.tup []) (.b false) fun v75 => f303_20 o c n k s2 s3 s5 v75 h))
theorem f303_19_ok : R Pq o c n (cB (cA (cA (cA (cB (cB (cB b303))))))) (f303_18K o c n k w) = fun t _ h => f303_19 o c n k (t 2) (t 3) (t 5) (t 41) h := (c_cond (by kernel_rfl) rfl (kseq (f303_20_ok o c n k w) (r_start 3 (by kernel_rfl) (q_guard 3 7 (2, true) (by kernel_rfl) (by kernel_rfl) (by kernel_rfl) rfl)))).tk
noncomputable def f303_28K : Ex → K α := (nxK (fun t _ h => f303_19 o c n k (t 2) (t 3) (t 5) (t 41) h) (f303_18K o c n k w))
noncomputable def f303_3 (s2 s3 s5 : AV) (h : Heap) : α :=
  faF o 1 s2 fun v76 => load1F o h v76 fun v77 => lssF Pq o 21 v77 (.i .i32 0) fun v78 => bkF o false v78 (faF o 1 s2 fun v79 => load1F o h v79 fun v80 => gtrF Pq o 21 v80 (.i .i32 9999) fun v81 => pickF o v78 (.b true) v81 fun v82 => f303_19 o c n k s2 s3 s5 v82 h) (pickF o v78 (.b true) (.tup []) fun v83 => f303_19 o c n k s2 s3 s5 v83 h)
theorem f303_3_ok : R Pq o c n (cB (cB (cB b303))) (kend Pq o c n w rs303 k) = fun t _ h => f303_3 o c n k (t 2) (t 3) (t 5) h := (kseq (f303_4_ok o c n k w) (kblk (kseq (f303_17_ok o c n k w) (kseq (f303_19_ok o c n k w) (r_start 4 (by kernel_rfl) (q_guard 4 7 (3, false) (by kernel_rfl) (by kernel_rfl) (by kernel_rfl) rfl)))))).tk
noncomputable def f303_29K : Ex → K α := (nxK (fun t _ h => f303_3 o c n k (t 2) (t 3) (t 5) h) (kend Pq o c n w rs303 k))
noncomputable def f303_30 (s2 s3 s5 s40 : AV) (h : Heap) : α :=
  ifF o s40 (k (.b false) h) (f303_3 o c n k s2 s3 s5 h)
theorem f303_30_ok : R Pq o c n (cB (cA (cB (cB b303)))) (f303_29K o c n k w) = fun t _ h => f303_30 o c n k (t 2) (t 3) (t 5) (t 40) h := by kernel_rfl
noncomputable def f303_31K : Ex → K α := (nxK (fun t _ h => f303_30 o c n k (t 2) (t 3) (t 5) (t 40) h) (f303_29K o c n k w))
noncomputable def f303_33 (s2 s3 s5 s21 s33 : AV) (h : Heap) : α :=
  pickF o s21 (.b true) s33 fun v84 => bkF o false v84 (faF o 4 s2 fun v85 => load1F o h v85 fun v86 => c 243 [v86, (.fn (.func 349) [] [s3])] h fun v87 h => pk k v87 h <| pickF o v84 (.b true) v87 fun v88 => f303_30 o c n k s2 s3 s5 v88 h) (pickF o v84 (.b true) (.tup []) fun v89 => f303_30 o c n k s2 s3 s5 v89 h)
theorem f303_33_ok : Q Pq o c (cO (cA (cA (cB (cB b303))))) (f303_31K o c n k w) 19 = fun t _ h => f303_33 o c n k (t 2) (t 3) (t 5) (t 21) (t 33) h := (q_seg 19 21 (by kernel_rfl) (q_guard 21 25 (20, false) (by kernel_rfl) (by kernel_rfl) (by kernel_rfl) rfl)).tk
noncomputable def f303_32 (s2 s3 s5 s17 s19 : AV) (h : Heap) : α :=
  pickF o s17 (.b true) s19 fun v90 => bkF o false v90 (loadNF o h 7 s5 fun v91 => faF o 1 s2 fun v92 => load1F o h v92 fun v93 => faF o 3 s2 fun v94 => load1F o h v94 fun v95 => faF o 2 s2 fun v96 => load1F o h v96 fun v97 => faF o 4 s2 fun v98 => load1F o h v98 fun v99 => lenF o v99 fun v100 => c 299 [v91, v93, (.s 0 0), v95, v97, v100] h fun v101 h => pk k v101 h <| notF o v101 fun v102 => f303_33 o c n k s2 s3 s5 v90 v102 h) (f303_33 o c n k s2 s3 s5 v90 (.tup []) h)
theorem f303_32_ok : Q Pq o c (cO (cA (cA (cB (cB b303))))) (f303_31K o c n k w) 5 = fun t _ h => f303_32 o c n k (t 2) (t 3) (t 5) (t 17) (t 19) h := (q_seg 5 7 (by kernel_rfl) (q_guard 7 19 (6, false) (by kernel_rfl) (by kernel_rfl) (by kernel_rfl) (f303_33_ok o c n k w))).tk
noncomputable def f303_2 (s2 s3 s5 s6 : AV) (h : Heap) : α :=
  notF o s6 fun v103 => bkF o false v103 (load1F o h s3 fun v104 => gtrF Pq o 3 v104 (.i .i64 40) fun v105 => f303_32 o c n k s2 s3 s5 v103 v105 h) (f303_32 o c n k s2 s3 s5 v103 (.tup []) h)
theorem f303_2_ok : R Pq o c n (cB (cB b303)) (kend Pq o c n w rs303 k) = fun t _ h => f303_2 o c n k (t 2) (t 3) (t 5) (t 6) h := (kseq (f303_3_ok o c n k w) (kseq (f303_30_ok o c n k w) (r_start 3 (by kernel_rfl) (q_guard 3 5 (2, false) (by kernel_rfl) (by kernel_rfl) (by kernel_rfl) (f303_32_ok o c n k w))))).tk
noncomputable def f303_1 (s2 s3 : AV) (h : Heap) : α :=
  faF o 0 s2 fun v106 => load1F o h v106 fun v107 => c 348 [v107] h fun v108 h => pk k v108 h <| exF o v108 0 fun v109 => exF o v108 1 fun v110 => newF h h.next 7 [(.b false), (.b false), (.b false), (.b false), (.i .i64 0), (.i .i64 0), (.i .i64 0)] fun v111 h => storeF o h 7 v111 v109 fun h => f303_2 o c n k s2 s3 v111 v110 h
theorem f303_1_ok : R Pq o c n (cB b303) (kend Pq o c n w rs303 k) = fun t _ h => f303_1 o c n k (t 2) (t 3) h := (kseq (f303_2_ok o c n k w) rfl).tk
noncomputable def f303 (a0 a1 : AV) (h : Heap) : α :=
  boxF o a0 h h.next fun v112 h => boxF o a1 h h.next fun v113 h => f303_1 o c n k v112 v113 h
theorem f303_ok : R Pq o c n b303 (kend Pq o c n w rs303 k) = fun t _ h => f303 o c n k (t 0) (t 1) h := (kseq (f303_1_ok o c n k w) rfl).tk
theorem f303_good : Good Pq (cfg mm) 303 (entF Pq (cfg mm) 303 2 fun α => f303) := entG b303 rs303 128 fun _ => f303_ok
noncomputable def b304 := bdy Tryz.f304
noncomputable def rs304 := Tryz.f304.results.toList
noncomputable def f304_2K : Ex → K α := (nxK (R Pq o c n (cB (cB b304)) (kend Pq o c n w rs304 k)) (kend Pq o c n w rs304 k))
noncomputable def f304_1 {α : Type} (o : α) (c : Call' α) (n : Nat) (k : AV → Heap → α) (s0 : AV) (h : Heap) : α :=
  geqF Pq o 21 s0 (.i .i32 48) fun v1 => bkF o true v1 (leqF Pq o 21 s0 (.i .i32 57) fun v2 => pickF o v1 v2 (.b false) fun v3 => k v3 h) (pickF o v1 (.tup []) (.b false) fun v4 => k v4 h)
theorem f304_1_ok : R Pq o c n (cB b304) (kend Pq o c n w rs304 k) = fun t _ h => f304_1 o c n k (t 0) h := (kseq rfl (r_start 3 (by kernel_rfl) (q_guard 3 5 (2, true) (by kernel_rfl) (by kernel_rfl) (by kernel_rfl) rfl))).tk
noncomputable def f304 (a0 : AV) (h : Heap) : α :=
  f304_1 o c n k a0 h
theorem f304_ok : R Pq o c n b304 (kend Pq o c n w rs304 k) = fun t _ h => f304 o c n k (t 0) h := (kseq (f304_1_ok o c n k w) rfl).tk
theorem f304_good : Good Pq (cfg mm) 304 (entF Pq (cfg mm) 304 1 fun α => f304) := entG b304 rs304 9 fun _ => f304_ok
noncomputable def b305 := bdy Tryz.f305
noncomputable def rs305 := Tryz.f305.results.toList
noncomputable def f305_3K : Ex → K α := (nxK (R Pq o c n (cB (cB (cB b305))) (kend Pq o c n w rs305 k)) (kend Pq o c n w rs305 k))
noncomputable def f305_5 {α : Type} (o : α) (c : Call' α) (n : Nat) (k : AV → Heap → α) (m : Nat) : AVs (Heap → α) 5 :=
  Nat.rec (motive := fun _ => AVs (Heap → α) 5) (fun _ _ _ _ _ _ => o) (fun _ lp0 s1 s2 s15 s16 s17 h => lssF Pq o 3 s17 s16 fun v1 => ifF o v1 (ixF o 2 s15 s17 fun v2 => loadNF o h 2 v2 fun v3 => newF h h.next 2 [(.s 0 0), (.s 0 0)] fun v4 h => storeF o h 2 v4 v3 fun h => ixF o 2 s1 s17 fun v5 => loadNF o h 2 v5 fun v6 => newF h h.next 2 [(.s 0 0), (.s 0 0)] fun v7 h => storeF o h 2 v7 v6 fun h => loadNF o h 2 v4 fun v8 => loadNF o h 2 v7 fun v9 => cfF o s2 [v8, v9] c h fun v10 h => pk k v10 h <| notF o v10 fun v11 => ifF o v11 (k (.b false) h) (addF Pq o 3 s17 (.i .i64 1) fun v12 => lp0 s1 s2 s15 s16 v12 h)) (k (.b true) h)) m
theorem f305_5_ok : R Pq o c n (cA (cB (cA (cB (cB b305))))) (blockK (cI (cB (cA (cB (cB b305))))) (f305_3K o c n k w)) = fun t _ h => f305_5 o c n k n (t 1) (t 2) (t 15) (t 16) (t 17) h :=
  c_loop (F := fun m t _ h => f305_5 o c n k m (t 1) (t 2) (t 15) (t 16) (t 17) h) (by kernel_rfl) (by kernel_rfl) fun m => by kernel_rfl
noncomputable def f305_4 (s1 s2 s15 s16 s17 : AV) (h : Heap) : α :=
  f305_5 o c n k n s1 s2 s15 s16 s17 h
theorem f305_4_ok : R Pq o c n (cB (cA (cB (cB b305)))) (f305_3K o c n k w) = fun t _ h => f305_4 o c n k (t 1) (t 2) (t 15) (t 16) (t 17) h := (kblk (f305_5_ok o c n k w)).tk
noncomputable def f305_2 (s0 s1 s2 : AV) (h : Heap) : α :=
  lenF o s0 fun v13 => f305_4 o c n k s1 s2 s0 v13 (.i .i64 0) h
theorem f305_2_ok : R Pq o c n (cB (cB b305)) (kend Pq o c n w rs305 k) = fun t _ h => f305_2 o c n k (t 0) (t 1) (t 2) h := (kseq rfl (kseq (f305_4_ok o c n k w) rfl)).tk
noncomputable def f305_1 (s0 s1 s2 : AV) (h : Heap) : α :=
  lenF o s0 fun v14 => lenF o s1 fun v15 => neiF Pq o 3 v14 v15 fun v16 => ifF o v16 (k (.b false) h) (f305_2 o c n k s0 s1 s2 h)
theorem f305_1_ok : R Pq o c n (cB b305) (kend Pq o c n w rs305 k) = fun t _ h => f305_1 o c n k (t 0) (t 1) (t 2) h := (kseq (f305_2_ok o c n k w) rfl).tk
noncomputable def f305 (a0 a1 a2 : AV) (h : Heap) : α :=
  f305_1 o c n k a0 a1 a2 h
theorem f305_ok : R Pq o c n b305 (kend Pq o c n w rs305 k) = fun t _ h => f305 o c n k (t 0) (t 1) (t 2) h := (kseq (f305_1_ok o c n k w) rfl).tk
theorem f305_good : Good Pq (cfg mm) 305 (entF Pq (cfg mm) 305 3 fun α => f305) := entG b305 rs305 32 fun _ => f305_ok
noncomputable def b307 := bdy Tryz.f307
noncomputable def rs307 := Tryz.f307.results.toList
noncomputable def f307 {α : Type} (o : α) (c : Call' α) (n : Nat) (k : AV → Heap → α) (a0 a1 : AV) (h : Heap) : α :=
  boxF o a0 h h.next fun v1 h => loadNF o h 1 v1 fun v2 => c 132 [v2, a1] h fun v3 h => pk k v3 h <| geqF Pq o 3 v3 (.i .i64 0) fun v4 => ifF o v4 (faF o 0 v1 fun v5 => load1F o h v5 fun v6 => ixF o 4 v6 v3 fun v7 => loadNF o h 4 v7 fun v8 => k (.ifc 51 v8) h) (k .nifc h)
theorem f307_ok : R Pq o c n b307 (kend Pq o c n w rs307 k) = fun t _ h => f307 o c n k (t 0) (t 1) h := by kernel_rfl
theorem f307_good : Good Pq (cfg mm) 307 (entF Pq (cfg mm) 307 2 fun α => f307) := entG b307 rs307 17 fun _ => f307_ok
noncomputable def b308 := bdy Tryz.f308
noncomputable def rs308 := Tryz.f308.results.toList
noncomputable def f308 {α : Type} (o : α) (c : Call' α) (n : Nat) (k : AV → Heap → α) (a0 : AV) (h : Heap) : α :=
  layF o 0 a0 [(.s 0 0), (.s 0 0), (.i .i64 0), (.i .i64 0)] fun v1 => k (.ifc 263 (.agg v1)) h
theorem f308_ok : R Pq o c n b308 (kend Pq o c n w rs308 k) = fun t _ h => f308 o c n k (t 0) h := by kernel_rfl
theorem f308_good : Good Pq (cfg mm) 308 (entF Pq (cfg mm) 308 1 fun α => f308) := entG b308 rs308 6 fun _ => f308_ok
noncomputable def b310 := bdy Tryz.f310
noncomputable def rs310 := Tryz.f310.results.toList
noncomputable def f310_2 {α : Type} (o : α) (c : Call' α) (n : Nat) (k : AV → Heap → α) (s1 : AV) (h : Heap) : α :=
  loadNF o h 13 s1 fun v1 => c 353 [v1] h fun v2 h => pk k v2 h <| exF o v2 0 fun v3 => exF o v2 1 fun v4 => neiF Pq o 3 v4 (.i .i64 0) fun v5 => ifF o v5 (c 309 [v4] h fun v6 h => pk k v6 h <| k v6 h) (faF o 0 s1 fun v7 => loadNF o h 1 v7 fun v8 => faF o 4 s1 fun v9 => faF o 3 v9 fun v10 => load1F o h v10 fun v11 => c 354 [v8, v3, v11] h fun v12 h => pk k v12 h <| exF o v12 0 fun v13 => exF o v12 1 fun v14 => newF h h.next 2 [(.s 0 0), (.i .i64 0)] fun v15 h => storeF o h 2 v15 v13 fun h => notF o v14 fun v16 => ifF o v16 (c 309 [(.i .i64 10)] h fun v17 h => pk k v17 h <| k v17 h) (faF o 0 s1 fun v18 => loadNF o h 1 v18 fun v19 => loadNF o h 2 v15 fun v20 => c 355 [v19, v20] h fun v21 h => pk k v21 h <| exF o v21 0 fun v22 => exF o v21 1 fun v23 => newF h h.next 4 [(.b false), (.s 0 0), (.s 0 0), .nsl] fun v24 h => storeF o h 4 v24 v22 fun h => loadNF o h 13 s1 fun v25 => faF o 0 v24 fun v26 => load1F o h v26 fun v27 => c 356 [v25, v27] h fun v28 h => pk k v28 h <| notF o v28 fun v29 => ifF o v29 (c 309 [(.i .i64 13)] h fun v30 h => pk k v30 h <| k v30 h) (faF o 1 v24 fun v31 => load1F o h v31 fun v32 => loadNF o h 2 v15 fun v33 => layF o 0 v32 [(.s 0 0), (.s 0 0), (.i .i64 0), (.i .i64 0)] fun v34 => lay1 o 1 2 v33 v34 fun v35 => k (.ifc 263 (.agg v35)) h)))
theorem f310_2_ok : R Pq o c n (cB (cB b310)) (kend Pq o c n w rs310 k) = fun t _ h => f310_2 o c n k (t 1) h := by kernel_rfl
noncomputable def f310_3K : Ex → K α := (nxK (fun t _ h => f310_2 o c n k (t 1) h) (kend Pq o c n w rs310 k))
noncomputable def f310_5 (s1 s3 s23 : AV) (h : Heap) : α :=
  ifF o s23 (c 308 [s3] h fun v36 h => pk k v36 h <| k v36 h) (f310_2 o c n k s1 h)
theorem f310_5_ok : R Pq o c n (cB (cB (cA (cB b310)))) (f310_3K o c n k w) = fun t _ h => f310_5 o c n k (t 1) (t 3) (t 23) h := by kernel_rfl
noncomputable def f310_6K : Ex → K α := (nxK (fun t _ h => f310_5 o c n k (t 1) (t 3) (t 23) h) (f310_3K o c n k w))
noncomputable def f310_4 (s1 s3 : AV) (h : Heap) : α :=
  faF o 4 s1 fun v37 => faF o 0 v37 fun v38 => load1F o h v38 fun v39 => eqiF Pq o 3 v39 (.i .i64 6) fun v40 => bkF o true v40 (nesF Pq o 9 s3 (.s 0 0) fun v41 => pickF o v40 v41 (.b false) fun v42 => f310_5 o c n k s1 s3 v42 h) (pickF o v40 (.tup []) (.b false) fun v43 => f310_5 o c n k s1 s3 v43 h)
theorem f310_4_ok : R Pq o c n (cB (cA (cB b310))) (f310_3K o c n k w) = fun t _ h => f310_4 o c n k (t 1) (t 3) h := (kseq (f310_5_ok o c n k w) (r_start 5 (by kernel_rfl) (q_guard 5 7 (4, true) (by kernel_rfl) (by kernel_rfl) (by kernel_rfl) rfl))).tk
noncomputable def f310_1 (s1 : AV) (h : Heap) : α :=
  faF o 1 s1 fun v44 => loadNF o h 3 v44 fun v45 => faF o 4 s1 fun v46 => faF o 3 v46 fun v47 => load1F o h v47 fun v48 => c 352 [v45, v48] h fun v49 h => pk k v49 h <| f310_4 o c n k s1 v49 h
theorem f310_1_ok : R Pq o c n (cB b310) (kend Pq o c n w rs310 k) = fun t _ h => f310_1 o c n k (t 1) h := (kseq (f310_2_ok o c n k w) (kseq (f310_4_ok o c n k w) rfl)).tk
noncomputable def f310 (a0 : AV) (h : Heap) : α :=
  boxF o a0 h h.next fun v50 h => f310_1 o c n k v50 h
theorem f310_ok : R Pq o c n b310 (kend Pq o c n w rs310 k) = fun t _ h => f310 o c n k (t 0) h := (kseq (f310_1_ok o c n k w) rfl).tk
theorem f310_good : Good Pq (cfg mm) 310 (entF Pq (cfg mm) 310 1 fun α => f310) := entG b310 rs310 66 fun _ => f310_ok
noncomputable def b311 := bdy Tryz.f311
noncomputable def rs311 := Tryz.f311.results.toList
noncomputable def f311_5 {α : Type} (o : α) (c : Call' α) (n : Nat) (k : AV → Heap → α) (s1 s3 s5 : AV) (h : Heap) : α :=
  c 313 [s5] h fun v1 h => pk k v1 h <| ifF o v1 (c 309 [(.i .i64 14)] h fun v2 h => pk k v2 h <| k v2 h) (faF o 0 s1 fun v3 => loadNF o h 1 v3 fun v4 => faF o 4 s1 fun v5 => faF o 3 v5 fun v6 => load1F o h v6 fun v7 => c 357 [v4, s3, v7, s5] h fun v8 h => pk k v8 h <| exF o v8 0 fun v9 => exF o v8 1 fun v10 => newF h h.next 2 [(.s 0 0), (.i .i64 0)] fun v11 h => storeF o h 2 v11 v9 fun h => neiF Pq o 3 v10 (.i .i64 0) fun v12 => ifF o v12 (c 309 [v10] h fun v13 h => pk k v13 h <| k v13 h) (faF o 0 s1 fun v14 => loadNF o h 1 v14 fun v15 => loadNF o h 2 v11 fun v16 => c 192 [v15, v16] h fun v17 h => pk k v17 h <| exF o v17 0 fun v18 => exF o v17 1 fun v19 => newF h h.next 6 [(.b false), (.b false), (.s 0 0), (.s 0 0), .nsl, .nsl] fun v20 h => storeF o h 6 v20 v18 fun h => loadNF o h 13 s1 fun v21 => faF o 0 v20 fun v22 => load1F o h v22 fun v23 => c 356 [v21, v23] h fun v24 h => pk k v24 h <| notF o v24 fun v25 => ifF o v25 (c 309 [(.i .i64 13)] h fun v26 h => pk k v26 h <| k v26 h) (faF o 2 v20 fun v27 => load1F o h v27 fun v28 => loadNF o h 2 v11 fun v29 => layF o 0 v28 [(.s 0 0), (.s 0 0), (.i .i64 0), (.i .i64 0)] fun v30 => lay1 o 1 2 v29 v30 fun v31 => k (.ifc 263 (.agg v31)) h)))
theorem f311_5_ok : R Pq o c n (cB (cB (cB (cB (cB b311))))) (kend Pq o c n w rs311 k) = fun t _ h => f311_5 o c n k (t 1) (t 3) (t 5) h := by kernel_rfl
noncomputable def f311_4 (s1 s3 s5 : AV) (h : Heap) : α :=
  faF o 4 s1 fun v32 => faF o 0 v32 fun v33 => load1F o h v33 fun v34 => eqiF Pq o 3 v34 (.i .i64 10) fun v35 => ifF o v35 (slF Pq o 58 s5 (some (.i .i64 1)) none fun v36 => f311_5 o c n k s1 s3 v36 h) (f311_5 o c n k s1 s3 s5 h)
theorem f311_4_ok : R Pq o c n (cB (cB (cB (cB b311)))) (kend Pq o c n w rs311 k) = fun t _ h => f311_4 o c n k (t 1) (t 3) (t 5) h := (kseq (f311_5_ok o c n k w) rfl).tk
noncomputable def f311_3 (s1 s3 : AV) (h : Heap) : α :=
  faF o 12 s1 fun v37 => load1F o h v37 fun v38 => f311_4 o c n k s1 s3 v38 h
theorem f311_3_ok : R Pq o c n (cB (cB (cB b311))) (kend Pq o c n w rs311 k) = fun t _ h => f311_3 o c n k (t 1) (t 3) h := (kseq (f311_4_ok o c n k w) rfl).tk
noncomputable def f311_2 (s1 s3 s4 : AV) (h : Heap) : α :=
  neiF Pq o 3 s4 (.i .i64 0) fun v39 => ifF o v39 (c 309 [s4] h fun v40 h => pk k v40 h <| k v40 h) (f311_3 o c n k s1 s3 h)
theorem f311_2_ok : R Pq o c n (cB (cB b311)) (kend Pq o c n w rs311 k) = fun t _ h => f311_2 o c n k (t 1) (t 3) (t 4) h := (kseq (f311_3_ok o c n k w) rfl).tk
noncomputable def f311_1 (s1 : AV) (h : Heap) : α :=
  loadNF o h 13 s1 fun v41 => c 353 [v41] h fun v42 h => pk k v42 h <| exF o v42 0 fun v43 => exF o v42 1 fun v44 => f311_2 o c n k s1 v43 v44 h
theorem f311_1_ok : R Pq o c n (cB b311) (kend Pq o c n w rs311 k) = fun t _ h => f311_1 o c n k (t 1) h := (kseq (f311_2_ok o c n k w) rfl).tk
noncomputable def f311 (a0 : AV) (h : Heap) : α :=
  boxF o a0 h h.next fun v45 h => f311_1 o c n k v45 h
theorem f311_ok : R Pq o c n b311 (kend Pq o c n w rs311 k) = fun t _ h => f311 o c n k (t 0) h := (kseq (f311_1_ok o c n k w) rfl).tk
theorem f311_good : Good Pq (cfg mm) 311 (entF Pq (cfg mm) 311 1 fun α => f311) := entG b311 rs311 62 fun _ => f311_ok
noncomputable def b312 := bdy Tryz.f312
noncomputable def rs312 := Tryz.f312.results.toList
noncomputable def f312 {α : Type} (o : α) (c : Call' α) (n : Nat) (k : AV → Heap → α) (a0 a1 : AV) (h : Heap) : α :=
  boxF o a0 h h.next fun v1 h => faF o 0 v1 fun v2 => loadNF o h 1 v2 fun v3 => c 134 [v3, a1] h fun v4 h => pk k v4 h <| k v4 h
theorem f312_ok : R Pq o c n b312 (kend Pq o c n w rs312 k) = fun t _ h => f312 o c n k (t 0) (t 1) h := by kernel_rfl
theorem f312_good : Good Pq (cfg mm) 312 (entF Pq (cfg mm) 312 2 fun α => f312) := entG b312 rs312 9 fun _ => f312_ok
noncomputable def b313 := bdy Tryz.f313
noncomputable def rs313 := Tryz.f313.results.toList
noncomputable def f313 {α : Type} (o : α) (c : Call' α) (n : Nat) (k : AV → Heap → α) (a0 : AV) (h : Heap) : α :=
  c 53 [a0, (.s 4 1684631414)] h fun v1 h => pk k v1 h <| k v1 h
theorem f313_ok : R Pq o c n b313 (kend Pq o c n w rs313 k) = fun t _ h => f313 o c n k (t 0) h := by kernel_rfl
theorem f313_good : Good Pq (cfg mm) 313 (entF Pq (cfg mm) 313 1 fun α => f313) := entG b313 rs313 5 fun _ => f313_ok
noncomputable def b316 := bdy Tryz.f316
noncomputable def rs316 := Tryz.f316.results.toList
noncomputable def f316_3 {α : Type} (o : α) (c : Call' α) (n : Nat) (k : AV → Heap → α) (s0 : AV) (h : Heap) : α :=
  k s0 h
theorem f316_3_ok : R Pq o c n (cB (cB (cB b316))) (kend Pq o c n w rs316 k) = fun t _ h => f316_3 o c n k (t 0) h := by kernel_rfl
noncomputable def f316_2 (s0 s1 : AV) (h : Heap) : α :=
  capN o s0 fun v1 => lenF o s0 fun v2 => binA Pq o .sub 3 v1 v2 fun v3 => binA Pq o .sub 3 s1 v3 fun v4 => gtrF Pq o 3 v4 (.i .i64 0) fun v5 => ifF o v5 (capN o s0 fun v6 => slF Pq o 75 s0 none (some v6) fun v7 => appX Pq o h h.next 75 3 v7 v4 fun v8 h => lenF o s0 fun v9 => slF Pq o 75 v8 none (some v9) fun v10 => f316_3 o c n k v10 h) (f316_3 o c n k s0 h)
theorem f316_2_ok : R Pq o c n (cB (cB b316)) (kend Pq o c n w rs316 k) = fun t _ h => f316_2 o c n k (t 0) (t 1) h := (kseq (f316_3_ok o c n k w) rfl).tk
noncomputable def f316_1 (s0 s1 : AV) (h : Heap) : α :=
  lssF Pq o 3 s1 (.i .i64 0) fun v11 => ifF o v11 (panicA o (.ifc 9 (.s 18 8838634371626034279618351153450530198413667)) fun x => k x.pn h) (f316_2 o c n k s0 s1 h)
theorem f316_1_ok : R Pq o c n (cB b316) (kend Pq o c n w rs316 k) = fun t _ h => f316_1 o c n k (t 0) (t 1) h := (kseq (f316_2_ok o c n k w) rfl).tk
noncomputable def f316 (a0 a1 : AV) (h : Heap) : α :=
  f316_1 o c n k a0 a1 h
theorem f316_ok : R Pq o c n b316 (kend Pq o c n w rs316 k) = fun t _ h => f316 o c n k (t 0) (t 1) h := (kseq (f316_1_ok o c n k w) rfl).tk
theorem f316_good : Good Pq (cfg mm) 316 (entF Pq (cfg mm) 316 2 fun α => f316) := entG b316 rs316 27 fun _ => f316_ok
noncomputable def b317 := bdy Tryz.f317
noncomputable def rs317 := Tryz.f317.results.toList
noncomputable def f317_7K : Ex → K α := (nxK (R Pq o c n (cB (cB (cB (cB (cB (cB (cB b317))))))) (kend Pq o c n w rs317 k)) (kend Pq o c n w rs317 k))
noncomputable def f317_8 {α : Type} (o : α) (c : Call' α) (n : Nat) (k : AV → Heap → α) (base : Nat) (s0 s3 s4 s41 s47 : AV) (h : Heap) : α :=
  faF o 2 s3 fun v1 => rootF o v1 s3 <| load1F o (h.look 128) v1 fun v2 => faF o 3 s3 fun v3 => rootF o v3 s3 <| load1F o (h.look 512) v3 fun v4 => layF o 0 v2 [(.s 0 0), (.s 0 0)] fun v5 => layF o 1 v4 v5 fun v6 => fil1 o 2 1 0 (.agg v6) [[(.s 0 0), (.s 0 0)]] fun v7 => newEF (h.look 3968) (Nat.add base 12) 2 1 v7 fun v8 h => lb [] fun ids => appD o ids (Nat.add base 13) <| appendY Pq o (hide ids (h.look 8190)) (Nat.add base 13) 75 75 s47 v8 fun v9 g => hb (back h ids g) fun h => nilChk o s41 fun v10 => faF o 1 v10 fun v11 => faF o 2 v11 fun v12 => rootF o v12 s0 <| storeF o (h.look 131071) 1 v12 v9 fun h => hb h.shut fun h => loadNF o h 9 s3 fun v13 => storeF o h 9 s4 v13 fun h => on o (resV Pq h [(s4, some 111)]) fun v => k v h
theorem f317_8_ok (base : Nat) : QD Pq o c (cO (cA (cB (cB (cB (cB (cB (cB b317)))))))) base ((f317_7K o c n k w)) 7 = fun t _ h => f317_8 o c n k base (t 0) (t 3) (t 4) (t 41) (t 47) h := by kernel_rfl
noncomputable def f317_6 (s0 s3 s4 : AV) (h : Heap) : α :=
  dreg o h 18 fun base h => nilChk o s0 fun v14 => faF o 1 v14 fun v15 => faF o 2 v15 fun v16 => rootF o v16 s0 <| load1F o (h.look 30) v16 fun v17 => callD o c (hidD false [(.fn (.func 108) [] []), v17] (lapp [Nat.add base 12] []) (sBlk s3 (sBlk s3 []))) 108 [v17] (h.look 0) fun v18 h => pnF v18 (fun x => o) <| f317_8 o c n k base s0 s3 s4 s0 v18 h
theorem f317_6_ok : R Pq o c n (cB (cB (cB (cB (cB (cB b317)))))) (kend Pq o c n w rs317 k) = fun t _ h => f317_6 o c n k (t 0) (t 3) (t 4) h := (kseq rfl (r_startD 7 (by kernel_rfl) (by kernel_rfl) (X := fun base => fun t _ h => f317_8 o c n k base (t 0) (t 3) (t 4) (t 41) (t 47) h) (fun base => f317_8_ok o c n k w base))).tk
noncomputable def f317_5 (s0 s3 s4 s5 : AV) (h : Heap) : α :=
  loadNF o h 8 s5 fun v19 => fil1 o 8 1 0 v19 [[(.i .i64 0), (.i .i32 0), (.s 0 0), (.s 0 0), (.s 0 0), .nsl, (.s 0 0), (.i .i64 0)]] fun v20 => newEF h h.next 8 1 v20 fun v21 h => faF o 4 s3 fun v22 => storeF o h 1 v22 v21 fun h => f317_6 o c n k s0 s3 s4 h
theorem f317_5_ok : R Pq o c n (cB (cB (cB (cB (cB b317))))) (kend Pq o c n w rs317 k) = fun t _ h => f317_5 o c n k (t 0) (t 3) (t 4) (t 5) h := (kseq (f317_6_ok o c n k w) rfl).tk
noncomputable def f317_4 (s0 s3 s4 s5 s6 : AV) (h : Heap) : α :=
  faF o 2 s3 fun v23 => load1F o h v23 fun v24 => c 145 [s0, s6, v24] h fun v25 h => pk k v25 h <| f317_5 o c n k s0 s3 s4 s5 h
theorem f317_4_ok : R Pq o c n (cB (cB (cB (cB b317)))) (kend Pq o c n w rs317 k) = fun t _ h => f317_4 o c n k (t 0) (t 3) (t 4) (t 5) (t 6) h := (kseq (f317_5_ok o c n k w) rfl).tk
noncomputable def f317_3 (s0 s3 s4 : AV) (h : Heap) : α :=
  faF o 4 s3 fun v26 => load1F o h v26 fun v27 => ixF o 8 v27 (.i .i64 0) fun v28 => loadNF o h 8 v28 fun v29 => c 144 [s0, v29] h fun v30 h => pk k v30 h <| exF o v30 0 fun v31 => exF o v30 1 fun v32 => newF h h.next 8 [(.i .i64 0), (.i .i32 0), (.s 0 0), (.s 0 0), (.s 0 0), .nsl, (.s 0 0), (.i .i64 0)] fun v33 h => storeF o h 8 v33 v31 fun h => f317_4 o c n k s0 s3 s4 v33 v32 h
theorem f317_3_ok : R Pq o c n (cB (cB (cB b317))) (kend Pq o c n w rs317 k) = fun t _ h => f317_3 o c n k (t 0) (t 3) (t 4) h := (kseq (f317_4_ok o c n k w) rfl).tk
noncomputable def f317_2 (s0 s3 s4 : AV) (h : Heap) : α :=
  dreg o h 9 fun base h => nilChk o s0 fun v34 => faF o 1 v34 fun v35 => rootF o v35 s0 <| loadNF o (h.look 7) 3 v35 fun v36 => faF o 3 s3 fun v37 => rootF o v37 s3 <| load1F o (h.look 16) v37 fun v38 => callD o c [] 352 [v36, v38] (h.look 0) fun v39 h => pnF v39 (fun x => hb h.shut fun hd => k x.pn hd) <| eqsF Pq o 9 v39 (.s 0 0) fun v40 => callD o c [] 194 [v40, (.i .i64 6)] (h.look 0) fun v41 h => pnF v41 (fun x => hb h.shut fun hd => k x.pn hd) <| hb h.shut fun h => f317_3 o c n k s0 s3 s4 h
theorem f317_2_ok : R Pq o c n (cB (cB b317)) (kend Pq o c n w rs317 k) = fun t _ h => f317_2 o c n k (t 0) (t 3) (t 4) h := (kseq (f317_3_ok o c n k w) rfl).tk
noncomputable def f317_1 (s0 s3 s4 : AV) (h : Heap) : α :=
  dreg o h 8 fun base h => nilChk o s0 fun v42 => faF o 0 v42 fun v43 => rootF o v43 s0 <| loadNF o (h.look 7) 1 v43 fun v44 => faF o 2 s3 fun v45 => rootF o v45 s3 <| load1F o (h.look 16) v45 fun v46 => callD o c [] 139 [v44, v46] (h.look 0) fun v47 h => pnF v47 (fun x => hb h.shut fun hd => k x.pn hd) <| callD o c [] 194 [v47, (.i .i64 7)] h fun v48 h => pnF v48 (fun x => hb h.shut fun hd => k x.pn hd) <| hb h.shut fun h => f317_2 o c n k s0 s3 s4 h
theorem f317_1_ok : R Pq o c n (cB b317) (kend Pq o c n w rs317 k) = fun t _ h => f317_1 o c n k (t 0) (t 3) (t 4) h := (kseq (f317_2_ok o c n k w) rfl).tk
noncomputable def f317 (a0 a1 : AV) (h : Heap) : α :=
  boxF o a1 h h.next fun v49 h => newF h h.next 9 [(.i .i64 0), (.i .i32 0), (.s 0 0), (.s 0 0), .nsl, .nsl, .nsl, .nsl, (.i .i64 0)] fun v50 h => f317_1 o c n k a0 v49 v50 h
theorem f317_ok : R Pq o c n b317 (kend Pq o c n w rs317 k) = fun t _ h => f317 o c n k (t 0) (t 1) h := (kseq (f317_1_ok o c n k w) rfl).tk
theorem f317_good : Good Pq (cfg mm) 317 (entF Pq (cfg mm) 317 2 fun α => f317) := entG b317 rs317 59 fun _ => f317_ok
noncomputable def b320 := bdy Tryz.f320
noncomputable def rs320 := Tryz.f320.results.toList
noncomputable def f320 {α : Type} (o : α) (c : Call' α) (n : Nat) (k : AV → Heap → α) (a0 a1 : AV) (h : Heap) : α :=
  c 359 [a0, a1] h fun v1 h => pk k v1 h <| geqF Pq o 3 v1 (.i .i64 0) fun v2 => k v2 h
theorem f320_ok : R Pq o c n b320 (kend Pq o c n w rs320 k) = fun t _ h => f320 o c n k (t 0) (t 1) h := by kernel_rfl
theorem f320_good : Good Pq (cfg mm) 320 (entF Pq (cfg mm) 320 2 fun α => f320) := entG b320 rs320 9 fun _ => f320_ok
noncomputable def b321 := bdy Tryz.f321
noncomputable def rs321 := Tryz.f321.results.toList
noncomputable def f321 {α : Type} (o : α) (c : Call' α) (n : Nat) (k : AV → Heap → α) (a0 : AV) (h : Heap) : α :=
  boxF o a0 h h.next fun v1 h => loadNF o h 9 v1 fun v2 => c 322 [(.ifc 111 v2)] h fun v3 h => pk k v3 h <| notF o v3 fun v4 => k v4 h
theorem f321_ok : R Pq o c n b321 (kend Pq o c n w rs321 k) = fun t _ h => f321 o c n k (t 0) h := by kernel_rfl
theorem f321_good : Good Pq (cfg mm) 321 (entF Pq (cfg mm) 321 1 fun α => f321) := entG b321 rs321 7 fun _ => f321_ok
noncomputable def b323 := bdy Tryz.f323
noncomputable def rs323 := Tryz.f323.results.toList
noncomputable def f323 {α : Type} (o : α) (c : Call' α) (n : Nat) (k : AV → Heap → α) (a0 a1 : AV) (h : Heap) : α :=
  boxF o a0 h h.next fun v1 h => boxF o a1 h h.next fun v2 h => loadNF o h 1 v1 fun v3 => loadNF o h 2 v2 fun v4 => c 192 [v3, v4] h fun v5 h => pk k v5 h <| exF o v5 0 fun v6 => exF o v5 1 fun v7 => newF h h.next 6 [(.b false), (.b false), (.s 0 0), (.s 0 0), .nsl, .nsl] fun v8 h => storeF o h 6 v8 v6 fun h => loadNF o h 2 v2 fun v9 => loadNF o h 6 v8 fun v10 => lay1 o 0 2 v9 [(.s 0 0), (.i .i64 0), (.b false), (.b false), (.s 0 0), (.s 0 0), .nsl, .nsl] fun v11 => lay1 o 2 6 v10 v11 fun v12 => k (.ifc 312 (.agg v12)) h
theorem f323_ok : R Pq o c n b323 (kend Pq o c n w rs323 k) = fun t _ h => f323 o c n k (t 0) (t 1) h := by kernel_rfl
theorem f323_good : Good Pq (cfg mm) 323 (entF Pq (cfg mm) 323 2 fun α => f323) := entG b323 rs323 17 fun _ => f323_ok
noncomputable def b324 := bdy Tryz.f324
noncomputable def rs324 := Tryz.f324.results.toList
noncomputable def f324 {α : Type} (o : α) (c : Call' α) (n : Nat) (k : AV → Heap → α) (a0 a1 a2 : AV) (h : Heap) : α :=
  boxF o a0 h h.next fun v1 h => boxF o a1 h h.next fun v2 h => faF o 4 v2 fun v3 => load1F o h v3 fun v4 => c 361 [v4, a2, (.fn (.func 362) [] [v1])] h fun v5 h => pk k v5 h <| k v5 h
theorem f324_ok : R Pq o c n b324 (kend Pq o c n w rs324 k) = fun t _ h => f324 o c n k (t 0) (t 1) (t 2) h := by kernel_rfl
theorem f324_good : Good Pq (cfg mm) 324 (entF Pq (cfg mm) 324 3 fun α => f324) := entG b324 rs324 12 fun _ => f324_ok
noncomputable def b325 := bdy Tryz.f325
noncomputable def rs325 := Tryz.f325.results.toList
noncomputable def f325 {α : Type} (o : α) (c : Call' α) (n : Nat) (k : AV → Heap → α) (a0 a1 : AV) (h : Heap) : α :=
  c 363 [a0, a1] h fun v1 h => pk k v1 h <| geqF Pq o 3 v1 (.i .i64 0) fun v2 => k v2 h
theorem f325_ok : R Pq o c n b325 (kend Pq o c n w rs325 k) = fun t _ h => f325 o c n k (t 0) (t 1) h := by kernel_rfl
theorem f325_good : Good Pq (cfg mm) 325 (entF Pq (cfg mm) 325 2 fun α => f325) := entG b325 rs325 9 fun _ => f325_ok
noncomputable def b326 := bdy Tryz.f326
noncomputable def rs326 := Tryz.f326.results.toList
noncomputable def f326 {α : Type} (o : α) (c : Call' α) (n : Nat) (k : AV → Heap → α) (a0 a1 a2 : AV) (h : Heap) : α :=
  boxF o a0 h h.next fun v1 h => loadNF o h 1 a1 fun v2 => faF o 2 a2 fun v3 => loadNF o h 6 v3 fun v4 => faF o 2 v1 fun v5 => loadNF o h 6 v5 fun v6 => c 327 [v2, v4, v6] h fun v7 h => pk k v7 h <| notF o v7 fun v8 => k v8 h
theorem f326_ok : R Pq o c n b326 (kend Pq o c n w rs326 k) = fun t _ h => f326 o c n k (t 0) (t 1) (t 2) h := by kernel_rfl
theorem f326_good : Good Pq (cfg mm) 326 (entF Pq (cfg mm) 326 3 fun α => f326) := entG b326 rs326 12 fun _ => f326_ok
noncomputable def b327 := bdy Tryz.f327
noncomputable def rs327 := Tryz.f327.results.toList
noncomputable def f327 {α : Type} (o : α) (c : Call' α) (n : Nat) (k : AV → Heap → α) (a0 a1 a2 : AV) (h : Heap) : α :=
  boxF o a0 h h.next fun v1 h => boxF o a1 h h.next fun v2 h => boxF o a2 h h.next fun v3 h => faF o 4 v2 fun v4 => load1F o h v4 fun v5 => faF o 4 v3 fun v6 => load1F o h v6 fun v7 => c 305 [v5, v7, (.fn (.func 364) [] [v1])] h fun v8 h => pk k v8 h <| k v8 h
theorem f327_ok : R Pq o c n b327 (kend Pq o c n w rs327 k) = fun t _ h => f327 o c n k (t 0) (t 1) (t 2) h := by kernel_rfl
theorem f327_good : Good Pq (cfg mm) 327 (entF Pq (cfg mm) 327 3 fun α => f327) := entG b327 rs327 13 fun _ => f327_ok
noncomputable def b348 := bdy Tryz.f348
noncomputable def rs348 := Tryz.f348.results.toList
noncomputable def f348 {α : Type} (o : α) (c : Call' α) (n : Nat) (k : AV → Heap → α) (a0 : AV) (h : Heap) : α :=
  newF h h.next 7 [(.b false), (.b false), (.b false), (.b false), (.i .i64 0), (.i .i64 0), (.i .i64 0)] fun v1 h => mapA h h.next fun v2 h => layF o 3 (.b true) [(.b false), (.b false), (.b false), (.b false), (.i .i64 0), (.i .i64 0), (.i .i64 0)] fun v3 => layF o 2 (.b true) v3 fun v4 => layF o 4 (.i .i64 1) v4 fun v5 => layF o 5 (.i .i64 1) v5 fun v6 => insertN o h .i64 v2 (.i .i64 1) (.agg v6) fun h => layF o 4 (.i .i64 2) [(.b false), (.b false), (.b false), (.b false), (.i .i64 0), (.i .i64 0), (.i .i64 0)] fun v7 => layF o 5 (.i .i64 2) v7 fun v8 => insertN o h .i64 v2 (.i .i64 2) (.agg v8) fun h => layF o 4 (.i .i64 1) [(.b false), (.b false), (.b false), (.b false), (.i .i64 0), (.i .i64 0), (.i .i64 0)] fun v9 => layF o 5 (.i .i64 1) v9 fun v10 => insertN o h .i64 v2 (.i .i64 3) (.agg v10) fun h => layF o 4 (.i .i64 1) [(.b false), (.b false), (.b false), (.b false), (.i .i64 0), (.i .i64 0), (.i .i64 0)] fun v11 => layF o 5 (.i .i64 1) v11 fun v12 => layF o 6 (.i .i64 2) v12 fun v13 => insertN o h .i64 v2 (.i .i64 4) (.agg v13) fun h => layF o 4 (.i .i64 1) [(.b false), (.b false), (.b false), (.b false), (.i .i64 0), (.i .i64 0), (.i .i64 0)] fun v14 => layF o 5 (.i .i64 1) v14 fun v15 => layF o 6 (.i .i64 1) v15 fun v16 => insertN o h .i64 v2 (.i .i64 5) (.agg v16) fun h => layF o 5 (.i .i64 1) [(.b false), (.b false), (.b false), (.b false), (.i .i64 0), (.i .i64 0), (.i .i64 0)] fun v17 => insertN o h .i64 v2 (.i .i64 6) (.agg v17) fun h => layF o 4 (.i .i64 1) [(.b false), (.b false), (.b false), (.b false), (.i .i64 0), (.i .i64 0), (.i .i64 0)] fun v18 => layF o 5 (.i .i64 1) v18 fun v19 => insertN o h .i64 v2 (.i .i64 7) (.agg v19) fun h => layF o 0 (.b true) [(.b false), (.b false), (.b false), (.b false), (.i .i64 0), (.i .i64 0), (.i .i64 0)] fun v20 => layF o 4 (.i .i64 1) v20 fun v21 => layF o 5 (.i .i64 1) v21 fun v22 => insertN o h .i64 v2 (.i .i64 8) (.agg v22) fun h => layF o 4 (.i .i64 1) [(.b false), (.b false), (.b false), (.b false), (.i .i64 0), (.i .i64 0), (.i .i64 0)] fun v23 => layF o 5 (.i .i64 1) v23 fun v24 => insertN o h .i64 v2 (.i .i64 9) (.agg v24) fun h => layF o 3 (.b true) [(.b false), (.b false), (.b false), (.b false), (.i .i64 0), (.i .i64 0), (.i .i64 0)] fun v25 => layF o 2 (.b true) v25 fun v26 => layF o 6 (.i .i64 3) v26 fun v27 => insertN o h .i64 v2 (.i .i64 10) (.agg v27) fun h => layF o 5 (.i .i64 3000) [(.b false), (.b false), (.b false), (.b false), (.i .i64 0), (.i .i64 0), (.i .i64 0)] fun v28 => insertN o h .i64 v2 (.i .i64 11) (.agg v28) fun h => lookupN o h .i64 (some (.agg [(.b false), (.b false), (.b false), (.b false), (.i .i64 0), (.i .i64 0), (.i .i64 0)])) v2 a0 true fun v29 => exF o v29 0 fun v30 => exF o v29 1 fun v31 => newF h h.next 7 [(.b false), (.b false), (.b false), (.b false), (.i .i64 0), (.i .i64 0), (.i .i64 0)] fun v32 h => storeF o h 7 v32 v30 fun h => loadNF o h 7 v32 fun v33 => storeF o h 7 v1 v33 fun h => on o (resV Pq h [(v1, some 296), (v31, none)]) fun v => k v h
theorem f348_ok : R Pq o c n b348 (kend Pq o c n w rs348 k) = fun t _ h => f348 o c n k (t 0) h := by kernel_rfl
theorem f348_good : Good Pq (cfg mm) 348 (entF Pq (cfg mm) 348 1 fun α => f348) := entG b348 rs348 28 fun _ => f348_ok
noncomputable def b349 := bdy Tryz.f349
noncomputable def rs349 := Tryz.f349.results.toList
noncomputable def f349 {α : Type} (o : α) (c : Call' α) (n : Nat) (k : AV → Heap → α) (a0 a1 : AV) (h : Heap) : α :=
  boxF o a0 h h.next fun v1 h => loadNF o h 8 v1 fun v2 => load1F o h a1 fun v3 => c 245 [v2, v3] h fun v4 h => pk k v4 h <| notF o v4 fun v5 => k v5 h
theorem f349_ok : R Pq o c n b349 (kend Pq o c n w rs349 k) = fun t _ h => f349 o c n k (t 0) (t 1) h := by kernel_rfl
theorem f349_good : Good Pq (cfg mm) 349 (entF Pq (cfg mm) 349 2 fun α => f349) := entG b349 rs349 8 fun _ => f349_ok
noncomputable def b352 := bdy Tryz.f352
noncomputable def rs352 := Tryz.f352.results.toList
noncomputable def f352_2K : Ex → K α := (nxK (R Pq o c n (cB (cB b352)) (kend Pq o c n w rs352 k)) (kend Pq o c n w rs352 k))
noncomputable def f352_4 {α : Type} (o : α) (c : Call' α) (n : Nat) (k : AV → Heap → α) (m : Nat) : AVs (Heap → α) 3 :=
  Nat.rec (motive := fun _ => AVs (Heap → α) 3) (fun _ _ _ _ => o) (fun _ lp0 s1 s2 s5 h => geqF Pq o 3 s5 (.i .i64 0) fun v1 => ifF o v1 (faF o 2 s2 fun v2 => load1F o h v2 fun v3 => ixF o 2 v3 s5 fun v4 => faF o 1 v4 fun v5 => load1F o h v5 fun v6 => eqsF Pq o 9 v6 s1 fun v7 => ifF o v7 (faF o 2 s2 fun v8 => load1F o h v8 fun v9 => ixF o 2 v9 s5 fun v10 => faF o 0 v10 fun v11 => load1F o h v11 fun v12 => k v12 h) (binA Pq o .sub 3 s5 (.i .i64 1) fun v13 => lp0 s1 s2 v13 h)) (k (.s 0 0) h)) m
theorem f352_4_ok : R Pq o c n (cA (cB (cA (cB b352)))) (blockK (cI (cB (cA (cB b352)))) (f352_2K o c n k w)) = fun t _ h => f352_4 o c n k n (t 1) (t 2) (t 5) h :=
  c_loop (F := fun m t _ h => f352_4 o c n k m (t 1) (t 2) (t 5) h) (by kernel_rfl) (by kernel_rfl) fun m => by kernel_rfl
noncomputable def f352_3 (s1 s2 s5 : AV) (h : Heap) : α :=
  f352_4 o c n k n s1 s2 s5 h
theorem f352_3_ok : R Pq o c n (cB (cA (cB b352))) (f352_2K o c n k w) = fun t _ h => f352_3 o c n k (t 1) (t 2) (t 5) h := (kblk (f352_4_ok o c n k w)).tk
noncomputable def f352_1 (s1 s2 : AV) (h : Heap) : α :=
  faF o 2 s2 fun v14 => load1F o h v14 fun v15 => lenF o v15 fun v16 => binA Pq o .sub 3 v16 (.i .i64 1) fun v17 => f352_3 o c n k s1 s2 v17 h
theorem f352_1_ok : R Pq o c n (cB b352) (kend Pq o c n w rs352 k) = fun t _ h => f352_1 o c n k (t 1) (t 2) h := (kseq rfl (kseq (f352_3_ok o c n k w) rfl)).tk
noncomputable def f352 (a0 a1 : AV) (h : Heap) : α :=
  boxF o a0 h h.next fun v18 h => f352_1 o c n k a1 v18 h
theorem f352_ok : R Pq o c n b352 (kend Pq o c n w rs352 k) = fun t _ h => f352 o c n k (t 0) (t 1) h := (kseq (f352_1_ok o c n k w) rfl).tk
theorem f352_good : Good Pq (cfg mm) 352 (entF Pq (cfg mm) 352 2 fun α => f352) := entG b352 rs352 28 fun _ => f352_ok
noncomputable def b353 := bdy Tryz.f353
noncomputable def rs353 := Tryz.f353.results.toList
noncomputable def f353_2 {α : Type} (o : α) (c : Call' α) (n : Nat) (k : AV → Heap → α) (s1 : AV) (h : Heap) : α :=
  faF o 1 s1 fun v1 => faF o 0 v1 fun v2 => load1F o h v2 fun v3 => k (.tup [v3, (.i .i64 0)]) h
theorem f353_2_ok : R Pq o c n (cB (cB b353)) (kend Pq o c n w rs353 k) = fun t _ h => f353_2 o c n k (t 1) h := by kernel_rfl
noncomputable def f353_3K : Ex → K α := (nxK (fun t _ h => f353_2 o c n k (t 1) h) (kend Pq o c n w rs353 k))
noncomputable def f353_7 (s1 s28 : AV) (h : Heap) : α :=
  ifF o s28 (loadNF o h 13 s1 fun v4 => faF o 4 s1 fun v5 => faF o 4 v5 fun v6 => load1F o h v6 fun v7 => c 312 [v4, v7] h fun v8 h => pk k v8 h <| notF o v8 fun v9 => ifF o v9 (k (.tup [(.s 0 0), (.i .i64 7)]) h) (faF o 4 s1 fun v10 => faF o 4 v10 fun v11 => load1F o h v11 fun v12 => k (.tup [v12, (.i .i64 0)]) h)) (f353_2 o c n k s1 h)
theorem f353_7_ok : R Pq o c n (cB (cB (cB (cB (cB (cA (cB (cA (cB b353))))))))) (blockK (cI (cB (cA (cB b353)))) (f353_3K o c n k w)) = fun t _ h => f353_7 o c n k (t 1) (t 28) h := by kernel_rfl
noncomputable def f353_6 (s1 s6 s21 : AV) (h : Heap) : α :=
  ifF o s21 (loadNF o h 13 s1 fun v13 => c 373 [v13] h fun v14 h => pk k v14 h <| exF o v14 0 fun v15 => exF o v14 1 fun v16 => k (.tup [v15, v16]) h) (eqiF Pq o 3 s6 (.i .i64 9) fun v17 => ifF o v17 (f353_7 o c n k s1 v17 h) (eqiF Pq o 3 s6 (.i .i64 13) fun v18 => f353_7 o c n k s1 v18 h))
theorem f353_6_ok : R Pq o c n (cB (cB (cB (cA (cB (cA (cB b353))))))) (blockK (cI (cB (cA (cB b353)))) (f353_3K o c n k w)) = fun t _ h => f353_6 o c n k (t 1) (t 6) (t 21) h := (c_cond (by kernel_rfl) rfl (kseq (f353_7_ok o c n k w) rfl)).tk
noncomputable def f353_5 (s1 s6 s7 : AV) (h : Heap) : α :=
  ifF o s7 (dreg o h 7 fun base h => loadNF o (h.look 0) 13 s1 fun v19 => faF o 12 s1 fun v20 => rootF o v20 s1 <| load1F o (h.look 2) v20 fun v21 => ixF o 1 v21 (.i .i64 0) fun v22 => load1F o (h.look 14) v22 fun v23 => callD o c [] 312 [v19, v23] (h.look 0) fun v24 h => pnF v24 (fun x => hb h.shut fun hd => k x.pn hd) <| notF o v24 fun v25 => hb h.shut fun h => ifF o v25 (k (.tup [(.s 0 0), (.i .i64 14)]) h) (faF o 12 s1 fun v26 => load1F o h v26 fun v27 => ixF o 1 v27 (.i .i64 0) fun v28 => load1F o h v28 fun v29 => k (.tup [v29, (.i .i64 0)]) h)) (eqiF Pq o 3 s6 (.i .i64 8) fun v30 => ifF o v30 (f353_6 o c n k s1 s6 v30 h) (eqiF Pq o 3 s6 (.i .i64 12) fun v31 => f353_6 o c n k s1 s6 v31 h))
theorem f353_5_ok : R Pq o c n (cB (cA (cB (cA (cB b353))))) (blockK (cI (cB (cA (cB b353)))) (f353_3K o c n k w)) = fun t _ h => f353_5 o c n k (t 1) (t 6) (t 7) h := (c_cond (by kernel_rfl) rfl (kseq (f353_6_ok o c n k w) rfl)).tk
noncomputable def f353_4 (s1 s6 : AV) (h : Heap) : α :=
  eqiF Pq o 3 s6 (.i .i64 7) fun v32 => ifF o v32 (f353_5 o c n k s1 s6 v32 h) (eqiF Pq o 3 s6 (.i .i64 10) fun v33 => f353_5 o c n k s1 s6 v33 h)
theorem f353_4_ok : R Pq o c n (cB (cA (cB b353))) (f353_3K o c n k w) = fun t _ h => f353_4 o c n k (t 1) (t 6) h := (kblk (kseq (f353_5_ok o c n k w) rfl)).tk
noncomputable def f353_1 (s1 : AV) (h : Heap) : α :=
  faF o 4 s1 fun v34 => faF o 0 v34 fun v35 => load1F o h v35 fun v36 => f353_4 o c n k s1 v36 h
theorem f353_1_ok : R Pq o c n (cB b353) (kend Pq o c n w rs353 k) = fun t _ h => f353_1 o c n k (t 1) h := (kseq (f353_2_ok o c n k w) (kseq (f353_4_ok o c n k w) rfl)).tk
noncomputable def f353 (a0 : AV) (h : Heap) : α :=
  boxF o a0 h h.next fun v37 h => f353_1 o c n k v37 h
theorem f353_ok : R Pq o c n b353 (kend Pq o c n w rs353 k) = fun t _ h => f353 o c n k (t 0) h := (kseq (f353_1_ok o c n k w) rfl).tk
theorem f353_good : Good Pq (cfg mm) 353 (entF Pq (cfg mm) 353 1 fun α => f353) := entG b353 rs353 43 fun _ => f353_ok
noncomputable def b354 := bdy Tryz.f354
noncomputable def rs354 := Tryz.f354.results.toList
noncomputable def f354_2K : Ex → K α := (nxK (R Pq o c n (cB (cB b354)) (kend Pq o c n w rs354 k)) (kend Pq o c n w rs354 k))
noncomputable def f354_4 {α : Type} (o : α) (c : Call' α) (n : Nat) (k : AV → Heap → α) (m : Nat) : AVs (Heap → α) 6 :=
  Nat.rec (motive := fun _ => AVs (Heap → α) 6) (fun _ _ _ _ _ _ _ => o) (fun _ lp0 s2 s3 s6 s13 s14 s15 h => lssF Pq o 3 s15 s14 fun v1 => ifF o v1 (ixF o 1 s13 s15 fun v2 => load1F o h v2 fun v3 => loadNF o h 1 s3 fun v4 => c 138 [v4, v3, s2] h fun v5 h => pk k v5 h <| geqF Pq o 3 v5 (.i .i64 0) fun v6 => ifF o v6 (layF o 0 v3 [(.s 0 0), (.i .i64 0)] fun v7 => layF o 1 v5 v7 fun v8 => storeF o h 2 s6 (.agg v8) fun h => on o (resV Pq h [(s6, some 217), ((.b true), none)]) fun v => k v h) (addF Pq o 3 s15 (.i .i64 1) fun v9 => lp0 s2 s3 s6 s13 s14 v9 h)) (storeF o h 2 s6 (.agg [(.s 0 0), (.i .i64 0)]) fun h => on o (resV Pq h [(s6, some 217), ((.b false), none)]) fun v => k v h)) m
theorem f354_4_ok : R Pq o c n (cA (cB (cA (cB b354)))) (blockK (cI (cB (cA (cB b354)))) (f354_2K o c n k w)) = fun t _ h => f354_4 o c n k n (t 2) (t 3) (t 6) (t 13) (t 14) (t 15) h :=
  c_loop (F := fun m t _ h => f354_4 o c n k m (t 2) (t 3) (t 6) (t 13) (t 14) (t 15) h) (by kernel_rfl) (by kernel_rfl) fun m => by kernel_rfl
noncomputable def f354_3 (s2 s3 s6 s13 s14 s15 : AV) (h : Heap) : α :=
  f354_4 o c n k n s2 s3 s6 s13 s14 s15 h
theorem f354_3_ok : R Pq o c n (cB (cA (cB b354))) (f354_2K o c n k w) = fun t _ h => f354_3 o c n k (t 2) (t 3) (t 6) (t 13) (t 14) (t 15) h := (kblk (f354_4_ok o c n k w)).tk
noncomputable def f354_1 (s1 s2 s3 s6 : AV) (h : Heap) : α :=
  loadNF o h 1 s3 fun v10 => c 135 [v10, s1] h fun v11 h => pk k v11 h <| lenF o v11 fun v12 => f354_3 o c n k s2 s3 s6 v11 v12 (.i .i64 0) h
theorem f354_1_ok : R Pq o c n (cB b354) (kend Pq o c n w rs354 k) = fun t _ h => f354_1 o c n k (t 1) (t 2) (t 3) (t 6) h := (kseq rfl (kseq (f354_3_ok o c n k w) rfl)).tk
noncomputable def f354 (a0 a1 a2 : AV) (h : Heap) : α :=
  boxF o a0 h h.next fun v13 h => newF h h.next 2 [(.s 0 0), (.i .i64 0)] fun v14 h => f354_1 o c n k a1 a2 v13 v14 h
theorem f354_ok : R Pq o c n b354 (kend Pq o c n w rs354 k) = fun t _ h => f354 o c n k (t 0) (t 1) (t 2) h := (kseq (f354_1_ok o c n k w) rfl).tk
theorem f354_good : Good Pq (cfg mm) 354 (entF Pq (cfg mm) 354 3 fun α => f354) := entG b354 rs354 30 fun _ => f354_ok
noncomputable def b355 := bdy Tryz.f355
noncomputable def rs355 := Tryz.f355.results.toList
noncomputable def f355_3 {α : Type} (o : α) (c : Call' α) (n : Nat) (k : AV → Heap → α) (s3 s4 s6 : AV) (h : Heap) : α :=
  faF o 1 s3 fun v1 => load1F o h v1 fun v2 => ixF o 4 s6 v2 fun v3 => loadNF o h 4 v3 fun v4 => storeF o h 4 s4 v4 fun h => on o (resV Pq h [(s4, some 68), ((.b true), none)]) fun v => k v h
theorem f355_3_ok : R Pq o c n (cB (cB (cB b355))) (kend Pq o c n w rs355 k) = fun t _ h => f355_3 o c n k (t 3) (t 4) (t 6) h := by kernel_rfl
noncomputable def f355_4K : Ex → K α := (nxK (fun t _ h => f355_3 o c n k (t 3) (t 4) (t 6) h) (kend Pq o c n w rs355 k))
noncomputable def f355_5 (s3 s4 s6 s20 : AV) (h : Heap) : α :=
  ifF o s20 (storeF o h 4 s4 (.agg [(.b false), (.s 0 0), (.s 0 0), .nsl]) fun h => on o (resV Pq h [(s4, some 68), ((.b false), none)]) fun v => k v h) (f355_3 o c n k s3 s4 s6 h)
theorem f355_5_ok : R Pq o c n (cB (cA (cB (cB b355)))) (f355_4K o c n k w) = fun t _ h => f355_5 o c n k (t 3) (t 4) (t 6) (t 20) h := by kernel_rfl
noncomputable def f355_6K : Ex → K α := (nxK (fun t _ h => f355_5 o c n k (t 3) (t 4) (t 6) (t 20) h) (f355_4K o c n k w))
noncomputable def f355_2 (s3 s4 s6 : AV) (h : Heap) : α :=
  faF o 1 s3 fun v5 => load1F o h v5 fun v6 => lssF Pq o 3 v6 (.i .i64 0) fun v7 => bkF o false v7 (faF o 1 s3 fun v8 => load1F o h v8 fun v9 => lenF o s6 fun v10 => geqF Pq o 3 v9 v10 fun v11 => pickF o v7 (.b true) v11 fun v12 => f355_5 o c n k s3 s4 s6 v12 h) (pickF o v7 (.b true) (.tup []) fun v13 => f355_5 o c n k s3 s4 s6 v13 h)
theorem f355_2_ok : R Pq o c n (cB (cB b355)) (kend Pq o c n w rs355 k) = fun t _ h => f355_2 o c n k (t 3) (t 4) (t 6) h := (kseq (f355_3_ok o c n k w) (kseq (f355_5_ok o c n k w) (r_start 4 (by kernel_rfl) (q_guard 4 9 (3, false) (by kernel_rfl) (by kernel_rfl) (by kernel_rfl) rfl)))).tk
noncomputable def f355_1 (s2 s3 s4 : AV) (h : Heap) : α :=
  loadNF o h 1 s2 fun v14 => faF o 0 s3 fun v15 => load1F o h v15 fun v16 => c 183 [v14, v16] h fun v17 h => pk k v17 h <| f355_2 o c n k s3 s4 v17 h
theorem f355_1_ok : R Pq o c n (cB b355) (kend Pq o c n w rs355 k) = fun t _ h => f355_1 o c n k (t 2) (t 3) (t 4) h := (kseq (f355_2_ok o c n k w) rfl).tk
noncomputable def f355 (a0 a1 : AV) (h : Heap) : α :=
  boxF o a0 h h.next fun v18 h => boxF o a1 h h.next fun v19 h => newF h h.next 4 [(.b false), (.s 0 0), (.s 0 0), .nsl] fun v20 h => f355_1 o c n k v18 v19 v20 h
theorem f355_ok : R Pq o c n b355 (kend Pq o c n w rs355 k) = fun t _ h => f355 o c n k (t 0) (t 1) h := (kseq (f355_1_ok o c n k w) rfl).tk
theorem f355_good : Good Pq (cfg mm) 355 (entF Pq (cfg mm) 355 2 fun α => f355) := entG b355 rs355 27 fun _ => f355_ok
noncomputable def b356 := bdy Tryz.f356
noncomputable def rs356 := Tryz.f356.results.toList
noncomputable def f356_2 {α : Type} (o : α) (c : Call' α) (n : Nat) (k : AV → Heap → α) (s1 : AV) (h : Heap) : α :=
  notF o s1 fun v1 => k v1 h
theorem f356_2_ok : R Pq o c n (cB (cB b356)) (kend Pq o c n w rs356 k) = fun t _ h => f356_2 o c n k (t 1) h := by kernel_rfl
noncomputable def f356_3K : Ex → K α := (nxK (fun t _ h => f356_2 o c n k (t 1) h) (kend Pq o c n w rs356 k))
noncomputable def f356_6K : Ex → K α := (nxK (R Pq o c n (cB (cA (cB (cA (cB (cA (cB b356))))))) (blockK (cI (cB (cA (cB b356)))) (f356_3K o c n k w))) (blockK (cI (cB (cA (cB b356)))) (f356_3K o c n k w)))
noncomputable def f356_7 (s1 s18 : AV) (h : Heap) : α :=
  ifF o s18 (k s1 h) (f356_2 o c n k s1 h)
theorem f356_7_ok : R Pq o c n (cB (cB (cB (cA (cB (cA (cB b356))))))) (blockK (cI (cB (cA (cB b356)))) (f356_3K o c n k w)) = fun t _ h => f356_7 o c n k (t 1) (t 18) h := by kernel_rfl
noncomputable def f356_5 (s1 s2 s7 s8 : AV) (h : Heap) : α :=
  ifF o s8 (bkF o false s1 (faF o 1 s2 fun v2 => faF o 1 v2 fun v3 => load1F o h v3 fun v4 => notF o v4 fun v5 => pickF o s1 (.b true) v5 fun v6 => k v6 h) (pickF o s1 (.b true) (.tup []) fun v7 => k v7 h)) (eqiF Pq o 3 s7 (.i .i64 9) fun v8 => ifF o v8 (f356_7 o c n k s1 v8 h) (eqiF Pq o 3 s7 (.i .i64 13) fun v9 => f356_7 o c n k s1 v9 h))
theorem f356_5_ok : R Pq o c n (cB (cA (cB (cA (cB b356))))) (blockK (cI (cB (cA (cB b356)))) (f356_3K o c n k w)) = fun t _ h => f356_5 o c n k (t 1) (t 2) (t 7) (t 8) h := (c_cond (by kernel_rfl) (kseq rfl (r_start 2 (by kernel_rfl) (q_guard 2 6 (1, false) (by kernel_rfl) (by kernel_rfl) (by kernel_rfl) rfl))) (kseq (f356_7_ok o c n k w) rfl)).tk
noncomputable def f356_4 (s1 s2 s7 : AV) (h : Heap) : α :=
  eqiF Pq o 3 s7 (.i .i64 6) fun v10 => ifF o v10 (f356_5 o c n k s1 s2 s7 v10 h) (eqiF Pq o 3 s7 (.i .i64 11) fun v11 => f356_5 o c n k s1 s2 s7 v11 h)
theorem f356_4_ok : R Pq o c n (cB (cA (cB b356))) (f356_3K o c n k w) = fun t _ h => f356_4 o c n k (t 1) (t 2) (t 7) h := (kblk (kseq (f356_5_ok o c n k w) rfl)).tk
noncomputable def f356_1 (s1 s2 : AV) (h : Heap) : α :=
  faF o 4 s2 fun v12 => faF o 0 v12 fun v13 => load1F o h v13 fun v14 => f356_4 o c n k s1 s2 v14 h
theorem f356_1_ok : R Pq o c n (cB b356) (kend Pq o c n w rs356 k) = fun t _ h => f356_1 o c n k (t 1) (t 2) h := (kseq (f356_2_ok o c n k w) (kseq (f356_4_ok o c n k w) rfl)).tk
noncomputable def f356 (a0 a1 : AV) (h : Heap) : α :=
  boxF o a0 h h.next fun v15 h => f356_1 o c n k a1 v15 h
theorem f356_ok : R Pq o c n b356 (kend Pq o c n w rs356 k) = fun t _ h => f356 o c n k (t 0) (t 1) h := (kseq (f356_1_ok o c n k w) rfl).tk
theorem f356_good : Good Pq (cfg mm) 356 (entF Pq (cfg mm) 356 2 fun α => f356) := entG b356 rs356 24 fun _ => f356_ok
noncomputable def b357 := bdy Tryz.f357
noncomputable def rs357 := Tryz.f357.results.toList
noncomputable def f357 {α : Type} (o : α) (c : Call' α) (n : Nat) (k : AV → Heap → α) (a0 a1 a2 a3 : AV) (h : Heap) : α :=
  boxF o a0 h h.next fun v1 h => newF h h.next 2 [(.s 0 0), (.i .i64 0)] fun v2 h => dreg o h 11 fun base h => loadNF o (h.look 0) 1 v1 fun v3 => loadNF o (h.look 0) 1 v1 fun v4 => callD o c (hidD false [(.fn (.func 374) [] []), v4, a1, a2] [] (sBlk v1 [])) 374 [v4, a1, a2] (h.look 0) fun v5 h => pnF v5 (fun x => hb h.shut fun hd => k x.pn hd) <| callD o c [] 260 [v3, v5, a3] (h.look 0) fun v6 h => pnF v6 (fun x => hb h.shut fun hd => k x.pn hd) <| exF o v6 0 fun v7 => exF o v6 1 fun v8 => storeF o (h.look 511) 2 v2 v7 fun h => hb h.shut fun h => on o (resV Pq h [(v2, some 217), (v8, none)]) fun v => k v h
theorem f357_ok : R Pq o c n b357 (kend Pq o c n w rs357 k) = fun t _ h => f357 o c n k (t 0) (t 1) (t 2) (t 3) h := by kernel_rfl
theorem f357_good : Good Pq (cfg mm) 357 (entF Pq (cfg mm) 357 4 fun α => f357) := entG b357 rs357 19 fun _ => f357_ok
noncomputable def b359 := bdy Tryz.f359
noncomputable def rs359 := Tryz.f359.results.toList
noncomputable def f359_2K : Ex → K α := (nxK (R Pq o c n (cB (cB b359)) (kend Pq o c n w rs359 k)) (kend Pq o c n w rs359 k))
noncomputable def f359_4 {α : Type} (o : α) (c : Call' α) (n : Nat) (k : AV → Heap → α) (m : Nat) : AVs (Heap → α) 4 :=
  Nat.rec (motive := fun _ => AVs (Heap → α) 4) (fun _ _ _ _ _ => o) (fun _ lp0 s0 s1 s7 s8 h => lssF Pq o 3 s8 s7 fun v1 => ifF o v1 (ixF o 9 s0 s8 fun v2 => loadNF o h 9 v2 fun v3 => cfF o s1 [v3] c h fun v4 h => pk k v4 h <| ifF o v4 (k s8 h) (addF Pq o 3 s8 (.i .i64 1) fun v5 => lp0 s0 s1 s7 v5 h)) (k (.i .i64 (-1)) h)) m
theorem f359_4_ok : R Pq o c n (cA (cB (cA (cB b359)))) (blockK (cI (cB (cA (cB b359)))) (f359_2K o c n k w)) = fun t _ h => f359_4 o c n k n (t 0) (t 1) (t 7) (t 8) h :=
  c_loop (F := fun m t _ h => f359_4 o c n k m (t 0) (t 1) (t 7) (t 8) h) (by kernel_rfl) (by kernel_rfl) fun m => by kernel_rfl
noncomputable def f359_3 (s0 s1 s7 s8 : AV) (h : Heap) : α :=
  f359_4 o c n k n s0 s1 s7 s8 h
theorem f359_3_ok : R Pq o c n (cB (cA (cB b359))) (f359_2K o c n k w) = fun t _ h => f359_3 o c n k (t 0) (t 1) (t 7) (t 8) h := (kblk (f359_4_ok o c n k w)).tk
noncomputable def f359_1 (s0 s1 : AV) (h : Heap) : α :=
  lenF o s0 fun v6 => f359_3 o c n k s0 s1 v6 (.i .i64 0) h
theorem f359_1_ok : R Pq o c n (cB b359) (kend Pq o c n w rs359 k) = fun t _ h => f359_1 o c n k (t 0) (t 1) h := (kseq rfl (kseq (f359_3_ok o c n k w) rfl)).tk
noncomputable def f359 (a0 a1 : AV) (h : Heap) : α :=
  f359_1 o c n k a0 a1 h
theorem f359_ok : R Pq o c n b359 (kend Pq o c n w rs359 k) = fun t _ h => f359 o c n k (t 0) (t 1) h := (kseq (f359_1_ok o c n k w) rfl).tk
theorem f359_good : Good Pq (cfg mm) 359 (entF Pq (cfg mm) 359 2 fun α => f359) := entG b359 rs359 19 fun _ => f359_ok
noncomputable def b361 := bdy Tryz.f361
noncomputable def rs361 := Tryz.f361.results.toList
noncomputable def f361_3K : Ex → K α := (nxK (R Pq o c n (cB (cB (cB b361))) (kend Pq o c n w rs361 k)) (kend Pq o c n w rs361 k))
noncomputable def f361_5 {α : Type} (o : α) (c : Call' α) (n : Nat) (k : AV → Heap → α) (m : Nat) : AVs (Heap → α) 5 :=
  Nat.rec (motive := fun _ => AVs (Heap → α) 5) (fun _ _ _ _ _ _ => o) (fun _ lp0 s1 s2 s15 s16 s17 h => lssF Pq o 3 s17 s16 fun v1 => ifF o v1 (ixF o 2 s15 s17 fun v2 => loadNF o h 2 v2 fun v3 => newF h h.next 2 [(.s 0 0), (.s 0 0)] fun v4 h => storeF o h 2 v4 v3 fun h => ixF o 1 s1 s17 fun v5 => load1F o h v5 fun v6 => loadNF o h 2 v4 fun v7 => cfF o s2 [v7, v6] c h fun v8 h => pk k v8 h <| notF o v8 fun v9 => ifF o v9 (k (.b false) h) (addF Pq o 3 s17 (.i .i64 1) fun v10 => lp0 s1 s2 s15 s16 v10 h)) (k (.b true) h)) m
theorem f361_5_ok : R Pq o c n (cA (cB (cA (cB (cB b361))))) (blockK (cI (cB (cA (cB (cB b361))))) (f361_3K o c n k w)) = fun t _ h => f361_5 o c n k n (t 1) (t 2) (t 15) (t 16) (t 17) h :=
  c_loop (F := fun m t _ h => f361_5 o c n k m (t 1) (t 2) (t 15) (t 16) (t 17) h) (by kernel_rfl) (by kernel_rfl) fun m => by kernel_rfl
noncomputable def f361_4 (s1 s2 s15 s16 s17 : AV) (h : Heap) : α :=
  f361_5 o c n k n s1 s2 s15 s16 s17 h
theorem f361_4_ok : R Pq o c n (cB (cA (cB (cB b361)))) (f361_3K o c n k w) = fun t _ h => f361_4 o c n k (t 1) (t 2) (t 15) (t 16) (t 17) h := (kblk (f361_5_ok o c n k w)).tk
noncomputable def f361_2 (s0 s1 s2 : AV) (h : Heap) : α :=
  lenF o s0 fun v11 => f361_4 o c n k s1 s2 s0 v11 (.i .i64 0) h
theorem f361_2_ok : R Pq o c n (cB (cB b361)) (kend Pq o c n w rs361 k) = fun t _ h => f361_2 o c n k (t 0) (t 1) (t 2) h := (kseq rfl (kseq (f361_4_ok o c n k w) rfl)).tk
noncomputable def f361_1 (s0 s1 s2 : AV) (h : Heap) : α :=
  lenF o s0 fun v12 => lenF o s1 fun v13 => neiF Pq o 3 v12 v13 fun v14 => ifF o v14 (k (.b false) h) (f361_2 o c n k s0 s1 s2 h)
theorem f361_1_ok : R Pq o c n (cB b361) (kend Pq o c n w rs361 k) = fun t _ h => f361_1 o c n k (t 0) (t 1) (t 2) h := (kseq (f361_2_ok o c n k w) rfl).tk
noncomputable def f361 (a0 a1 a2 : AV) (h : Heap) : α :=
  f361_1 o c n k a0 a1 a2 h
theorem f361_ok : R Pq o c n b361 (kend Pq o c n w rs361 k) = fun t _ h => f361 o c n k (t 0) (t 1) (t 2) h := (kseq (f361_1_ok o c n k w) rfl).tk
theorem f361_good : Good Pq (cfg mm) 361 (entF Pq (cfg mm) 361 3 fun α => f361) := entG b361 rs361 32 fun _ => f361_ok
noncomputable def b363 := bdy Tryz.f363
noncomputable def rs363 := Tryz.f363.results.toList
noncomputable def f363_2K : Ex → K α := (nxK (R Pq o c n (cB (cB b363)) (kend Pq o c n w rs363 k)) (kend Pq o c n w rs363 k))
noncomputable def f363_4 {α : Type} (o : α) (c : Call' α) (n : Nat) (k : AV → Heap → α) (m : Nat) : AVs (Heap → α) 4 :=
  Nat.rec (motive := fun _ => AVs (Heap → α) 4) (fun _ _ _ _ _ => o) (fun _ lp0 s0 s1 s7 s8 h => lssF Pq o 3 s8 s7 fun v1 => ifF o v1 (ixF o 8 s0 s8 fun v2 => loadNF o h 8 v2 fun v3 => cfF o s1 [v3] c h fun v4 h => pk k v4 h <| ifF o v4 (k s8 h) (addF Pq o 3 s8 (.i .i64 1) fun v5 => lp0 s0 s1 s7 v5 h)) (k (.i .i64 (-1)) h)) m
theorem f363_4_ok : R Pq o c n (cA (cB (cA (cB b363)))) (blockK (cI (cB (cA (cB b363)))) (f363_2K o c n k w)) = fun t _ h => f363_4 o c n k n (t 0) (t 1) (t 7) (t 8) h :=
  c_loop (F := fun m t _ h => f363_4 o c n k m (t 0) (t 1) (t 7) (t 8) h) (by kernel_rfl) (by kernel_rfl) fun m => by kernel_rfl
noncomputable def f363_3 (s0 s1 s7 s8 : AV) (h : Heap) : α :=
  f363_4 o c n k n s0 s1 s7 s8 h
theorem f363_3_ok : R Pq o c n (cB (cA (cB b363))) (f363_2K o c n k w) = fun t _ h => f363_3 o c n k (t 0) (t 1) (t 7) (t 8) h := (kblk (f363_4_ok o c n k w)).tk
noncomputable def f363_1 (s0 s1 : AV) (h : Heap) : α :=
  lenF o s0 fun v6 => f363_3 o c n k s0 s1 v6 (.i .i64 0) h
theorem f363_1_ok : R Pq o c n (cB b363) (kend Pq o c n w rs363 k) = fun t _ h => f363_1 o c n k (t 0) (t 1) h := (kseq rfl (kseq (f363_3_ok o c n k w) rfl)).tk
noncomputable def f363 (a0 a1 : AV) (h : Heap) : α :=
  f363_1 o c n k a0 a1 h
theorem f363_ok : R Pq o c n b363 (kend Pq o c n w rs363 k) = fun t _ h => f363 o c n k (t 0) (t 1) h := (kseq (f363_1_ok o c n k w) rfl).tk
theorem f363_good : Good Pq (cfg mm) 363 (entF Pq (cfg mm) 363 2 fun α => f363) := entG b363 rs363 19 fun _ => f363_ok
noncomputable def b376 := bdy Tryz.f376
noncomputable def rs376 := Tryz.f376.results.toList
noncomputable def f376 {α : Type} (o : α) (c : Call' α) (n : Nat) (k : AV → Heap → α) (a0 a1 : AV) (h : Heap) : α :=
  boxF o a0 h h.next fun v1 h => loadNF o h 6 v1 fun v2 => loadNF o h 6 a1 fun v3 => c 188 [v2, v3] h fun v4 h => pk k v4 h <| k v4 h
theorem f376_ok : R Pq o c n b376 (kend Pq o c n w rs376 k) = fun t _ h => f376 o c n k (t 0) (t 1) h := by kernel_rfl
theorem f376_good : Good Pq (cfg mm) 376 (entF Pq (cfg mm) 376 2 fun α => f376) := entG b376 rs376 7 fun _ => f376_ok
end Go.Zev.Cf
