/-
  Printed by zgen.py: clean forms.
-/
import Derived.Test.YtagkkgadnicniaaGreatDoorH1
set_option linter.unusedVariables false
set_option maxRecDepth 20000
namespace Go.Zev.Is
open Go Go.Zev Go.Proofs
variable {mm : FuncId → Option (List AV → Option AV)}
noncomputable def b232 := bdy Tryz.f232
noncomputable def rs232 := Tryz.f232.results.toList
variable {α : Type} (o : α) (c : Call' α) (n : Nat) (k : AV → Heap → α) (w : FuncId → Nat)
noncomputable def f232_4 {α : Type} (o : α) (c : Call' α) (n : Nat) (k : AV → Heap → α) (s2 s3 : AV) (h : Heap) : α :=
  faF o 5 s2 fun v1 => load1F o h v1 fun v2 => c 230 [v2, (.fn (.func 272) [] [s3])] h fun v3 h => pk k v3 h <| notF o v3 fun v4 => k v4 h
theorem f232_4_ok : R Pq o c n (cB (cB (cB (cB b232)))) (kend Pq o c n w rs232 k) = fun t _ h => f232_4 o c n k (t 2) (t 3) h := by kernel_rfl
noncomputable def f232_5K : Ex → K α := (nxK (fun t _ h => f232_4 o c n k (t 2) (t 3) h) (kend Pq o c n w rs232 k))
noncomputable def f232_6 (s2 s3 s35 : AV) (h : Heap) : α :=
  ifF o s35 (k (.b false) h) (f232_4 o c n k s2 s3 h)
theorem f232_6_ok : R Pq o c n (cB (cA (cA (cB (cB (cB b232)))))) (blockK (cI (cA (cB (cB (cB b232))))) (f232_5K o c n k w)) = fun t _ h => f232_6 o c n k (t 2) (t 3) (t 35) h := by kernel_rfl
noncomputable def f232_7K : Ex → K α := (nxK (fun t _ h => f232_6 o c n k (t 2) (t 3) (t 35) h) (blockK (cI (cA (cB (cB (cB b232))))) (f232_5K o c n k w)))
noncomputable def f232_10 (s2 s3 s5 s35 : AV) (h : Heap) : α :=
  ifF o s35 (f232_6 o c n k s2 s3 s35 h) (faF o 3 s5 fun v5 => load1F o h v5 fun v6 => bkF o true v6 (faF o 4 s2 fun v7 => load1F o h v7 fun v8 => c 164 [v8] h fun v9 h => pk k v9 h <| notF o v9 fun v10 => pickF o v6 v10 (.b false) fun v11 => f232_6 o c n k s2 s3 v11 h) (pickF o v6 (.tup []) (.b false) fun v12 => f232_6 o c n k s2 s3 v12 h))
theorem f232_10_ok : R Pq o c n (cB (cB (cB (cB (cB (cA (cA (cA (cB (cB (cB b232))))))))))) (f232_7K o c n k w) = fun t _ h => f232_10 o c n k (t 2) (t 3) (t 5) (t 35) h := (c_cond (by kernel_rfl) rfl (r_start 3 (by kernel_rfl) (q_guard 3 7 (2, true) (by kernel_rfl) (by kernel_rfl) (by kernel_rfl) rfl))).tk
noncomputable def f232_11K : Ex → K α := (nxK (fun t _ h => f232_10 o c n k (t 2) (t 3) (t 5) (t 35) h) (f232_7K o c n k w))
noncomputable def f232_9 (s2 s3 s5 s35 : AV) (h : Heap) : α :=
  ifF o s35 (f232_6 o c n k s2 s3 s35 h) (faF o 2 s5 fun v13 => load1F o h v13 fun v14 => bkF o true v14 (faF o 0 s2 fun v15 => load1F o h v15 fun v16 => faF o 3 s2 fun v17 => load1F o h v17 fun v18 => c 271 [v16, v18] h fun v19 h => pk k v19 h <| notF o v19 fun v20 => pickF o v14 v20 (.b false) fun v21 => f232_10 o c n k s2 s3 s5 v21 h) (pickF o v14 (.tup []) (.b false) fun v22 => f232_10 o c n k s2 s3 s5 v22 h))
theorem f232_9_ok : R Pq o c n (cB (cB (cB (cA (cA (cA (cB (cB (cB b232))))))))) (f232_7K o c n k w) = fun t _ h => f232_9 o c n k (t 2) (t 3) (t 5) (t 35) h := (c_cond (by kernel_rfl) rfl (kseq (f232_10_ok o c n k w) (r_start 3 (by kernel_rfl) (q_guard 3 9 (2, true) (by kernel_rfl) (by kernel_rfl) (by kernel_rfl) rfl)))).tk
noncomputable def f232_12K : Ex → K α := (nxK (fun t _ h => f232_9 o c n k (t 2) (t 3) (t 5) (t 35) h) (f232_7K o c n k w))
noncomputable def f232_14 (s2 s3 s5 s51 s56 s60 : AV) (h : Heap) : α :=
  bkF o true s51 (pickF o s56 (.b true) s60 fun v23 => pickF o s51 v23 (.b false) fun v24 => f232_9 o c n k s2 s3 s5 v24 h) (pickF o s51 (.tup []) (.b false) fun v25 => f232_9 o c n k s2 s3 s5 v25 h)
theorem f232_14_ok : Q Pq o c (cO (cA (cB (cB (cA (cA (cA (cB (cB (cB b232)))))))))) (f232_12K o c n k w) 12 = fun t _ h => f232_14 o c n k (t 2) (t 3) (t 5) (t 51) (t 56) (t 60) h := (q_seg 12 12 (by kernel_rfl) (q_guard 12 13 (2, true) (by kernel_rfl) (by kernel_rfl) (by kernel_rfl) rfl)).tk
noncomputable def f232_13 (s2 s3 s5 s51 s56 : AV) (h : Heap) : α :=
  bkF o false s56 (faF o 2 s2 fun v26 => load1F o h v26 fun v27 => lensF o v27 fun v28 => gtrF Pq o 3 v28 (.i .i64 1000) fun v29 => f232_14 o c n k s2 s3 s5 s51 s56 v29 h) (f232_14 o c n k s2 s3 s5 s51 s56 (.tup []) h)
theorem f232_13_ok : Q Pq o c (cO (cA (cB (cB (cA (cA (cA (cB (cB (cB b232)))))))))) (f232_12K o c n k w) 8 = fun t _ h => f232_13 o c n k (t 2) (t 3) (t 5) (t 51) (t 56) h := (q_seg 8 8 (by kernel_rfl) (q_guard 8 12 (7, false) (by kernel_rfl) (by kernel_rfl) (by kernel_rfl) (f232_14_ok o c n k w))).tk
noncomputable def f232_8 (s2 s3 s5 s35 : AV) (h : Heap) : α :=
  ifF o s35 (f232_6 o c n k s2 s3 s35 h) (faF o 1 s5 fun v30 => load1F o h v30 fun v31 => bkF o true v31 (faF o 2 s2 fun v32 => load1F o h v32 fun v33 => c 270 [v33] h fun v34 h => pk k v34 h <| notF o v34 fun v35 => f232_13 o c n k s2 s3 s5 v31 v35 h) (f232_13 o c n k s2 s3 s5 v31 (.tup []) h))
theorem f232_8_ok : R Pq o c n (cB (cA (cA (cA (cB (cB (cB b232))))))) (f232_7K o c n k w) = fun t _ h => f232_8 o c n k (t 2) (t 3) (t 5) (t 35) h := (c_cond (by kernel_rfl) rfl (kseq (f232_9_ok o c n k w) (r_start 3 (by kernel_rfl) (q_guard 3 8 (2, true) (by kernel_rfl) (by kernel_rfl) (by kernel_rfl) (f232_13_ok o c n k w))))).tk
noncomputable def f232_15K : Ex → K α := (nxK (fun t _ h => f232_8 o c n k (t 2) (t 3) (t 5) (t 35) h) (f232_7K o c n k w))
noncomputable def f232_17 (s2 s3 s5 s39 s43 s46 : AV) (h : Heap) : α :=
  bkF o false s39 (pickF o s43 s46 (.b false) fun v36 => pickF o s39 (.b true) v36 fun v37 => f232_8 o c n k s2 s3 s5 v37 h) (pickF o s39 (.b true) (.tup []) fun v38 => f232_8 o c n k s2 s3 s5 v38 h)
theorem f232_17_ok : Q Pq o c (cO (cA (cA (cA (cA (cB (cB (cB b232)))))))) (f232_15K o c n k w) 11 = fun t _ h => f232_17 o c n k (t 2) (t 3) (t 5) (t 39) (t 43) (t 46) h := (q_seg 11 11 (by kernel_rfl) (q_guard 11 12 (3, false) (by kernel_rfl) (by kernel_rfl) (by kernel_rfl) rfl)).tk
noncomputable def f232_16 (s2 s3 s5 s39 s43 : AV) (h : Heap) : α :=
  bkF o true s43 (faF o 1 s2 fun v39 => load1F o h v39 fun v40 => gtrF Pq o 21 v40 (.i .i32 1) fun v41 => f232_17 o c n k s2 s3 s5 s39 s43 v41 h) (f232_17 o c n k s2 s3 s5 s39 s43 (.tup []) h)
theorem f232_16_ok : Q Pq o c (cO (cA (cA (cA (cA (cB (cB (cB b232)))))))) (f232_15K o c n k w) 8 = fun t _ h => f232_16 o c n k (t 2) (t 3) (t 5) (t 39) (t 43) h := (q_seg 8 8 (by kernel_rfl) (q_guard 8 11 (7, true) (by kernel_rfl) (by kernel_rfl) (by kernel_rfl) (f232_17_ok o c n k w))).tk
noncomputable def f232_3 (s2 s3 s5 : AV) (h : Heap) : α :=
  faF o 1 s2 fun v42 => load1F o h v42 fun v43 => lssF Pq o 21 v43 (.i .i32 0) fun v44 => bkF o false v44 (faF o 0 s2 fun v45 => load1F o h v45 fun v46 => eqiF Pq o 3 v46 (.i .i64 2) fun v47 => f232_16 o c n k s2 s3 s5 v44 v47 h) (f232_16 o c n k s2 s3 s5 v44 (.tup []) h)
theorem f232_3_ok : R Pq o c n (cB (cB (cB b232))) (kend Pq o c n w rs232 k) = fun t _ h => f232_3 o c n k (t 2) (t 3) (t 5) h := (kseq (f232_4_ok o c n k w) (kblk (kseq (f232_6_ok o c n k w) (kseq (f232_8_ok o c n k w) (r_start 4 (by kernel_rfl) (q_guard 4 8 (3, false) (by kernel_rfl) (by kernel_rfl) (by kernel_rfl) (f232_16_ok o c n k w))))))).tk
noncomputable def f232_18K : Ex → K α := (nxK (fun t _ h => f232_3 o c n k (t 2) (t 3) (t 5) h) (kend Pq o c n w rs232 k))
noncomputable def f232_19 (s2 s3 s5 s34 : AV) (h : Heap) : α :=
  ifF o s34 (k (.b false) h) (f232_3 o c n k s2 s3 s5 h)
theorem f232_19_ok : R Pq o c n (cB (cA (cB (cB b232)))) (f232_18K o c n k w) = fun t _ h => f232_19 o c n k (t 2) (t 3) (t 5) (t 34) h := by kernel_rfl
noncomputable def f232_20K : Ex → K α := (nxK (fun t _ h => f232_19 o c n k (t 2) (t 3) (t 5) (t 34) h) (f232_18K o c n k w))
noncomputable def f232_21 (s2 s3 s5 s15 s17 : AV) (h : Heap) : α :=
  pickF o s15 (.b true) s17 fun v48 => bkF o false v48 (loadNF o h 7 s5 fun v49 => faF o 1 s2 fun v50 => load1F o h v50 fun v51 => faF o 2 s2 fun v52 => load1F o h v52 fun v53 => faF o 3 s2 fun v54 => load1F o h v54 fun v55 => faF o 4 s2 fun v56 => load1F o h v56 fun v57 => faF o 5 s2 fun v58 => load1F o h v58 fun v59 => lenF o v59 fun v60 => c 269 [v49, v51, v53, v55, v57, v60] h fun v61 h => pk k v61 h <| notF o v61 fun v62 => pickF o v48 (.b true) v62 fun v63 => f232_19 o c n k s2 s3 s5 v63 h) (pickF o v48 (.b true) (.tup []) fun v64 => f232_19 o c n k s2 s3 s5 v64 h)
theorem f232_21_ok : Q Pq o c (cO (cA (cA (cB (cB b232))))) (f232_20K o c n k w) 5 = fun t _ h => f232_21 o c n k (t 2) (t 3) (t 5) (t 15) (t 17) h := (q_seg 5 7 (by kernel_rfl) (q_guard 7 21 (6, false) (by kernel_rfl) (by kernel_rfl) (by kernel_rfl) rfl)).tk
noncomputable def f232_2 (s2 s3 s5 s6 : AV) (h : Heap) : α :=
  notF o s6 fun v65 => bkF o false v65 (load1F o h s3 fun v66 => gtrF Pq o 3 v66 (.i .i64 40) fun v67 => f232_21 o c n k s2 s3 s5 v65 v67 h) (f232_21 o c n k s2 s3 s5 v65 (.tup []) h)
theorem f232_2_ok : R Pq o c n (cB (cB b232)) (kend Pq o c n w rs232 k) = fun t _ h => f232_2 o c n k (t 2) (t 3) (t 5) (t 6) h := (kseq (f232_3_ok o c n k w) (kseq (f232_19_ok o c n k w) (r_start 3 (by kernel_rfl) (q_guard 3 5 (2, false) (by kernel_rfl) (by kernel_rfl) (by kernel_rfl) (f232_21_ok o c n k w))))).tk
noncomputable def f232_1 (s2 s3 : AV) (h : Heap) : α :=
  faF o 0 s2 fun v68 => load1F o h v68 fun v69 => c 268 [v69] h fun v70 h => pk k v70 h <| exF o v70 0 fun v71 => exF o v70 1 fun v72 => newF h h.next 7 [(.b false), (.b false), (.b false), (.b false), (.i .i64 0), (.i .i64 0), (.i .i64 0)] fun v73 h => storeF o h 7 v73 v71 fun h => f232_2 o c n k s2 s3 v73 v72 h
theorem f232_1_ok : R Pq o c n (cB b232) (kend Pq o c n w rs232 k) = fun t _ h => f232_1 o c n k (t 2) (t 3) h := (kseq (f232_2_ok o c n k w) rfl).tk
noncomputable def f232 (a0 a1 : AV) (h : Heap) : α :=
  boxF o a0 h h.next fun v74 h => boxF o a1 h h.next fun v75 h => f232_1 o c n k v74 v75 h
theorem f232_ok : R Pq o c n b232 (kend Pq o c n w rs232 k) = fun t _ h => f232 o c n k (t 0) (t 1) h := (kseq (f232_1_ok o c n k w) rfl).tk
theorem f232_good : Good Pq (cfg mm) 232 (entF Pq (cfg mm) 232 2 fun α => f232) := entG b232 rs232 86 fun _ => f232_ok
noncomputable def b234 := bdy Tryz.f234
noncomputable def rs234 := Tryz.f234.results.toList
noncomputable def f234_2K : Ex → K α := (nxK (R Pq o c n (cB (cB b234)) (kend Pq o c n w rs234 k)) (kend Pq o c n w rs234 k))
noncomputable def f234_5K (lp0 : AVs (Heap → α) 5) : Ex → K α := (nxK (fun t _ h => lp0 (t 1) (t 2) (t 9) (t 10) (t 11) h) (blockK (cI (cB (cA (cB b234)))) (f234_2K o c n k w)))
noncomputable def f234_8K (lp0 : AVs (Heap → α) 5) : Ex → K α := (nxK (R Pq o c n (cB (cB (cB (cA (cA (cB (cA (cB b234)))))))) (f234_5K o c n k w lp0)) (f234_5K o c n k w lp0))
noncomputable def f234_10 {α : Type} (o : α) (c : Call' α) (n : Nat) (k : AV → Heap → α) (lp0 : AVs (Heap → α) 5) (s1 s2 s9 s10 s11 s32 : AV) (h : Heap) : α :=
  ifF o s32 (k (.b false) h) (addF Pq o 3 s11 (.i .i64 1) fun v1 => lp0 s1 s2 s9 s10 v1 h)
theorem f234_10_ok (lp0 : AVs (Heap → α) 5) : R Pq o c n (cB (cB (cA (cA (cB (cB (cA (cA (cB (cA (cB b234))))))))))) (blockK (cI (cA (cB (cB (cA (cA (cB (cA (cB b234))))))))) (f234_8K o c n k w lp0)) = fun t _ h => f234_10 o c n k lp0 (t 1) (t 2) (t 9) (t 10) (t 11) (t 32) h := by kernel_rfl
noncomputable def f234_11K (lp0 : AVs (Heap → α) 5) : Ex → K α := (nxK (fun t _ h => f234_10 o c n k lp0 (t 1) (t 2) (t 9) (t 10) (t 11) (t 32) h) (blockK (cI (cA (cB (cB (cA (cA (cB (cA (cB b234))))))))) (f234_8K o c n k w lp0)))
noncomputable def f234_15 (lp0 : AVs (Heap → α) 5) (s1 s2 s9 s10 s11 s20 s24 s30 : AV) (h : Heap) : α :=
  bkF o false s20 (pickF o s24 s30 (.b false) fun v2 => pickF o s20 (.b true) v2 fun v3 => f234_10 o c n k lp0 s1 s2 s9 s10 s11 v3 h) (pickF o s20 (.b true) (.tup []) fun v4 => f234_10 o c n k lp0 s1 s2 s9 s10 s11 v4 h)
theorem f234_15_ok (lp0 : AVs (Heap → α) 5) : Q Pq o c (cO (cA (cB (cA (cA (cB (cB (cA (cA (cB (cA (cB b234)))))))))))) (f234_11K o c n k w lp0) 15 = fun t _ h => f234_15 o c n k lp0 (t 1) (t 2) (t 9) (t 10) (t 11) (t 20) (t 24) (t 30) h := (q_seg 15 15 (by kernel_rfl) (q_guard 15 16 (4, false) (by kernel_rfl) (by kernel_rfl) (by kernel_rfl) rfl)).tk
noncomputable def f234_14 (lp0 : AVs (Heap → α) 5) (s1 s2 s9 s10 s11 s20 s24 s27 s29 : AV) (h : Heap) : α :=
  bkF o true s24 (pickF o s27 (.b true) s29 fun v5 => f234_15 o c n k lp0 s1 s2 s9 s10 s11 s20 s24 v5 h) (f234_15 o c n k lp0 s1 s2 s9 s10 s11 s20 s24 (.tup []) h)
theorem f234_14_ok (lp0 : AVs (Heap → α) 5) : Q Pq o c (cO (cA (cB (cA (cA (cB (cB (cA (cA (cB (cA (cB b234)))))))))))) (f234_11K o c n k w lp0) 14 = fun t _ h => f234_14 o c n k lp0 (t 1) (t 2) (t 9) (t 10) (t 11) (t 20) (t 24) (t 27) (t 29) h := (q_seg 14 14 (by kernel_rfl) (q_guard 14 15 (8, true) (by kernel_rfl) (by kernel_rfl) (by kernel_rfl) (f234_15_ok o c n k w lp0))).tk
noncomputable def f234_13 (lp0 : AVs (Heap → α) 5) (s1 s2 s7 s9 s10 s11 s20 s24 s27 : AV) (h : Heap) : α :=
  bkF o false s27 (gtrF Pq o 3 s7 (.i .i64 0) fun v6 => f234_14 o c n k lp0 s1 s2 s9 s10 s11 s20 s24 s27 v6 h) (f234_14 o c n k lp0 s1 s2 s9 s10 s11 s20 s24 s27 (.tup []) h)
theorem f234_13_ok (lp0 : AVs (Heap → α) 5) : Q Pq o c (cO (cA (cB (cA (cA (cB (cB (cA (cA (cB (cA (cB b234)))))))))))) (f234_11K o c n k w lp0) 12 = fun t _ h => f234_13 o c n k lp0 (t 1) (t 2) (t 7) (t 9) (t 10) (t 11) (t 20) (t 24) (t 27) h := (q_seg 12 12 (by kernel_rfl) (q_guard 12 14 (11, false) (by kernel_rfl) (by kernel_rfl) (by kernel_rfl) (f234_14_ok o c n k w lp0))).tk
noncomputable def f234_12 (lp0 : AVs (Heap → α) 5) (s1 s2 s7 s9 s10 s11 s20 s24 : AV) (h : Heap) : α :=
  bkF o true s24 (notF o s2 fun v7 => f234_13 o c n k lp0 s1 s2 s7 s9 s10 s11 s20 s24 v7 h) (f234_13 o c n k lp0 s1 s2 s7 s9 s10 s11 s20 s24 (.tup []) h)
theorem f234_12_ok (lp0 : AVs (Heap → α) 5) : Q Pq o c (cO (cA (cB (cA (cA (cB (cB (cA (cA (cB (cA (cB b234)))))))))))) (f234_11K o c n k w lp0) 9 = fun t _ h => f234_12 o c n k lp0 (t 1) (t 2) (t 7) (t 9) (t 10) (t 11) (t 20) (t 24) h := (q_seg 9 9 (by kernel_rfl) (q_guard 9 12 (8, true) (by kernel_rfl) (by kernel_rfl) (by kernel_rfl) (f234_13_ok o c n k w lp0))).tk
noncomputable def f234_9 (lp0 : AVs (Heap → α) 5) (s1 s2 s7 s8 s9 s10 s11 : AV) (h : Heap) : α :=
  loadNF o h 9 s8 fun v8 => c 273 [v8, s1] h fun v9 h => pk k v9 h <| notF o v9 fun v10 => bkF o false v10 (faF o 0 s8 fun v11 => load1F o h v11 fun v12 => eqiF Pq o 3 v12 (.i .i64 11) fun v13 => f234_12 o c n k lp0 s1 s2 s7 s9 s10 s11 v10 v13 h) (f234_12 o c n k lp0 s1 s2 s7 s9 s10 s11 v10 (.tup []) h)
theorem f234_9_ok (lp0 : AVs (Heap → α) 5) : R Pq o c n (cB (cA (cA (cB (cB (cA (cA (cB (cA (cB b234)))))))))) (blockK (cI (cA (cB (cB (cA (cA (cB (cA (cB b234))))))))) (f234_8K o c n k w lp0)) = fun t _ h => f234_9 o c n k lp0 (t 1) (t 2) (t 7) (t 8) (t 9) (t 10) (t 11) h := (kseq (f234_10_ok o c n k w lp0) (r_start 5 (by kernel_rfl) (q_guard 5 9 (4, false) (by kernel_rfl) (by kernel_rfl) (by kernel_rfl) (f234_12_ok o c n k w lp0)))).tk
noncomputable def f234_7 (lp0 : AVs (Heap → α) 5) (s1 s2 s9 s10 s11 : AV) (h : Heap) : α :=
  ixF o 9 s9 s11 fun v14 => loadNF o h 9 v14 fun v15 => newF h h.next 9 [(.i .i64 0), (.i .i32 0), (.s 0 0), (.s 0 0), .nsl, .nsl, .nsl, .nsl, (.i .i64 0)] fun v16 h => storeF o h 9 v16 v15 fun h => f234_9 o c n k lp0 s1 s2 s11 v16 s9 s10 s11 h
theorem f234_7_ok (lp0 : AVs (Heap → α) 5) : R Pq o c n (cB (cB (cA (cA (cB (cA (cB b234))))))) (f234_5K o c n k w lp0) = fun t _ h => f234_7 o c n k lp0 (t 1) (t 2) (t 9) (t 10) (t 11) h := (kseq rfl (kblk (kseq (f234_9_ok o c n k w lp0) rfl))).tk
noncomputable def f234_6 (lp0 : AVs (Heap → α) 5) (s1 s2 s9 s10 s11 s12 : AV) (h : Heap) : α :=
  ifF o s12 (f234_7 o c n k lp0 s1 s2 s9 s10 s11 h) (k (.b true) h)
theorem f234_6_ok (lp0 : AVs (Heap → α) 5) : R Pq o c n (cB (cA (cA (cB (cA (cB b234)))))) (f234_5K o c n k w lp0) = fun t _ h => f234_6 o c n k lp0 (t 1) (t 2) (t 9) (t 10) (t 11) (t 12) h := (kseq (f234_7_ok o c n k w lp0) rfl).tk
noncomputable def f234_4 (m : Nat) : AVs (Heap → α) 5 :=
  Nat.rec (motive := fun _ => AVs (Heap → α) 5) (fun _ _ _ _ _ _ => o) (fun _ lp0 s1 s2 s9 s10 s11 h => lssF Pq o 3 s11 s10 fun v17 => f234_6 o c n k lp0 s1 s2 s9 s10 s11 v17 h) m
theorem f234_4_ok : R Pq o c n (cA (cB (cA (cB b234)))) (blockK (cI (cB (cA (cB b234)))) (f234_2K o c n k w)) = fun t _ h => f234_4 o c n k n (t 1) (t 2) (t 9) (t 10) (t 11) h :=
  c_loop (F := fun m t _ h => f234_4 o c n k m (t 1) (t 2) (t 9) (t 10) (t 11) h) (by kernel_rfl) (by kernel_rfl) fun m => (kseq (f234_6_ok o c n k w (f234_4 o c n k m)) rfl).tk
noncomputable def f234_3 (s1 s2 s9 s10 s11 : AV) (h : Heap) : α :=
  f234_4 o c n k n s1 s2 s9 s10 s11 h
theorem f234_3_ok : R Pq o c n (cB (cA (cB b234))) (f234_2K o c n k w) = fun t _ h => f234_3 o c n k (t 1) (t 2) (t 9) (t 10) (t 11) h := (kblk (f234_4_ok o c n k w)).tk
noncomputable def f234_1 (s0 s1 s2 : AV) (h : Heap) : α :=
  lenF o s0 fun v18 => f234_3 o c n k s1 s2 s0 v18 (.i .i64 0) h
theorem f234_1_ok : R Pq o c n (cB b234) (kend Pq o c n w rs234 k) = fun t _ h => f234_1 o c n k (t 0) (t 1) (t 2) h := (kseq rfl (kseq (f234_3_ok o c n k w) rfl)).tk
noncomputable def f234 (a0 a1 a2 : AV) (h : Heap) : α :=
  f234_1 o c n k a0 a1 a2 h
theorem f234_ok : R Pq o c n b234 (kend Pq o c n w rs234 k) = fun t _ h => f234 o c n k (t 0) (t 1) (t 2) h := (kseq (f234_1_ok o c n k w) rfl).tk
theorem f234_good : Good Pq (cfg mm) 234 (entF Pq (cfg mm) 234 3 fun α => f234) := entG b234 rs234 34 fun _ => f234_ok
noncomputable def b235 := bdy Tryz.f235
noncomputable def rs235 := Tryz.f235.results.toList
noncomputable def f235_3K : Ex → K α := (nxK (R Pq o c n (cB (cB (cB b235))) (kend Pq o c n w rs235 k)) (kend Pq o c n w rs235 k))
noncomputable def f235_2 {α : Type} (o : α) (c : Call' α) (n : Nat) (k : AV → Heap → α) (s0 : AV) (h : Heap) : α :=
  nesF Pq o 9 s0 (.s 0 0) fun v1 => bkF o true v1 (lensF o s0 fun v2 => leqF Pq o 3 v2 (.i .i64 20) fun v3 => pickF o v1 v3 (.b false) fun v4 => k v4 h) (pickF o v1 (.tup []) (.b false) fun v5 => k v5 h)
theorem f235_2_ok : R Pq o c n (cB (cB b235)) (kend Pq o c n w rs235 k) = fun t _ h => f235_2 o c n k (t 0) h := (kseq rfl (r_start 3 (by kernel_rfl) (q_guard 3 6 (2, true) (by kernel_rfl) (by kernel_rfl) (by kernel_rfl) rfl))).tk
noncomputable def f235_4K : Ex → K α := (nxK (fun t _ h => f235_2 o c n k (t 0) h) (kend Pq o c n w rs235 k))
noncomputable def f235_7K (lp0 : AVs (Heap → α) 3) : Ex → K α := (nxK (fun t _ h => lp0 (t 0) (t 1) (t 8) h) (blockK (cI (cB (cA (cB b235)))) (f235_4K o c n k w)))
noncomputable def f235_11 {α : Type} (o : α) (c : Call' α) (n : Nat) (k : AV → Heap → α) (lp0 : AVs (Heap → α) 3) (s0 s1 s8 s35 : AV) (h : Heap) : α :=
  ifF o s35 (k (.b false) h) (lp0 s0 s1 s8 h)
theorem f235_11_ok (lp0 : AVs (Heap → α) 3) : R Pq o c n (cB (cB (cA (cB (cB (cA (cA (cB (cA (cB b235)))))))))) (blockK (cI (cB (cB (cA (cA (cB (cA (cB b235)))))))) (f235_7K o c n k w lp0)) = fun t _ h => f235_11 o c n k lp0 (t 0) (t 1) (t 8) (t 35) h := by kernel_rfl
noncomputable def f235_12K (lp0 : AVs (Heap → α) 3) : Ex → K α := (nxK (fun t _ h => f235_11 o c n k lp0 (t 0) (t 1) (t 8) (t 35) h) (blockK (cI (cB (cB (cA (cA (cB (cA (cB b235)))))))) (f235_7K o c n k w lp0)))
noncomputable def f235_17 (lp0 : AVs (Heap → α) 3) (s0 s1 s8 s21 s30 s33 : AV) (h : Heap) : α :=
  bkF o false s21 (pickF o s30 s33 (.b false) fun v6 => pickF o s21 (.b true) v6 fun v7 => f235_11 o c n k lp0 s0 s1 s8 v7 h) (pickF o s21 (.b true) (.tup []) fun v8 => f235_11 o c n k lp0 s0 s1 s8 v8 h)
theorem f235_17_ok (lp0 : AVs (Heap → α) 3) : Q Pq o c (cO (cA (cB (cA (cB (cB (cA (cA (cB (cA (cB b235))))))))))) (f235_12K o c n k w lp0) 21 = fun t _ h => f235_17 o c n k lp0 (t 0) (t 1) (t 8) (t 21) (t 30) (t 33) h := (q_seg 21 21 (by kernel_rfl) (q_guard 21 22 (8, false) (by kernel_rfl) (by kernel_rfl) (by kernel_rfl) rfl)).tk
noncomputable def f235_16 (lp0 : AVs (Heap → α) 3) (s0 s1 s6 s8 s21 s30 : AV) (h : Heap) : α :=
  bkF o true s30 (c 274 [s6] h fun v9 h => pk k v9 h <| notF o v9 fun v10 => f235_17 o c n k lp0 s0 s1 s8 s21 s30 v10 h) (f235_17 o c n k lp0 s0 s1 s8 s21 s30 (.tup []) h)
theorem f235_16_ok (lp0 : AVs (Heap → α) 3) : Q Pq o c (cO (cA (cB (cA (cB (cB (cA (cA (cB (cA (cB b235))))))))))) (f235_12K o c n k w lp0) 18 = fun t _ h => f235_16 o c n k lp0 (t 0) (t 1) (t 6) (t 8) (t 21) (t 30) h := (q_seg 18 18 (by kernel_rfl) (q_guard 18 21 (17, true) (by kernel_rfl) (by kernel_rfl) (by kernel_rfl) (f235_17_ok o c n k w lp0))).tk
noncomputable def f235_15 (lp0 : AVs (Heap → α) 3) (s0 s1 s6 s8 s21 s25 s28 : AV) (h : Heap) : α :=
  bkF o false s21 (pickF o s25 s28 (.b false) fun v11 => f235_16 o c n k lp0 s0 s1 s6 s8 s21 v11 h) (f235_16 o c n k lp0 s0 s1 s6 s8 s21 (.tup []) h)
theorem f235_15_ok (lp0 : AVs (Heap → α) 3) : Q Pq o c (cO (cA (cB (cA (cB (cB (cA (cA (cB (cA (cB b235))))))))))) (f235_12K o c n k w lp0) 16 = fun t _ h => f235_15 o c n k lp0 (t 0) (t 1) (t 6) (t 8) (t 21) (t 25) (t 28) h := (q_seg 16 16 (by kernel_rfl) (q_guard 16 18 (8, false) (by kernel_rfl) (by kernel_rfl) (by kernel_rfl) (f235_16_ok o c n k w lp0))).tk
noncomputable def f235_14 (lp0 : AVs (Heap → α) 3) (s0 s1 s6 s8 s21 s25 : AV) (h : Heap) : α :=
  bkF o true s25 (c 236 [s6] h fun v12 h => pk k v12 h <| notF o v12 fun v13 => f235_15 o c n k lp0 s0 s1 s6 s8 s21 s25 v13 h) (f235_15 o c n k lp0 s0 s1 s6 s8 s21 s25 (.tup []) h)
theorem f235_14_ok (lp0 : AVs (Heap → α) 3) : Q Pq o c (cO (cA (cB (cA (cB (cB (cA (cA (cB (cA (cB b235))))))))))) (f235_12K o c n k w lp0) 13 = fun t _ h => f235_14 o c n k lp0 (t 0) (t 1) (t 6) (t 8) (t 21) (t 25) h := (q_seg 13 13 (by kernel_rfl) (q_guard 13 16 (12, true) (by kernel_rfl) (by kernel_rfl) (by kernel_rfl) (f235_15_ok o c n k w lp0))).tk
noncomputable def f235_13 (lp0 : AVs (Heap → α) 3) (s0 s1 s6 s8 s15 s19 : AV) (h : Heap) : α :=
  pickF o s15 s19 (.b false) fun v14 => bkF o false v14 (c 265 [s6] h fun v15 h => pk k v15 h <| notF o v15 fun v16 => f235_14 o c n k lp0 s0 s1 s6 s8 v14 v16 h) (f235_14 o c n k lp0 s0 s1 s6 s8 v14 (.tup []) h)
theorem f235_13_ok (lp0 : AVs (Heap → α) 3) : Q Pq o c (cO (cA (cB (cA (cB (cB (cA (cA (cB (cA (cB b235))))))))))) (f235_12K o c n k w lp0) 7 = fun t _ h => f235_13 o c n k lp0 (t 0) (t 1) (t 6) (t 8) (t 15) (t 19) h := (q_seg 7 9 (by kernel_rfl) (q_guard 9 13 (8, false) (by kernel_rfl) (by kernel_rfl) (by kernel_rfl) (f235_14_ok o c n k w lp0))).tk
noncomputable def f235_10 (lp0 : AVs (Heap → α) 3) (s0 s1 s5 s6 s8 : AV) (h : Heap) : α :=
  eqiF Pq o 3 s5 (.i .i64 0) fun v17 => bkF o true v17 (cfF o s1 [s6] c h fun v18 h => pk k v18 h <| notF o v18 fun v19 => f235_13 o c n k lp0 s0 s1 s6 s8 v17 v19 h) (f235_13 o c n k lp0 s0 s1 s6 s8 v17 (.tup []) h)
theorem f235_10_ok (lp0 : AVs (Heap → α) 3) : R Pq o c n (cB (cA (cB (cB (cA (cA (cB (cA (cB b235))))))))) (blockK (cI (cB (cB (cA (cA (cB (cA (cB b235)))))))) (f235_7K o c n k w lp0)) = fun t _ h => f235_10 o c n k lp0 (t 0) (t 1) (t 5) (t 6) (t 8) h := (kseq (f235_11_ok o c n k w lp0) (r_start 3 (by kernel_rfl) (q_guard 3 7 (2, true) (by kernel_rfl) (by kernel_rfl) (by kernel_rfl) (f235_13_ok o c n k w lp0)))).tk
noncomputable def f235_9 (lp0 : AVs (Heap → α) 3) (s0 s1 s8 s9 : AV) (h : Heap) : α :=
  exF o s9 1 fun v20 => exF o s9 2 fun v21 => f235_10 o c n k lp0 s0 s1 v20 v21 s8 h
theorem f235_9_ok (lp0 : AVs (Heap → α) 3) : R Pq o c n (cB (cB (cA (cA (cB (cA (cB b235))))))) (f235_7K o c n k w lp0) = fun t _ h => f235_9 o c n k lp0 (t 0) (t 1) (t 8) (t 9) h := (kblk (kseq (f235_10_ok o c n k w lp0) rfl)).tk
noncomputable def f235_8 (lp0 : AVs (Heap → α) 3) (s0 s1 s8 s9 s10 : AV) (h : Heap) : α :=
  ifF o s10 (f235_9 o c n k lp0 s0 s1 s8 s9 h) (f235_2 o c n k s0 h)
theorem f235_8_ok (lp0 : AVs (Heap → α) 3) : R Pq o c n (cB (cA (cA (cB (cA (cB b235)))))) (f235_7K o c n k w lp0) = fun t _ h => f235_8 o c n k lp0 (t 0) (t 1) (t 8) (t 9) (t 10) h := (kseq (f235_9_ok o c n k w lp0) rfl).tk
noncomputable def f235_6 (m : Nat) : AVs (Heap → α) 3 :=
  Nat.rec (motive := fun _ => AVs (Heap → α) 3) (fun _ _ _ _ => o) (fun _ lp0 s0 s1 s8 h => nextN o h s8 fun v22 h => exF o v22 0 fun v23 => f235_8 o c n k lp0 s0 s1 s8 v22 v23 h) m
theorem f235_6_ok : R Pq o c n (cA (cB (cA (cB b235)))) (blockK (cI (cB (cA (cB b235)))) (f235_4K o c n k w)) = fun t _ h => f235_6 o c n k n (t 0) (t 1) (t 8) h :=
  c_loop (F := fun m t _ h => f235_6 o c n k m (t 0) (t 1) (t 8) h) (by kernel_rfl) (by kernel_rfl) fun m => (kseq (f235_8_ok o c n k w (f235_6 o c n k m)) rfl).tk
noncomputable def f235_5 (s0 s1 s8 : AV) (h : Heap) : α :=
  f235_6 o c n k n s0 s1 s8 h
theorem f235_5_ok : R Pq o c n (cB (cA (cB b235))) (f235_4K o c n k w) = fun t _ h => f235_5 o c n k (t 0) (t 1) (t 8) h := (kblk (f235_6_ok o c n k w)).tk
noncomputable def f235_1 (s0 s1 : AV) (h : Heap) : α :=
  iterA o h h.next s0 fun v24 h => f235_5 o c n k s0 s1 v24 h
theorem f235_1_ok : R Pq o c n (cB b235) (kend Pq o c n w rs235 k) = fun t _ h => f235_1 o c n k (t 0) (t 1) h := (kseq (f235_2_ok o c n k w) (kseq (f235_5_ok o c n k w) rfl)).tk
noncomputable def f235 (a0 a1 : AV) (h : Heap) : α :=
  f235_1 o c n k a0 a1 h
theorem f235_ok : R Pq o c n b235 (kend Pq o c n w rs235 k) = fun t _ h => f235 o c n k (t 0) (t 1) h := (kseq (f235_1_ok o c n k w) rfl).tk
theorem f235_good : Good Pq (cfg mm) 235 (entF Pq (cfg mm) 235 2 fun α => f235) := entG b235 rs235 43 fun _ => f235_ok
noncomputable def b236 := bdy Tryz.f236
noncomputable def rs236 := Tryz.f236.results.toList
noncomputable def f236_2K : Ex → K α := (nxK (R Pq o c n (cB (cB b236)) (kend Pq o c n w rs236 k)) (kend Pq o c n w rs236 k))
noncomputable def f236_1 {α : Type} (o : α) (c : Call' α) (n : Nat) (k : AV → Heap → α) (s0 : AV) (h : Heap) : α :=
  geqF Pq o 21 s0 (.i .i32 65) fun v1 => bkF o true v1 (leqF Pq o 21 s0 (.i .i32 90) fun v2 => pickF o v1 v2 (.b false) fun v3 => k v3 h) (pickF o v1 (.tup []) (.b false) fun v4 => k v4 h)
theorem f236_1_ok : R Pq o c n (cB b236) (kend Pq o c n w rs236 k) = fun t _ h => f236_1 o c n k (t 0) h := (kseq rfl (r_start 3 (by kernel_rfl) (q_guard 3 5 (2, true) (by kernel_rfl) (by kernel_rfl) (by kernel_rfl) rfl))).tk
noncomputable def f236 (a0 : AV) (h : Heap) : α :=
  f236_1 o c n k a0 h
theorem f236_ok : R Pq o c n b236 (kend Pq o c n w rs236 k) = fun t _ h => f236 o c n k (t 0) h := (kseq (f236_1_ok o c n k w) rfl).tk
theorem f236_good : Good Pq (cfg mm) 236 (entF Pq (cfg mm) 236 1 fun α => f236) := entG b236 rs236 9 fun _ => f236_ok
noncomputable def b238 := bdy Tryz.f238
noncomputable def rs238 := Tryz.f238.results.toList
noncomputable def f238 {α : Type} (o : α) (c : Call' α) (n : Nat) (k : AV → Heap → α) (a0 a1 : AV) (h : Heap) : α :=
  boxF o a0 h h.next fun v1 h => loadNF o h 1 v1 fun v2 => c 84 [v2, a1] h fun v3 h => pk k v3 h <| geqF Pq o 3 v3 (.i .i64 0) fun v4 => ifF o v4 (faF o 0 v1 fun v5 => load1F o h v5 fun v6 => ixF o 4 v6 v3 fun v7 => loadNF o h 4 v7 fun v8 => k (.ifc 34 v8) h) (k .nifc h)
theorem f238_ok : R Pq o c n b238 (kend Pq o c n w rs238 k) = fun t _ h => f238 o c n k (t 0) (t 1) h := by kernel_rfl
theorem f238_good : Good Pq (cfg mm) 238 (entF Pq (cfg mm) 238 2 fun α => f238) := entG b238 rs238 17 fun _ => f238_ok
noncomputable def b240 := bdy Tryz.f240
noncomputable def rs240 := Tryz.f240.results.toList
noncomputable def f240_4K : Ex → K α := (nxK (R Pq o c n (cB (cB (cB (cB b240)))) (kend Pq o c n w rs240 k)) (kend Pq o c n w rs240 k))
noncomputable def f240_6 {α : Type} (o : α) (c : Call' α) (n : Nat) (k : AV → Heap → α) (m : Nat) : AVs (Heap → α) 7 :=
  Nat.rec (motive := fun _ => AVs (Heap → α) 7) (fun _ _ _ _ _ _ _ _ => o) (fun _ lp0 s3 s4 s9 s10 s16 s17 s18 h => lssF Pq o 3 s18 s17 fun v1 => ifF o v1 (ixF o 8 s16 s18 fun v2 => loadNF o h 8 v2 fun v3 => newF h h.next 8 [(.i .i64 0), (.i .i32 0), (.s 0 0), (.s 0 0), (.s 0 0), .nsl, (.s 0 0), (.i .i64 0)] fun v4 h => storeF o h 8 v4 v3 fun h => loadNF o h 1 s3 fun v5 => loadNF o h 3 s4 fun v6 => loadNF o h 8 v4 fun v7 => c 179 [v5, v6, v7] h fun v8 h => pk k v8 h <| exF o v8 0 fun v9 => exF o v8 1 fun v10 => exF o v8 2 fun v11 => newF h h.next 8 [(.i .i64 0), (.i .i32 0), (.s 0 0), (.s 0 0), (.s 0 0), .nsl, (.s 0 0), (.i .i64 0)] fun v12 h => storeF o h 8 v12 v9 fun h => neiF Pq o 3 v11 (.i .i64 0) fun v13 => ifF o v13 (k (.tup [.nsl, .nsl, v11]) h) (loadNF o h 8 v12 fun v14 => fil1 o 8 1 0 v14 [[(.i .i64 0), (.i .i32 0), (.s 0 0), (.s 0 0), (.s 0 0), .nsl, (.s 0 0), (.i .i64 0)]] fun v15 => newEF h h.next 8 1 v15 fun v16 h => appX Pq o h h.next 39 39 s9 v16 fun v17 h => fil1 o 1 1 0 v10 [[(.s 0 0)]] fun v18 => newEF h h.next 1 1 v18 fun v19 h => appX Pq o h h.next 56 56 s10 v19 fun v20 h => addF Pq o 3 s18 (.i .i64 1) fun v21 => lp0 s3 s4 v17 v20 s16 s17 v21 h)) (k (.tup [s9, s10, (.i .i64 0)]) h)) m
theorem f240_6_ok : R Pq o c n (cA (cB (cA (cB (cB (cB b240)))))) (blockK (cI (cB (cA (cB (cB (cB b240)))))) (f240_4K o c n k w)) = fun t _ h => f240_6 o c n k n (t 3) (t 4) (t 9) (t 10) (t 16) (t 17) (t 18) h :=
  c_loop (F := fun m t _ h => f240_6 o c n k m (t 3) (t 4) (t 9) (t 10) (t 16) (t 17) (t 18) h) (by kernel_rfl) (by kernel_rfl) fun m => by kernel_rfl
noncomputable def f240_5 (s3 s4 s9 s10 s16 s17 s18 : AV) (h : Heap) : α :=
  f240_6 o c n k n s3 s4 s9 s10 s16 s17 s18 h
theorem f240_5_ok : R Pq o c n (cB (cA (cB (cB (cB b240))))) (f240_4K o c n k w) = fun t _ h => f240_5 o c n k (t 3) (t 4) (t 9) (t 10) (t 16) (t 17) (t 18) h := (kblk (f240_6_ok o c n k w)).tk
noncomputable def f240_3 (s2 s3 s4 s9 s10 : AV) (h : Heap) : α :=
  lenF o s2 fun v22 => f240_5 o c n k s3 s4 s9 s10 s2 v22 (.i .i64 0) h
theorem f240_3_ok : R Pq o c n (cB (cB (cB b240))) (kend Pq o c n w rs240 k) = fun t _ h => f240_3 o c n k (t 2) (t 3) (t 4) (t 9) (t 10) h := (kseq rfl (kseq (f240_5_ok o c n k w) rfl)).tk
noncomputable def f240_2 (s2 s3 s4 s9 : AV) (h : Heap) : α :=
  f240_3 o c n k s2 s3 s4 s9 .nsl h
theorem f240_2_ok : R Pq o c n (cB (cB b240)) (kend Pq o c n w rs240 k) = fun t _ h => f240_2 o c n k (t 2) (t 3) (t 4) (t 9) h := (kseq (f240_3_ok o c n k w) rfl).tk
noncomputable def f240_1 (s2 s3 s4 : AV) (h : Heap) : α :=
  f240_2 o c n k s2 s3 s4 .nsl h
theorem f240_1_ok : R Pq o c n (cB b240) (kend Pq o c n w rs240 k) = fun t _ h => f240_1 o c n k (t 2) (t 3) (t 4) h := (kseq (f240_2_ok o c n k w) rfl).tk
noncomputable def f240 (a0 a1 a2 : AV) (h : Heap) : α :=
  boxF o a0 h h.next fun v23 h => boxF o a1 h h.next fun v24 h => f240_1 o c n k a2 v23 v24 h
theorem f240_ok : R Pq o c n b240 (kend Pq o c n w rs240 k) = fun t _ h => f240 o c n k (t 0) (t 1) (t 2) h := (kseq (f240_1_ok o c n k w) rfl).tk
theorem f240_good : Good Pq (cfg mm) 240 (entF Pq (cfg mm) 240 3 fun α => f240) := entG b240 rs240 44 fun _ => f240_ok
noncomputable def b242 := bdy Tryz.f242
noncomputable def rs242 := Tryz.f242.results.toList
noncomputable def f242_5K : Ex → K α := (nxK (R Pq o c n (cB (cB (cB (cB (cB b242))))) (kend Pq o c n w rs242 k)) (kend Pq o c n w rs242 k))
noncomputable def f242_7 {α : Type} (o : α) (c : Call' α) (n : Nat) (k : AV → Heap → α) (m : Nat) : AVs (Heap → α) 4 :=
  Nat.rec (motive := fun _ => AVs (Heap → α) 4) (fun _ _ _ _ _ => o) (fun _ lp0 s6 s25 s26 s27 h => lssF Pq o 3 s27 s26 fun v1 => ifF o v1 (ixF o 1 s25 s27 fun v2 => load1F o h v2 fun v3 => appX Pq o h h.next 35 35 s6 v3 fun v4 h => addF Pq o 3 s27 (.i .i64 1) fun v5 => lp0 v4 s25 s26 v5 h) (k s6 h)) m
theorem f242_7_ok : R Pq o c n (cA (cB (cA (cB (cB (cB (cB b242))))))) (blockK (cI (cB (cA (cB (cB (cB (cB b242))))))) (f242_5K o c n k w)) = fun t _ h => f242_7 o c n k n (t 6) (t 25) (t 26) (t 27) h :=
  c_loop (F := fun m t _ h => f242_7 o c n k m (t 6) (t 25) (t 26) (t 27) h) (by kernel_rfl) (by kernel_rfl) fun m => by kernel_rfl
noncomputable def f242_6 (s6 s25 s26 s27 : AV) (h : Heap) : α :=
  f242_7 o c n k n s6 s25 s26 s27 h
theorem f242_6_ok : R Pq o c n (cB (cA (cB (cB (cB (cB b242)))))) (f242_5K o c n k w) = fun t _ h => f242_6 o c n k (t 6) (t 25) (t 26) (t 27) h := (kblk (f242_7_ok o c n k w)).tk
noncomputable def f242_4 (s0 s6 : AV) (h : Heap) : α :=
  lenF o s0 fun v6 => f242_6 o c n k s6 s0 v6 (.i .i64 0) h
theorem f242_4_ok : R Pq o c n (cB (cB (cB (cB b242)))) (kend Pq o c n w rs242 k) = fun t _ h => f242_4 o c n k (t 0) (t 6) h := (kseq rfl (kseq (f242_6_ok o c n k w) rfl)).tk
noncomputable def f242_3 (s0 s3 : AV) (h : Heap) : α :=
  c 285 [.nsl, s3] h fun v7 h => pk k v7 h <| f242_4 o c n k s0 v7 h
theorem f242_3_ok : R Pq o c n (cB (cB (cB b242))) (kend Pq o c n w rs242 k) = fun t _ h => f242_3 o c n k (t 0) (t 3) h := (kseq (f242_4_ok o c n k w) rfl).tk
noncomputable def f242_8K : Ex → K α := (nxK (fun t _ h => f242_3 o c n k (t 0) (t 3) h) (kend Pq o c n w rs242 k))
noncomputable def f242_10 (m : Nat) : AVs (Heap → α) 5 :=
  Nat.rec (motive := fun _ => AVs (Heap → α) 5) (fun _ _ _ _ _ _ => o) (fun _ lp0 s0 s3 s9 s10 s11 h => lssF Pq o 3 s11 s10 fun v8 => ifF o v8 (ixF o 1 s9 s11 fun v9 => load1F o h v9 fun v10 => lenF o v10 fun v11 => addF Pq o 3 s3 v11 fun v12 => lssF Pq o 3 v12 (.i .i64 0) fun v13 => ifF o v13 (panicA o (.ifc 9 (.s 16 134789072936214216453580009062074836332)) fun x => k x.pn h) (addF Pq o 3 s11 (.i .i64 1) fun v14 => lp0 s0 v12 s9 s10 v14 h)) (f242_3 o c n k s0 s3 h)) m
theorem f242_10_ok : R Pq o c n (cA (cB (cA (cB (cB b242))))) (blockK (cI (cB (cA (cB (cB b242))))) (f242_8K o c n k w)) = fun t _ h => f242_10 o c n k n (t 0) (t 3) (t 9) (t 10) (t 11) h :=
  c_loop (F := fun m t _ h => f242_10 o c n k m (t 0) (t 3) (t 9) (t 10) (t 11) h) (by kernel_rfl) (by kernel_rfl) fun m => by kernel_rfl
noncomputable def f242_9 (s0 s3 s9 s10 s11 : AV) (h : Heap) : α :=
  f242_10 o c n k n s0 s3 s9 s10 s11 h
theorem f242_9_ok : R Pq o c n (cB (cA (cB (cB b242)))) (f242_8K o c n k w) = fun t _ h => f242_9 o c n k (t 0) (t 3) (t 9) (t 10) (t 11) h := (kblk (f242_10_ok o c n k w)).tk
noncomputable def f242_2 (s0 s3 : AV) (h : Heap) : α :=
  lenF o s0 fun v15 => f242_9 o c n k s0 s3 s0 v15 (.i .i64 0) h
theorem f242_2_ok : R Pq o c n (cB (cB b242)) (kend Pq o c n w rs242 k) = fun t _ h => f242_2 o c n k (t 0) (t 3) h := (kseq (f242_3_ok o c n k w) (kseq (f242_9_ok o c n k w) rfl)).tk
noncomputable def f242_1 (s0 : AV) (h : Heap) : α :=
  f242_2 o c n k s0 (.i .i64 0) h
theorem f242_1_ok : R Pq o c n (cB b242) (kend Pq o c n w rs242 k) = fun t _ h => f242_1 o c n k (t 0) h := (kseq (f242_2_ok o c n k w) rfl).tk
noncomputable def f242 (a0 : AV) (h : Heap) : α :=
  f242_1 o c n k a0 h
theorem f242_ok : R Pq o c n b242 (kend Pq o c n w rs242 k) = fun t _ h => f242 o c n k (t 0) h := (kseq (f242_1_ok o c n k w) rfl).tk
theorem f242_good : Good Pq (cfg mm) 242 (entF Pq (cfg mm) 242 1 fun α => f242) := entG b242 rs242 36 fun _ => f242_ok
noncomputable def b243 := bdy Tryz.f243
noncomputable def rs243 := Tryz.f243.results.toList
noncomputable def f243_8 {α : Type} (o : α) (c : Call' α) (n : Nat) (k : AV → Heap → α) (s0 s3 s4 : AV) (h : Heap) : α :=
  dreg o h 12 fun base h => faF o 5 s3 fun v1 => rootF o v1 s3 <| load1F o (h.look 2) v1 fun v2 => callD o c (hidD false [(.fn (.func 184) [] []), s0, v2, .nsl] [] (sBlk s3 [])) 184 [s0, v2, .nsl] (h.look 0) fun v3 h => pnF v3 (fun x => hb h.shut fun hd => faF o 6 s3 fun v4 => rootF o v4 s3 <| load1F o (h.look 32) v4 fun v5 => k x.pn hd) <| faF o 6 s3 fun v6 => rootF o v6 s3 <| load1F o (h.look 32) v6 fun v7 => callD o c [] 184 [s0, v7, .nsl] (h.look 0) fun v8 h => pnF v8 (fun x => hb h.shut fun hd => faF o 5 s3 fun v9 => k x.pn hd) <| faF o 5 s3 fun v10 => rootF o v10 s3 <| storeF o (h.look 511) 1 v10 v3 fun h => faF o 6 s3 fun v11 => rootF o v11 s3 <| storeF o (h.look 2047) 1 v11 v8 fun h => hb h.shut fun h => loadNF o h 9 s3 fun v12 => storeF o h 9 s4 v12 fun h => on o (resV Pq h [(s4, some 41)]) fun v => k v h
theorem f243_8_ok : R Pq o c n (cB (cB (cB (cB (cB (cB (cB (cB b243)))))))) (kend Pq o c n w rs243 k) = fun t _ h => f243_8 o c n k (t 0) (t 3) (t 4) h := by kernel_rfl
noncomputable def f243_9K : Ex → K α := (nxK (fun t _ h => f243_8 o c n k (t 0) (t 3) (t 4) h) (kend Pq o c n w rs243 k))
noncomputable def f243_16 (s0 s3 s4 s5 s11 : AV) (h : Heap) : α :=
  lenF o s5 fun v13 => eqiF Pq o 3 v13 (.i .i64 0) fun v14 => eqiF Pq o 4 v14 s11 fun v15 => c 180 [v15, (.i .i64 14)] h fun v16 h => pk k v16 h <| notF o s11 fun v17 => ifF o v17 (dreg o h 10 fun base h => ixF o 1 s5 (.i .i64 0) fun v18 => rootF o v18 s5 <| load1F o (h.look 6) v18 fun v19 => nilChk o s0 fun v20 => faF o 4 v20 fun v21 => faF o 2 v21 fun v22 => rootF o v22 s0 <| load1F o (h.look 240) v22 fun v23 => callD o c [] 97 [s0, v19, v23] (h.look 0) fun v24 h => pnF v24 (fun x => hb h.shut fun hd => k x.pn hd) <| hb h.shut fun h => f243_8 o c n k s0 s3 s4 h) (f243_8 o c n k s0 s3 s4 h)
theorem f243_16_ok : R Pq o c n (cB (cA (cB (cB (cB (cB (cB (cB (cB (cB (cB (cA (cB (cA (cB (cB (cB (cB (cB (cB (cB b243))))))))))))))))))))) (blockK (cI (cB (cA (cB (cB (cB (cB (cB (cB (cB b243)))))))))) (f243_9K o c n k w)) = fun t _ h => f243_16 o c n k (t 0) (t 3) (t 4) (t 5) (t 11) h := by kernel_rfl
noncomputable def f243_17K : Ex → K α := (nxK (fun t _ h => f243_16 o c n k (t 0) (t 3) (t 4) (t 5) (t 11) h) (blockK (cI (cB (cA (cB (cB (cB (cB (cB (cB (cB b243)))))))))) (f243_9K o c n k w)))
noncomputable def f243_15 (s0 s3 s4 s5 s93 : AV) (h : Heap) : α :=
  ifF o s93 (nilChk o s0 fun v25 => faF o 4 v25 fun v26 => faF o 1 v26 fun v27 => load1F o h v27 fun v28 => bkF o false v28 (nilChk o s0 fun v29 => faF o 4 v29 fun v30 => faF o 2 v30 fun v31 => load1F o h v31 fun v32 => eqsF Pq o 9 v32 (.s 4 1684631414) fun v33 => pickF o v28 (.b true) v33 fun v34 => f243_16 o c n k s0 s3 s4 s5 v34 h) (pickF o v28 (.b true) (.tup []) fun v35 => f243_16 o c n k s0 s3 s4 s5 v35 h)) (f243_8 o c n k s0 s3 s4 h)
theorem f243_15_ok : R Pq o c n (cB (cB (cB (cB (cB (cB (cB (cB (cB (cA (cB (cA (cB (cB (cB (cB (cB (cB (cB b243))))))))))))))))))) (blockK (cI (cB (cA (cB (cB (cB (cB (cB (cB (cB b243)))))))))) (f243_9K o c n k w)) = fun t _ h => f243_15 o c n k (t 0) (t 3) (t 4) (t 5) (t 93) h := (c_cond (by kernel_rfl) (kseq (f243_16_ok o c n k w) (r_start 6 (by kernel_rfl) (q_guard 6 12 (5, false) (by kernel_rfl) (by kernel_rfl) (by kernel_rfl) rfl))) rfl).tk
noncomputable def f243_14 (s0 s3 s4 s5 s58 s86 : AV) (h : Heap) : α :=
  ifF o s86 (ixF o 1 s5 (.i .i64 0) fun v36 => load1F o h v36 fun v37 => c 97 [s0, v37, (.s 9 2037169923944901474373)] h fun v38 h => pk k v38 h <| f243_8 o c n k s0 s3 s4 h) (eqiF Pq o 3 s58 (.i .i64 6) fun v39 => f243_15 o c n k s0 s3 s4 s5 v39 h)
theorem f243_14_ok : R Pq o c n (cB (cB (cB (cB (cB (cB (cB (cA (cB (cA (cB (cB (cB (cB (cB (cB (cB b243))))))))))))))))) (blockK (cI (cB (cA (cB (cB (cB (cB (cB (cB (cB b243)))))))))) (f243_9K o c n k w)) = fun t _ h => f243_14 o c n k (t 0) (t 3) (t 4) (t 5) (t 58) (t 86) h := (c_cond (by kernel_rfl) rfl (kseq (f243_15_ok o c n k w) rfl)).tk
noncomputable def f243_13 (s0 s3 s4 s5 s58 s78 : AV) (h : Heap) : α :=
  ifF o s78 (fil1 o 1 3 0 (.s 3 7630441) [[(.s 0 0)], [(.s 0 0)], [(.s 0 0)]] fun v40 => fil1 o 1 3 1 (.s 7 31069335677005666) v40 fun v41 => fil1 o 1 3 2 (.s 6 113723913172051) v41 fun v42 => newEF h h.next 1 3 v42 fun v43 h => ixF o 1 s5 (.i .i64 0) fun v44 => load1F o h v44 fun v45 => c 14 [v43, v45] h fun v46 h => pk k v46 h <| c 180 [v46, (.i .i64 14)] h fun v47 h => pk k v47 h <| f243_8 o c n k s0 s3 s4 h) (eqiF Pq o 3 s58 (.i .i64 9) fun v48 => f243_14 o c n k s0 s3 s4 s5 s58 v48 h)
theorem f243_13_ok : R Pq o c n (cB (cB (cB (cB (cB (cA (cB (cA (cB (cB (cB (cB (cB (cB (cB b243))))))))))))))) (blockK (cI (cB (cA (cB (cB (cB (cB (cB (cB (cB b243)))))))))) (f243_9K o c n k w)) = fun t _ h => f243_13 o c n k (t 0) (t 3) (t 4) (t 5) (t 58) (t 78) h := (c_cond (by kernel_rfl) rfl (kseq (f243_14_ok o c n k w) rfl)).tk
noncomputable def f243_12 (s0 s3 s4 s5 s58 s69 : AV) (h : Heap) : α :=
  ifF o s69 (ixF o 1 s5 (.i .i64 0) fun v49 => load1F o h v49 fun v50 => eqsF Pq o 9 v50 (.s 7 31069335677005666) fun v51 => c 180 [v51, (.i .i64 14)] h fun v52 h => pk k v52 h <| f243_8 o c n k s0 s3 s4 h) (eqiF Pq o 3 s58 (.i .i64 7) fun v53 => f243_13 o c n k s0 s3 s4 s5 s58 v53 h)
theorem f243_12_ok : R Pq o c n (cB (cB (cB (cA (cB (cA (cB (cB (cB (cB (cB (cB (cB b243))))))))))))) (blockK (cI (cB (cA (cB (cB (cB (cB (cB (cB (cB b243)))))))))) (f243_9K o c n k w)) = fun t _ h => f243_12 o c n k (t 0) (t 3) (t 4) (t 5) (t 58) (t 69) h := (c_cond (by kernel_rfl) rfl (kseq (f243_13_ok o c n k w) rfl)).tk
noncomputable def f243_11 (s0 s3 s4 s5 s58 s59 : AV) (h : Heap) : α :=
  ifF o s59 (dreg o h 8 fun base h => ixF o 1 s5 (.i .i64 1) fun v54 => rootF o v54 s5 <| load1F o (h.look 6) v54 fun v55 => ixF o 1 s5 (.i .i64 0) fun v56 => rootF o v56 s5 <| load1F o (h.look 48) v56 fun v57 => callD o c [] 97 [s0, v55, v57] (h.look 0) fun v58 h => pnF v58 (fun x => hb h.shut fun hd => k x.pn hd) <| hb h.shut fun h => f243_8 o c n k s0 s3 s4 h) (eqiF Pq o 3 s58 (.i .i64 4) fun v59 => ifF o v59 (f243_12 o c n k s0 s3 s4 s5 s58 v59 h) (eqiF Pq o 3 s58 (.i .i64 5) fun v60 => ifF o v60 (f243_12 o c n k s0 s3 s4 s5 s58 v60 h) (eqiF Pq o 3 s58 (.i .i64 8) fun v61 => f243_12 o c n k s0 s3 s4 s5 s58 v61 h)))
theorem f243_11_ok : R Pq o c n (cB (cA (cB (cA (cB (cB (cB (cB (cB (cB (cB b243))))))))))) (blockK (cI (cB (cA (cB (cB (cB (cB (cB (cB (cB b243)))))))))) (f243_9K o c n k w)) = fun t _ h => f243_11 o c n k (t 0) (t 3) (t 4) (t 5) (t 58) (t 59) h := (c_cond (by kernel_rfl) rfl (kseq (f243_12_ok o c n k w) rfl)).tk
noncomputable def f243_10 (s0 s3 s4 s5 s58 : AV) (h : Heap) : α :=
  eqiF Pq o 3 s58 (.i .i64 2) fun v62 => f243_11 o c n k s0 s3 s4 s5 s58 v62 h
theorem f243_10_ok : R Pq o c n (cB (cA (cB (cB (cB (cB (cB (cB (cB b243))))))))) (f243_9K o c n k w) = fun t _ h => f243_10 o c n k (t 0) (t 3) (t 4) (t 5) (t 58) h := (kblk (kseq (f243_11_ok o c n k w) rfl)).tk
noncomputable def f243_7 (s0 s3 s4 s5 : AV) (h : Heap) : α :=
  faF o 0 s3 fun v63 => load1F o h v63 fun v64 => f243_10 o c n k s0 s3 s4 s5 v64 h
theorem f243_7_ok : R Pq o c n (cB (cB (cB (cB (cB (cB (cB b243))))))) (kend Pq o c n w rs243 k) = fun t _ h => f243_7 o c n k (t 0) (t 3) (t 4) (t 5) h := (kseq (f243_8_ok o c n k w) (kseq (f243_10_ok o c n k w) rfl)).tk
noncomputable def f243_6 (s0 s3 s4 s5 s6 : AV) (h : Heap) : α :=
  faF o 4 s3 fun v65 => storeF o h 1 v65 s6 fun h => f243_7 o c n k s0 s3 s4 s5 h
theorem f243_6_ok : R Pq o c n (cB (cB (cB (cB (cB (cB b243)))))) (kend Pq o c n w rs243 k) = fun t _ h => f243_6 o c n k (t 0) (t 3) (t 4) (t 5) (t 6) h := (kseq (f243_7_ok o c n k w) rfl).tk
noncomputable def f243_18K : Ex → K α := (nxK (fun t _ h => f243_6 o c n k (t 0) (t 3) (t 4) (t 5) (t 6) h) (kend Pq o c n w rs243 k))
noncomputable def f243_20 (m : Nat) : AVs (Heap → α) 8 :=
  Nat.rec (motive := fun _ => AVs (Heap → α) 8) (fun _ _ _ _ _ _ _ _ _ => o) (fun _ lp0 s0 s3 s4 s5 s6 s33 s34 s35 h => lssF Pq o 3 s35 s34 fun v66 => ifF o v66 (ixF o 8 s33 s35 fun v67 => loadNF o h 8 v67 fun v68 => newF h h.next 8 [(.i .i64 0), (.i .i32 0), (.s 0 0), (.s 0 0), (.s 0 0), .nsl, (.s 0 0), (.i .i64 0)] fun v69 h => storeF o h 8 v69 v68 fun h => loadNF o h 8 v69 fun v70 => c 96 [s0, v70] h fun v71 h => pk k v71 h <| exF o v71 0 fun v72 => exF o v71 1 fun v73 => newF h h.next 8 [(.i .i64 0), (.i .i32 0), (.s 0 0), (.s 0 0), (.s 0 0), .nsl, (.s 0 0), (.i .i64 0)] fun v74 h => storeF o h 8 v74 v72 fun h => dreg o h 10 fun base h => loadNF o (h.look 0) 8 v74 fun v75 => fil1 o 1 1 0 v73 [[(.s 0 0)]] fun v76 => newEF (h.look 16) (Nat.add base 5) 1 1 v76 fun v77 h => lb (sBlk v74 []) fun ids => appD o ids (Nat.add base 6) <| appendY Pq o (hide ids (h.look 56)) (Nat.add base 6) 56 56 s5 v77 fun v78 g => hb (back h ids g) fun h => ixF o 8 s6 s35 fun v79 => rootF o v79 s6 <| storeF o (h.look 255) 8 v79 v75 fun h => hb h.shut fun h => addF Pq o 3 s35 (.i .i64 1) fun v80 => lp0 s0 s3 s4 v78 s6 s33 s34 v80 h) (f243_6 o c n k s0 s3 s4 s5 s6 h)) m
theorem f243_20_ok : R Pq o c n (cA (cB (cA (cB (cB (cB (cB (cB b243)))))))) (blockK (cI (cB (cA (cB (cB (cB (cB (cB b243)))))))) (f243_18K o c n k w)) = fun t _ h => f243_20 o c n k n (t 0) (t 3) (t 4) (t 5) (t 6) (t 33) (t 34) (t 35) h :=
  c_loop (F := fun m t _ h => f243_20 o c n k m (t 0) (t 3) (t 4) (t 5) (t 6) (t 33) (t 34) (t 35) h) (by kernel_rfl) (by kernel_rfl) fun m => by kernel_rfl
noncomputable def f243_19 (s0 s3 s4 s5 s6 s33 s34 s35 : AV) (h : Heap) : α :=
  f243_20 o c n k n s0 s3 s4 s5 s6 s33 s34 s35 h
theorem f243_19_ok : R Pq o c n (cB (cA (cB (cB (cB (cB (cB b243))))))) (f243_18K o c n k w) = fun t _ h => f243_19 o c n k (t 0) (t 3) (t 4) (t 5) (t 6) (t 33) (t 34) (t 35) h := (kblk (f243_20_ok o c n k w)).tk
noncomputable def f243_5 (s0 s3 s4 s5 s6 : AV) (h : Heap) : α :=
  lenF o s6 fun v81 => f243_19 o c n k s0 s3 s4 s5 s6 s6 v81 (.i .i64 0) h
theorem f243_5_ok : R Pq o c n (cB (cB (cB (cB (cB b243))))) (kend Pq o c n w rs243 k) = fun t _ h => f243_5 o c n k (t 0) (t 3) (t 4) (t 5) (t 6) h := (kseq (f243_6_ok o c n k w) (kseq (f243_19_ok o c n k w) rfl)).tk
noncomputable def f243_4 (s0 s3 s4 s5 : AV) (h : Heap) : α :=
  faF o 4 s3 fun v82 => load1F o h v82 fun v83 => c 95 [v83] h fun v84 h => pk k v84 h <| f243_5 o c n k s0 s3 s4 s5 v84 h
theorem f243_4_ok : R Pq o c n (cB (cB (cB (cB b243)))) (kend Pq o c n w rs243 k) = fun t _ h => f243_4 o c n k (t 0) (t 3) (t 4) (t 5) h := (kseq (f243_5_ok o c n k w) rfl).tk
noncomputable def f243_3 (s0 s3 s4 : AV) (h : Heap) : α :=
  f243_4 o c n k s0 s3 s4 .nsl h
theorem f243_3_ok : R Pq o c n (cB (cB (cB b243))) (kend Pq o c n w rs243 k) = fun t _ h => f243_3 o c n k (t 0) (t 3) (t 4) h := (kseq (f243_4_ok o c n k w) rfl).tk
noncomputable def f243_2 (s0 s3 s4 : AV) (h : Heap) : α :=
  faF o 0 s3 fun v85 => load1F o h v85 fun v86 => eqiF Pq o 3 v86 (.i .i64 1) fun v87 => ifF o v87 (loadNF o h 9 s3 fun v88 => c 286 [s0, v88] h fun v89 h => pk k v89 h <| storeF o h 9 s4 v89 fun h => on o (resV Pq h [(s4, some 41)]) fun v => k v h) (eqiF Pq o 3 v86 (.i .i64 10) fun v90 => ifF o v90 (loadNF o h 9 s3 fun v91 => c 287 [s0, v91] h fun v92 h => pk k v92 h <| storeF o h 9 s4 v92 fun h => on o (resV Pq h [(s4, some 41)]) fun v => k v h) (eqiF Pq o 3 v86 (.i .i64 11) fun v93 => ifF o v93 (loadNF o h 9 s3 fun v94 => c 288 [s0, v94] h fun v95 h => pk k v95 h <| storeF o h 9 s4 v95 fun h => on o (resV Pq h [(s4, some 41)]) fun v => k v h) (f243_3 o c n k s0 s3 s4 h)))
theorem f243_2_ok : R Pq o c n (cB (cB b243)) (kend Pq o c n w rs243 k) = fun t _ h => f243_2 o c n k (t 0) (t 3) (t 4) h := (kseq (f243_3_ok o c n k w) rfl).tk
noncomputable def f243_1 (s0 s3 s4 : AV) (h : Heap) : α :=
  faF o 8 s3 fun v96 => storeF o h 1 v96 (.i .i64 0) fun h => f243_2 o c n k s0 s3 s4 h
theorem f243_1_ok : R Pq o c n (cB b243) (kend Pq o c n w rs243 k) = fun t _ h => f243_1 o c n k (t 0) (t 3) (t 4) h := (kseq (f243_2_ok o c n k w) rfl).tk
noncomputable def f243 (a0 a1 : AV) (h : Heap) : α :=
  boxF o a1 h h.next fun v97 h => newF h h.next 9 [(.i .i64 0), (.i .i32 0), (.s 0 0), (.s 0 0), .nsl, .nsl, .nsl, .nsl, (.i .i64 0)] fun v98 h => f243_1 o c n k a0 v97 v98 h
theorem f243_ok : R Pq o c n b243 (kend Pq o c n w rs243 k) = fun t _ h => f243 o c n k (t 0) (t 1) h := (kseq (f243_1_ok o c n k w) rfl).tk
theorem f243_good : Good Pq (cfg mm) 243 (entF Pq (cfg mm) 243 2 fun α => f243) := entG b243 rs243 137 fun _ => f243_ok
noncomputable def b247 := bdy Tryz.f247
noncomputable def rs247 := Tryz.f247.results.toList
noncomputable def f247_3K : Ex → K α := (nxK (R Pq o c n (cB (cB (cB b247))) (kend Pq o c n w rs247 k)) (kend Pq o c n w rs247 k))
noncomputable def f247_6K (lp0 : AVs (Heap → α) 5) : Ex → K α := (nxK (fun t _ h => lp0 (t 1) (t 5) (t 8) (t 9) (t 10) h) (blockK (cI (cB (cA (cB (cB b247))))) (f247_3K o c n k w)))
noncomputable def f247_9K (lp0 : AVs (Heap → α) 5) : Ex → K α := (nxK (R Pq o c n (cB (cB (cB (cA (cA (cB (cA (cB (cB b247))))))))) (f247_6K o c n k w lp0)) (f247_6K o c n k w lp0))
noncomputable def f247_12 {α : Type} (o : α) (c : Call' α) (n : Nat) (k : AV → Heap → α) (lp0 : AVs (Heap → α) 5) (s1 s5 s7 s8 s9 s10 : AV) (h : Heap) : α :=
  loadNF o h 8 s7 fun v1 => fil1 o 8 1 0 v1 [[(.i .i64 0), (.i .i32 0), (.s 0 0), (.s 0 0), (.s 0 0), .nsl, (.s 0 0), (.i .i64 0)]] fun v2 => newEF h h.next 8 1 v2 fun v3 h => appX Pq o h h.next 39 39 s5 v3 fun v4 h => addF Pq o 3 s10 (.i .i64 1) fun v5 => lp0 s1 v4 s8 s9 v5 h
theorem f247_12_ok (lp0 : AVs (Heap → α) 5) : R Pq o c n (cB (cB (cB (cA (cA (cB (cB (cA (cA (cB (cA (cB (cB b247))))))))))))) (blockK (cI (cA (cB (cB (cA (cA (cB (cA (cB (cB b247)))))))))) (f247_9K o c n k w lp0)) = fun t _ h => f247_12 o c n k lp0 (t 1) (t 5) (t 7) (t 8) (t 9) (t 10) h := by kernel_rfl
noncomputable def f247_11 (lp0 : AVs (Heap → α) 5) (s1 s5 s7 s8 s9 s10 : AV) (h : Heap) : α :=
  neiF Pq o 217 s1 .nfn fun v6 => ifF o v6 (loadNF o h 8 s7 fun v7 => cfF o s1 [v7] c h fun v8 h => pk k v8 h <| storeF o h 8 s7 v8 fun h => f247_12 o c n k lp0 s1 s5 s7 s8 s9 s10 h) (f247_12 o c n k lp0 s1 s5 s7 s8 s9 s10 h)
theorem f247_11_ok (lp0 : AVs (Heap → α) 5) : R Pq o c n (cB (cB (cA (cA (cB (cB (cA (cA (cB (cA (cB (cB b247)))))))))))) (blockK (cI (cA (cB (cB (cA (cA (cB (cA (cB (cB b247)))))))))) (f247_9K o c n k w lp0)) = fun t _ h => f247_11 o c n k lp0 (t 1) (t 5) (t 7) (t 8) (t 9) (t 10) h := (kseq (f247_12_ok o c n k w lp0) rfl).tk
noncomputable def f247_10 (lp0 : AVs (Heap → α) 5) (s1 s5 s7 s8 s9 s10 : AV) (h : Heap) : α :=
  faF o 5 s7 fun v9 => load1F o h v9 fun v10 => c 247 [v10, s1] h fun v11 h => pk k v11 h <| faF o 5 s7 fun v12 => storeF o h 1 v12 v11 fun h => f247_11 o c n k lp0 s1 s5 s7 s8 s9 s10 h
theorem f247_10_ok (lp0 : AVs (Heap → α) 5) : R Pq o c n (cB (cA (cA (cB (cB (cA (cA (cB (cA (cB (cB b247))))))))))) (blockK (cI (cA (cB (cB (cA (cA (cB (cA (cB (cB b247)))))))))) (f247_9K o c n k w lp0)) = fun t _ h => f247_10 o c n k lp0 (t 1) (t 5) (t 7) (t 8) (t 9) (t 10) h := (kseq (f247_11_ok o c n k w lp0) rfl).tk
noncomputable def f247_8 (lp0 : AVs (Heap → α) 5) (s1 s5 s8 s9 s10 : AV) (h : Heap) : α :=
  ixF o 8 s8 s10 fun v13 => loadNF o h 8 v13 fun v14 => newF h h.next 8 [(.i .i64 0), (.i .i32 0), (.s 0 0), (.s 0 0), (.s 0 0), .nsl, (.s 0 0), (.i .i64 0)] fun v15 h => storeF o h 8 v15 v14 fun h => f247_10 o c n k lp0 s1 s5 v15 s8 s9 s10 h
theorem f247_8_ok (lp0 : AVs (Heap → α) 5) : R Pq o c n (cB (cB (cA (cA (cB (cA (cB (cB b247)))))))) (f247_6K o c n k w lp0) = fun t _ h => f247_8 o c n k lp0 (t 1) (t 5) (t 8) (t 9) (t 10) h := (kseq rfl (kblk (kseq (f247_10_ok o c n k w lp0) rfl))).tk
noncomputable def f247_7 (lp0 : AVs (Heap → α) 5) (s1 s5 s8 s9 s10 s11 : AV) (h : Heap) : α :=
  ifF o s11 (f247_8 o c n k lp0 s1 s5 s8 s9 s10 h) (k s5 h)
theorem f247_7_ok (lp0 : AVs (Heap → α) 5) : R Pq o c n (cB (cA (cA (cB (cA (cB (cB b247))))))) (f247_6K o c n k w lp0) = fun t _ h => f247_7 o c n k lp0 (t 1) (t 5) (t 8) (t 9) (t 10) (t 11) h := (kseq (f247_8_ok o c n k w lp0) rfl).tk
noncomputable def f247_5 (m : Nat) : AVs (Heap → α) 5 :=
  Nat.rec (motive := fun _ => AVs (Heap → α) 5) (fun _ _ _ _ _ _ => o) (fun _ lp0 s1 s5 s8 s9 s10 h => lssF Pq o 3 s10 s9 fun v16 => f247_7 o c n k lp0 s1 s5 s8 s9 s10 v16 h) m
theorem f247_5_ok : R Pq o c n (cA (cB (cA (cB (cB b247))))) (blockK (cI (cB (cA (cB (cB b247))))) (f247_3K o c n k w)) = fun t _ h => f247_5 o c n k n (t 1) (t 5) (t 8) (t 9) (t 10) h :=
  c_loop (F := fun m t _ h => f247_5 o c n k m (t 1) (t 5) (t 8) (t 9) (t 10) h) (by kernel_rfl) (by kernel_rfl) fun m => (kseq (f247_7_ok o c n k w (f247_5 o c n k m)) rfl).tk
noncomputable def f247_4 (s1 s5 s8 s9 s10 : AV) (h : Heap) : α :=
  f247_5 o c n k n s1 s5 s8 s9 s10 h
theorem f247_4_ok : R Pq o c n (cB (cA (cB (cB b247)))) (f247_3K o c n k w) = fun t _ h => f247_4 o c n k (t 1) (t 5) (t 8) (t 9) (t 10) h := (kblk (f247_5_ok o c n k w)).tk
noncomputable def f247_2 (s0 s1 s5 : AV) (h : Heap) : α :=
  lenF o s0 fun v17 => f247_4 o c n k s1 s5 s0 v17 (.i .i64 0) h
theorem f247_2_ok : R Pq o c n (cB (cB b247)) (kend Pq o c n w rs247 k) = fun t _ h => f247_2 o c n k (t 0) (t 1) (t 5) h := (kseq rfl (kseq (f247_4_ok o c n k w) rfl)).tk
noncomputable def f247_1 (s0 s1 : AV) (h : Heap) : α :=
  f247_2 o c n k s0 s1 .nsl h
theorem f247_1_ok : R Pq o c n (cB b247) (kend Pq o c n w rs247 k) = fun t _ h => f247_1 o c n k (t 0) (t 1) h := (kseq (f247_2_ok o c n k w) rfl).tk
noncomputable def f247 (a0 a1 : AV) (h : Heap) : α :=
  f247_1 o c n k a0 a1 h
theorem f247_ok : R Pq o c n b247 (kend Pq o c n w rs247 k) = fun t _ h => f247 o c n k (t 0) (t 1) h := (kseq (f247_1_ok o c n k w) rfl).tk
theorem f247_good : Good Pq (cfg mm) 247 (entF Pq (cfg mm) 247 2 fun α => f247) := entG b247 rs247 30 fun _ => f247_ok
noncomputable def b248 := bdy Tryz.f248
noncomputable def rs248 := Tryz.f248.results.toList
noncomputable def f248_3K : Ex → K α := (nxK (R Pq o c n (cB (cB (cB b248))) (kend Pq o c n w rs248 k)) (kend Pq o c n w rs248 k))
noncomputable def f248_6K (lp0 : AVs (Heap → α) 6) : Ex → K α := (nxK (fun t _ h => lp0 (t 1) (t 2) (t 7) (t 10) (t 11) (t 12) h) (blockK (cI (cB (cA (cB (cB b248))))) (f248_3K o c n k w)))
noncomputable def f248_9K (lp0 : AVs (Heap → α) 6) : Ex → K α := (nxK (R Pq o c n (cB (cB (cB (cA (cA (cB (cA (cB (cB b248))))))))) (f248_6K o c n k w lp0)) (f248_6K o c n k w lp0))
noncomputable def f248_13 {α : Type} (o : α) (c : Call' α) (n : Nat) (k : AV → Heap → α) (lp0 : AVs (Heap → α) 6) (s1 s2 s7 s9 s10 s11 s12 : AV) (h : Heap) : α :=
  loadNF o h 9 s9 fun v1 => fil1 o 9 1 0 v1 [[(.i .i64 0), (.i .i32 0), (.s 0 0), (.s 0 0), .nsl, .nsl, .nsl, .nsl, (.i .i64 0)]] fun v2 => newEF h h.next 9 1 v2 fun v3 h => appX Pq o h h.next 36 36 s7 v3 fun v4 h => addF Pq o 3 s12 (.i .i64 1) fun v5 => lp0 s1 s2 v4 s10 s11 v5 h
theorem f248_13_ok (lp0 : AVs (Heap → α) 6) : R Pq o c n (cB (cB (cB (cB (cA (cA (cB (cB (cA (cA (cB (cA (cB (cB b248)))))))))))))) (blockK (cI (cA (cB (cB (cA (cA (cB (cA (cB (cB b248)))))))))) (f248_9K o c n k w lp0)) = fun t _ h => f248_13 o c n k lp0 (t 1) (t 2) (t 7) (t 9) (t 10) (t 11) (t 12) h := by kernel_rfl
noncomputable def f248_12 (lp0 : AVs (Heap → α) 6) (s1 s2 s7 s9 s10 s11 s12 : AV) (h : Heap) : α :=
  neiF Pq o 253 s2 .nfn fun v6 => ifF o v6 (loadNF o h 9 s9 fun v7 => cfF o s2 [v7] c h fun v8 h => pk k v8 h <| storeF o h 9 s9 v8 fun h => f248_13 o c n k lp0 s1 s2 s7 s9 s10 s11 s12 h) (f248_13 o c n k lp0 s1 s2 s7 s9 s10 s11 s12 h)
theorem f248_12_ok (lp0 : AVs (Heap → α) 6) : R Pq o c n (cB (cB (cB (cA (cA (cB (cB (cA (cA (cB (cA (cB (cB b248))))))))))))) (blockK (cI (cA (cB (cB (cA (cA (cB (cA (cB (cB b248)))))))))) (f248_9K o c n k w lp0)) = fun t _ h => f248_12 o c n k lp0 (t 1) (t 2) (t 7) (t 9) (t 10) (t 11) (t 12) h := (kseq (f248_13_ok o c n k w lp0) rfl).tk
noncomputable def f248_14K (lp0 : AVs (Heap → α) 6) : Ex → K α := (nxK (fun t _ h => f248_12 o c n k lp0 (t 1) (t 2) (t 7) (t 9) (t 10) (t 11) (t 12) h) (blockK (cI (cA (cB (cB (cA (cA (cB (cA (cB (cB b248)))))))))) (f248_9K o c n k w lp0)))
noncomputable def f248_17 (lp0 : AVs (Heap → α) 6) (base : Nat) (s1 s2 s7 s9 s10 s11 s12 s25 s30 s35 : AV) (h : Heap) : α :=
  faF o 5 s9 fun v9 => rootF o v9 s9 <| storeF o (h.look 65535) 1 v9 s25 fun h => faF o 6 s9 fun v10 => rootF o v10 s9 <| storeF o (h.look 262143) 1 v10 s30 fun h => faF o 7 s9 fun v11 => rootF o v11 s9 <| storeF o (h.look 1048575) 1 v11 s35 fun h => hb h.shut fun h => f248_12 o c n k lp0 s1 s2 s7 s9 s10 s11 s12 h
theorem f248_17_ok (lp0 : AVs (Heap → α) 6) (base : Nat) : QD Pq o c (cO (cA (cB (cB (cA (cA (cB (cB (cA (cA (cB (cA (cB (cB b248)))))))))))))) base ((f248_14K o c n k w lp0)) 15 = fun t _ h => f248_17 o c n k lp0 base (t 1) (t 2) (t 7) (t 9) (t 10) (t 11) (t 12) (t 25) (t 30) (t 35) h := by kernel_rfl
noncomputable def f248_16 (lp0 : AVs (Heap → α) 6) (base : Nat) (s1 s2 s7 s9 s10 s11 s12 s25 s30 : AV) (h : Heap) : α :=
  faF o 7 s9 fun v12 => rootF o v12 s9 <| load1F o (h.look 1024) v12 fun v13 => callD o c [] 248 [v13, s1, s2] (h.look 0) fun v14 h => pnF v14 (fun x => hb h.shut fun hd => faF o 5 s9 fun v15 => k x.pn hd) <| f248_17 o c n k lp0 base s1 s2 s7 s9 s10 s11 s12 s25 s30 v14 h
theorem f248_16_ok (lp0 : AVs (Heap → α) 6) (base : Nat) : QD Pq o c (cO (cA (cB (cB (cA (cA (cB (cB (cA (cA (cB (cA (cB (cB b248)))))))))))))) base ((f248_14K o c n k w lp0)) 10 = fun t _ h => f248_16 o c n k lp0 base (t 1) (t 2) (t 7) (t 9) (t 10) (t 11) (t 12) (t 25) (t 30) h := (qd_seg 10 15 (by kernel_rfl) (f248_17_ok o c n k w lp0 base)).tk
noncomputable def f248_15 (lp0 : AVs (Heap → α) 6) (base : Nat) (s1 s2 s7 s9 s10 s11 s12 s25 : AV) (h : Heap) : α :=
  faF o 6 s9 fun v16 => rootF o v16 s9 <| load1F o (h.look 32) v16 fun v17 => callD o c (hidD false [(.fn (.func 248) [] []), v17, s1, s2] [] (sBlk s9 [])) 248 [v17, s1, s2] (h.look 0) fun v18 h => pnF v18 (fun x => hb h.shut fun hd => faF o 7 s9 fun v19 => rootF o v19 s9 <| load1F o (h.look 1024) v19 fun v20 => faF o 5 s9 fun v21 => k x.pn hd) <| f248_16 o c n k lp0 base s1 s2 s7 s9 s10 s11 s12 s25 v18 h
theorem f248_15_ok (lp0 : AVs (Heap → α) 6) (base : Nat) : QD Pq o c (cO (cA (cB (cB (cA (cA (cB (cB (cA (cA (cB (cA (cB (cB b248)))))))))))))) base ((f248_14K o c n k w lp0)) 5 = fun t _ h => f248_15 o c n k lp0 base (t 1) (t 2) (t 7) (t 9) (t 10) (t 11) (t 12) (t 25) h := (qd_seg 5 10 (by kernel_rfl) (f248_16_ok o c n k w lp0 base)).tk
noncomputable def f248_11 (lp0 : AVs (Heap → α) 6) (s1 s2 s7 s9 s10 s11 s12 : AV) (h : Heap) : α :=
  dreg o h 21 fun base h => faF o 5 s9 fun v22 => rootF o v22 s9 <| load1F o (h.look 1) v22 fun v23 => callD o c (hidD false [(.fn (.func 248) [] []), v23, s1, s2] [] (sBlk s9 (sBlk s9 []))) 248 [v23, s1, s2] (h.look 0) fun v24 h => pnF v24 (fun x => hb h.shut fun hd => faF o 6 s9 fun v25 => rootF o v25 s9 <| load1F o (h.look 32) v25 fun v26 => faF o 7 s9 fun v27 => rootF o v27 s9 <| load1F o (h.look 1024) v27 fun v28 => k x.pn hd) <| f248_15 o c n k lp0 base s1 s2 s7 s9 s10 s11 s12 v24 h
theorem f248_11_ok (lp0 : AVs (Heap → α) 6) : R Pq o c n (cB (cB (cA (cA (cB (cB (cA (cA (cB (cA (cB (cB b248)))))))))))) (blockK (cI (cA (cB (cB (cA (cA (cB (cA (cB (cB b248)))))))))) (f248_9K o c n k w lp0)) = fun t _ h => f248_11 o c n k lp0 (t 1) (t 2) (t 7) (t 9) (t 10) (t 11) (t 12) h := (kseq (f248_12_ok o c n k w lp0) (r_startD 5 (by kernel_rfl) (by kernel_rfl) (X := fun base => fun t _ h => f248_15 o c n k lp0 base (t 1) (t 2) (t 7) (t 9) (t 10) (t 11) (t 12) (t 25) h) (fun base => f248_15_ok o c n k w lp0 base))).tk
noncomputable def f248_10 (lp0 : AVs (Heap → α) 6) (s1 s2 s7 s9 s10 s11 s12 : AV) (h : Heap) : α :=
  faF o 4 s9 fun v29 => load1F o h v29 fun v30 => c 247 [v30, s1] h fun v31 h => pk k v31 h <| faF o 4 s9 fun v32 => storeF o h 1 v32 v31 fun h => f248_11 o c n k lp0 s1 s2 s7 s9 s10 s11 s12 h
theorem f248_10_ok (lp0 : AVs (Heap → α) 6) : R Pq o c n (cB (cA (cA (cB (cB (cA (cA (cB (cA (cB (cB b248))))))))))) (blockK (cI (cA (cB (cB (cA (cA (cB (cA (cB (cB b248)))))))))) (f248_9K o c n k w lp0)) = fun t _ h => f248_10 o c n k lp0 (t 1) (t 2) (t 7) (t 9) (t 10) (t 11) (t 12) h := (kseq (f248_11_ok o c n k w lp0) rfl).tk
noncomputable def f248_8 (lp0 : AVs (Heap → α) 6) (s1 s2 s7 s10 s11 s12 : AV) (h : Heap) : α :=
  ixF o 9 s10 s12 fun v33 => loadNF o h 9 v33 fun v34 => newF h h.next 9 [(.i .i64 0), (.i .i32 0), (.s 0 0), (.s 0 0), .nsl, .nsl, .nsl, .nsl, (.i .i64 0)] fun v35 h => storeF o h 9 v35 v34 fun h => f248_10 o c n k lp0 s1 s2 s7 v35 s10 s11 s12 h
theorem f248_8_ok (lp0 : AVs (Heap → α) 6) : R Pq o c n (cB (cB (cA (cA (cB (cA (cB (cB b248)))))))) (f248_6K o c n k w lp0) = fun t _ h => f248_8 o c n k lp0 (t 1) (t 2) (t 7) (t 10) (t 11) (t 12) h := (kseq rfl (kblk (kseq (f248_10_ok o c n k w lp0) rfl))).tk
noncomputable def f248_7 (lp0 : AVs (Heap → α) 6) (s1 s2 s7 s10 s11 s12 s13 : AV) (h : Heap) : α :=
  ifF o s13 (f248_8 o c n k lp0 s1 s2 s7 s10 s11 s12 h) (k s7 h)
theorem f248_7_ok (lp0 : AVs (Heap → α) 6) : R Pq o c n (cB (cA (cA (cB (cA (cB (cB b248))))))) (f248_6K o c n k w lp0) = fun t _ h => f248_7 o c n k lp0 (t 1) (t 2) (t 7) (t 10) (t 11) (t 12) (t 13) h := (kseq (f248_8_ok o c n k w lp0) rfl).tk
noncomputable def f248_5 (m : Nat) : AVs (Heap → α) 6 :=
  Nat.rec (motive := fun _ => AVs (Heap → α) 6) (fun _ _ _ _ _ _ _ => o) (fun _ lp0 s1 s2 s7 s10 s11 s12 h => lssF Pq o 3 s12 s11 fun v36 => f248_7 o c n k lp0 s1 s2 s7 s10 s11 s12 v36 h) m
theorem f248_5_ok : R Pq o c n (cA (cB (cA (cB (cB b248))))) (blockK (cI (cB (cA (cB (cB b248))))) (f248_3K o c n k w)) = fun t _ h => f248_5 o c n k n (t 1) (t 2) (t 7) (t 10) (t 11) (t 12) h :=
  c_loop (F := fun m t _ h => f248_5 o c n k m (t 1) (t 2) (t 7) (t 10) (t 11) (t 12) h) (by kernel_rfl) (by kernel_rfl) fun m => (kseq (f248_7_ok o c n k w (f248_5 o c n k m)) rfl).tk
noncomputable def f248_4 (s1 s2 s7 s10 s11 s12 : AV) (h : Heap) : α :=
  f248_5 o c n k n s1 s2 s7 s10 s11 s12 h
theorem f248_4_ok : R Pq o c n (cB (cA (cB (cB b248)))) (f248_3K o c n k w) = fun t _ h => f248_4 o c n k (t 1) (t 2) (t 7) (t 10) (t 11) (t 12) h := (kblk (f248_5_ok o c n k w)).tk
noncomputable def f248_2 (s0 s1 s2 s7 : AV) (h : Heap) : α :=
  lenF o s0 fun v37 => f248_4 o c n k s1 s2 s7 s0 v37 (.i .i64 0) h
theorem f248_2_ok : R Pq o c n (cB (cB b248)) (kend Pq o c n w rs248 k) = fun t _ h => f248_2 o c n k (t 0) (t 1) (t 2) (t 7) h := (kseq rfl (kseq (f248_4_ok o c n k w) rfl)).tk
noncomputable def f248_1 (s0 s1 s2 : AV) (h : Heap) : α :=
  f248_2 o c n k s0 s1 s2 .nsl h
theorem f248_1_ok : R Pq o c n (cB b248) (kend Pq o c n w rs248 k) = fun t _ h => f248_1 o c n k (t 0) (t 1) (t 2) h := (kseq (f248_2_ok o c n k w) rfl).tk
noncomputable def f248 (a0 a1 a2 : AV) (h : Heap) : α :=
  f248_1 o c n k a0 a1 a2 h
theorem f248_ok : R Pq o c n b248 (kend Pq o c n w rs248 k) = fun t _ h => f248 o c n k (t 0) (t 1) (t 2) h := (kseq (f248_1_ok o c n k w) rfl).tk
theorem f248_good : Good Pq (cfg mm) 248 (entF Pq (cfg mm) 248 3 fun α => f248) := entG b248 rs248 50 fun _ => f248_ok
noncomputable def b250 := bdy Tryz.f250
noncomputable def rs250 := Tryz.f250.results.toList
noncomputable def f250 {α : Type} (o : α) (c : Call' α) (n : Nat) (k : AV → Heap → α) (a0 a1 : AV) (h : Heap) : α :=
  boxF o a0 h h.next fun v1 h => loadNF o h 1 v1 fun v2 => c 84 [v2, a1] h fun v3 h => pk k v3 h <| geqF Pq o 3 v3 (.i .i64 0) fun v4 => ifF o v4 (faF o 0 v1 fun v5 => load1F o h v5 fun v6 => ixF o 4 v6 v3 fun v7 => loadNF o h 4 v7 fun v8 => k (.ifc 34 v8) h) (k .nifc h)
theorem f250_ok : R Pq o c n b250 (kend Pq o c n w rs250 k) = fun t _ h => f250 o c n k (t 0) (t 1) h := by kernel_rfl
theorem f250_good : Good Pq (cfg mm) 250 (entF Pq (cfg mm) 250 2 fun α => f250) := entG b250 rs250 17 fun _ => f250_ok
noncomputable def b251 := bdy Tryz.f251
noncomputable def rs251 := Tryz.f251.results.toList
noncomputable def f251_4 {α : Type} (o : α) (c : Call' α) (n : Nat) (k : AV → Heap → α) (s3 : AV) (h : Heap) : α :=
  eqiF Pq o 3 s3 (.i .i64 0) fun v1 => k v1 h
theorem f251_4_ok : R Pq o c n (cB (cB (cB (cB b251)))) (kend Pq o c n w rs251 k) = fun t _ h => f251_4 o c n k (t 3) h := by kernel_rfl
noncomputable def f251_3 (s0 s3 : AV) (h : Heap) : α :=
  binA Pq o .sub 3 s3 (.i .i64 1) fun v2 => nilChk o s0 fun v3 => faF o 0 v3 fun v4 => storeF o h 1 v4 (.ifc 3 v2) fun h => eqiF Pq o 3 s3 (.i .i64 0) fun v5 => ifF o v5 (nilChk o s0 fun v6 => faF o 0 v6 fun v7 => storeF o h 1 v7 .nifc fun h => f251_4 o c n k s3 h) (f251_4 o c n k s3 h)
theorem f251_3_ok : R Pq o c n (cB (cB (cB b251))) (kend Pq o c n w rs251 k) = fun t _ h => f251_3 o c n k (t 0) (t 3) h := (kseq (f251_4_ok o c n k w) rfl).tk
noncomputable def f251_2 (s0 s3 s4 : AV) (h : Heap) : α :=
  notF o s4 fun v8 => ifF o v8 (k (.b false) h) (f251_3 o c n k s0 s3 h)
theorem f251_2_ok : R Pq o c n (cB (cB b251)) (kend Pq o c n w rs251 k) = fun t _ h => f251_2 o c n k (t 0) (t 3) (t 4) h := (kseq (f251_3_ok o c n k w) rfl).tk
noncomputable def f251_1 (s0 : AV) (h : Heap) : α :=
  nilChk o s0 fun v9 => faF o 0 v9 fun v10 => load1F o h v10 fun v11 => assertA Pq o v11 3 true fun v12 => exF o v12 0 fun v13 => exF o v12 1 fun v14 => f251_2 o c n k s0 v13 v14 h
theorem f251_1_ok : R Pq o c n (cB b251) (kend Pq o c n w rs251 k) = fun t _ h => f251_1 o c n k (t 0) h := (kseq (f251_2_ok o c n k w) rfl).tk
noncomputable def f251 (a0 : AV) (h : Heap) : α :=
  f251_1 o c n k a0 h
theorem f251_ok : R Pq o c n b251 (kend Pq o c n w rs251 k) = fun t _ h => f251 o c n k (t 0) h := (kseq (f251_1_ok o c n k w) rfl).tk
theorem f251_good : Good Pq (cfg mm) 251 (entF Pq (cfg mm) 251 1 fun α => f251) := entG b251 rs251 28 fun _ => f251_ok
noncomputable def b263 := bdy Tryz.f263
noncomputable def rs263 := Tryz.f263.results.toList
noncomputable def f263_2K : Ex → K α := (nxK (R Pq o c n (cB (cB b263)) (kend Pq o c n w rs263 k)) (kend Pq o c n w rs263 k))
noncomputable def f263_3 {α : Type} (o : α) (c : Call' α) (n : Nat) (k : AV → Heap → α) (m : Nat) : AVs (Heap → α) 3 :=
  Nat.rec (motive := fun _ => AVs (Heap → α) 3) (fun _ _ _ _ => o) (fun _ lp0 s0 s3 s4 h => nilChk o s0 fun v1 => faF o 3 v1 fun v2 => load1F o h v2 fun v3 => eqiF Pq o 3 v3 (.i .i64 0) fun v4 => ifF o v4 (c 24 [s0, (.s 1 46)] h fun v5 h => pk k v5 h <| ifF o v5 (c 70 [s0] h fun v6 h => pk k v6 h <| c 25 [s0, (.s 1 40)] h fun v7 h => pk k v7 h <| ifF o v7 (dreg o h 8 fun base h => loadNF o (h.look 0) 8 s3 fun v8 => fil1 o 8 1 0 v8 [[(.i .i64 0), (.i .i32 0), (.s 0 0), (.s 0 0), (.s 0 0), .nsl, (.s 0 0), (.i .i64 0)]] fun v9 => newEF (h.look 2) (Nat.add base 2) 8 1 v9 fun v10 h => callD o c (hidD false [(.fn (.func 219) [] []), s0] (lapp [Nat.add base 2] []) (sBlk s3 [])) 219 [s0] (h.look 0) fun v11 h => pnF v11 (fun x => o) <| lb [] fun ids => appD o ids (Nat.add base 5) <| appendY Pq o (hide ids (h.look 30)) (Nat.add base 5) 39 39 v10 v11 fun v12 g => hb (back h ids g) fun h => layF o 0 (.i .i64 10) [(.i .i64 0), (.i .i32 0), (.s 0 0), (.s 0 0), (.s 0 0), .nsl, (.s 0 0), (.i .i64 0)] fun v13 => layF o 3 v6 v13 fun v14 => layF o 5 v12 v14 fun v15 => storeF o (h.look 127) 8 s3 (.agg v15) fun h => hb h.shut fun h => lp0 s0 s3 s4 h) (loadNF o h 8 s3 fun v16 => fil1 o 8 1 0 v16 [[(.i .i64 0), (.i .i32 0), (.s 0 0), (.s 0 0), (.s 0 0), .nsl, (.s 0 0), (.i .i64 0)]] fun v17 => newEF h h.next 8 1 v17 fun v18 h => layF o 0 (.i .i64 7) [(.i .i64 0), (.i .i32 0), (.s 0 0), (.s 0 0), (.s 0 0), .nsl, (.s 0 0), (.i .i64 0)] fun v19 => layF o 3 v6 v19 fun v20 => layF o 5 v18 v20 fun v21 => storeF o h 8 s3 (.agg v21) fun h => lp0 s0 s3 s4 h)) (c 24 [s0, (.s 2 29537)] h fun v22 h => pk k v22 h <| ifF o v22 (dreg o h 6 fun base h => callD o c (hidD false [(.fn (.func 23) [] []), s0] (lapp [Nat.add base 3] []) (sBlk s3 [])) 23 [s0] (h.look 0) fun v23 h => pnF v23 (fun x => o) <| loadNF o (h.look 0) 8 s3 fun v24 => fil1 o 8 1 0 v24 [[(.i .i64 0), (.i .i32 0), (.s 0 0), (.s 0 0), (.s 0 0), .nsl, (.s 0 0), (.i .i64 0)]] fun v25 => newEF (h.look 4) (Nat.add base 3) 8 1 v25 fun v26 h => layF o 0 (.i .i64 15) [(.i .i64 0), (.i .i32 0), (.s 0 0), (.s 0 0), (.s 0 0), .nsl, (.s 0 0), (.i .i64 0)] fun v27 => layF o 4 v23 v27 fun v28 => layF o 5 v26 v28 fun v29 => storeF o (h.look 31) 8 s3 (.agg v29) fun h => hb h.shut fun h => lp0 s0 s3 s4 h) (c 24 [s0, (.s 2 29545)] h fun v30 h => pk k v30 h <| ifF o v30 (dreg o h 6 fun base h => callD o c (hidD false [(.fn (.func 23) [] []), s0] (lapp [Nat.add base 3] []) (sBlk s3 [])) 23 [s0] (h.look 0) fun v31 h => pnF v31 (fun x => o) <| loadNF o (h.look 0) 8 s3 fun v32 => fil1 o 8 1 0 v32 [[(.i .i64 0), (.i .i32 0), (.s 0 0), (.s 0 0), (.s 0 0), .nsl, (.s 0 0), (.i .i64 0)]] fun v33 => newEF (h.look 4) (Nat.add base 3) 8 1 v33 fun v34 h => layF o 0 (.i .i64 16) [(.i .i64 0), (.i .i32 0), (.s 0 0), (.s 0 0), (.s 0 0), .nsl, (.s 0 0), (.i .i64 0)] fun v35 => layF o 4 v31 v35 fun v36 => layF o 5 v34 v36 fun v37 => storeF o (h.look 31) 8 s3 (.agg v37) fun h => hb h.shut fun h => lp0 s0 s3 s4 h) (loadNF o h 8 s3 fun v38 => storeF o h 8 s4 v38 fun h => on o (resV Pq h [(s4, some 43)]) fun v => k v h)))) (loadNF o h 8 s3 fun v39 => storeF o h 8 s4 v39 fun h => on o (resV Pq h [(s4, some 43)]) fun v => k v h)) m
theorem f263_3_ok : R Pq o c n (cA (cA (cB b263))) (blockK (cI (cA (cB b263))) (f263_2K o c n k w)) = fun t _ h => f263_3 o c n k n (t 0) (t 3) (t 4) h :=
  c_loop (F := fun m t _ h => f263_3 o c n k m (t 0) (t 3) (t 4) h) (by kernel_rfl) (by kernel_rfl) fun m => by kernel_rfl
noncomputable def f263_1 (s0 s3 s4 : AV) (h : Heap) : α :=
  f263_3 o c n k n s0 s3 s4 h
theorem f263_1_ok : R Pq o c n (cB b263) (kend Pq o c n w rs263 k) = fun t _ h => f263_1 o c n k (t 0) (t 3) (t 4) h := (kseq rfl (kblk (f263_3_ok o c n k w))).tk
noncomputable def f263 (a0 a1 : AV) (h : Heap) : α :=
  boxF o a1 h h.next fun v40 h => newF h h.next 8 [(.i .i64 0), (.i .i32 0), (.s 0 0), (.s 0 0), (.s 0 0), .nsl, (.s 0 0), (.i .i64 0)] fun v41 h => f263_1 o c n k a0 v40 v41 h
theorem f263_ok : R Pq o c n b263 (kend Pq o c n w rs263 k) = fun t _ h => f263 o c n k (t 0) (t 1) h := (kseq (f263_1_ok o c n k w) rfl).tk
theorem f263_good : Good Pq (cfg mm) 263 (entF Pq (cfg mm) 263 2 fun α => f263) := entG b263 rs263 47 fun _ => f263_ok
noncomputable def b265 := bdy Tryz.f265
noncomputable def rs265 := Tryz.f265.results.toList
noncomputable def f265_2K : Ex → K α := (nxK (R Pq o c n (cB (cB b265)) (kend Pq o c n w rs265 k)) (kend Pq o c n w rs265 k))
noncomputable def f265_1 {α : Type} (o : α) (c : Call' α) (n : Nat) (k : AV → Heap → α) (s0 : AV) (h : Heap) : α :=
  geqF Pq o 21 s0 (.i .i32 97) fun v1 => bkF o true v1 (leqF Pq o 21 s0 (.i .i32 122) fun v2 => pickF o v1 v2 (.b false) fun v3 => k v3 h) (pickF o v1 (.tup []) (.b false) fun v4 => k v4 h)
theorem f265_1_ok : R Pq o c n (cB b265) (kend Pq o c n w rs265 k) = fun t _ h => f265_1 o c n k (t 0) h := (kseq rfl (r_start 3 (by kernel_rfl) (q_guard 3 5 (2, true) (by kernel_rfl) (by kernel_rfl) (by kernel_rfl) rfl))).tk
noncomputable def f265 (a0 : AV) (h : Heap) : α :=
  f265_1 o c n k a0 h
theorem f265_ok : R Pq o c n b265 (kend Pq o c n w rs265 k) = fun t _ h => f265 o c n k (t 0) h := (kseq (f265_1_ok o c n k w) rfl).tk
theorem f265_good : Good Pq (cfg mm) 265 (entF Pq (cfg mm) 265 1 fun α => f265) := entG b265 rs265 9 fun _ => f265_ok
noncomputable def b266 := bdy Tryz.f266
noncomputable def rs266 := Tryz.f266.results.toList
noncomputable def f266 {α : Type} (o : α) (c : Call' α) (n : Nat) (k : AV → Heap → α) (a0 : AV) (h : Heap) : α :=
  fil1 o 1 24 0 (.s 7 31069335677005666) (lrep [(.s 0 0)] 24) fun v1 => fil1 o 1 24 1 (.s 3 7630441) v1 fun v2 => fil1 o 1 24 2 (.s 4 1684631414) v2 fun v3 => fil1 o 1 24 3 (.s 5 495857003619) v3 fun v4 => fil1 o 1 24 4 (.s 7 32480047633037413) v4 fun v5 => fil1 o 1 24 5 (.s 6 109304575259763) v5 fun v6 => fil1 o 1 24 6 (.s 3 7824750) v6 fun v7 => fil1 o 1 24 7 (.s 4 1936287860) v7 fun v8 => fil1 o 1 24 8 (.s 5 491328140659) v8 fun v9 => fil1 o 1 24 9 (.s 4 1819047278) v9 fun v10 => fil1 o 1 24 10 (.s 4 1702195828) v10 fun v11 => fil1 o 1 24 11 (.s 5 435728179558) v11 fun v12 => fil1 o 1 24 12 (.s 2 26217) v12 fun v13 => fil1 o 1 24 13 (.s 4 1702063205) v13 fun v14 => fil1 o 1 24 14 (.s 5 435610544247) v14 fun v15 => fil1 o 1 24 15 (.s 6 121437875889522) v15 fun v16 => fil1 o 1 24 16 (.s 5 500068610672) v16 fun v17 => fil1 o 1 24 17 (.s 6 128034677158753) v17 fun v18 => fil1 o 1 24 18 (.s 5 512970877044) v18 fun v19 => fil1 o 1 24 19 (.s 3 7959156) v19 fun v20 => fil1 o 1 24 20 (.s 5 448345170275) v20 fun v21 => fil1 o 1 24 21 (.s 7 34177684928883046) v21 fun v22 => fil1 o 1 24 22 (.s 2 29537) v22 fun v23 => fil1 o 1 24 23 (.s 2 29545) v23 fun v24 => newEF h h.next 1 24 v24 fun v25 h => c 14 [v25, a0] h fun v26 h => pk k v26 h <| k v26 h
theorem f266_ok : R Pq o c n b266 (kend Pq o c n w rs266 k) = fun t _ h => f266 o c n k (t 0) h := by kernel_rfl
theorem f266_good : Good Pq (cfg mm) 266 (entF Pq (cfg mm) 266 1 fun α => f266) := entG b266 rs266 6 fun _ => f266_ok
noncomputable def b267 := bdy Tryz.f267
noncomputable def rs267 := Tryz.f267.results.toList
noncomputable def f267_2K : Ex → K α := (nxK (R Pq o c n (cB (cB b267)) (kend Pq o c n w rs267 k)) (kend Pq o c n w rs267 k))
noncomputable def f267_4 {α : Type} (o : α) (c : Call' α) (n : Nat) (k : AV → Heap → α) (m : Nat) : AVs (Heap → α) 4 :=
  Nat.rec (motive := fun _ => AVs (Heap → α) 4) (fun _ _ _ _ _ => o) (fun _ lp0 s0 s1 s7 s8 h => lssF Pq o 3 s8 s7 fun v1 => ifF o v1 (ixF o 8 s0 s8 fun v2 => loadNF o h 8 v2 fun v3 => cfF o s1 [v3] c h fun v4 h => pk k v4 h <| ifF o v4 (k s8 h) (addF Pq o 3 s8 (.i .i64 1) fun v5 => lp0 s0 s1 s7 v5 h)) (k (.i .i64 (-1)) h)) m
theorem f267_4_ok : R Pq o c n (cA (cB (cA (cB b267)))) (blockK (cI (cB (cA (cB b267)))) (f267_2K o c n k w)) = fun t _ h => f267_4 o c n k n (t 0) (t 1) (t 7) (t 8) h :=
  c_loop (F := fun m t _ h => f267_4 o c n k m (t 0) (t 1) (t 7) (t 8) h) (by kernel_rfl) (by kernel_rfl) fun m => by kernel_rfl
noncomputable def f267_3 (s0 s1 s7 s8 : AV) (h : Heap) : α :=
  f267_4 o c n k n s0 s1 s7 s8 h
theorem f267_3_ok : R Pq o c n (cB (cA (cB b267))) (f267_2K o c n k w) = fun t _ h => f267_3 o c n k (t 0) (t 1) (t 7) (t 8) h := (kblk (f267_4_ok o c n k w)).tk
noncomputable def f267_1 (s0 s1 : AV) (h : Heap) : α :=
  lenF o s0 fun v6 => f267_3 o c n k s0 s1 v6 (.i .i64 0) h
theorem f267_1_ok : R Pq o c n (cB b267) (kend Pq o c n w rs267 k) = fun t _ h => f267_1 o c n k (t 0) (t 1) h := (kseq rfl (kseq (f267_3_ok o c n k w) rfl)).tk
noncomputable def f267 (a0 a1 : AV) (h : Heap) : α :=
  f267_1 o c n k a0 a1 h
theorem f267_ok : R Pq o c n b267 (kend Pq o c n w rs267 k) = fun t _ h => f267 o c n k (t 0) (t 1) h := (kseq (f267_1_ok o c n k w) rfl).tk
theorem f267_good : Good Pq (cfg mm) 267 (entF Pq (cfg mm) 267 2 fun α => f267) := entG b267 rs267 19 fun _ => f267_ok
noncomputable def b268 := bdy Tryz.f268
noncomputable def rs268 := Tryz.f268.results.toList
noncomputable def f268 {α : Type} (o : α) (c : Call' α) (n : Nat) (k : AV → Heap → α) (a0 : AV) (h : Heap) : α :=
  newF h h.next 7 [(.b false), (.b false), (.b false), (.b false), (.i .i64 0), (.i .i64 0), (.i .i64 0)] fun v1 h => mapA h h.next fun v2 h => layF o 0 (.b true) [(.b false), (.b false), (.b false), (.b false), (.i .i64 0), (.i .i64 0), (.i .i64 0)] fun v3 => insertN o h .i64 v2 (.i .i64 1) (.agg v3) fun h => layF o 0 (.b true) [(.b false), (.b false), (.b false), (.b false), (.i .i64 0), (.i .i64 0), (.i .i64 0)] fun v4 => insertN o h .i64 v2 (.i .i64 2) (.agg v4) fun h => layF o 1 (.b true) [(.b false), (.b false), (.b false), (.b false), (.i .i64 0), (.i .i64 0), (.i .i64 0)] fun v5 => insertN o h .i64 v2 (.i .i64 3) (.agg v5) fun h => insertN o h .i64 v2 (.i .i64 4) (.agg [(.b false), (.b false), (.b false), (.b false), (.i .i64 0), (.i .i64 0), (.i .i64 0)]) fun h => insertN o h .i64 v2 (.i .i64 5) (.agg [(.b false), (.b false), (.b false), (.b false), (.i .i64 0), (.i .i64 0), (.i .i64 0)]) fun h => layF o 2 (.b true) [(.b false), (.b false), (.b false), (.b false), (.i .i64 0), (.i .i64 0), (.i .i64 0)] fun v6 => insertN o h .i64 v2 (.i .i64 6) (.agg v6) fun h => layF o 2 (.b true) [(.b false), (.b false), (.b false), (.b false), (.i .i64 0), (.i .i64 0), (.i .i64 0)] fun v7 => layF o 4 (.i .i64 1) v7 fun v8 => layF o 5 (.i .i64 1) v8 fun v9 => insertN o h .i64 v2 (.i .i64 7) (.agg v9) fun h => layF o 2 (.b true) [(.b false), (.b false), (.b false), (.b false), (.i .i64 0), (.i .i64 0), (.i .i64 0)] fun v10 => insertN o h .i64 v2 (.i .i64 8) (.agg v10) fun h => layF o 2 (.b true) [(.b false), (.b false), (.b false), (.b false), (.i .i64 0), (.i .i64 0), (.i .i64 0)] fun v11 => layF o 3 (.b true) v11 fun v12 => insertN o h .i64 v2 (.i .i64 9) (.agg v12) fun h => layF o 2 (.b true) [(.b false), (.b false), (.b false), (.b false), (.i .i64 0), (.i .i64 0), (.i .i64 0)] fun v13 => layF o 4 (.i .i64 1) v13 fun v14 => layF o 5 (.i .i64 3000) v14 fun v15 => insertN o h .i64 v2 (.i .i64 10) (.agg v15) fun h => layF o 2 (.b true) [(.b false), (.b false), (.b false), (.b false), (.i .i64 0), (.i .i64 0), (.i .i64 0)] fun v16 => layF o 5 (.i .i64 3000) v16 fun v17 => insertN o h .i64 v2 (.i .i64 11) (.agg v17) fun h => layF o 2 (.b true) [(.b false), (.b false), (.b false), (.b false), (.i .i64 0), (.i .i64 0), (.i .i64 0)] fun v18 => layF o 5 (.i .i64 3000) v18 fun v19 => insertN o h .i64 v2 (.i .i64 12) (.agg v19) fun h => layF o 2 (.b true) [(.b false), (.b false), (.b false), (.b false), (.i .i64 0), (.i .i64 0), (.i .i64 0)] fun v20 => layF o 3 (.b true) v20 fun v21 => layF o 5 (.i .i64 3000) v21 fun v22 => insertN o h .i64 v2 (.i .i64 13) (.agg v22) fun h => layF o 3 (.b true) [(.b false), (.b false), (.b false), (.b false), (.i .i64 0), (.i .i64 0), (.i .i64 0)] fun v23 => layF o 5 (.i .i64 3000) v23 fun v24 => insertN o h .i64 v2 (.i .i64 14) (.agg v24) fun h => layF o 3 (.b true) [(.b false), (.b false), (.b false), (.b false), (.i .i64 0), (.i .i64 0), (.i .i64 0)] fun v25 => layF o 4 (.i .i64 1) v25 fun v26 => layF o 5 (.i .i64 1) v26 fun v27 => insertN o h .i64 v2 (.i .i64 15) (.agg v27) fun h => layF o 3 (.b true) [(.b false), (.b false), (.b false), (.b false), (.i .i64 0), (.i .i64 0), (.i .i64 0)] fun v28 => layF o 4 (.i .i64 1) v28 fun v29 => layF o 5 (.i .i64 1) v29 fun v30 => insertN o h .i64 v2 (.i .i64 16) (.agg v30) fun h => layF o 2 (.b true) [(.b false), (.b false), (.b false), (.b false), (.i .i64 0), (.i .i64 0), (.i .i64 0)] fun v31 => layF o 4 (.i .i64 2) v31 fun v32 => layF o 5 (.i .i64 2) v32 fun v33 => insertN o h .i64 v2 (.i .i64 17) (.agg v33) fun h => layF o 2 (.b true) [(.b false), (.b false), (.b false), (.b false), (.i .i64 0), (.i .i64 0), (.i .i64 0)] fun v34 => layF o 4 (.i .i64 1) v34 fun v35 => layF o 5 (.i .i64 1) v35 fun v36 => insertN o h .i64 v2 (.i .i64 18) (.agg v36) fun h => lookupN o h .i64 (some (.agg [(.b false), (.b false), (.b false), (.b false), (.i .i64 0), (.i .i64 0), (.i .i64 0)])) v2 a0 true fun v37 => exF o v37 0 fun v38 => exF o v37 1 fun v39 => newF h h.next 7 [(.b false), (.b false), (.b false), (.b false), (.i .i64 0), (.i .i64 0), (.i .i64 0)] fun v40 h => storeF o h 7 v40 v38 fun h => loadNF o h 7 v40 fun v41 => storeF o h 7 v1 v41 fun h => on o (resV Pq h [(v1, some 269), (v39, none)]) fun v => k v h
theorem f268_ok : R Pq o c n b268 (kend Pq o c n w rs268 k) = fun t _ h => f268 o c n k (t 0) h := by kernel_rfl
theorem f268_good : Good Pq (cfg mm) 268 (entF Pq (cfg mm) 268 1 fun α => f268) := entG b268 rs268 35 fun _ => f268_ok
noncomputable def b269 := bdy Tryz.f269
noncomputable def rs269 := Tryz.f269.results.toList
noncomputable def f269_2K : Ex → K α := (nxK (R Pq o c n (cB (cB b269)) (kend Pq o c n w rs269 k)) (kend Pq o c n w rs269 k))
noncomputable def f269_9 {α : Type} (o : α) (c : Call' α) (n : Nat) (k : AV → Heap → α) (s5 s6 s41 s45 : AV) (h : Heap) : α :=
  pickF o s41 s45 (.b false) fun v1 => bkF o true v1 (faF o 5 s6 fun v2 => load1F o h v2 fun v3 => leqF Pq o 3 s5 v3 fun v4 => pickF o v1 v4 (.b false) fun v5 => k v5 h) (pickF o v1 (.tup []) (.b false) fun v6 => k v6 h)
theorem f269_9_ok : Q Pq o c (cO (cA (cB b269))) (f269_2K o c n k w) 33 = fun t _ h => f269_9 o c n k (t 5) (t 6) (t 41) (t 45) h := (q_seg 33 35 (by kernel_rfl) (q_guard 35 39 (34, true) (by kernel_rfl) (by kernel_rfl) (by kernel_rfl) rfl)).tk
noncomputable def f269_8 (s5 s6 s34 s39 : AV) (h : Heap) : α :=
  pickF o s34 s39 (.b false) fun v7 => bkF o true v7 (faF o 4 s6 fun v8 => load1F o h v8 fun v9 => geqF Pq o 3 s5 v9 fun v10 => f269_9 o c n k s5 s6 v7 v10 h) (f269_9 o c n k s5 s6 v7 (.tup []) h)
theorem f269_8_ok : Q Pq o c (cO (cA (cB b269))) (f269_2K o c n k w) 27 = fun t _ h => f269_8 o c n k (t 5) (t 6) (t 34) (t 39) h := (q_seg 27 29 (by kernel_rfl) (q_guard 29 33 (28, true) (by kernel_rfl) (by kernel_rfl) (by kernel_rfl) (f269_9_ok o c n k w))).tk
noncomputable def f269_7 (s4 s5 s6 s27 s32 : AV) (h : Heap) : α :=
  pickF o s27 s32 (.b false) fun v11 => bkF o true v11 (faF o 3 s6 fun v12 => load1F o h v12 fun v13 => nesF Pq o 9 s4 (.s 0 0) fun v14 => eqiF Pq o 4 v13 v14 fun v15 => f269_8 o c n k s5 s6 v11 v15 h) (f269_8 o c n k s5 s6 v11 (.tup []) h)
theorem f269_7_ok : Q Pq o c (cO (cA (cB b269))) (f269_2K o c n k w) 20 = fun t _ h => f269_7 o c n k (t 4) (t 5) (t 6) (t 27) (t 32) h := (q_seg 20 22 (by kernel_rfl) (q_guard 22 27 (21, true) (by kernel_rfl) (by kernel_rfl) (by kernel_rfl) (f269_8_ok o c n k w))).tk
noncomputable def f269_6 (s3 s4 s5 s6 s19 s25 : AV) (h : Heap) : α :=
  pickF o s19 s25 (.b false) fun v16 => bkF o true v16 (faF o 2 s6 fun v17 => load1F o h v17 fun v18 => nesF Pq o 9 s3 (.s 0 0) fun v19 => eqiF Pq o 4 v18 v19 fun v20 => f269_7 o c n k s4 s5 s6 v16 v20 h) (f269_7 o c n k s4 s5 s6 v16 (.tup []) h)
theorem f269_6_ok : Q Pq o c (cO (cA (cB b269))) (f269_2K o c n k w) 13 = fun t _ h => f269_6 o c n k (t 3) (t 4) (t 5) (t 6) (t 19) (t 25) h := (q_seg 13 15 (by kernel_rfl) (q_guard 15 20 (14, true) (by kernel_rfl) (by kernel_rfl) (by kernel_rfl) (f269_7_ok o c n k w))).tk
noncomputable def f269_5 (s3 s4 s5 s6 s19 s22 s24 : AV) (h : Heap) : α :=
  bkF o true s19 (pickF o s22 (.b true) s24 fun v21 => f269_6 o c n k s3 s4 s5 s6 s19 v21 h) (f269_6 o c n k s3 s4 s5 s6 s19 (.tup []) h)
theorem f269_5_ok : Q Pq o c (cO (cA (cB b269))) (f269_2K o c n k w) 12 = fun t _ h => f269_5 o c n k (t 3) (t 4) (t 5) (t 6) (t 19) (t 22) (t 24) h := (q_seg 12 12 (by kernel_rfl) (q_guard 12 13 (6, true) (by kernel_rfl) (by kernel_rfl) (by kernel_rfl) (f269_6_ok o c n k w))).tk
noncomputable def f269_4 (s2 s3 s4 s5 s6 s19 s22 : AV) (h : Heap) : α :=
  bkF o false s22 (eqsF Pq o 9 s2 (.s 0 0) fun v22 => f269_5 o c n k s3 s4 s5 s6 s19 s22 v22 h) (f269_5 o c n k s3 s4 s5 s6 s19 s22 (.tup []) h)
theorem f269_4_ok : Q Pq o c (cO (cA (cB b269))) (f269_2K o c n k w) 10 = fun t _ h => f269_4 o c n k (t 2) (t 3) (t 4) (t 5) (t 6) (t 19) (t 22) h := (q_seg 10 10 (by kernel_rfl) (q_guard 10 12 (9, false) (by kernel_rfl) (by kernel_rfl) (by kernel_rfl) (f269_5_ok o c n k w))).tk
noncomputable def f269_3 (s2 s3 s4 s5 s6 s15 s17 : AV) (h : Heap) : α :=
  pickF o s15 (.b true) s17 fun v23 => bkF o true v23 (faF o 1 s6 fun v24 => load1F o h v24 fun v25 => f269_4 o c n k s2 s3 s4 s5 s6 v23 v25 h) (f269_4 o c n k s2 s3 s4 s5 s6 v23 (.tup []) h)
theorem f269_3_ok : Q Pq o c (cO (cA (cB b269))) (f269_2K o c n k w) 5 = fun t _ h => f269_3 o c n k (t 2) (t 3) (t 4) (t 5) (t 6) (t 15) (t 17) h := (q_seg 5 7 (by kernel_rfl) (q_guard 7 10 (6, true) (by kernel_rfl) (by kernel_rfl) (by kernel_rfl) (f269_4_ok o c n k w))).tk
noncomputable def f269_1 (s1 s2 s3 s4 s5 s6 : AV) (h : Heap) : α :=
  faF o 0 s6 fun v26 => load1F o h v26 fun v27 => bkF o false v27 (eqiF Pq o 21 s1 (.i .i32 0) fun v28 => f269_3 o c n k s2 s3 s4 s5 s6 v27 v28 h) (f269_3 o c n k s2 s3 s4 s5 s6 v27 (.tup []) h)
theorem f269_1_ok : R Pq o c n (cB b269) (kend Pq o c n w rs269 k) = fun t _ h => f269_1 o c n k (t 1) (t 2) (t 3) (t 4) (t 5) (t 6) h := (kseq rfl (r_start 3 (by kernel_rfl) (q_guard 3 5 (2, false) (by kernel_rfl) (by kernel_rfl) (by kernel_rfl) (f269_3_ok o c n k w)))).tk
noncomputable def f269 (a0 a1 a2 a3 a4 a5 : AV) (h : Heap) : α :=
  boxF o a0 h h.next fun v29 h => f269_1 o c n k a1 a2 a3 a4 a5 v29 h
theorem f269_ok : R Pq o c n b269 (kend Pq o c n w rs269 k) = fun t _ h => f269 o c n k (t 0) (t 1) (t 2) (t 3) (t 4) (t 5) h := (kseq (f269_1_ok o c n k w) rfl).tk
theorem f269_good : Good Pq (cfg mm) 269 (entF Pq (cfg mm) 269 6 fun α => f269) := entG b269 rs269 53 fun _ => f269_ok
noncomputable def b271 := bdy Tryz.f271
noncomputable def rs271 := Tryz.f271.results.toList
noncomputable def f271 {α : Type} (o : α) (c : Call' α) (n : Nat) (k : AV → Heap → α) (a0 a1 : AV) (h : Heap) : α :=
  eqiF Pq o 3 a0 (.i .i64 17) fun v1 => ifF o v1 (c 306 [a1] h fun v2 h => pk k v2 h <| k v2 h) (eqiF Pq o 3 a0 (.i .i64 18) fun v3 => ifF o v3 (c 307 [a1] h fun v4 h => pk k v4 h <| k v4 h) (c 229 [a1] h fun v5 h => pk k v5 h <| k v5 h))
theorem f271_ok : R Pq o c n b271 (kend Pq o c n w rs271 k) = fun t _ h => f271 o c n k (t 0) (t 1) h := by kernel_rfl
theorem f271_good : Good Pq (cfg mm) 271 (entF Pq (cfg mm) 271 2 fun α => f271) := entG b271 rs271 16 fun _ => f271_ok
noncomputable def b273 := bdy Tryz.f273
noncomputable def rs273 := Tryz.f273.results.toList
noncomputable def f273_5K : Ex → K α := (nxK (R Pq o c n (cB (cB (cB (cB (cB b273))))) (kend Pq o c n w rs273 k)) (kend Pq o c n w rs273 k))
noncomputable def f273_8K (lp0 : AVs (Heap → α) 5) : Ex → K α := (nxK (fun t _ h => lp0 (t 3) (t 5) (t 104) (t 105) (t 106) h) (blockK (cI (cB (cA (cB (cB (cB (cB b273))))))) (f273_5K o c n k w)))
noncomputable def f273_11K (lp0 : AVs (Heap → α) 5) : Ex → K α := (nxK (R Pq o c n (cB (cB (cB (cA (cA (cB (cA (cB (cB (cB (cB b273))))))))))) (f273_8K o c n k w lp0)) (f273_8K o c n k w lp0))
noncomputable def f273_13 {α : Type} (o : α) (c : Call' α) (n : Nat) (k : AV → Heap → α) (lp0 : AVs (Heap → α) 5) (s3 s5 s104 s105 s106 s126 : AV) (h : Heap) : α :=
  ifF o s126 (k (.b false) h) (addF Pq o 3 s106 (.i .i64 1) fun v1 => lp0 s3 s5 s104 s105 v1 h)
theorem f273_13_ok (lp0 : AVs (Heap → α) 5) : R Pq o c n (cB (cB (cA (cA (cB (cB (cA (cA (cB (cA (cB (cB (cB (cB b273)))))))))))))) (blockK (cI (cA (cB (cB (cA (cA (cB (cA (cB (cB (cB (cB b273)))))))))))) (f273_11K o c n k w lp0)) = fun t _ h => f273_13 o c n k lp0 (t 3) (t 5) (t 104) (t 105) (t 106) (t 126) h := by kernel_rfl
noncomputable def f273_14K (lp0 : AVs (Heap → α) 5) : Ex → K α := (nxK (fun t _ h => f273_13 o c n k lp0 (t 3) (t 5) (t 104) (t 105) (t 106) (t 126) h) (blockK (cI (cA (cB (cB (cA (cA (cB (cA (cB (cB (cB (cB b273)))))))))))) (f273_11K o c n k w lp0)))
noncomputable def f273_15 (lp0 : AVs (Heap → α) 5) (s3 s5 s8 s104 s105 s106 s115 s118 : AV) (h : Heap) : α :=
  pickF o s115 s118 (.b false) fun v2 => bkF o false v2 (load1F o h s3 fun v3 => addF Pq o 3 v3 (.i .i64 1) fun v4 => c 234 [s8, v4, (.b false)] h fun v5 h => pk k v5 h <| notF o v5 fun v6 => pickF o v2 (.b true) v6 fun v7 => f273_13 o c n k lp0 s3 s5 s104 s105 s106 v7 h) (pickF o v2 (.b true) (.tup []) fun v8 => f273_13 o c n k lp0 s3 s5 s104 s105 s106 v8 h)
theorem f273_15_ok (lp0 : AVs (Heap → α) 5) : Q Pq o c (cO (cA (cB (cA (cA (cB (cB (cA (cA (cB (cA (cB (cB (cB (cB b273))))))))))))))) (f273_14K o c n k w lp0) 8 = fun t _ h => f273_15 o c n k lp0 (t 3) (t 5) (t 8) (t 104) (t 105) (t 106) (t 115) (t 118) h := (q_seg 8 10 (by kernel_rfl) (q_guard 10 15 (9, false) (by kernel_rfl) (by kernel_rfl) (by kernel_rfl) rfl)).tk
noncomputable def f273_12 (lp0 : AVs (Heap → α) 5) (s3 s5 s7 s8 s104 s105 s106 : AV) (h : Heap) : α :=
  faF o 6 s5 fun v9 => load1F o h v9 fun v10 => geqF Pq o 3 s7 v10 fun v11 => bkF o true v11 (lenF o s8 fun v12 => gtrF Pq o 3 v12 (.i .i64 0) fun v13 => f273_15 o c n k lp0 s3 s5 s8 s104 s105 s106 v11 v13 h) (f273_15 o c n k lp0 s3 s5 s8 s104 s105 s106 v11 (.tup []) h)
theorem f273_12_ok (lp0 : AVs (Heap → α) 5) : R Pq o c n (cB (cA (cA (cB (cB (cA (cA (cB (cA (cB (cB (cB (cB b273))))))))))))) (blockK (cI (cA (cB (cB (cA (cA (cB (cA (cB (cB (cB (cB b273)))))))))))) (f273_11K o c n k w lp0)) = fun t _ h => f273_12 o c n k lp0 (t 3) (t 5) (t 7) (t 8) (t 104) (t 105) (t 106) h := (kseq (f273_13_ok o c n k w lp0) (r_start 5 (by kernel_rfl) (q_guard 5 8 (4, true) (by kernel_rfl) (by kernel_rfl) (by kernel_rfl) (f273_15_ok o c n k w lp0)))).tk
noncomputable def f273_10 (lp0 : AVs (Heap → α) 5) (s3 s5 s104 s105 s106 : AV) (h : Heap) : α :=
  ixF o 1 s104 s106 fun v14 => load1F o h v14 fun v15 => f273_12 o c n k lp0 s3 s5 s106 v15 s104 s105 s106 h
theorem f273_10_ok (lp0 : AVs (Heap → α) 5) : R Pq o c n (cB (cB (cA (cA (cB (cA (cB (cB (cB (cB b273)))))))))) (f273_8K o c n k w lp0) = fun t _ h => f273_10 o c n k lp0 (t 3) (t 5) (t 104) (t 105) (t 106) h := (kseq rfl (kblk (kseq (f273_12_ok o c n k w lp0) rfl))).tk
noncomputable def f273_9 (lp0 : AVs (Heap → α) 5) (s3 s5 s104 s105 s106 s107 : AV) (h : Heap) : α :=
  ifF o s107 (f273_10 o c n k lp0 s3 s5 s104 s105 s106 h) (k (.b true) h)
theorem f273_9_ok (lp0 : AVs (Heap → α) 5) : R Pq o c n (cB (cA (cA (cB (cA (cB (cB (cB (cB b273))))))))) (f273_8K o c n k w lp0) = fun t _ h => f273_9 o c n k lp0 (t 3) (t 5) (t 104) (t 105) (t 106) (t 107) h := (kseq (f273_10_ok o c n k w lp0) rfl).tk
noncomputable def f273_7 (m : Nat) : AVs (Heap → α) 5 :=
  Nat.rec (motive := fun _ => AVs (Heap → α) 5) (fun _ _ _ _ _ _ => o) (fun _ lp0 s3 s5 s104 s105 s106 h => lssF Pq o 3 s106 s105 fun v16 => f273_9 o c n k lp0 s3 s5 s104 s105 s106 v16 h) m
theorem f273_7_ok : R Pq o c n (cA (cB (cA (cB (cB (cB (cB b273))))))) (blockK (cI (cB (cA (cB (cB (cB (cB b273))))))) (f273_5K o c n k w)) = fun t _ h => f273_7 o c n k n (t 3) (t 5) (t 104) (t 105) (t 106) h :=
  c_loop (F := fun m t _ h => f273_7 o c n k m (t 3) (t 5) (t 104) (t 105) (t 106) h) (by kernel_rfl) (by kernel_rfl) fun m => (kseq (f273_9_ok o c n k w (f273_7 o c n k m)) rfl).tk
noncomputable def f273_6 (s3 s5 s104 s105 s106 : AV) (h : Heap) : α :=
  f273_7 o c n k n s3 s5 s104 s105 s106 h
theorem f273_6_ok : R Pq o c n (cB (cA (cB (cB (cB (cB b273)))))) (f273_5K o c n k w) = fun t _ h => f273_6 o c n k (t 3) (t 5) (t 104) (t 105) (t 106) h := (kblk (f273_7_ok o c n k w)).tk
noncomputable def f273_4 (s2 s3 s5 : AV) (h : Heap) : α :=
  faF o 5 s2 fun v17 => load1F o h v17 fun v18 => faF o 6 s2 fun v19 => load1F o h v19 fun v20 => faF o 7 s2 fun v21 => load1F o h v21 fun v22 => fil1 o 1 3 0 v18 [[.nsl], [.nsl], [.nsl]] fun v23 => fil1 o 1 3 1 v20 v23 fun v24 => fil1 o 1 3 2 v22 v24 fun v25 => newEF h h.next 1 3 v25 fun v26 h => lenF o v26 fun v27 => f273_6 o c n k s3 s5 v26 v27 (.i .i64 0) h
theorem f273_4_ok : R Pq o c n (cB (cB (cB (cB b273)))) (kend Pq o c n w rs273 k) = fun t _ h => f273_4 o c n k (t 2) (t 3) (t 5) h := (kseq rfl (kseq (f273_6_ok o c n k w) rfl)).tk
noncomputable def f273_16K : Ex → K α := (nxK (fun t _ h => f273_4 o c n k (t 2) (t 3) (t 5) h) (kend Pq o c n w rs273 k))
noncomputable def f273_17 (s2 s3 s5 s41 : AV) (h : Heap) : α :=
  ifF o s41 (k (.b false) h) (f273_4 o c n k s2 s3 s5 h)
theorem f273_17_ok : R Pq o c n (cB (cA (cA (cB (cB (cB b273)))))) (blockK (cI (cA (cB (cB (cB b273))))) (f273_16K o c n k w)) = fun t _ h => f273_17 o c n k (t 2) (t 3) (t 5) (t 41) h := by kernel_rfl
noncomputable def f273_18K : Ex → K α := (nxK (fun t _ h => f273_17 o c n k (t 2) (t 3) (t 5) (t 41) h) (blockK (cI (cA (cB (cB (cB b273))))) (f273_16K o c n k w)))
noncomputable def f273_23 (s2 s3 s5 s41 : AV) (h : Heap) : α :=
  ifF o s41 (f273_17 o c n k s2 s3 s5 s41 h) (faF o 0 s2 fun v28 => load1F o h v28 fun v29 => eqiF Pq o 3 v29 (.i .i64 3) fun v30 => bkF o true v30 (faF o 4 s2 fun v31 => load1F o h v31 fun v32 => ixF o 8 v32 (.i .i64 0) fun v33 => loadNF o h 8 v33 fun v34 => c 311 [v34] h fun v35 h => pk k v35 h <| notF o v35 fun v36 => pickF o v30 v36 (.b false) fun v37 => f273_17 o c n k s2 s3 s5 v37 h) (pickF o v30 (.tup []) (.b false) fun v38 => f273_17 o c n k s2 s3 s5 v38 h))
theorem f273_23_ok : R Pq o c n (cB (cB (cB (cB (cB (cB (cB (cB (cB (cA (cA (cA (cB (cB (cB b273))))))))))))))) (f273_18K o c n k w) = fun t _ h => f273_23 o c n k (t 2) (t 3) (t 5) (t 41) h := (c_cond (by kernel_rfl) rfl (r_start 4 (by kernel_rfl) (q_guard 4 10 (3, true) (by kernel_rfl) (by kernel_rfl) (by kernel_rfl) rfl))).tk
noncomputable def f273_24K : Ex → K α := (nxK (fun t _ h => f273_23 o c n k (t 2) (t 3) (t 5) (t 41) h) (f273_18K o c n k w))
noncomputable def f273_22 (s2 s3 s5 s41 : AV) (h : Heap) : α :=
  ifF o s41 (f273_17 o c n k s2 s3 s5 s41 h) (faF o 0 s2 fun v39 => load1F o h v39 fun v40 => eqiF Pq o 3 v40 (.i .i64 2) fun v41 => bkF o true v41 (faF o 4 s2 fun v42 => load1F o h v42 fun v43 => ixF o 8 v43 (.i .i64 0) fun v44 => loadNF o h 8 v44 fun v45 => c 310 [v45] h fun v46 h => pk k v46 h <| notF o v46 fun v47 => pickF o v41 v47 (.b false) fun v48 => f273_23 o c n k s2 s3 s5 v48 h) (pickF o v41 (.tup []) (.b false) fun v49 => f273_23 o c n k s2 s3 s5 v49 h))
theorem f273_22_ok : R Pq o c n (cB (cB (cB (cB (cB (cB (cB (cA (cA (cA (cB (cB (cB b273))))))))))))) (f273_18K o c n k w) = fun t _ h => f273_22 o c n k (t 2) (t 3) (t 5) (t 41) h := (c_cond (by kernel_rfl) rfl (kseq (f273_23_ok o c n k w) (r_start 4 (by kernel_rfl) (q_guard 4 10 (3, true) (by kernel_rfl) (by kernel_rfl) (by kernel_rfl) rfl)))).tk
noncomputable def f273_25K : Ex → K α := (nxK (fun t _ h => f273_22 o c n k (t 2) (t 3) (t 5) (t 41) h) (f273_18K o c n k w))
noncomputable def f273_21 (s2 s3 s5 s41 : AV) (h : Heap) : α :=
  ifF o s41 (f273_17 o c n k s2 s3 s5 s41 h) (faF o 0 s2 fun v50 => load1F o h v50 fun v51 => eqiF Pq o 3 v51 (.i .i64 10) fun v52 => bkF o true v52 (faF o 2 s2 fun v53 => load1F o h v53 fun v54 => c 164 [v54] h fun v55 h => pk k v55 h <| notF o v55 fun v56 => pickF o v52 v56 (.b false) fun v57 => f273_22 o c n k s2 s3 s5 v57 h) (pickF o v52 (.tup []) (.b false) fun v58 => f273_22 o c n k s2 s3 s5 v58 h))
theorem f273_21_ok : R Pq o c n (cB (cB (cB (cB (cB (cA (cA (cA (cB (cB (cB b273))))))))))) (f273_18K o c n k w) = fun t _ h => f273_21 o c n k (t 2) (t 3) (t 5) (t 41) h := (c_cond (by kernel_rfl) rfl (kseq (f273_22_ok o c n k w) (r_start 4 (by kernel_rfl) (q_guard 4 8 (3, true) (by kernel_rfl) (by kernel_rfl) (by kernel_rfl) rfl)))).tk
noncomputable def f273_26K : Ex → K α := (nxK (fun t _ h => f273_21 o c n k (t 2) (t 3) (t 5) (t 41) h) (f273_18K o c n k w))
noncomputable def f273_20 (s2 s3 s5 s41 : AV) (h : Heap) : α :=
  ifF o s41 (f273_17 o c n k s2 s3 s5 s41 h) (faF o 0 s2 fun v59 => load1F o h v59 fun v60 => eqiF Pq o 3 v60 (.i .i64 1) fun v61 => bkF o true v61 (faF o 2 s2 fun v62 => load1F o h v62 fun v63 => c 228 [v63] h fun v64 h => pk k v64 h <| notF o v64 fun v65 => pickF o v61 v65 (.b false) fun v66 => f273_21 o c n k s2 s3 s5 v66 h) (pickF o v61 (.tup []) (.b false) fun v67 => f273_21 o c n k s2 s3 s5 v67 h))
theorem f273_20_ok : R Pq o c n (cB (cB (cB (cA (cA (cA (cB (cB (cB b273))))))))) (f273_18K o c n k w) = fun t _ h => f273_20 o c n k (t 2) (t 3) (t 5) (t 41) h := (c_cond (by kernel_rfl) rfl (kseq (f273_21_ok o c n k w) (r_start 4 (by kernel_rfl) (q_guard 4 8 (3, true) (by kernel_rfl) (by kernel_rfl) (by kernel_rfl) rfl)))).tk
noncomputable def f273_27K : Ex → K α := (nxK (fun t _ h => f273_20 o c n k (t 2) (t 3) (t 5) (t 41) h) (f273_18K o c n k w))
noncomputable def f273_19 (s2 s3 s5 s41 : AV) (h : Heap) : α :=
  ifF o s41 (f273_17 o c n k s2 s3 s5 s41 h) (faF o 2 s5 fun v68 => load1F o h v68 fun v69 => bkF o true v69 (faF o 3 s2 fun v70 => load1F o h v70 fun v71 => c 229 [v71] h fun v72 h => pk k v72 h <| notF o v72 fun v73 => pickF o v69 v73 (.b false) fun v74 => f273_20 o c n k s2 s3 s5 v74 h) (pickF o v69 (.tup []) (.b false) fun v75 => f273_20 o c n k s2 s3 s5 v75 h))
theorem f273_19_ok : R Pq o c n (cB (cA (cA (cA (cB (cB (cB b273))))))) (f273_18K o c n k w) = fun t _ h => f273_19 o c n k (t 2) (t 3) (t 5) (t 41) h := (c_cond (by kernel_rfl) rfl (kseq (f273_20_ok o c n k w) (r_start 3 (by kernel_rfl) (q_guard 3 7 (2, true) (by kernel_rfl) (by kernel_rfl) (by kernel_rfl) rfl)))).tk
noncomputable def f273_28K : Ex → K α := (nxK (fun t _ h => f273_19 o c n k (t 2) (t 3) (t 5) (t 41) h) (f273_18K o c n k w))
noncomputable def f273_3 (s2 s3 s5 : AV) (h : Heap) : α :=
  faF o 1 s2 fun v76 => load1F o h v76 fun v77 => lssF Pq o 21 v77 (.i .i32 0) fun v78 => bkF o false v78 (faF o 1 s2 fun v79 => load1F o h v79 fun v80 => gtrF Pq o 21 v80 (.i .i32 9999) fun v81 => pickF o v78 (.b true) v81 fun v82 => f273_19 o c n k s2 s3 s5 v82 h) (pickF o v78 (.b true) (.tup []) fun v83 => f273_19 o c n k s2 s3 s5 v83 h)
theorem f273_3_ok : R Pq o c n (cB (cB (cB b273))) (kend Pq o c n w rs273 k) = fun t _ h => f273_3 o c n k (t 2) (t 3) (t 5) h := (kseq (f273_4_ok o c n k w) (kblk (kseq (f273_17_ok o c n k w) (kseq (f273_19_ok o c n k w) (r_start 4 (by kernel_rfl) (q_guard 4 7 (3, false) (by kernel_rfl) (by kernel_rfl) (by kernel_rfl) rfl)))))).tk
noncomputable def f273_29K : Ex → K α := (nxK (fun t _ h => f273_3 o c n k (t 2) (t 3) (t 5) h) (kend Pq o c n w rs273 k))
noncomputable def f273_30 (s2 s3 s5 s40 : AV) (h : Heap) : α :=
  ifF o s40 (k (.b false) h) (f273_3 o c n k s2 s3 s5 h)
theorem f273_30_ok : R Pq o c n (cB (cA (cB (cB b273)))) (f273_29K o c n k w) = fun t _ h => f273_30 o c n k (t 2) (t 3) (t 5) (t 40) h := by kernel_rfl
noncomputable def f273_31K : Ex → K α := (nxK (fun t _ h => f273_30 o c n k (t 2) (t 3) (t 5) (t 40) h) (f273_29K o c n k w))
noncomputable def f273_33 (s2 s3 s5 s21 s33 : AV) (h : Heap) : α :=
  pickF o s21 (.b true) s33 fun v84 => bkF o false v84 (faF o 4 s2 fun v85 => load1F o h v85 fun v86 => c 230 [v86, (.fn (.func 309) [] [s3])] h fun v87 h => pk k v87 h <| pickF o v84 (.b true) v87 fun v88 => f273_30 o c n k s2 s3 s5 v88 h) (pickF o v84 (.b true) (.tup []) fun v89 => f273_30 o c n k s2 s3 s5 v89 h)
theorem f273_33_ok : Q Pq o c (cO (cA (cA (cB (cB b273))))) (f273_31K o c n k w) 19 = fun t _ h => f273_33 o c n k (t 2) (t 3) (t 5) (t 21) (t 33) h := (q_seg 19 21 (by kernel_rfl) (q_guard 21 25 (20, false) (by kernel_rfl) (by kernel_rfl) (by kernel_rfl) rfl)).tk
noncomputable def f273_32 (s2 s3 s5 s17 s19 : AV) (h : Heap) : α :=
  pickF o s17 (.b true) s19 fun v90 => bkF o false v90 (loadNF o h 7 s5 fun v91 => faF o 1 s2 fun v92 => load1F o h v92 fun v93 => faF o 3 s2 fun v94 => load1F o h v94 fun v95 => faF o 2 s2 fun v96 => load1F o h v96 fun v97 => faF o 4 s2 fun v98 => load1F o h v98 fun v99 => lenF o v99 fun v100 => c 269 [v91, v93, (.s 0 0), v95, v97, v100] h fun v101 h => pk k v101 h <| notF o v101 fun v102 => f273_33 o c n k s2 s3 s5 v90 v102 h) (f273_33 o c n k s2 s3 s5 v90 (.tup []) h)
theorem f273_32_ok : Q Pq o c (cO (cA (cA (cB (cB b273))))) (f273_31K o c n k w) 5 = fun t _ h => f273_32 o c n k (t 2) (t 3) (t 5) (t 17) (t 19) h := (q_seg 5 7 (by kernel_rfl) (q_guard 7 19 (6, false) (by kernel_rfl) (by kernel_rfl) (by kernel_rfl) (f273_33_ok o c n k w))).tk
noncomputable def f273_2 (s2 s3 s5 s6 : AV) (h : Heap) : α :=
  notF o s6 fun v103 => bkF o false v103 (load1F o h s3 fun v104 => gtrF Pq o 3 v104 (.i .i64 40) fun v105 => f273_32 o c n k s2 s3 s5 v103 v105 h) (f273_32 o c n k s2 s3 s5 v103 (.tup []) h)
theorem f273_2_ok : R Pq o c n (cB (cB b273)) (kend Pq o c n w rs273 k) = fun t _ h => f273_2 o c n k (t 2) (t 3) (t 5) (t 6) h := (kseq (f273_3_ok o c n k w) (kseq (f273_30_ok o c n k w) (r_start 3 (by kernel_rfl) (q_guard 3 5 (2, false) (by kernel_rfl) (by kernel_rfl) (by kernel_rfl) (f273_32_ok o c n k w))))).tk
noncomputable def f273_1 (s2 s3 : AV) (h : Heap) : α :=
  faF o 0 s2 fun v106 => load1F o h v106 fun v107 => c 308 [v107] h fun v108 h => pk k v108 h <| exF o v108 0 fun v109 => exF o v108 1 fun v110 => newF h h.next 7 [(.b false), (.b false), (.b false), (.b false), (.i .i64 0), (.i .i64 0), (.i .i64 0)] fun v111 h => storeF o h 7 v111 v109 fun h => f273_2 o c n k s2 s3 v111 v110 h
theorem f273_1_ok : R Pq o c n (cB b273) (kend Pq o c n w rs273 k) = fun t _ h => f273_1 o c n k (t 2) (t 3) h := (kseq (f273_2_ok o c n k w) rfl).tk
noncomputable def f273 (a0 a1 : AV) (h : Heap) : α :=
  boxF o a0 h h.next fun v112 h => boxF o a1 h h.next fun v113 h => f273_1 o c n k v112 v113 h
theorem f273_ok : R Pq o c n b273 (kend Pq o c n w rs273 k) = fun t _ h => f273 o c n k (t 0) (t 1) h := (kseq (f273_1_ok o c n k w) rfl).tk
theorem f273_good : Good Pq (cfg mm) 273 (entF Pq (cfg mm) 273 2 fun α => f273) := entG b273 rs273 128 fun _ => f273_ok
noncomputable def b279 := bdy Tryz.f279
noncomputable def rs279 := Tryz.f279.results.toList
noncomputable def f279_2 {α : Type} (o : α) (c : Call' α) (n : Nat) (k : AV → Heap → α) (s1 : AV) (h : Heap) : α :=
  loadNF o h 13 s1 fun v1 => c 313 [v1] h fun v2 h => pk k v2 h <| exF o v2 0 fun v3 => exF o v2 1 fun v4 => neiF Pq o 3 v4 (.i .i64 0) fun v5 => ifF o v5 (c 278 [v4] h fun v6 h => pk k v6 h <| k v6 h) (faF o 0 s1 fun v7 => loadNF o h 1 v7 fun v8 => faF o 4 s1 fun v9 => faF o 3 v9 fun v10 => load1F o h v10 fun v11 => c 314 [v8, v3, v11] h fun v12 h => pk k v12 h <| exF o v12 0 fun v13 => exF o v12 1 fun v14 => newF h h.next 2 [(.s 0 0), (.i .i64 0)] fun v15 h => storeF o h 2 v15 v13 fun h => notF o v14 fun v16 => ifF o v16 (c 278 [(.i .i64 10)] h fun v17 h => pk k v17 h <| k v17 h) (faF o 0 s1 fun v18 => loadNF o h 1 v18 fun v19 => loadNF o h 2 v15 fun v20 => c 315 [v19, v20] h fun v21 h => pk k v21 h <| exF o v21 0 fun v22 => exF o v21 1 fun v23 => newF h h.next 4 [(.b false), (.s 0 0), (.s 0 0), .nsl] fun v24 h => storeF o h 4 v24 v22 fun h => loadNF o h 13 s1 fun v25 => faF o 0 v24 fun v26 => load1F o h v26 fun v27 => c 316 [v25, v27] h fun v28 h => pk k v28 h <| notF o v28 fun v29 => ifF o v29 (c 278 [(.i .i64 13)] h fun v30 h => pk k v30 h <| k v30 h) (faF o 1 v24 fun v31 => load1F o h v31 fun v32 => loadNF o h 2 v15 fun v33 => layF o 0 v32 [(.s 0 0), (.s 0 0), (.i .i64 0), (.i .i64 0)] fun v34 => lay1 o 1 2 v33 v34 fun v35 => k (.ifc 249 (.agg v35)) h)))
theorem f279_2_ok : R Pq o c n (cB (cB b279)) (kend Pq o c n w rs279 k) = fun t _ h => f279_2 o c n k (t 1) h := by kernel_rfl
noncomputable def f279_3K : Ex → K α := (nxK (fun t _ h => f279_2 o c n k (t 1) h) (kend Pq o c n w rs279 k))
noncomputable def f279_5 (s1 s3 s23 : AV) (h : Heap) : α :=
  ifF o s23 (c 277 [s3] h fun v36 h => pk k v36 h <| k v36 h) (f279_2 o c n k s1 h)
theorem f279_5_ok : R Pq o c n (cB (cB (cA (cB b279)))) (f279_3K o c n k w) = fun t _ h => f279_5 o c n k (t 1) (t 3) (t 23) h := by kernel_rfl
noncomputable def f279_6K : Ex → K α := (nxK (fun t _ h => f279_5 o c n k (t 1) (t 3) (t 23) h) (f279_3K o c n k w))
noncomputable def f279_4 (s1 s3 : AV) (h : Heap) : α :=
  faF o 4 s1 fun v37 => faF o 0 v37 fun v38 => load1F o h v38 fun v39 => eqiF Pq o 3 v39 (.i .i64 6) fun v40 => bkF o true v40 (nesF Pq o 9 s3 (.s 0 0) fun v41 => pickF o v40 v41 (.b false) fun v42 => f279_5 o c n k s1 s3 v42 h) (pickF o v40 (.tup []) (.b false) fun v43 => f279_5 o c n k s1 s3 v43 h)
theorem f279_4_ok : R Pq o c n (cB (cA (cB b279))) (f279_3K o c n k w) = fun t _ h => f279_4 o c n k (t 1) (t 3) h := (kseq (f279_5_ok o c n k w) (r_start 5 (by kernel_rfl) (q_guard 5 7 (4, true) (by kernel_rfl) (by kernel_rfl) (by kernel_rfl) rfl))).tk
noncomputable def f279_1 (s1 : AV) (h : Heap) : α :=
  faF o 1 s1 fun v44 => loadNF o h 3 v44 fun v45 => faF o 4 s1 fun v46 => faF o 3 v46 fun v47 => load1F o h v47 fun v48 => c 312 [v45, v48] h fun v49 h => pk k v49 h <| f279_4 o c n k s1 v49 h
theorem f279_1_ok : R Pq o c n (cB b279) (kend Pq o c n w rs279 k) = fun t _ h => f279_1 o c n k (t 1) h := (kseq (f279_2_ok o c n k w) (kseq (f279_4_ok o c n k w) rfl)).tk
noncomputable def f279 (a0 : AV) (h : Heap) : α :=
  boxF o a0 h h.next fun v50 h => f279_1 o c n k v50 h
theorem f279_ok : R Pq o c n b279 (kend Pq o c n w rs279 k) = fun t _ h => f279 o c n k (t 0) h := (kseq (f279_1_ok o c n k w) rfl).tk
theorem f279_good : Good Pq (cfg mm) 279 (entF Pq (cfg mm) 279 1 fun α => f279) := entG b279 rs279 66 fun _ => f279_ok
noncomputable def b280 := bdy Tryz.f280
noncomputable def rs280 := Tryz.f280.results.toList
noncomputable def f280_5 {α : Type} (o : α) (c : Call' α) (n : Nat) (k : AV → Heap → α) (s1 s3 s5 : AV) (h : Heap) : α :=
  c 282 [s5] h fun v1 h => pk k v1 h <| ifF o v1 (c 278 [(.i .i64 14)] h fun v2 h => pk k v2 h <| k v2 h) (faF o 0 s1 fun v3 => loadNF o h 1 v3 fun v4 => faF o 4 s1 fun v5 => faF o 3 v5 fun v6 => load1F o h v6 fun v7 => c 317 [v4, s3, v7, s5] h fun v8 h => pk k v8 h <| exF o v8 0 fun v9 => exF o v8 1 fun v10 => newF h h.next 2 [(.s 0 0), (.i .i64 0)] fun v11 h => storeF o h 2 v11 v9 fun h => neiF Pq o 3 v10 (.i .i64 0) fun v12 => ifF o v12 (c 278 [v10] h fun v13 h => pk k v13 h <| k v13 h) (faF o 0 s1 fun v14 => loadNF o h 1 v14 fun v15 => loadNF o h 2 v11 fun v16 => c 178 [v15, v16] h fun v17 h => pk k v17 h <| exF o v17 0 fun v18 => exF o v17 1 fun v19 => newF h h.next 6 [(.b false), (.b false), (.s 0 0), (.s 0 0), .nsl, .nsl] fun v20 h => storeF o h 6 v20 v18 fun h => loadNF o h 13 s1 fun v21 => faF o 0 v20 fun v22 => load1F o h v22 fun v23 => c 316 [v21, v23] h fun v24 h => pk k v24 h <| notF o v24 fun v25 => ifF o v25 (c 278 [(.i .i64 13)] h fun v26 h => pk k v26 h <| k v26 h) (faF o 2 v20 fun v27 => load1F o h v27 fun v28 => loadNF o h 2 v11 fun v29 => layF o 0 v28 [(.s 0 0), (.s 0 0), (.i .i64 0), (.i .i64 0)] fun v30 => lay1 o 1 2 v29 v30 fun v31 => k (.ifc 249 (.agg v31)) h)))
theorem f280_5_ok : R Pq o c n (cB (cB (cB (cB (cB b280))))) (kend Pq o c n w rs280 k) = fun t _ h => f280_5 o c n k (t 1) (t 3) (t 5) h := by kernel_rfl
noncomputable def f280_4 (s1 s3 s5 : AV) (h : Heap) : α :=
  faF o 4 s1 fun v32 => faF o 0 v32 fun v33 => load1F o h v33 fun v34 => eqiF Pq o 3 v34 (.i .i64 10) fun v35 => ifF o v35 (slF Pq o 56 s5 (some (.i .i64 1)) none fun v36 => f280_5 o c n k s1 s3 v36 h) (f280_5 o c n k s1 s3 s5 h)
theorem f280_4_ok : R Pq o c n (cB (cB (cB (cB b280)))) (kend Pq o c n w rs280 k) = fun t _ h => f280_4 o c n k (t 1) (t 3) (t 5) h := (kseq (f280_5_ok o c n k w) rfl).tk
noncomputable def f280_3 (s1 s3 : AV) (h : Heap) : α :=
  faF o 12 s1 fun v37 => load1F o h v37 fun v38 => f280_4 o c n k s1 s3 v38 h
theorem f280_3_ok : R Pq o c n (cB (cB (cB b280))) (kend Pq o c n w rs280 k) = fun t _ h => f280_3 o c n k (t 1) (t 3) h := (kseq (f280_4_ok o c n k w) rfl).tk
noncomputable def f280_2 (s1 s3 s4 : AV) (h : Heap) : α :=
  neiF Pq o 3 s4 (.i .i64 0) fun v39 => ifF o v39 (c 278 [s4] h fun v40 h => pk k v40 h <| k v40 h) (f280_3 o c n k s1 s3 h)
theorem f280_2_ok : R Pq o c n (cB (cB b280)) (kend Pq o c n w rs280 k) = fun t _ h => f280_2 o c n k (t 1) (t 3) (t 4) h := (kseq (f280_3_ok o c n k w) rfl).tk
noncomputable def f280_1 (s1 : AV) (h : Heap) : α :=
  loadNF o h 13 s1 fun v41 => c 313 [v41] h fun v42 h => pk k v42 h <| exF o v42 0 fun v43 => exF o v42 1 fun v44 => f280_2 o c n k s1 v43 v44 h
theorem f280_1_ok : R Pq o c n (cB b280) (kend Pq o c n w rs280 k) = fun t _ h => f280_1 o c n k (t 1) h := (kseq (f280_2_ok o c n k w) rfl).tk
noncomputable def f280 (a0 : AV) (h : Heap) : α :=
  boxF o a0 h h.next fun v45 h => f280_1 o c n k v45 h
theorem f280_ok : R Pq o c n b280 (kend Pq o c n w rs280 k) = fun t _ h => f280 o c n k (t 0) h := (kseq (f280_1_ok o c n k w) rfl).tk
theorem f280_good : Good Pq (cfg mm) 280 (entF Pq (cfg mm) 280 1 fun α => f280) := entG b280 rs280 62 fun _ => f280_ok
noncomputable def b285 := bdy Tryz.f285
noncomputable def rs285 := Tryz.f285.results.toList
noncomputable def f285_3 {α : Type} (o : α) (c : Call' α) (n : Nat) (k : AV → Heap → α) (s0 : AV) (h : Heap) : α :=
  k s0 h
theorem f285_3_ok : R Pq o c n (cB (cB (cB b285))) (kend Pq o c n w rs285 k) = fun t _ h => f285_3 o c n k (t 0) h := by kernel_rfl
noncomputable def f285_2 (s0 s1 : AV) (h : Heap) : α :=
  capN o s0 fun v1 => lenF o s0 fun v2 => binA Pq o .sub 3 v1 v2 fun v3 => binA Pq o .sub 3 s1 v3 fun v4 => gtrF Pq o 3 v4 (.i .i64 0) fun v5 => ifF o v5 (capN o s0 fun v6 => slF Pq o 35 s0 none (some v6) fun v7 => appX Pq o h h.next 35 3 v7 v4 fun v8 h => lenF o s0 fun v9 => slF Pq o 35 v8 none (some v9) fun v10 => f285_3 o c n k v10 h) (f285_3 o c n k s0 h)
theorem f285_2_ok : R Pq o c n (cB (cB b285)) (kend Pq o c n w rs285 k) = fun t _ h => f285_2 o c n k (t 0) (t 1) h := (kseq (f285_3_ok o c n k w) rfl).tk
noncomputable def f285_1 (s0 s1 : AV) (h : Heap) : α :=
  lssF Pq o 3 s1 (.i .i64 0) fun v11 => ifF o v11 (panicA o (.ifc 9 (.s 18 8838634371626034279618351153450530198413667)) fun x => k x.pn h) (f285_2 o c n k s0 s1 h)
theorem f285_1_ok : R Pq o c n (cB b285) (kend Pq o c n w rs285 k) = fun t _ h => f285_1 o c n k (t 0) (t 1) h := (kseq (f285_2_ok o c n k w) rfl).tk
noncomputable def f285 (a0 a1 : AV) (h : Heap) : α :=
  f285_1 o c n k a0 a1 h
theorem f285_ok : R Pq o c n b285 (kend Pq o c n w rs285 k) = fun t _ h => f285 o c n k (t 0) (t 1) h := (kseq (f285_1_ok o c n k w) rfl).tk
theorem f285_good : Good Pq (cfg mm) 285 (entF Pq (cfg mm) 285 2 fun α => f285) := entG b285 rs285 27 fun _ => f285_ok
noncomputable def b290 := bdy Tryz.f290
noncomputable def rs290 := Tryz.f290.results.toList
noncomputable def f290 {α : Type} (o : α) (c : Call' α) (n : Nat) (k : AV → Heap → α) (a0 : AV) (h : Heap) : α :=
  boxF o a0 h h.next fun v1 h => loadNF o h 9 v1 fun v2 => c 291 [(.ifc 41 v2)] h fun v3 h => pk k v3 h <| notF o v3 fun v4 => k v4 h
theorem f290_ok : R Pq o c n b290 (kend Pq o c n w rs290 k) = fun t _ h => f290 o c n k (t 0) h := by kernel_rfl
theorem f290_good : Good Pq (cfg mm) 290 (entF Pq (cfg mm) 290 1 fun α => f290) := entG b290 rs290 7 fun _ => f290_ok
noncomputable def b292 := bdy Tryz.f292
noncomputable def rs292 := Tryz.f292.results.toList
noncomputable def f292 {α : Type} (o : α) (c : Call' α) (n : Nat) (k : AV → Heap → α) (a0 a1 : AV) (h : Heap) : α :=
  boxF o a0 h h.next fun v1 h => boxF o a1 h h.next fun v2 h => loadNF o h 1 v1 fun v3 => loadNF o h 2 v2 fun v4 => c 178 [v3, v4] h fun v5 h => pk k v5 h <| exF o v5 0 fun v6 => exF o v5 1 fun v7 => newF h h.next 6 [(.b false), (.b false), (.s 0 0), (.s 0 0), .nsl, .nsl] fun v8 h => storeF o h 6 v8 v6 fun h => loadNF o h 2 v2 fun v9 => loadNF o h 6 v8 fun v10 => lay1 o 0 2 v9 [(.s 0 0), (.i .i64 0), (.b false), (.b false), (.s 0 0), (.s 0 0), .nsl, .nsl] fun v11 => lay1 o 2 6 v10 v11 fun v12 => k (.ifc 285 (.agg v12)) h
theorem f292_ok : R Pq o c n b292 (kend Pq o c n w rs292 k) = fun t _ h => f292 o c n k (t 0) (t 1) h := by kernel_rfl
theorem f292_good : Good Pq (cfg mm) 292 (entF Pq (cfg mm) 292 2 fun α => f292) := entG b292 rs292 17 fun _ => f292_ok
noncomputable def b293 := bdy Tryz.f293
noncomputable def rs293 := Tryz.f293.results.toList
noncomputable def f293 {α : Type} (o : α) (c : Call' α) (n : Nat) (k : AV → Heap → α) (a0 a1 a2 : AV) (h : Heap) : α :=
  boxF o a0 h h.next fun v1 h => boxF o a1 h h.next fun v2 h => faF o 4 v2 fun v3 => load1F o h v3 fun v4 => c 321 [v4, a2, (.fn (.func 322) [] [v1])] h fun v5 h => pk k v5 h <| k v5 h
theorem f293_ok : R Pq o c n b293 (kend Pq o c n w rs293 k) = fun t _ h => f293 o c n k (t 0) (t 1) (t 2) h := by kernel_rfl
theorem f293_good : Good Pq (cfg mm) 293 (entF Pq (cfg mm) 293 3 fun α => f293) := entG b293 rs293 12 fun _ => f293_ok
noncomputable def b294 := bdy Tryz.f294
noncomputable def rs294 := Tryz.f294.results.toList
noncomputable def f294 {α : Type} (o : α) (c : Call' α) (n : Nat) (k : AV → Heap → α) (a0 a1 : AV) (h : Heap) : α :=
  c 323 [a0, a1] h fun v1 h => pk k v1 h <| geqF Pq o 3 v1 (.i .i64 0) fun v2 => k v2 h
theorem f294_ok : R Pq o c n b294 (kend Pq o c n w rs294 k) = fun t _ h => f294 o c n k (t 0) (t 1) h := by kernel_rfl
theorem f294_good : Good Pq (cfg mm) 294 (entF Pq (cfg mm) 294 2 fun α => f294) := entG b294 rs294 9 fun _ => f294_ok
noncomputable def b295 := bdy Tryz.f295
noncomputable def rs295 := Tryz.f295.results.toList
noncomputable def f295 {α : Type} (o : α) (c : Call' α) (n : Nat) (k : AV → Heap → α) (a0 a1 a2 : AV) (h : Heap) : α :=
  boxF o a0 h h.next fun v1 h => loadNF o h 1 a1 fun v2 => faF o 2 a2 fun v3 => loadNF o h 6 v3 fun v4 => faF o 2 v1 fun v5 => loadNF o h 6 v5 fun v6 => c 296 [v2, v4, v6] h fun v7 h => pk k v7 h <| notF o v7 fun v8 => k v8 h
theorem f295_ok : R Pq o c n b295 (kend Pq o c n w rs295 k) = fun t _ h => f295 o c n k (t 0) (t 1) (t 2) h := by kernel_rfl
theorem f295_good : Good Pq (cfg mm) 295 (entF Pq (cfg mm) 295 3 fun α => f295) := entG b295 rs295 12 fun _ => f295_ok
noncomputable def b296 := bdy Tryz.f296
noncomputable def rs296 := Tryz.f296.results.toList
noncomputable def f296 {α : Type} (o : α) (c : Call' α) (n : Nat) (k : AV → Heap → α) (a0 a1 a2 : AV) (h : Heap) : α :=
  boxF o a0 h h.next fun v1 h => boxF o a1 h h.next fun v2 h => boxF o a2 h h.next fun v3 h => faF o 4 v2 fun v4 => load1F o h v4 fun v5 => faF o 4 v3 fun v6 => load1F o h v6 fun v7 => c 275 [v5, v7, (.fn (.func 324) [] [v1])] h fun v8 h => pk k v8 h <| k v8 h
theorem f296_ok : R Pq o c n b296 (kend Pq o c n w rs296 k) = fun t _ h => f296 o c n k (t 0) (t 1) (t 2) h := by kernel_rfl
theorem f296_good : Good Pq (cfg mm) 296 (entF Pq (cfg mm) 296 3 fun α => f296) := entG b296 rs296 13 fun _ => f296_ok
noncomputable def b308 := bdy Tryz.f308
noncomputable def rs308 := Tryz.f308.results.toList
noncomputable def f308 {α : Type} (o : α) (c : Call' α) (n : Nat) (k : AV → Heap → α) (a0 : AV) (h : Heap) : α :=
  newF h h.next 7 [(.b false), (.b false), (.b false), (.b false), (.i .i64 0), (.i .i64 0), (.i .i64 0)] fun v1 h => mapA h h.next fun v2 h => layF o 3 (.b true) [(.b false), (.b false), (.b false), (.b false), (.i .i64 0), (.i .i64 0), (.i .i64 0)] fun v3 => layF o 2 (.b true) v3 fun v4 => layF o 4 (.i .i64 1) v4 fun v5 => layF o 5 (.i .i64 1) v5 fun v6 => insertN o h .i64 v2 (.i .i64 1) (.agg v6) fun h => layF o 4 (.i .i64 2) [(.b false), (.b false), (.b false), (.b false), (.i .i64 0), (.i .i64 0), (.i .i64 0)] fun v7 => layF o 5 (.i .i64 2) v7 fun v8 => insertN o h .i64 v2 (.i .i64 2) (.agg v8) fun h => layF o 4 (.i .i64 1) [(.b false), (.b false), (.b false), (.b false), (.i .i64 0), (.i .i64 0), (.i .i64 0)] fun v9 => layF o 5 (.i .i64 1) v9 fun v10 => insertN o h .i64 v2 (.i .i64 3) (.agg v10) fun h => layF o 4 (.i .i64 1) [(.b false), (.b false), (.b false), (.b false), (.i .i64 0), (.i .i64 0), (.i .i64 0)] fun v11 => layF o 5 (.i .i64 1) v11 fun v12 => layF o 6 (.i .i64 2) v12 fun v13 => insertN o h .i64 v2 (.i .i64 4) (.agg v13) fun h => layF o 4 (.i .i64 1) [(.b false), (.b false), (.b false), (.b false), (.i .i64 0), (.i .i64 0), (.i .i64 0)] fun v14 => layF o 5 (.i .i64 1) v14 fun v15 => layF o 6 (.i .i64 1) v15 fun v16 => insertN o h .i64 v2 (.i .i64 5) (.agg v16) fun h => layF o 5 (.i .i64 1) [(.b false), (.b false), (.b false), (.b false), (.i .i64 0), (.i .i64 0), (.i .i64 0)] fun v17 => insertN o h .i64 v2 (.i .i64 6) (.agg v17) fun h => layF o 4 (.i .i64 1) [(.b false), (.b false), (.b false), (.b false), (.i .i64 0), (.i .i64 0), (.i .i64 0)] fun v18 => layF o 5 (.i .i64 1) v18 fun v19 => insertN o h .i64 v2 (.i .i64 7) (.agg v19) fun h => layF o 0 (.b true) [(.b false), (.b false), (.b false), (.b false), (.i .i64 0), (.i .i64 0), (.i .i64 0)] fun v20 => layF o 4 (.i .i64 1) v20 fun v21 => layF o 5 (.i .i64 1) v21 fun v22 => insertN o h .i64 v2 (.i .i64 8) (.agg v22) fun h => layF o 4 (.i .i64 1) [(.b false), (.b false), (.b false), (.b false), (.i .i64 0), (.i .i64 0), (.i .i64 0)] fun v23 => layF o 5 (.i .i64 1) v23 fun v24 => insertN o h .i64 v2 (.i .i64 9) (.agg v24) fun h => layF o 3 (.b true) [(.b false), (.b false), (.b false), (.b false), (.i .i64 0), (.i .i64 0), (.i .i64 0)] fun v25 => layF o 2 (.b true) v25 fun v26 => layF o 6 (.i .i64 3) v26 fun v27 => insertN o h .i64 v2 (.i .i64 10) (.agg v27) fun h => layF o 5 (.i .i64 3000) [(.b false), (.b false), (.b false), (.b false), (.i .i64 0), (.i .i64 0), (.i .i64 0)] fun v28 => insertN o h .i64 v2 (.i .i64 11) (.agg v28) fun h => lookupN o h .i64 (some (.agg [(.b false), (.b false), (.b false), (.b false), (.i .i64 0), (.i .i64 0), (.i .i64 0)])) v2 a0 true fun v29 => exF o v29 0 fun v30 => exF o v29 1 fun v31 => newF h h.next 7 [(.b false), (.b false), (.b false), (.b false), (.i .i64 0), (.i .i64 0), (.i .i64 0)] fun v32 h => storeF o h 7 v32 v30 fun h => loadNF o h 7 v32 fun v33 => storeF o h 7 v1 v33 fun h => on o (resV Pq h [(v1, some 269), (v31, none)]) fun v => k v h
theorem f308_ok : R Pq o c n b308 (kend Pq o c n w rs308 k) = fun t _ h => f308 o c n k (t 0) h := by kernel_rfl
theorem f308_good : Good Pq (cfg mm) 308 (entF Pq (cfg mm) 308 1 fun α => f308) := entG b308 rs308 28 fun _ => f308_ok
noncomputable def b309 := bdy Tryz.f309
noncomputable def rs309 := Tryz.f309.results.toList
noncomputable def f309 {α : Type} (o : α) (c : Call' α) (n : Nat) (k : AV → Heap → α) (a0 a1 : AV) (h : Heap) : α :=
  boxF o a0 h h.next fun v1 h => loadNF o h 8 v1 fun v2 => load1F o h a1 fun v3 => c 232 [v2, v3] h fun v4 h => pk k v4 h <| notF o v4 fun v5 => k v5 h
theorem f309_ok : R Pq o c n b309 (kend Pq o c n w rs309 k) = fun t _ h => f309 o c n k (t 0) (t 1) h := by kernel_rfl
theorem f309_good : Good Pq (cfg mm) 309 (entF Pq (cfg mm) 309 2 fun α => f309) := entG b309 rs309 8 fun _ => f309_ok
noncomputable def b317 := bdy Tryz.f317
noncomputable def rs317 := Tryz.f317.results.toList
noncomputable def f317 {α : Type} (o : α) (c : Call' α) (n : Nat) (k : AV → Heap → α) (a0 a1 a2 a3 : AV) (h : Heap) : α :=
  boxF o a0 h h.next fun v1 h => newF h h.next 2 [(.s 0 0), (.i .i64 0)] fun v2 h => dreg o h 11 fun base h => loadNF o (h.look 0) 1 v1 fun v3 => loadNF o (h.look 0) 1 v1 fun v4 => callD o c (hidD false [(.fn (.func 326) [] []), v4, a1, a2] [] (sBlk v1 [])) 326 [v4, a1, a2] (h.look 0) fun v5 h => pnF v5 (fun x => hb h.shut fun hd => k x.pn hd) <| callD o c [] 245 [v3, v5, a3] (h.look 0) fun v6 h => pnF v6 (fun x => hb h.shut fun hd => k x.pn hd) <| exF o v6 0 fun v7 => exF o v6 1 fun v8 => storeF o (h.look 511) 2 v2 v7 fun h => hb h.shut fun h => on o (resV Pq h [(v2, some 101), (v8, none)]) fun v => k v h
theorem f317_ok : R Pq o c n b317 (kend Pq o c n w rs317 k) = fun t _ h => f317 o c n k (t 0) (t 1) (t 2) (t 3) h := by kernel_rfl
theorem f317_good : Good Pq (cfg mm) 317 (entF Pq (cfg mm) 317 4 fun α => f317) := entG b317 rs317 19 fun _ => f317_ok
noncomputable def b325 := bdy Tryz.f325
noncomputable def rs325 := Tryz.f325.results.toList
noncomputable def f325 {α : Type} (o : α) (c : Call' α) (n : Nat) (k : AV → Heap → α) (a0 : AV) (h : Heap) : α :=
  boxF o a0 h h.next fun v1 h => faF o 0 v1 fun v2 => loadNF o h 1 v2 fun v3 => faF o 1 v1 fun v4 => faF o 0 v4 fun v5 => load1F o h v5 fun v6 => c 88 [v3, v6] h fun v7 h => pk k v7 h <| faF o 1 v1 fun v8 => faF o 1 v8 fun v9 => load1F o h v9 fun v10 => ifF o v10 (k (.tup [(.s 0 0), (.i .i64 13)]) h) (eqsF Pq o 9 v7 (.s 0 0) fun v11 => ifF o v11 (k (.tup [(.s 0 0), (.i .i64 7)]) h) (k (.tup [v7, (.i .i64 0)]) h))
theorem f325_ok : R Pq o c n b325 (kend Pq o c n w rs325 k) = fun t _ h => f325 o c n k (t 0) h := by kernel_rfl
theorem f325_good : Good Pq (cfg mm) 325 (entF Pq (cfg mm) 325 1 fun α => f325) := entG b325 rs325 19 fun _ => f325_ok
end Go.Zev.Is
