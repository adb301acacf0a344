/-
  Printed by gp_change.py: copies, parts, puts.
-/
import Derived.Test.YtcgfedhoddmliaaGreatK0
import Derived.Test.YtcgfedhoddmliaaGreatZ4
set_option linter.unusedVariables false
set_option linter.unusedSimpArgs false
set_option maxRecDepth 20000
namespace Go.Zev.Cn
open Go Go.Zev Go.Proofs
variable {mm : FuncId → Option (List AV → Option AV)}
theorem slT22 : slOf Tryz.prog 22 = some (24, 8, [.i .i64 0, .i .i32 0, .s 0 0, .s 0 0, .s 0 0, .nsl, .s 0 0, .i .i64 0]) := by kernel_rfl
theorem cp_loop {n : Nat} {k : PK} {e : Expr} (hl : sizeL e.l ≤ 900) (hN : ∀ c ∈ e.l, EvN Tryz.prog (cfg mAll) n 19 [c.av] (c.copy.av)) (hk : ∀ w h, frz h 200 w = some e.copy.av → k w h) :
    ∀ (m i : Nat) (h : Heap) (nx : Nat) (x : AV) (sf : List (Nat × Blk)), HS h nx far (sf ++ [(1, Blk.cells 8 [[.i .i64 0, .i .i32 0, .s 0 0, .s 0 0, .s 0 0, .nsl, .s 0 0, .i .i64 0]]), (0, Blk.cells (llen e.cells) [e.cells])]) → SlF x 8 (cellsL (copyL (e.l.take i))) sf [(1, Blk.cells 8 [[.i .i64 0, .i .i32 0, .s 0 0, .s 0 0, .s 0 0, .nsl, .s 0 0, .i .i64 0]]), (0, Blk.cells (llen e.cells) [e.cells])] → 2 ≤ nx → nx + 30 * e.l.length < 31000 + 30 * i → i ≤ e.l.length → e.l.length < m + i →
      f19_5 False (callF Tryz.prog False (cfg mAll) n) n k m (.p 0 0 0) (.p 1 0 0) x (slA 8 e.tl (cellsL e.l)) (AV.i .i64 (e.l.length : Int)) (AV.i .i64 (i : Int)) h := by
  intro m
  induction m with
  | zero => intro i h nx x sf hs hf b0 b1 b2 b3; omega
  | succ m ih =>
    intro i h nx x sf hs hf b0 b1 b2 b3
    have hlen := sizeL_len e.l
    have hcl := copyL_len (e.l.take i)
    rw [List.length_take] at hcl
    refine wp_lss ?_
    refine wp_if (fun hq => ?_) (fun hq => ?_)
    · skip
      have hq1 := hq
      have hq1' := of_decide_eq_true hq1
      obtain ⟨c, he, hm⟩ := get_some (l := e.l) (i := i) (by omega)
      have hz3 := sizeL_mem hm
      refine wp_ix (cellsL_get he) ?_
      refine wp_ldN_fp (c.chas) ?_
      refine wp_var (cs := c.cells) hs (by unfold cap; omega) rfl (c.clen) rfl (c.cones) fun h1 hs1 => ?_
      refine wp_ldN_p hs1 mem0 rfl (c.chas) ?_
      refine wp_call (hN _ hm) ?_
      refine wp_pk rfl ?_
      refine wp_fil1 (cs := c.copy.cells) rfl rfl (c.copy.chas) ?_
      refine wp_newE hs1 (by unfold cap; omega) fun h2 hs2 => ?_
      refine wp_appX slT22 (by kernel_rfl) (by kernel_rfl) (by kernel_rfl) hf hs2 (sub_app (fun p hp => memS ((fun p hp => memS ((fun p hp => List.mem_append.2 (.inl hp)) p hp)) p hp)) (by intro p hp; simp only [List.mem_cons, List.not_mem_nil, or_false] at hp; rcases hp with rfl | rfl; exact (memS (memS (List.mem_append.2 (.inr mem0)))); exact (memS (memS (List.mem_append.2 (.inr mem1)))))) mem0 rfl (by decide) (onesAll_one (c.copy.cones)) (by simp only [cellsL_len, List.length_take]; omega) (by unfold cap; omega) fun x3 h3 sf3 hf3 hs3 _ => ?_
      rw [← cellsL_snoc, ← copyL_take _ he] at hf3
      refine wp_add (c := ((i + 1 : Nat) : Int)) (by omega) (by omega) (by omega) ?_
      exact ih (i + 1) _ _ _ _ hs3 hf3 (by omega) (by omega) (by omega) (by omega)
    · skip
      have hq2 := hq
      have hq2' := of_decide_eq_false hq2
      obtain rfl : i = e.l.length := by omega
      rw [List.take_length] at hf
      refine wp_fa_p ?_
      refine wp_st1' hs (List.mem_append.2 (.inr mem1)) rfl (by rw [e.cllen]; rfl) hf.oneV hf.plainV fun h4 l4 hs4 hn4 hk4 => ?_
      rw [e.cells_eq] at hn4
      refine wp_ldN_p hs4 hn4 rfl rfl ?_
      refine wp_stN' (cs := [AV.i .i64 e.kind, AV.i .i32 e.num, e.text.av, e.name.av, e.type.av, x, e.own.av, AV.i .i64 e.nth]) hs4 (hk4 _ (List.mem_append.2 (.inr mem0)) (by decide)) rfl rfl rfl rfl (ones_all (by intro c hc; simp only [List.mem_cons, List.not_mem_nil, or_false] at hc; rcases hc with rfl | rfl | rfl | rfl | rfl | rfl | rfl | rfl <;> first | rfl | exact one_sl | exact hf.one)) fun h5 l5 hs5 hn5 hk5 => ?_
      refine wp_res1 (ldA_agg hs5 hn5 (by kernel_rfl) (by kernel_rfl) (by kernel_rfl) (by kernel_rfl)) ?_
      refine hk _ _ ?_
      rw [show e.copy.av = AV.agg e.copy.cells from rfl, Expr.copy_cells]
      exact (frz_cells (lmapO_cons rfl (lmapO_cons rfl (lmapO_cons rfl (lmapO_cons rfl (lmapO_cons rfl (lmapO_cons (hf.frz hs5 (fun p hp => hk5 p ((fun p hp => hk4 p ((fun p hp => List.mem_append.2 (.inl hp)) p hp) (hf.ne mem1 p hp)) p hp) (hf.ne mem0 p hp)) (cellsL_frz _ _ _)) (lmapO_cons rfl (lmapO_cons rfl lmapO_nil)))))))))
theorem cp_body {n : Nat} {e : Expr} (hb : e.size ≤ 900) (hn : 10 * e.size + 5 ≤ n) (hN : ∀ c ∈ e.l, EvN Tryz.prog (cfg mAll) n 19 [c.av] (c.copy.av)) : EvN Tryz.prog (cfg mAll) (n + 1) 19 [e.av] (e.copy.av) := by
  have hsz := e.size_eq
  have hlen := sizeL_len e.l
  refine evN_intro f19_good rfl (ownF_of rfl (refs_cons (e.refs 8) refs_nil)) fun k hk => ?_
  show f19 False (callF Tryz.prog False (cfg mAll) n) n k (e.av) Heap.empty
  unfold f19
  have hs := HS.empty
  refine wp_box (c := e.cells) hs (by decide) rfl rfl fun h1 hs1 => ?_
  refine wp_new hs1 (by decide) fun h2 hs2 => ?_
  unfold f19_1
  unfold f19_2
  refine wp_fa_p ?_
  refine wp_ld_p hs2 mem1 rfl (e.c5) ?_
  refine wp_len ?_
  rw [cellsL_len]
  unfold f19_4
  exact cp_loop (by omega) hN hk n 0 _ _ _ [] hs2 (by rw [List.take_zero, copyL, cellsL]; exact SlF.nil) (by omega) (by omega) (by omega) (by omega)
theorem cp : ∀ (e : Expr) (n : Nat), 10 * e.size + 10 ≤ n → e.size ≤ 900 → EvN Tryz.prog (cfg mAll) n 19 [e.av] (e.copy.av) := by
  refine Expr.ind fun e ih n hn hb => ?_
  obtain ⟨n, rfl⟩ : ∃ m, n = m + 1 := ⟨n - 1, by omega⟩
  have hsz := e.size_eq
  exact cp_body hb (by omega) fun c hc => ih c hc n (by have := sizeL_mem hc; omega) (by have := sizeL_mem hc; omega)
theorem see_ev {n : Nat} {e : Expr} (hcp : EvN Tryz.prog (cfg mAll) n 19 [e.av] (e.copy.av)) {h : Heap} {nx b : Nat} {l bs : List (Nat × Blk)} {L : List Expr} {k : PK} (hs : HS h nx far l) (ho : OutS l b L bs) (hc : nx + 20 < 32000) (hL : L.length ≤ 5000)
    (hk : ∀ h' nx' l', HS h' nx' far l' → nx' ≤ nx + 10 → OutS l' b (L ++ [e.copy]) bs → k (.tup []) h') : callF Tryz.prog False (cfg mAll) (n + 1) 18 [e.av, .p b 0 0] h k := by
  obtain ⟨x, sf, hbx, hsf, hbs, hf⟩ := ho
  refine callIn f18_good rfl (ownF_no (a := .p b 0 0) mem1 rfl) ?_
  show f18 False (callF Tryz.prog False (cfg mAll) n) n k e.av (.p b 0 0) h
  unfold f18
  refine wp_box (c := e.cells) hs (by unfold cap; omega) rfl rfl fun h1 hs1 => ?_
  refine wp_dreg hs1 (by unfold cap; omega) fun h2 hs2 => ?_
  refine wp_ld_p (hs2.look 0) (memS hbx) rfl rfl ?_
  refine wp_ldN_p (hs2.look 0) mem0 rfl e.chas ?_
  refine wp_callD hcp (refs_cons (e.refs 8) refs_nil) (hs2.look 0) fun h3 hs3 => ?_
  refine wp_pn rfl ?_
  refine hf.len ?_
  rw [cellsL_len]
  refine wp_fil1 (cs := [.i .i64 0, .i .i32 0, .s 0 0, .s 0 0, .s 0 0, .nsl, .s 0 0, .i .i64 0]) rfl rfl rfl ?_
  refine wp_newED (nx := nx + 1 + 9) (base := nx + 1) (i := 4) hs3.win (by omega) (by unfold cap; omega) (fun p hp => by cases hp) fun h4 hw4 => ?_
  refine wp_appW (i := 4) (j := 5) slT22 (by kernel_rfl) (by kernel_rfl) hf hw4 (fun p hp => memS (hsf p hp)) mem0 (by decide) rfl rfl (by rw [cellsL_len]; omega) (by omega) (by unfold cap; omega) (by intro p hp; simp only [List.mem_cons, List.not_mem_nil, or_false] at hp; subst hp; simp) fun h5 l5 hw5 hk5 => ?_
  rw [cellsL_len]
  refine wp_ix_bl (i := L.length) (by omega) ?_
  rw [Nat.zero_add]
  refine wp_stDi (e := [.i .i64 0, .i .i32 0, .s 0 0, .s 0 0, .s 0 0, .nsl, .s 0 0, .i .i64 0]) (cs := e.copy.cells) hw5 mem0 (by decide) (by rw [lnth_eq, List.getElem?_append_right (by rw [cellsL_len]; omega), cellsL_len, Nat.sub_self]; rfl) rfl e.copy.clen rfl e.copy.cones [] (fun p hp => by cases hp) fun h6 hw6 => ?_
  have hset : lset (cellsL L ++ [[.i .i64 0, .i .i32 0, .s 0 0, .s 0 0, .s 0 0, .nsl, .s 0 0, .i .i64 0]]) e.copy.cells L.length = cellsL (L ++ [e.copy]) := by
    rw [lset_eq, List.set_append_right _ _ (by rw [cellsL_len]; omega), cellsL_len, Nat.sub_self, cellsL_snoc]
    rfl
  rw [hset] at hw6
  have hbne : ∀ q ∈ sf, b ≠ q.1 := fun q hq => (hf.ne (b := b) (y := .none) mem0 q hq).symm
  refine wp_lb ?_
  refine wp_stW (ids := [nx + 1 + 5]) hw6 (hk5 _ (memS hbx) hbne) (by intro q hq; simp only [List.mem_cons, List.not_mem_nil, or_false] at hq; subst hq; exact ⟨by omega, by unfold cap; omega⟩) rfl rfl rfl fun h7 l7 hw7 hn7 hk7 => ?_
  refine wp_hb ?_
  have hb1 := (hs.has _ hbx).1
  refine hk _ _ _ hw7.shut (by omega) ⟨_, [(nx + 1 + 5, .cells 8 (cellsL (L ++ [e.copy])))], List.mem_append.2 (.inr hn7), (fun p hp => by simp only [List.mem_cons, List.not_mem_nil, or_false] at hp; subst hp; exact List.mem_append.2 (.inl mem0)), (fun p hp => ?_), ?_⟩
  · obtain ⟨g1, g2⟩ := hbs p hp
    refine ⟨List.mem_append.2 (.inr (hk7 p (hk5 p (memS g1) fun q hq => (hf.ne (b := p.1) (y := p.2) (memS hp) q hq).symm) g2)), g2⟩
  · refine .inr ⟨nx + 1 + 5, by rw [cellsL_len, List.length_append]; rfl, by rw [cellsL_eq]; simp, rfl, fun p hp => ?_⟩
    rcases List.mem_cons.1 hp with rfl | hp
    · show b ≠ nx + 1 + 5
      have : b < nx := hb1
      omega
    · have := (hs.has _ (hbs p hp).1).1
      omega
theorem walk_loop {n : Nat} {e : Expr} {b : Nat} {bs : List (Nat × Blk)} {L : List Expr} {k : PK} (hsz : e.size ≤ 700) (hL : L.length + sizeL e.l ≤ 4000)
    (hN : ∀ c ∈ e.l, ∀ (h : Heap) (nx : Nat) (l bs : List (Nat × Blk)) (L : List Expr) (k : PK), HS h nx far l → OutS l b L bs → nx + 12 * c.size < 31001 → L.length + c.size ≤ 4000 → (∀ h' nx' l', HS h' nx' far l' → nx' + 1 ≤ nx + 12 * c.size → OutS l' b (L ++ c.subs) bs → k (.tup []) h') → callF Tryz.prog False (cfg mAll) n 17 [c.av, AV.fn (.func 18) [] [.p b 0 0]] h k) :
    ∀ (m i : Nat) (h : Heap) (nx : Nat) (l : List (Nat × Blk)), HS h nx far l → OutS l b (L ++ subsL (e.l.take i)) bs → nx + 12 * (sizeL e.l - sizeL (e.l.take i)) < 31000 → i ≤ e.l.length → e.l.length < m + i →
      (∀ h' nx' l', HS h' nx' far l' → nx' ≤ nx + 12 * (sizeL e.l - sizeL (e.l.take i)) → OutS l' b (L ++ subsL e.l) bs → k (.tup []) h') →
      f17_4 False (callF Tryz.prog False (cfg mAll) n) n k m (AV.fn (.func 18) [] [.p b 0 0]) (slA 8 e.tl (cellsL e.l)) (AV.i .i64 (e.l.length : Int)) (AV.i .i64 (i : Int)) h := by
  intro m
  induction m with
  | zero => intro i h nx l hs ho b1 b2 b3; omega
  | succ m ih =>
    intro i h nx l hs ho b1 b2 b3 hk
    have hlen := sizeL_len e.l
    have hsz2 := e.size_eq
    refine wp_lss ?_
    refine wp_if (fun hq => ?_) (fun hq => ?_)
    · have hq' := of_decide_eq_true hq
      obtain ⟨c, he, hm⟩ := get_some (l := e.l) (i := i) (by omega)
      have hz1 := sizeL_take he
      have hz2 := sizeL_take_le e.l (i + 1)
      have hsub : (subsL (e.l.take i)).length = sizeL (e.l.take i) := subsL_len _
      refine wp_ix (cellsL_get he) ?_
      refine wp_ldN_fp c.chas ?_
      refine wp_var (cs := c.cells) hs (by unfold cap; omega) rfl c.clen rfl c.cones fun h1 hs1 => ?_
      refine wp_ldN_p hs1 mem0 rfl c.chas ?_
      have ho1 : OutS _ b (L ++ subsL (e.l.take i)) bs := (ho.more (y := .cells 8 [c.cells]) hs).less fun p hp => memS hp
      refine hN c hm _ _ _ _ _ _ hs1 ho1 (by omega) (by rw [List.length_append, hsub]; omega) fun h2 nx2 l2 hs2 hn2 ho2 => ?_
      refine wp_pk rfl ?_
      refine wp_add (c := ((i + 1 : Nat) : Int)) (by omega) (by omega) (by omega) ?_
      rw [List.append_assoc, ← subsL_take he] at ho2
      exact ih (i + 1) _ _ _ hs2 ho2 (by omega) (by omega) (by omega) fun h3 nx3 l3 hs3 hn3 ho3 => hk _ _ _ hs3 (by omega) ho3
    · have hq' := of_decide_eq_false hq
      obtain rfl : i = e.l.length := by omega
      rw [List.take_length] at ho
      exact hk _ _ _ hs (by omega) ho
theorem walk : ∀ (e : Expr) (n : Nat), 10 * e.size + 20 ≤ n → e.size ≤ 700 → ∀ (b : Nat) (h : Heap) (nx : Nat) (l bs : List (Nat × Blk)) (L : List Expr) (k : PK), HS h nx far l → OutS l b L bs → nx + 12 * e.size < 31001 → L.length + e.size ≤ 4000 →
    (∀ h' nx' l', HS h' nx' far l' → nx' + 1 ≤ nx + 12 * e.size → OutS l' b (L ++ e.subs) bs → k (.tup []) h') → callF Tryz.prog False (cfg mAll) n 17 [e.av, AV.fn (.func 18) [] [.p b 0 0]] h k := by
  refine Expr.ind fun e ih n hn hb b h nx l bs L k hs ho hc hL hk => ?_
  obtain ⟨n, rfl⟩ : ∃ m, n = m + 2 := ⟨n - 2, by omega⟩
  have hsz := e.size_eq
  have hlen := sizeL_len e.l
  refine callIn f17_good rfl (ownF_no (a := AV.fn (.func 18) [] [.p b 0 0]) mem1 rfl) ?_
  show f17 False (callF Tryz.prog False (cfg mAll) (n + 1)) (n + 1) k e.av (AV.fn (.func 18) [] [.p b 0 0]) h
  unfold f17
  refine wp_box (c := e.cells) hs (by unfold cap; omega) rfl rfl fun h1 hs1 => ?_
  unfold f17_1
  refine wp_ldN_p hs1 mem0 rfl e.chas ?_
  show callF Tryz.prog False (cfg mAll) (n + 1) 18 [e.av, .p b 0 0] h1 _
  refine see_ev (cp e n (by omega) (by omega)) hs1 (ho.more hs) (by omega) (by omega) fun h2 nx2 l2 hs2 hn2 ho2 => ?_
  refine wp_pk rfl ?_
  unfold f17_2
  have hbox : (nx, Blk.cells (llen e.cells) [e.cells]) ∈ l2 := by obtain ⟨_, _, _, _, hbs, _⟩ := ho2; exact (hbs _ mem0).1
  refine wp_fa_p ?_
  refine wp_ld_p hs2 hbox rfl e.c5 ?_
  refine wp_len ?_
  rw [cellsL_len]
  unfold f17_3
  refine walk_loop (e := e) (b := b) (L := L ++ [e.copy]) (bs := bs) hb (by rw [List.length_append]; show L.length + 1 + sizeL e.l ≤ 4000; omega) (fun c hc h nx l bs L k hs ho h1 h2 hk => ?_) (n + 1) 0 _ nx2 l2 hs2 (by rw [List.take_zero, subsL, List.append_nil]; exact ho2.less fun p hp => memS hp) (by rw [List.take_zero, sizeL_nil]; omega) (by omega) (by omega) fun h3 nx3 l3 hs3 hn3 ho3 => ?_
  · have := sizeL_mem hc
    exact ih c hc (n + 1) (by omega) (by omega) b h nx l bs L k hs ho h1 (by omega) hk
  · rw [List.take_zero, sizeL_nil] at hn3
    refine hk _ _ _ hs3 (by omega) ?_
    rw [e.subs_eq]
    rw [List.append_assoc] at ho3
    exact ho3
theorem exprs_ev {n : Nat} {e : Expr} (hn : 10 * e.size + 40 ≤ n) (hb : e.size ≤ 700) : EvN Tryz.prog (cfg mAll) (n + 1) 6 [e.av] (slA 8 .fs (cellsL e.subs)) := by
  refine evN_intro f6_good rfl (ownF_of rfl (refs_cons (e.refs 8) refs_nil)) fun k hk => ?_
  show f6 False (callF Tryz.prog False (cfg mAll) n) n k e.av Heap.empty
  unfold f6
  have hs := HS.empty
  refine wp_box (c := e.cells) hs (by decide) rfl rfl fun h1 hs1 => ?_
  refine wp_new hs1 (by decide) fun h2 hs2 => ?_
  refine wp_ldN_p hs2 mem1 rfl e.chas ?_
  have ho : OutS [(1, Blk.cells 1 [[.nsl]]), (0, Blk.cells (llen e.cells) [e.cells])] 1 [] [] := ⟨.nsl, [], mem0, (fun p hp => by cases hp), (fun p hp => by cases hp), by rw [cellsL]; exact SlF.nil⟩
  refine walk e n (by omega) hb 1 h2 2 _ [] [] _ hs2 ho (by omega) (by show 0 + e.size ≤ 4000; omega) fun h3 nx3 l3 hs3 hn3 ho3 => ?_
  refine wp_pk rfl ?_
  obtain ⟨x, sf, g1, g2, _, g4⟩ := ho3
  refine wp_ld_p hs3 g1 rfl rfl ?_
  refine hk _ _ ?_
  have := g4.frz hs3 g2 (n := 199) (cellsL_frz _ 198 _)
  rw [this, List.nil_append]
  cases e
  rw [Expr.subs, cellsL]
  rfl
theorem here_ev {n : Nat} {b : Nat} {s : Option Nat} {xc : List AV} {h : Heap} {nx : Nat} {l : List (Nat × Blk)} {k : PK} (hs : HS h nx far l) (hb : (b, Blk.cells 9 [LV 3 s :: xc]) ∈ l) (hx : xc.length = 8) (hm : ∀ m, s = some m → m ≤ 100000)
    (hk : ∀ h' l', HS h' nx far l' → (b, Blk.cells 9 [LV 3 (dec1 s) :: xc]) ∈ l' → (∀ p ∈ l, p.1 ≠ b → p ∈ l') → k (.b (decide (s = some 0))) h') : callF Tryz.prog False (cfg mAll) (n + 1) 39 [.p b 0 0] h k := by
  refine callIn f39_good rfl (ownF_no (a := .p b 0 0) mem0 rfl) ?_
  show f39 False (callF Tryz.prog False (cfg mAll) n) n k (.p b 0 0) h
  unfold f39
  unfold f39_1
  refine wp_nilc ?_
  refine wp_fa_p ?_
  refine wp_ld_p hs hb rfl rfl ?_
  have hbp : Nat.ble (Nat.succ 0) (llen (LV 3 s :: xc)) = true := by rw [llen_eq]; rfl
  cases s with
  | none =>
    refine wp_assert_nil (by kernel_rfl) (z := .i .i64 0) (by kernel_rfl) ?_
    refine wp_ex rfl ?_
    refine wp_ex rfl ?_
    unfold f39_2
    refine wp_not ?_
    refine wp_if (fun _ => ?_) (fun e => by cases e)
    exact hk _ _ hs hb (fun p hp _ => hp)
  | some m =>
    have hm' := hm m rfl
    refine wp_assert_t (by kernel_rfl) ?_
    refine wp_ex rfl ?_
    refine wp_ex rfl ?_
    unfold f39_2
    refine wp_not ?_
    refine wp_if (fun e => by cases e) (fun _ => ?_)
    unfold f39_3
    refine wp_sub (c := ((m : Nat) : Int) - 1) rfl (by omega) (by omega) ?_
    refine wp_nilc ?_
    refine wp_fa_p ?_
    refine wp_st1' hs hb rfl hbp rfl rfl fun h1 l1 hs1 hn1 hk1 => ?_
    refine wp_eqi ?_
    refine wp_if (fun hq => ?_) (fun hq => ?_)
    · have hq' := of_decide_eq_true hq
      obtain rfl : m = 0 := by omega
      refine wp_nilc ?_
      refine wp_fa_p ?_
      refine wp_st1' hs1 hn1 rfl (by rw [llen_eq]; rfl) rfl rfl fun h2 l2 hs2 hn2 hk2 => ?_
      unfold f39_4
      refine wp_eqi_rfl ?_
      exact hk _ _ hs2 hn2 (fun p hp hne => hk2 p (hk1 p hp hne) hne)
    · have hq' := of_decide_eq_false hq
      obtain ⟨m, rfl⟩ : ∃ q, m = q + 1 := ⟨m - 1, by omega⟩
      unfold f39_4
      refine wp_eqi ?_
      have e1 : decide ((((m + 1 : Nat)) : Int) = 0) = decide ((some (m + 1) : Option Nat) = some 0) := by
        rw [decide_eq_false (by omega), decide_eq_false (by simp)]
      rw [e1]
      have e2 : (((m + 1 : Nat) : Int) - 1) = ((m : Nat) : Int) := by omega
      rw [e2] at hn1
      exact hk _ _ hs1 hn1 hk1
theorem pe_loop {n : Nat} {x e : Expr} {b d0 nx0 : Nat} {l0 : List (Nat × Blk)} {s : Option Nat} {k : PK} (hsz : e.size ≤ 700) (hx : x.size ≤ 900) (hdb : d0 ≠ b ∧ d0 + 1 ≠ b) (hd0 : d0 + 2 = nx0) (hl0 : ∀ p ∈ l0, p.1 < d0)
    (hN : ∀ c ∈ e.l, ∀ (s : Option Nat) (h : Heap) (nx : Nat) (l : List (Nat × Blk)) (k : PK), HS h nx far l → (b, Blk.cells 9 [LV 3 s :: x.cells]) ∈ l → (∀ m, s = some m → m ≤ 100000) → nx + 40 * c.size < 31001 →
      (∀ h' nx' l' cs gs, HS h' nx' far l' → nx' + 4 ≤ nx + 40 * c.size → nx ≤ nx' → (b, Blk.cells 9 [LV 3 (Expr.put x c s).2 :: x.cells]) ∈ l' → (∀ p ∈ l, p.1 ≠ b → p ∈ l') → LocE gs (Expr.put x c s).1 cs → (∀ p ∈ gs, p ∈ l' ∧ nx ≤ p.1) → k (.agg cs) h') → callF Tryz.prog False (cfg mAll) n 20 [.p b 0 0, c.av] h k)
    (hk : ∀ h nx l cs gs, HS h nx far l → nx ≤ nx0 + 40 * sizeL e.l → nx0 ≤ nx + 2 → (b, Blk.cells 9 [LV 3 (putsL x e.l s).2 :: x.cells]) ∈ l → (∀ p ∈ l0, p.1 ≠ b → p ∈ l) → LocE gs (.mk e.kind e.num e.text e.name e.type (tgOf e.l) (putsL x e.l s).1 e.own e.nth) cs → (∀ p ∈ gs, p ∈ l ∧ nx0 ≤ p.1 + 2) → k (.agg cs) h) :
    ∀ (m i : Nat) (h : Heap) (nx : Nat) (y : AV) (sf B gs : List (Nat × Blk)) (els : List (List AV)), HS h nx far (sf ++ B) → SlF y 8 els sf B → (∀ p ∈ sf, nx0 ≤ p.1) → LocL gs (putsL x (e.l.take i) s).1 els →
      (b, Blk.cells 9 [LV 3 (putsL x (e.l.take i) s).2 :: x.cells]) ∈ B → (d0, Blk.cells (llen e.cells) [e.cells]) ∈ B → (d0 + 1, Blk.cells 8 [[.i .i64 0, .i .i32 0, .s 0 0, .s 0 0, .s 0 0, .nsl, .s 0 0, .i .i64 0]]) ∈ B → (∀ p ∈ l0, p.1 ≠ b → p ∈ B) → (∀ p ∈ gs, p ∈ B ∧ p.1 ≠ b ∧ nx0 ≤ p.1) → (∀ m, (putsL x (e.l.take i) s).2 = some m → m ≤ 100000) →
      nx0 ≤ nx → nx ≤ nx0 + 40 * sizeL (e.l.take i) → nx0 + 40 * sizeL e.l < 31000 → i ≤ e.l.length → e.l.length < m + i →
      f20_6 False (callF Tryz.prog False (cfg mAll) n) n k m (.p b 0 0) (.p d0 0 0) (.p (d0 + 1) 0 0) y (slA 8 e.tl (cellsL e.l)) (AV.i .i64 (e.l.length : Int)) (AV.i .i64 (i : Int)) h := by
  intro m
  induction m with
  | zero => intro i h nx y sf B gs els hs hf hlow hl hb hd hr hk0 hg hm c0 c1 c2 c3 c4; omega
  | succ m ih =>
    intro i h nx y sf B gs els hs hf hlow hl hb hd hr hk0 hg hm c0 c1 c2 c3 c4
    have hlen := sizeL_len e.l
    have hsz2 := e.size_eq
    refine wp_lss ?_
    refine wp_if (fun hq => ?_) (fun hq => ?_)
    · have hq' := of_decide_eq_true hq
      obtain ⟨c, he, hmc⟩ := get_some (l := e.l) (i := i) (by omega)
      have hz1 := sizeL_take he
      have hz2 := sizeL_take_le e.l (i + 1)
      have hput := putsL_snoc x s (e.l.take i) c
      rw [← take_succ_get he] at hput
      refine wp_ix (cellsL_get he) ?_
      refine wp_ldN_fp c.chas ?_
      refine wp_var (cs := c.cells) hs (by unfold cap; omega) rfl c.clen rfl c.cones fun h1 hs1 => ?_
      refine wp_ldN_p hs1 mem0 rfl c.chas ?_
      refine hN c hmc _ _ _ _ _ hs1 (memS (List.mem_append.2 (.inr hb))) hm (by omega) fun h2 nx2 l2 cs gs2 hs2 hn2 hn2' hb2 hk2 hl2 hg2 => ?_
      refine wp_pk rfl ?_
      obtain ⟨hones, hclen⟩ := hl2.ones
      refine wp_fil1 (cs := cs) rfl rfl (lhas_of hclen) ?_
      refine wp_newE hs2 (by unfold cap; omega) fun h3 hs3 => ?_
      have hsfne : ∀ p ∈ sf, p.1 ≠ b := hf.ne hb
      have hsfl : ∀ p ∈ sf, p.1 < nx := fun p hp => (hs.has p (List.mem_append.2 (.inl hp))).1
      refine wp_appX (base := (b, Blk.cells 9 [LV 3 (Expr.put x c (putsL x (e.l.take i) s).2).2 :: x.cells]) :: (gs2 ++ B.filter fun p => !(p.1 == b))) slT22 (by kernel_rfl) (by kernel_rfl) (by kernel_rfl)
        (hf.more' (nx := nx) hsfl (fun p hp => ?_)) hs3 (fun p hp => ?_) mem0 rfl (by decide) (onesAll_one hones) (by rw [hl.len]; have := putsL_len x s (e.l.take i); rw [this, List.length_take]; omega) (by unfold cap; omega) fun y4 h4 sf4 hf4 hs4 hn4 => ?_
      · rcases List.mem_cons.1 hp with rfl | hp
        · exact .inl ⟨_, hb, rfl⟩
        · rcases List.mem_append.1 hp with hp | hp
          · right; have := (hg2 p hp).2; omega
          · left; exact ⟨p, (List.mem_filter.1 hp).1, rfl⟩
      · rcases List.mem_append.1 hp with hp | hp
        · exact memS (hk2 p (memS (List.mem_append.2 (.inl hp))) (hsfne p hp))
        · rcases List.mem_cons.1 hp with rfl | hp
          · exact memS hb2
          · rcases List.mem_append.1 hp with hp | hp
            · exact memS (hg2 p hp).1
            · obtain ⟨hp1, hp2⟩ := List.mem_filter.1 hp
              exact memS (hk2 p (memS (List.mem_append.2 (.inr hp1))) (by simpa using hp2))
      · refine wp_add (c := ((i + 1 : Nat) : Int)) (by omega) (by omega) (by omega) ?_
        refine ih (i + 1) h4 _ y4 sf4 _ (gs2 ++ gs) (els ++ [cs]) hs4 hf4 (fun p hp => by have := hn4 p hp; omega) ?_ ?_ ?_ ?_ ?_ ?_ ?_ (by omega) (by omega) c2 (by omega) (by omega)
        · rw [hput]
          exact LocL.snoc (hl2.mono (fun p hp => List.mem_append.2 (.inl hp)) _ _) (hl.mono (fun p hp => List.mem_append.2 (.inr hp)) _ _)
        · rw [hput]; exact mem0
        · exact memS (List.mem_append.2 (.inr (List.mem_filter.2 ⟨hd, by simpa using hdb.1⟩)))
        · exact memS (List.mem_append.2 (.inr (List.mem_filter.2 ⟨hr, by simpa using hdb.2⟩)))
        · exact fun p hp hne => memS (List.mem_append.2 (.inr (List.mem_filter.2 ⟨hk0 p hp hne, by simpa using hne⟩)))
        · intro p hp
          have hbl := (hs.has _ (List.mem_append.2 (.inr hb))).1
          have hbl : b < nx := hbl
          rcases List.mem_append.1 hp with hp | hp
          · obtain ⟨q1, q2⟩ := hg2 p hp
            exact ⟨memS (List.mem_append.2 (.inl hp)), by omega, by omega⟩
          · obtain ⟨q1, q2, q3⟩ := hg p hp
            exact ⟨memS (List.mem_append.2 (.inr (List.mem_filter.2 ⟨q1, by simpa using q2⟩))), q2, q3⟩
        · rw [hput]
          intro q hq
          exact put_le x c _ 100000 hm q hq
    · have hq' := of_decide_eq_false hq
      obtain rfl : i = e.l.length := by omega
      rw [List.take_length] at hl hb hm c1
      have hbl := (hs.has _ (List.mem_append.2 (.inr hb))).1
      have hbl : b < nx := hbl
      refine wp_fa_p ?_
      refine wp_st1' hs (List.mem_append.2 (.inr hd)) rfl (by rw [e.cllen]; rfl) hf.oneV hf.plainV fun h1 l1 hs1 hn1 hk1 => ?_
      rw [e.cells_eq] at hn1
      refine wp_ldN_p hs1 hn1 rfl rfl ?_
      refine wp_stN' (cs := [.i .i64 e.kind, .i .i32 e.num, e.text.av, e.name.av, e.type.av, y, e.own.av, .i .i64 e.nth]) hs1 (hk1 _ (List.mem_append.2 (.inr hr)) (by show d0 + 1 ≠ d0; omega)) rfl rfl rfl rfl (ones_all (by intro c hc; simp only [List.mem_cons, List.not_mem_nil, or_false] at hc; rcases hc with rfl | rfl | rfl | rfl | rfl | rfl | rfl | rfl <;> first | rfl | exact hf.one)) fun h2 l2 hs2 hn2 hk2 => ?_
      refine wp_res1 (ldA_agg hs2 hn2 (by kernel_rfl) (by kernel_rfl) (by kernel_rfl) (by kernel_rfl)) ?_
      have hkeep : ∀ p ∈ sf ++ B, p.1 ≠ d0 → p.1 ≠ d0 + 1 → p ∈ l2 := fun p hp h1 h2 => hk2 p (hk1 p hp h1) h2
      refine hk _ _ l2 _ (sf ++ gs) hs2 (by omega) (by omega) (hkeep _ (List.mem_append.2 (.inr hb)) (by show b ≠ d0; omega) (by show b ≠ d0 + 1; omega)) (fun p hp hne => ?_) ?_ (fun p hp => ?_)
      · have := hl0 p hp
        exact hkeep p (List.mem_append.2 (.inr (hk0 p hp hne))) (by omega) (by omega)
      · rw [LocE]
        refine ⟨y, rfl, ?_⟩
        have hlen2 := hl.len
        rw [putsL_len] at hlen2
        rcases hf with ⟨rfl, rfl, rfl⟩ | ⟨q, rfl, hne, rfl, _⟩
        · left
          have : e.l = [] := List.eq_nil_of_length_eq_zero (by rw [← hlen2]; rfl)
          rw [this, putsL, cellsL]
          rfl
        · right
          refine ⟨by cases hq : e.l with | nil => rw [hq] at hlen2; exact absurd (List.eq_nil_of_length_eq_zero hlen2) hne | cons _ _ => rfl, q, els, rfl, hne, List.mem_append.2 (.inl mem0), hl.mono (fun p hp => List.mem_append.2 (.inr hp)) _ _⟩
      · rcases List.mem_append.1 hp with hp | hp
        · have := hlow p hp
          exact ⟨hkeep p (List.mem_append.2 (.inl hp)) (by omega) (by omega), by omega⟩
        · obtain ⟨q1, q2, q3⟩ := hg p hp
          exact ⟨hkeep p (List.mem_append.2 (.inr q1)) (by omega) (by omega), by omega⟩
theorem sub1 (x : Expr) (a : AV) : sub (a :: x.cells) 1 8 = some x.cells := by cases x; rfl
theorem dec1_le {s : Option Nat} {N : Nat} (h : ∀ m, s = some m → m ≤ N) : ∀ m, dec1 s = some m → m ≤ N := by
  cases s with
  | none => intro m hm; cases hm
  | some q => cases q with
    | zero => intro m hm; cases hm
    | succ q => intro m hm; cases hm; have := h (q + 1) rfl; omega
theorem pe_ev {x : Expr} (hx : x.size ≤ 900) : ∀ (e : Expr) (n : Nat), 10 * e.size + 10 * x.size + 60 ≤ n → e.size ≤ 700 → ∀ (b : Nat) (s : Option Nat) (h : Heap) (nx : Nat) (l : List (Nat × Blk)) (k : PK),
    HS h nx far l → (b, Blk.cells 9 [LV 3 s :: x.cells]) ∈ l → (∀ m, s = some m → m ≤ 100000) → nx + 40 * e.size < 31001 →
    (∀ h' nx' l' cs gs, HS h' nx' far l' → nx' + 4 ≤ nx + 40 * e.size → nx ≤ nx' → (b, Blk.cells 9 [LV 3 (Expr.put x e s).2 :: x.cells]) ∈ l' → (∀ p ∈ l, p.1 ≠ b → p ∈ l') → LocE gs (Expr.put x e s).1 cs → (∀ p ∈ gs, p ∈ l' ∧ nx ≤ p.1) → k (.agg cs) h') →
    callF Tryz.prog False (cfg mAll) n 20 [.p b 0 0, e.av] h k := by
  refine Expr.ind fun e ih n hn hb b s h nx l k hs hbl hm hc hk => ?_
  obtain ⟨n, rfl⟩ : ∃ m, n = m + 2 := ⟨n - 2, by omega⟩
  have hsz := e.size_eq
  have hbn := (hs.has _ hbl).1
  have hbn : b < nx := hbn
  refine callIn2 f20_good rfl (ownF_no (a := .p b 0 0) mem0 rfl) ?_
  show f20 False (callF Tryz.prog False (cfg mAll) (n + 1)) (n + 1) k (.p b 0 0) e.av h
  unfold f20
  refine wp_box (c := e.cells) hs (by unfold cap; omega) rfl rfl fun h1 hs1 => ?_
  refine wp_new hs1 (by unfold cap; omega) fun h2 hs2 => ?_
  unfold f20_1
  show callF Tryz.prog False (cfg mAll) (n + 1) 39 [.p b 0 0] h2 _
  refine here_ev hs2 (memS (memS hbl)) x.clen hm fun h3 l3 hs3 hb3 hk3 => ?_
  have hd3 : (nx, Blk.cells (llen e.cells) [e.cells]) ∈ l3 := hk3 _ mem1 (by show nx ≠ b; omega)
  have hr3 : (nx + 1, Blk.cells 8 [[.i .i64 0, .i .i32 0, .s 0 0, .s 0 0, .s 0 0, .nsl, .s 0 0, .i .i64 0]]) ∈ l3 := hk3 _ mem0 (by show nx + 1 ≠ b; omega)
  have hold : ∀ p ∈ l, p.1 ≠ b → p ∈ l3 := fun p hp hne => hk3 p (memS (memS hp)) hne
  have hlt : ∀ p ∈ l, p.1 < nx := fun p hp => (hs.has p hp).1
  refine wp_pk rfl ?_
  refine wp_if (fun hq => ?_) (fun hq => ?_)
  · obtain rfl : s = some 0 := of_decide_eq_true hq
    refine wp_nilc ?_
    refine wp_fa_p ?_
    refine wp_ldN_po hs3 hb3 rfl (sub1 x _) ?_
    refine wp_call (cp x (n + 1) (by omega) hx) ?_
    refine wp_pk rfl ?_
    refine wp_stN' (cs := x.copy.cells) hs3 hr3 rfl rfl x.copy.clen rfl x.copy.cones fun h4 l4 hs4 hn4 hk4 => ?_
    have hz25 : lhas x.copy.cells (szOf Tryz.prog 24) = true := by rw [show szOf Tryz.prog 24 = 8 from by kernel_rfl]; exact x.copy.chas
    refine wp_res1 (ldA_agg hs4 hn4 (by kernel_rfl) (by kernel_rfl) (by kernel_rfl) hz25) ?_
    have hz := put_zero x e
    rw [hz] at hk
    refine hk h4 (nx + 2) l4 x.copy.cells [] hs4 (by omega) (by omega) (hk4 _ hb3 (by show b ≠ nx + 1; omega)) (fun p hp hne => hk4 p (hold p hp hne) (by have := hlt p hp; omega)) (LocE.data _) (fun p hp => by cases hp)
  · have hs0 := of_decide_eq_false hq
    have he := put_eq x e s hs0
    rw [he] at hk
    unfold f20_2
    unfold f20_3
    refine wp_fa_p ?_
    refine wp_ld_p hs3 hd3 rfl e.c5 ?_
    refine wp_len ?_
    rw [cellsL_len]
    unfold f20_5
    refine pe_loop (x := x) (e := e) (b := b) (d0 := nx) (nx0 := nx + 2) (l0 := l) (s := dec1 s) hb hx ⟨by omega, by omega⟩ rfl hlt (fun c hcm s h nx l k hs hb hm hc hk => ?_) (fun h5 nx5 l5 cs gs hs5 g1 g2 g3 g4 g5 g6 => ?_) (n + 1) 0 h3 (nx + 2) .nsl [] l3 [] [] hs3 SlF.nil (fun p hp => by cases hp) ?_ ?_ hd3 hr3 hold (fun p hp => by cases hp) ?_ (by omega) (by omega) (by omega) (by omega) ?_
    · have := sizeL_mem hcm
      exact ih c hcm (n + 1) (by omega) (by omega) b s h nx l k hs hb hm hc hk
    · refine hk h5 nx5 l5 cs gs hs5 (by omega) (by omega) g3 g4 g5 (fun p hp => ?_)
      obtain ⟨q1, q2⟩ := g6 p hp
      exact ⟨q1, by omega⟩
    · rw [List.take_zero, putsL, LocL]
    · rw [List.take_zero, putsL]; exact hb3
    · rw [List.take_zero, putsL]; exact dec1_le hm
    · have := sizeL_len e.l; omega
theorem wp_layE {x : Expr} {a : AV} {K : List AV → Prop} (hk : K (a :: x.cells)) : lay1 False 1 8 x.av [a, .i .i64 0, .i .i32 0, .s 0 0, .s 0 0, .s 0 0, .nsl, .s 0 0, .i .i64 0] K := by cases x; exact hk
theorem wp_lv {s : Option Nat} {K : KA} (hk : K (.b (decide (s = none)))) : eqiF Tryz.prog False 20 (LV 3 s) .nifc K := by
  cases s with
  | none => exact hk
  | some q => exact hk
theorem put_ev {n : Nat} {x e : Expr} {i : Nat} (hx : x.size ≤ 900) (he : e.size ≤ 700) (hi : i ≤ 100000) (hn : 10 * e.size + 10 * x.size + 80 ≤ n) (hd : (Expr.put x e (some i)).1.deep ≤ 190) : EvN Tryz.prog (cfg mAll) (n + 1) 7 [e.av, .i .i64 ((i : Nat) : Int), x.av] (.tup [(Expr.put x e (some i)).1.av, .b (decide ((Expr.put x e (some i)).2 = none))]) := by
  refine evN_intro f7_good rfl (ownF_of rfl (refs_cons (e.refs 8) (refs_cons rfl (refs_cons (x.refs 8) refs_nil)))) fun k hk => ?_
  show f7 False (callF Tryz.prog False (cfg mAll) n) n k e.av (.i .i64 ((i : Nat) : Int)) x.av Heap.empty
  unfold f7
  have hs := HS.empty
  refine wp_box (c := e.cells) hs (by decide) rfl rfl fun h1 hs1 => ?_
  refine wp_box (c := x.cells) hs1 (by decide) rfl rfl fun h2 hs2 => ?_
  refine wp_new hs2 (by decide) fun h3 hs3 => ?_
  refine wp_ldN_p hs3 mem1 rfl x.chas ?_
  refine wp_lay rfl rfl rfl ?_
  refine wp_layE (x := x) (a := LV 3 (some i)) ?_
  refine wp_box (c := LV 3 (some i) :: x.cells) hs3 (by decide) rfl rfl fun h4 hs4 => ?_
  refine wp_lss ?_
  refine wp_if (fun hq => absurd (of_decide_eq_true hq) (by omega)) (fun _ => ?_)
  refine wp_ldN_p hs4 mem3 rfl e.chas ?_
  have hb9 : (3, Blk.cells 9 [LV 3 (some i) :: x.cells]) ∈ [(3, Blk.cells (llen (LV 3 (some i) :: x.cells)) [LV 3 (some i) :: x.cells]), (2, Blk.cells 8 [[.i .i64 0, .i .i32 0, .s 0 0, .s 0 0, .s 0 0, .nsl, .s 0 0, .i .i64 0]]), (1, Blk.cells (llen x.cells) [x.cells]), (0, Blk.cells (llen e.cells) [e.cells])] := by
    have : llen (LV 3 (some i) :: x.cells) = 9 := by rw [llen_eq, List.length_cons, x.clen]
    rw [this]
    exact mem0
  refine pe_ev hx e n (by omega) he 3 (some i) h4 4 _ _ hs4 hb9 (fun m hm => by cases hm; exact hi) (by omega) fun h5 nx5 l5 cs gs hs5 g1 g2 g3 g4 g5 g6 => ?_
  refine wp_pk rfl ?_
  obtain ⟨hones, hclen⟩ := g5.ones
  refine wp_new hs5 (by unfold cap; omega) fun h6 hs6 => ?_
  refine wp_stN' (cs := cs) hs6 mem0 rfl rfl hclen rfl hones fun h7 l7 hs7 hn7 hk7 => ?_
  have h2a : (2, Blk.cells 8 [[.i .i64 0, .i .i32 0, .s 0 0, .s 0 0, .s 0 0, .nsl, .s 0 0, .i .i64 0]]) ∈ l7 := hk7 _ (memS (g4 _ mem1 (by decide))) (by show 2 ≠ nx5; omega)
  have h3a : (3, Blk.cells 9 [LV 3 (Expr.put x e (some i)).2 :: x.cells]) ∈ l7 := hk7 _ (memS g3) (by show 3 ≠ nx5; omega)
  refine wp_dreg hs7 (by unfold cap; omega) fun h8 hs8 => ?_
  refine wp_ldN_p (hs8.look 0) hn7 rfl (lhas_of hclen) ?_
  refine wp_nilc ?_
  refine wp_fa_p ?_
  refine wp_root_pp ?_
  refine wp_ld_p (hs8.look 14) h3a rfl rfl ?_
  refine wp_lv ?_
  refine wp_lb ?_
  refine wp_stO (cs := cs) hs8 h2a (fun k hk => by rcases List.mem_cons.1 hk with rfl | hk; exact ⟨by decide, by decide⟩; cases hk) rfl rfl hclen rfl hones fun h9 l9 hs9 hn9 hk9 => ?_
  refine wp_hb ?_
  have hsA := hs9.shut
  refine wp_res2 (ldA_agg hsA hn9 (by kernel_rfl) (by kernel_rfl) (by kernel_rfl) (by rw [show szOf Tryz.prog 24 = 8 from by kernel_rfl]; exact lhas_of hclen)) ?_
  refine hk _ _ ?_
  have hg5 : LocE l9 (Expr.put x e (some i)).1 cs := g5.mono (fun p hp => hk9 p (hk7 p (memS (g6 p hp).1) (by have := (hs5.has p (g6 p hp).1).1; omega)) (by have := (g6 p hp).2; omega)) _ _
  have hfz := hg5.frz hsA (n := 198) (by omega)
  show ob (lmapO (frz h9.shut 199) [.agg cs, .b _]) (fun c => some (AV.tup c)) = _
  rw [lmapO_cons hfz (lmapO_cons (y := .b (decide ((Expr.put x e (some i)).2 = none))) rfl lmapO_nil)]
def CntL (d : Nat) (l : List Expr) (v : AV) : Prop := ∃ r : Nat, v = .i .i64 ((r : Nat) : Int) ∧ r ≤ 401 ∧ (r ≤ 400 → r = sizeL l ∧ d + deepL l ≤ 61)
theorem deepL_app (a b : List Expr) : deepL (a ++ b) = max (deepL a) (deepL b) := by
  induction a with
  | nil => rw [List.nil_append, deepL]; omega
  | cons x a ih => rw [List.cons_append, deepL, deepL, ih]; omega
theorem deepL_take {l : List Expr} {i : Nat} {e : Expr} (h : l[i]? = some e) : deepL (l.take (i + 1)) = max (deepL (l.take i)) e.deep := by
  rw [take_succ_get h, deepL_app, deepL, deepL]; omega
theorem cL_loop {n : Nat} {k : PK} {l : List Expr} {t : Tg} (d : Nat) (hd : d ≤ 61) (hN : ∀ c ∈ l, d ≤ 60 → EvS Tryz.prog (cfg mAll) n 9 [slA 8 c.tl (cellsL c.l), AV.i .i64 ((d + 1 : Nat) : Int)] (CntL (d + 1) c.l))
    (hk : ∀ (r : Nat) h, r ≤ 401 → (r ≤ 400 → r = sizeL l ∧ d + deepL l ≤ 61) → k (.i .i64 ((r : Nat) : Int)) h) :
    ∀ (m i acc : Nat) (h : Heap) (nx : Nat), HS h nx far [] → nx + 40 * 401 < 31000 + 40 * i → i ≤ l.length → 403 ≤ m + i → i ≤ acc → (acc ≤ 400 → acc = sizeL (l.take i) ∧ d + deepL (l.take i) ≤ 61) → acc ≤ 3000 → i ≤ 401 →
      f9_5 False (callF Tryz.prog False (cfg mAll) n) n k m (slA 8 t (cellsL l)) (AV.i .i64 ((d : Nat) : Int)) (AV.i .i64 ((acc : Nat) : Int)) (AV.i .i64 (i : Int)) h := by
  intro m
  induction m with
  | zero =>
    intro i acc h nx hs b1 b2 b3 b4 b5 b6 b7
    omega
  | succ m ih =>
    intro i acc h nx hs b1 b2 b3 b4 b5 b6 b7
    refine wp_len ?_
    rw [cellsL_len]
    refine wp_lss ?_
    refine wp_bk_t (fun hq => ?_) (fun hq => ?_)
    · skip
      have hq1 := hq
      have hq1' := of_decide_eq_true hq1
      refine wp_lss ?_
      refine wp_pick (fun _ => ?_) (fun e => by rw [hq1] at e; cases e)
      refine wp_if (fun hq => ?_) (fun hq => ?_)
      · skip
        have hq2 := hq
        have hq2' := of_decide_eq_true hq2
        unfold f9_7
        refine wp_gtr ?_
        refine wp_bk_f (fun hq => ?_) (fun hq => ?_)
        · skip
          have hq3 := hq
          have hq3' := of_decide_eq_false hq3
          obtain ⟨e, he, hm⟩ := get_some (l := l) (i := i) (by omega)
          have hz1 := sizeL_take he
          have hsz := e.size_eq; have hdq := e.deep_eq; have hdt := deepL_take he
          refine wp_ix (cellsL_get he) ?_
          refine wp_fa_fp ?_
          refine wp_ld_fpo (e.c2) ?_
          refine wp_lens ?_
          refine wp_gtr ?_
          unfold f9_14
          refine wp_pick (fun e => by rw [hq3] at e; cases e) (fun _ => ?_)
          refine wp_bk_f (fun hq => ?_) (fun hq => ?_)
          · skip
            have hq4 := hq
            have hq4' := of_decide_eq_false hq4
            refine wp_ix (cellsL_get he) ?_
            refine wp_fa_fp ?_
            refine wp_ld_fpo (e.c3) ?_
            refine wp_lens ?_
            refine wp_gtr ?_
            unfold f9_15
            refine wp_pick (fun e => by rw [hq4] at e; cases e) (fun _ => ?_)
            refine wp_bk_f (fun hq => ?_) (fun hq => ?_)
            · skip
              have hq5 := hq
              have hq5' := of_decide_eq_false hq5
              refine wp_ix (cellsL_get he) ?_
              refine wp_fa_fp ?_
              refine wp_ld_fpo (e.c4) ?_
              refine wp_lens ?_
              refine wp_gtr ?_
              refine wp_pick (fun e => by rw [hq5] at e; cases e) (fun _ => ?_)
              unfold f9_12
              refine wp_if (fun hq => ?_) (fun hq => ?_)
              · skip
                have hq6 := hq
                have hq6' := of_decide_eq_true hq6
                exact hk 401 _ (by omega) (by omega)
              · skip
                have hq7 := hq
                have hq7' := of_decide_eq_false hq7
                unfold f9_10
                refine wp_add (c := ((acc + 1 : Nat) : Int)) (by omega) (by omega) (by omega) ?_
                refine wp_ix (cellsL_get he) ?_
                refine wp_fa_fp ?_
                refine wp_ld_fpo (e.c5) ?_
                refine wp_add (c := ((d + 1 : Nat) : Int)) (by omega) (by omega) (by omega) ?_
                refine wp_callS (hN e hm (by omega)) fun v8 hv8 => ?_
                obtain ⟨r1, rfl, hr1a, hr1b⟩ := hv8
                refine wp_pk rfl ?_
                refine wp_add (c := ((acc + 1 + r1 : Nat) : Int)) (by omega) (by omega) (by omega) ?_
                unfold f9_8
                refine wp_add (c := ((i + 1 : Nat) : Int)) (by omega) (by omega) (by omega) ?_
                exact ih (i + 1) (acc + 1 + r1) _ _ hs.nil (by omega) (by omega) (by omega) (by omega) (by omega) (by omega) (by omega)
            · skip
              have hq9 := hq
              have hq9' := of_decide_eq_true hq9
              refine wp_pick (fun _ => ?_) (fun e => by rw [hq9] at e; cases e)
              unfold f9_12
              refine wp_if (fun _ => ?_) (fun e => by cases e)
              exact hk 401 _ (by omega) (by omega)
          · skip
            have hq10 := hq
            have hq10' := of_decide_eq_true hq10
            unfold f9_15
            refine wp_pick (fun _ => ?_) (fun e => by rw [hq10] at e; cases e)
            refine wp_bk_f (fun e => by cases e) (fun _ => ?_)
            refine wp_pick (fun _ => ?_) (fun e => by cases e)
            unfold f9_12
            refine wp_if (fun _ => ?_) (fun e => by cases e)
            exact hk 401 _ (by omega) (by omega)
        · skip
          have hq11 := hq
          have hq11' := of_decide_eq_true hq11
          unfold f9_14
          refine wp_pick (fun _ => ?_) (fun e => by rw [hq11] at e; cases e)
          refine wp_bk_f (fun e => by cases e) (fun _ => ?_)
          unfold f9_15
          refine wp_pick (fun _ => ?_) (fun e => by cases e)
          refine wp_bk_f (fun e => by cases e) (fun _ => ?_)
          refine wp_pick (fun _ => ?_) (fun e => by cases e)
          unfold f9_12
          refine wp_if (fun _ => ?_) (fun e => by cases e)
          exact hk 401 _ (by omega) (by omega)
      · skip
        have hq12 := hq
        have hq12' := of_decide_eq_false hq12
        refine wp_min ?_
        have hmin : min ((acc : Nat) : Int) 401 = ((min acc 401 : Nat) : Int) := by omega
        rw [hmin]
        refine hk (min acc 401) _ (by omega) (fun hr => ?_)
        have hfull : l.length ≤ i := by omega
        have htk : l.take i = l := List.take_of_length_le hfull
        rw [htk] at b5
        omega
    · skip
      have hq13 := hq
      have hq13' := of_decide_eq_false hq13
      refine wp_pick (fun e => by rw [hq13] at e; cases e) (fun _ => ?_)
      refine wp_if (fun e => by cases e) (fun _ => ?_)
      refine wp_min ?_
      have hmin : min ((acc : Nat) : Int) 401 = ((min acc 401 : Nat) : Int) := by omega
      rw [hmin]
      refine hk (min acc 401) _ (by omega) (fun hr => ?_)
      have hfull : l.length ≤ i := by omega
      have htk : l.take i = l := List.take_of_length_le hfull
      rw [htk] at b5
      omega
theorem cL_body {n : Nat} {l : List Expr} {t : Tg} (d : Nat) (hd : d ≤ 61) (hn : 403 ≤ n) (hN : ∀ c ∈ l, d ≤ 60 → EvS Tryz.prog (cfg mAll) n 9 [slA 8 c.tl (cellsL c.l), AV.i .i64 ((d + 1 : Nat) : Int)] (CntL (d + 1) c.l)) : EvS Tryz.prog (cfg mAll) (n + 1) 9 [slA 8 t (cellsL l), AV.i .i64 (((d : Nat) : Int))] ((CntL (d) l)) := by
  refine evS_intro f9_good rfl (ownF_of rfl (refs_cons (refs_sl _) (refs_cons rfl refs_nil))) fun k hk => ?_
  show f9 False (callF Tryz.prog False (cfg mAll) n) n k (slA 8 t (cellsL l)) (AV.i .i64 (((d : Nat) : Int))) Heap.empty
  unfold f9
  have hs := HS.empty
  unfold f9_1
  unfold f9_2
  unfold f9_4
  exact cL_loop d hd hN (fun r h h1 h2 => hk _ _ h ⟨r, rfl, h1, h2⟩ rfl) n 0 0 _ _ hs.nil (by omega) (by omega) (by omega) (by omega) (fun _ => ⟨by simp, by rw [List.take_zero, deepL]; omega⟩) (by omega) (by omega)
theorem cL : ∀ (u d n : Nat) (l : List Expr) (t : Tg), d + u = 61 → 405 + u ≤ n → EvS Tryz.prog (cfg mAll) n 9 [slA 8 t (cellsL l), AV.i .i64 ((d : Nat) : Int)] (CntL (d) l) := by
  intro u
  induction u with
  | zero =>
    intro d n l t hd hn
    obtain ⟨n, rfl⟩ : ∃ m, n = m + 1 := ⟨n - 1, by omega⟩
    exact cL_body d (by omega) (by omega) fun c hc h => by omega
  | succ u ih =>
    intro d n l t hd hn
    obtain ⟨n, rfl⟩ : ∃ m, n = m + 1 := ⟨n - 1, by omega⟩
    exact cL_body d (by omega) (by omega) fun c hc h => ih (d + 1) n c.l c.tl (by omega) (by omega)
theorem fewE {n : Nat} {e : Expr} (hn : 500 ≤ n) : EvS Tryz.prog (cfg mAll) (n + 1 + 1 + 1 + 1) 4 [e.av] (fun v => ∃ q, v = .b q ∧ (q = true → e.size ≤ 400 ∧ e.deep ≤ 61)) := by
  refine evS_intro f4_good rfl (ownF_of rfl (refs_cons (e.refs 8) refs_nil)) fun k hk => ?_
  show f4 False (callF Tryz.prog False (cfg mAll) (n + 1 + 1 + 1)) (n + 1 + 1 + 1) k e.av Heap.empty
  unfold f4
  have hs := HS.empty
  have hsz := e.size_eq
  have hdq := e.deep_eq
  refine wp_box (c := e.cells) hs (by decide) rfl rfl fun h1 hs1 => ?_
  refine wp_ldN_p hs1 mem0 rfl (e.chas) ?_
  refine wp_fil1 (cs := e.cells) rfl rfl (e.chas) ?_
  refine wp_newE hs1 (by decide) fun h2 hs2 => ?_
  refine callIn f9_good rfl rfl ?_
  show f9 False _ _ _ (AV.sl 1 8 0 1 1 true) (AV.i .i64 0) _
  unfold f9
  unfold f9_1
  unfold f9_2
  unfold f9_4
  unfold f9_5
  show lenF False _ _
  refine wp_len_bl ?_
  refine wp_lss ?_
  refine wp_bk_t (fun _ => ?_) (fun e => absurd e (by decide))
  refine wp_lss ?_
  refine wp_pick (fun _ => ?_) (fun e => absurd e (by decide))
  refine wp_if (fun _ => ?_) (fun e => absurd e (by decide))
  unfold f9_7
  refine wp_gtr ?_
  refine wp_bk_f (fun _ => ?_) (fun e => absurd e (by decide))
  refine wp_ix_bl (i := 0) (by decide) ?_
  refine wp_fa_p ?_
  refine wp_ld_p hs2 mem0 rfl (e.c2) ?_
  refine wp_lens ?_
  refine wp_gtr ?_
  unfold f9_14
  refine wp_pick (fun e => absurd e (by decide)) (fun _ => ?_)
  refine wp_bk_f (fun hq => ?_) (fun hq => ?_)
  · skip
    have hq1 := hq
    have hq1' := of_decide_eq_false hq1
    refine wp_ix_bl (i := 0) (by decide) ?_
    refine wp_fa_p ?_
    refine wp_ld_p hs2 mem0 rfl (e.c3) ?_
    refine wp_lens ?_
    refine wp_gtr ?_
    unfold f9_15
    refine wp_pick (fun e => by rw [hq1] at e; cases e) (fun _ => ?_)
    refine wp_bk_f (fun hq => ?_) (fun hq => ?_)
    · skip
      have hq2 := hq
      have hq2' := of_decide_eq_false hq2
      refine wp_ix_bl (i := 0) (by decide) ?_
      refine wp_fa_p ?_
      refine wp_ld_p hs2 mem0 rfl (e.c4) ?_
      refine wp_lens ?_
      refine wp_gtr ?_
      refine wp_pick (fun e => by rw [hq2] at e; cases e) (fun _ => ?_)
      unfold f9_12
      refine wp_if (fun hq => ?_) (fun hq => ?_)
      · skip
        have hq3 := hq
        have hq3' := of_decide_eq_true hq3
        refine wp_pk rfl ?_
        refine wp_leq ?_
        exact hk _ _ _ ⟨_, rfl, fun hq => by have hq' := of_decide_eq_true hq; omega⟩ rfl
      · skip
        have hq4 := hq
        have hq4' := of_decide_eq_false hq4
        unfold f9_10
        refine wp_add (c := 1) (by omega) (by omega) (by omega) ?_
        refine wp_ix_bl (i := 0) (by decide) ?_
        refine wp_fa_p ?_
        refine wp_ld_p hs2 mem0 rfl (e.c5) ?_
        refine wp_add (c := 1) (by omega) (by omega) (by omega) ?_
        refine wp_callS (cL 60 1 (n + 1 + 1) e.l e.tl (by omega) (by omega)) fun v5 hv5 => ?_
        obtain ⟨r, rfl, hr1, hr2⟩ := hv5
        refine wp_pk rfl ?_
        refine wp_add (c := ((1 + r : Nat) : Int)) (by omega) (by omega) (by omega) ?_
        unfold f9_8
        refine wp_add (c := 1) (by omega) (by omega) (by omega) ?_
        show lenF False _ _
        refine wp_len_bl ?_
        refine wp_lss ?_
        refine wp_bk_t (fun e => absurd e (by decide)) (fun _ => ?_)
        refine wp_pick (fun e => absurd e (by decide)) (fun _ => ?_)
        refine wp_if (fun e => by cases e) (fun _ => ?_)
        refine wp_min ?_
        refine wp_pk rfl ?_
        refine wp_leq ?_
        exact hk _ _ _ ⟨_, rfl, fun hq => by have hq' := of_decide_eq_true hq; omega⟩ rfl
    · skip
      have hq6 := hq
      have hq6' := of_decide_eq_true hq6
      refine wp_pick (fun _ => ?_) (fun e => by rw [hq6] at e; cases e)
      unfold f9_12
      refine wp_if (fun _ => ?_) (fun e => by cases e)
      refine wp_pk rfl ?_
      refine wp_leq ?_
      exact hk _ _ _ ⟨_, rfl, fun hq => by have hq' := of_decide_eq_true hq; omega⟩ rfl
  · skip
    have hq7 := hq
    have hq7' := of_decide_eq_true hq7
    unfold f9_15
    refine wp_pick (fun _ => ?_) (fun e => by rw [hq7] at e; cases e)
    refine wp_bk_f (fun e => by cases e) (fun _ => ?_)
    refine wp_pick (fun _ => ?_) (fun e => by cases e)
    unfold f9_12
    refine wp_if (fun _ => ?_) (fun e => by cases e)
    refine wp_pk rfl ?_
    refine wp_leq ?_
    exact hk _ _ _ ⟨_, rfl, fun hq => by have hq' := of_decide_eq_true hq; omega⟩ rfl
theorem rqE_loop {n : Nat} {k : PK} {l r : List Expr} {t t2 : Tg} (hl : sizeL l ≤ 900) (hlr : l.length = r.length) (hN : ∀ e ∈ l, ∀ f : Expr, EvN Tryz.prog (cfg mAll) n 8 [e.av, f.av] (.b (e.same f)))
    (hk : ∀ h, k (.b (sameL l r)) h) :
    ∀ (m i : Nat) (h : Heap) (nx : Nat), HS h nx far [] → nx + 30 * l.length < 31000 + 30 * i → i ≤ l.length → l.length < m + i → (∀ (j : Nat) (e f : Expr), j < i → l[j]? = some e → r[j]? = some f → e.same f = true) →
      f21_5 False (callF Tryz.prog False (cfg mAll) n) n k m (slA 8 t (cellsL l)) (slA 8 t2 (cellsL r)) (AV.i .i64 (i : Int)) h := by
  intro m
  induction m with
  | zero => intro i h nx hs b1 b2 b3; omega
  | succ m ih =>
    intro i h nx hs b1 b2 b3 b4
    have hlen := sizeL_len l
    refine wp_len ?_
    rw [cellsL_len]
    refine wp_lss ?_
    refine wp_if (fun hq => ?_) (fun hq => ?_)
    · skip
      have hq1 := hq
      have hq1' := of_decide_eq_true hq1
      refine wp_dreg hs (by unfold cap; omega) fun h1 hs1 => ?_
      obtain ⟨e, he, hm⟩ := get_some (l := l) (i := i) (by omega)
      obtain ⟨f, hf, hm2⟩ := get_some (l := r) (i := i) (by omega)
      have hz3 := sizeL_mem hm
      refine wp_ix (cellsL_get he) ?_
      refine wp_root_n rfl ?_
      refine wp_ldN_fp (e.chas) ?_
      refine wp_ix (cellsL_get hf) ?_
      refine wp_root_n rfl ?_
      refine wp_ldN_fp (f.chas) ?_
      refine wp_callD (hN e hm f) (refs_cons (e.refs 8) (refs_cons (f.refs 8) refs_nil)) (hs1.look 0) fun h2 hs2 => ?_
      refine wp_pn rfl ?_
      refine wp_not ?_
      refine wp_hb ?_
      have hs2_ := hs2.shut
      refine wp_if (fun hq => ?_) (fun hq => ?_)
      · skip
        have hq2 := hq
        have hfin : false = sameL l r := by rw [sameL_eq]; exact allS_false he hf (by simpa using hq2)
        rw [hfin]; exact hk _
      · skip
        have hq3 := hq
        refine wp_add (c := ((i + 1 : Nat) : Int)) (by omega) (by omega) (by omega) ?_
        refine ih (i + 1) _ _ hs2_.nil (by omega) (by omega) (by omega) (fun j x y hj hx hy => ?_)
        by_cases hji : j = i
        · subst hji; rw [he] at hx; rw [hf] at hy; injection hx with hx; injection hy with hy; subst hx hy; simpa using hq3
        · exact b4 j x y (by omega) hx hy
    · skip
      have hq4 := hq
      have hq4' := of_decide_eq_false hq4
      have hfin : true = sameL l r := by rw [sameL_eq]; exact allS_true hlr fun j x y hj hx hy => b4 j x y (by omega) hx hy
      rw [hfin]; exact hk _
theorem rqE {n : Nat} {l r : List Expr} {t t2 : Tg} (hl : sizeL l ≤ 900) (hn : 10 * sizeL l + 5 ≤ n) (hN : ∀ e ∈ l, ∀ f : Expr, EvN Tryz.prog (cfg mAll) n 8 [e.av, f.av] (.b (e.same f))) : EvN Tryz.prog (cfg mAll) (n + 1) 21 [slA 8 t (cellsL l), slA 8 t2 (cellsL r)] (.b (sameL l r)) := by
  have hlen := sizeL_len l
  refine evN_intro f21_good rfl (ownF_of rfl (refs_cons (refs_sl _) (refs_cons (refs_sl _) refs_nil))) fun k hk => ?_
  show f21 False (callF Tryz.prog False (cfg mAll) n) n k (slA 8 t (cellsL l)) (slA 8 t2 (cellsL r)) Heap.empty
  unfold f21
  have hs := HS.empty
  unfold f21_1
  refine wp_len ?_
  rw [cellsL_len]
  refine wp_len ?_
  rw [cellsL_len]
  refine wp_nei ?_
  refine wp_if (fun hq => ?_) (fun hq => ?_)
  · skip
    have hq1 := hq
    have hq1' := of_decide_eq_true hq1
    exact hk _ _ (congrArg (fun q => some (AV.b q)) (by rw [sameL_eq]; exact allS_len (by intro h; simp [h] at hq1)))
  · skip
    have hq2 := hq
    have hq2' := of_decide_eq_false hq2
    unfold f21_2
    unfold f21_4
    exact rqE_loop (by omega) (by omega) hN (fun h => hk _ _ rfl) n 0 _ _ hs.nil (by omega) (by omega) (by omega) (fun j x y hj => by omega)
theorem rsE_body {n : Nat} {e f : Expr} (hL : EvN Tryz.prog (cfg mAll) n 21 [slA 8 e.tl (cellsL e.l), slA 8 f.tl (cellsL f.l)] (.b (sameL e.l f.l))) : EvN Tryz.prog (cfg mAll) (n + 1) 8 [e.av, f.av] (.b (e.same f)) := by
  refine evN_intro f8_good rfl (ownF_of rfl (refs_cons (e.refs 8) (refs_cons (f.refs 8) refs_nil))) fun k hk => ?_
  show f8 False (callF Tryz.prog False (cfg mAll) n) n k (e.av) (f.av) Heap.empty
  unfold f8
  have hs := HS.empty
  refine wp_box (c := e.cells) hs (by decide) rfl rfl fun h1 hs1 => ?_
  refine wp_box (c := f.cells) hs1 (by decide) rfl rfl fun h2 hs2 => ?_
  unfold f8_1
  refine wp_fa_p ?_
  refine wp_ld_p hs2 mem1 rfl (e.c0) ?_
  refine wp_fa_p ?_
  refine wp_ld_p hs2 mem0 rfl (f.c0) ?_
  refine wp_eqi ?_
  refine wp_bk_t (fun hq => ?_) (fun hq => ?_)
  · skip
    have hq1 := hq
    have hq1' := of_decide_eq_true hq1
    refine wp_fa_p ?_
    refine wp_ld_p hs2 mem1 rfl (e.c1) ?_
    refine wp_fa_p ?_
    refine wp_ld_p hs2 mem0 rfl (f.c1) ?_
    refine wp_eqi32 ?_
    unfold f8_3
    refine wp_pick (fun _ => ?_) (fun e => by rw [hq1] at e; cases e)
    refine wp_bk_t (fun hq => ?_) (fun hq => ?_)
    · skip
      have hq2 := hq
      have hq2' := of_decide_eq_true hq2
      refine wp_fa_p ?_
      refine wp_ld_p hs2 mem1 rfl (e.c2) ?_
      refine wp_fa_p ?_
      refine wp_ld_p hs2 mem0 rfl (f.c2) ?_
      refine wp_eqs ?_
      unfold f8_4
      refine wp_pick (fun _ => ?_) (fun e => by rw [hq2] at e; cases e)
      refine wp_bk_t (fun hq => ?_) (fun hq => ?_)
      · skip
        have hq3 := hq
        have hq3' := of_decide_eq_true hq3
        refine wp_fa_p ?_
        refine wp_ld_p hs2 mem1 rfl (e.c3) ?_
        refine wp_fa_p ?_
        refine wp_ld_p hs2 mem0 rfl (f.c3) ?_
        refine wp_eqs ?_
        unfold f8_5
        refine wp_pick (fun _ => ?_) (fun e => by rw [hq3] at e; cases e)
        refine wp_bk_t (fun hq => ?_) (fun hq => ?_)
        · skip
          have hq4 := hq
          have hq4' := of_decide_eq_true hq4
          refine wp_fa_p ?_
          refine wp_ld_p hs2 mem1 rfl (e.c4) ?_
          refine wp_fa_p ?_
          refine wp_ld_p hs2 mem0 rfl (f.c4) ?_
          refine wp_eqs ?_
          unfold f8_6
          refine wp_pick (fun _ => ?_) (fun e => by rw [hq4] at e; cases e)
          refine wp_bk_t (fun hq => ?_) (fun hq => ?_)
          · skip
            have hq5 := hq
            have hq5' := of_decide_eq_true hq5
            refine wp_fa_p ?_
            refine wp_ld_p hs2 mem1 rfl (e.c5) ?_
            refine wp_fa_p ?_
            refine wp_ld_p hs2 mem0 rfl (f.c5) ?_
            refine wp_call (hL) ?_
            refine wp_pk rfl ?_
            refine wp_pick (fun _ => ?_) (fun e => by rw [hq5] at e; cases e)
            exact hk _ _ (congrArg (fun q => some (AV.b q)) (by first | (rw [Expr.same_eq, hq5]; rfl) | (rw [Expr.same_eq]; simp [S.eq_iff, hq1', hq2', hq3', hq4', hq5'])))
          · skip
            have hq6 := hq
            have hq6' := of_decide_eq_false hq6
            refine wp_pick (fun e => by rw [hq6] at e; cases e) (fun _ => ?_)
            exact hk _ _ (congrArg (fun q => some (AV.b q)) (by first | (rw [Expr.same_eq, hq6]; rfl) | (rw [Expr.same_eq]; simp [S.eq_iff, hq1', hq2', hq3', hq4', hq6'])))
        · skip
          have hq7 := hq
          have hq7' := of_decide_eq_false hq7
          unfold f8_6
          refine wp_pick (fun e => by rw [hq7] at e; cases e) (fun _ => ?_)
          refine wp_bk_t (fun e => by cases e) (fun _ => ?_)
          refine wp_pick (fun e => by cases e) (fun _ => ?_)
          exact hk _ _ (congrArg (fun q => some (AV.b q)) (by first | (rw [Expr.same_eq, hq7]; rfl) | (rw [Expr.same_eq]; simp [S.eq_iff, hq1', hq2', hq3', hq7'])))
      · skip
        have hq8 := hq
        have hq8' := of_decide_eq_false hq8
        unfold f8_5
        refine wp_pick (fun e => by rw [hq8] at e; cases e) (fun _ => ?_)
        refine wp_bk_t (fun e => by cases e) (fun _ => ?_)
        unfold f8_6
        refine wp_pick (fun e => by cases e) (fun _ => ?_)
        refine wp_bk_t (fun e => by cases e) (fun _ => ?_)
        refine wp_pick (fun e => by cases e) (fun _ => ?_)
        exact hk _ _ (congrArg (fun q => some (AV.b q)) (by first | (rw [Expr.same_eq, hq8]; rfl) | (rw [Expr.same_eq]; simp [S.eq_iff, hq1', hq2', hq8'])))
    · skip
      have hq9 := hq
      have hq9' := of_decide_eq_false hq9
      unfold f8_4
      refine wp_pick (fun e => by rw [hq9] at e; cases e) (fun _ => ?_)
      refine wp_bk_t (fun e => by cases e) (fun _ => ?_)
      unfold f8_5
      refine wp_pick (fun e => by cases e) (fun _ => ?_)
      refine wp_bk_t (fun e => by cases e) (fun _ => ?_)
      unfold f8_6
      refine wp_pick (fun e => by cases e) (fun _ => ?_)
      refine wp_bk_t (fun e => by cases e) (fun _ => ?_)
      refine wp_pick (fun e => by cases e) (fun _ => ?_)
      exact hk _ _ (congrArg (fun q => some (AV.b q)) (by first | (rw [Expr.same_eq, hq9]; rfl) | (rw [Expr.same_eq]; simp [S.eq_iff, hq1', hq9'])))
  · skip
    have hq10 := hq
    have hq10' := of_decide_eq_false hq10
    unfold f8_3
    refine wp_pick (fun e => by rw [hq10] at e; cases e) (fun _ => ?_)
    refine wp_bk_t (fun e => by cases e) (fun _ => ?_)
    unfold f8_4
    refine wp_pick (fun e => by cases e) (fun _ => ?_)
    refine wp_bk_t (fun e => by cases e) (fun _ => ?_)
    unfold f8_5
    refine wp_pick (fun e => by cases e) (fun _ => ?_)
    refine wp_bk_t (fun e => by cases e) (fun _ => ?_)
    unfold f8_6
    refine wp_pick (fun e => by cases e) (fun _ => ?_)
    refine wp_bk_t (fun e => by cases e) (fun _ => ?_)
    refine wp_pick (fun e => by cases e) (fun _ => ?_)
    exact hk _ _ (congrArg (fun q => some (AV.b q)) (by first | (rw [Expr.same_eq, hq10]; rfl) | (rw [Expr.same_eq]; simp [S.eq_iff, hq10'])))
theorem rsE : ∀ (e f : Expr) (n : Nat), 10 * e.size + 20 ≤ n → e.size ≤ 900 → EvN Tryz.prog (cfg mAll) n 8 [e.av, f.av] (.b (e.same f)) := by
  refine Expr.ind fun e ih f n hn hb => ?_
  obtain ⟨n, rfl⟩ : ∃ m, n = m + 2 := ⟨n - 2, by omega⟩
  have hsz := e.size_eq
  exact rsE_body (rqE (by omega) (by omega) fun c hc f => ih c hc f n (by have := sizeL_mem hc; omega) (by have := sizeL_mem hc; omega))
theorem rsL {l r : List Expr} {t t2 : Tg} {n : Nat} (hn : 10 * sizeL l + 25 ≤ n) (hb : sizeL l ≤ 900) : EvN Tryz.prog (cfg mAll) (n + 1) 21 [slA 8 t (cellsL l), slA 8 t2 (cellsL r)] (.b (sameL l r)) :=
  rqE hb (by omega) fun c hc f => rsE c f n (by have := sizeL_mem hc; omega) (by have := sizeL_mem hc; omega)
theorem told_ev (n : Nat) : EvN Tryz.prog (cfg mAll) (n + 1) 5 [] (.b true) := fun h k hk => callF_memo' (by kernel_rfl) n h k hk
theorem put_ev' {n : Nat} {x e : Expr} {i : Nat} (hx : x.size ≤ 900) (he : e.size ≤ 700) (hi : i < e.size) (hn : 10 * e.size + 10 * x.size + 80 ≤ n) (hd : (Expr.put x e (some i)).1.deep ≤ 190) : EvN Tryz.prog (cfg mAll) (n + 1) 7 [e.av, .i .i64 ((i : Nat) : Int), x.av] (.tup [(Expr.put x e (some i)).1.av, .b true]) := by
  have h := put_ev (n := n) hx he (show i ≤ 100000 by omega) hn hd
  rw [Expr.put_done x e i hi] at h
  exact h
theorem put_evw {n : Nat} {x e : Expr} {i : Nat} {w : Expr × Option Nat} (hx : x.size ≤ 900) (he : e.size ≤ 700) (hi : i < e.size) (hn : 10 * e.size + 10 * x.size + 80 ≤ n) (hw : Expr.put x e (some i) = w) (hd : w.1.deep ≤ 190) : EvN Tryz.prog (cfg mAll) (n + 1) 7 [e.av, .i .i64 ((i : Nat) : Int), x.av] (.tup [w.1.av, .b true]) := by
  subst hw
  exact put_ev' hx he hi hn hd
theorem law {n : Nat} (hn : 20000 ≤ n) (e : Expr) (a b : Int) (x : Expr) : EvN Tryz.prog (cfg mAll) (n + 1 + 1 + 1 + 1 + 1) 3 [e.av, AV.i .i64 a, AV.i .i64 b, x.av] (.b true) := by
  refine evN_intro f3_good rfl (ownF_of rfl (refs_cons (e.refs 8) (refs_cons rfl (refs_cons rfl (refs_cons (x.refs 8) refs_nil))))) fun k hk => ?_
  show f3 False (callF Tryz.prog False (cfg mAll) (n + 1 + 1 + 1 + 1)) (n + 1 + 1 + 1 + 1) k (e.av) (AV.i .i64 a) (AV.i .i64 b) (x.av) Heap.empty
  unfold f3
  have hs := HS.empty
  refine wp_box (c := e.cells) hs (by decide) rfl rfl fun h1 hs1 => ?_
  refine wp_box (c := x.cells) hs1 (by decide) rfl rfl fun h2 hs2 => ?_
  unfold f3_1
  refine wp_ldN_p hs2 mem1 rfl (e.chas) ?_
  refine wp_callS (fewE (n := n) (by omega)) fun v1 hv1 => ?_
  obtain ⟨q_e, rfl, hr_e⟩ := hv1
  refine wp_pk rfl ?_
  refine wp_not ?_
  refine wp_bk_f (fun hq => ?_) (fun hq => ?_)
  · skip
    have hq2 := hq
    refine wp_ldN_p hs2 mem0 rfl (x.chas) ?_
    refine wp_callS (fewE (n := n) (by omega)) fun v3 hv3 => ?_
    obtain ⟨q_x, rfl, hr_x⟩ := hv3
    refine wp_pk rfl ?_
    refine wp_not ?_
    refine wp_pick (fun e => by rw [hq2] at e; cases e) (fun _ => ?_)
    unfold f3_17
    refine wp_if (fun hq => ?_) (fun hq => ?_)
    · skip
      have hq4 := hq
      refine wp_call (told_ev _) ?_
      refine wp_pk rfl ?_
      exact hk _ _ rfl
    · skip
      have hq5 := hq
      unfold f3_2
      refine wp_ldN_p hs2 mem1 rfl (e.chas) ?_
      obtain ⟨he1, he2⟩ := hr_e (by simpa using hq2)
      obtain ⟨hx1, hx2⟩ := hr_x (by simpa using hq5)
      have hes := e.subs_len
      have hep := e.size_eq
      refine wp_call (exprs_ev (by omega) (by omega)) ?_
      refine wp_pk asPn_sl ?_
      unfold f3_3
      refine wp_len ?_
      rw [cellsL_len]
      refine wp_eqi ?_
      refine wp_if (fun hq => ?_) (fun hq => ?_)
      · skip
        have hq6 := hq
        have hq6' := of_decide_eq_true hq6
        exfalso; omega
      · skip
        have hq7 := hq
        have hq7' := of_decide_eq_false hq7
        unfold f3_4
        refine wp_conv (k := .u64) (by kernel_rfl) rfl ?_
        refine wp_len ?_
        rw [cellsL_len]
        refine wp_conv (k := .u64) (by kernel_rfl) (wr_u64_nat (by omega)) ?_
        refine wp_rem (by omega) ?_
        obtain ⟨i1, hi1, ei1⟩ := place_of a (n := e.subs.length) (by omega)
        rw [ei1]
        refine wp_conv (k := .i64) (by kernel_rfl) (wr_i64_nat (by omega)) ?_
        unfold f3_5
        obtain ⟨p, he, hm⟩ := get_some (l := e.subs) (i := i1) (by omega)
        obtain ⟨hp1, hp2⟩ := subs_le e p hm
        refine wp_ix (cellsL_get he) ?_
        refine wp_ldN_fp (p.chas) ?_
        have hps := p.subs_len
        have hpp := p.size_eq
        refine wp_call (exprs_ev (by omega) (by omega)) ?_
        refine wp_pk asPn_sl ?_
        unfold f3_6
        refine wp_len ?_
        rw [cellsL_len]
        refine wp_eqi ?_
        refine wp_if (fun hq => ?_) (fun hq => ?_)
        · skip
          have hq8 := hq
          have hq8' := of_decide_eq_true hq8
          exfalso; omega
        · skip
          have hq9 := hq
          have hq9' := of_decide_eq_false hq9
          unfold f3_7
          refine wp_conv (k := .u64) (by kernel_rfl) rfl ?_
          refine wp_len ?_
          rw [cellsL_len]
          refine wp_conv (k := .u64) (by kernel_rfl) (wr_u64_nat (by omega)) ?_
          refine wp_rem (by omega) ?_
          obtain ⟨i2, hi2, ei2⟩ := place_of b (n := p.subs.length) (by omega)
          rw [ei2]
          refine wp_conv (k := .i64) (by kernel_rfl) (wr_i64_nat (by omega)) ?_
          unfold f3_8
          refine wp_dreg hs2 (by decide) fun h3 hs3 => ?_
          refine wp_ix (cellsL_get he) ?_
          refine wp_root_n rfl ?_
          refine wp_ldN_fp (p.chas) ?_
          refine wp_ldN_p (hs3.look 0) mem0 rfl (x.chas) ?_
          have hk2 : i2 < p.size := by omega
          have hw := Expr.put_put x e i1 i2 p he hk2
          have hd1 := put_deep x p (some i2)
          have hs1 := put_size x p (some i2)
          rw [Expr.put_done x p i2 hk2] at hs1
          have hs1' : (Expr.put x p (some i2)).1.size ≤ p.size + x.size := by simpa [owe] using hs1
          refine wp_callD (put_ev' (by omega) (by omega) hk2 (by omega) (by omega)) (refs_cons (p.refs 8) (refs_cons rfl (refs_cons (x.refs 8) refs_nil))) (hs3.look 0) fun h4 hs4 => ?_
          refine wp_pn rfl ?_
          refine wp_ex rfl ?_
          refine wp_ex rfl ?_
          have hw_hs4 := hs4.win
          refine wp_newD hw_hs4 (by omega) (by unfold cap; omega) (by intro p hp; cases hp) fun h5 hw5 => ?_
          refine wp_stD (cs := ((Expr.put x p (some i2)).1).cells) hw5 mem0 (by decide) rfl (((Expr.put x p (some i2)).1).clen) rfl (((Expr.put x p (some i2)).1).cones) [] (by intro p hp; cases hp) fun h6 hw6 => ?_
          refine wp_hb ?_
          have hs6s := hw6.shut
          unfold f3_9
          refine wp_ldN_p hs6s (List.mem_append.2 (.inr mem1)) rfl (e.chas) ?_
          refine wp_ldN_p hs6s (List.mem_append.2 (.inl mem0)) rfl (((Expr.put x p (some i2)).1).chas) ?_
          have hk1 : i1 + i2 < e.size := by have := subs_room e i1 p he; omega
          have hd2 := put_deep x e (some (i1 + i2))
          have hs2 := put_size x e (some (i1 + i2))
          rw [Expr.put_done x e _ hk1] at hs2
          have hs2' : (Expr.put x e (some (i1 + i2))).1.size ≤ e.size + x.size := by simpa [owe] using hs2
          refine wp_call (put_evw (by omega) (by omega) (by omega) (by omega) hw (by omega)) ?_
          refine wp_pk rfl ?_
          refine wp_ex rfl ?_
          refine wp_ex rfl ?_
          refine wp_var (cs := ((Expr.put x e (some (i1 + i2))).1).cells) hs6s (by decide) rfl (((Expr.put x e (some (i1 + i2))).1).clen) rfl (((Expr.put x e (some (i1 + i2))).1).cones) fun h7 hs7 => ?_
          unfold f3_10
          refine wp_ldN_p hs7 (memS (List.mem_append.2 (.inr mem1))) rfl (e.chas) ?_
          refine wp_add (c := ((i1 + i2 : Nat) : Int)) (by omega) (by omega) (by omega) ?_
          refine wp_ldN_p hs7 (memS (List.mem_append.2 (.inr mem0))) rfl (x.chas) ?_
          refine wp_call (put_ev' (by omega) (by omega) hk1 (by omega) (by omega)) ?_
          refine wp_pk rfl ?_
          refine wp_ex rfl ?_
          refine wp_ex rfl ?_
          refine wp_var (cs := ((Expr.put x e (some (i1 + i2))).1).cells) hs7 (by decide) rfl (((Expr.put x e (some (i1 + i2))).1).clen) rfl (((Expr.put x e (some (i1 + i2))).1).cones) fun h8 hs8 => ?_
          unfold f3_11
          refine wp_call (told_ev _) ?_
          refine wp_pk rfl ?_
          refine wp_bk_t (fun _ => ?_) (fun e => by cases e)
          unfold f3_13
          refine wp_pick (fun _ => ?_) (fun e => by cases e)
          refine wp_bk_t (fun _ => ?_) (fun e => by cases e)
          unfold f3_14
          refine wp_pick (fun _ => ?_) (fun e => by cases e)
          refine wp_bk_t (fun _ => ?_) (fun e => by cases e)
          unfold f3_15
          refine wp_pick (fun _ => ?_) (fun e => by cases e)
          refine wp_bk_t (fun _ => ?_) (fun e => by cases e)
          refine wp_ldN_p hs8 mem1 rfl (((Expr.put x e (some (i1 + i2))).1).chas) ?_
          refine wp_ldN_p hs8 mem0 rfl (((Expr.put x e (some (i1 + i2))).1).chas) ?_
          refine wp_call ((by have h := rsE (Expr.put x e (some (i1 + i2))).1 (Expr.put x e (some (i1 + i2))).1 (n + 1 + 1 + 1 + 1) (by omega) (by omega); rw [Expr.same_refl] at h; exact h)) ?_
          refine wp_pk rfl ?_
          refine wp_pick (fun _ => ?_) (fun e => by cases e)
          exact hk _ _ rfl
  · skip
    have hq10 := hq
    refine wp_pick (fun _ => ?_) (fun e => by rw [hq10] at e; cases e)
    unfold f3_17
    refine wp_if (fun _ => ?_) (fun e => by cases e)
    refine wp_call (told_ev _) ?_
    refine wp_pk rfl ?_
    exact hk _ _ rfl
end Go.Zev.Cn
