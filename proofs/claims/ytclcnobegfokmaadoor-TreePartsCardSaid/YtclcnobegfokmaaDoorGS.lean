/-
  Printed by gp_tree.py: sizes, sameness.
-/
import Derived.Test.YtclcnobegfokmaaDoorGB
import Derived.Test.YtclcnobegfokmaaDoorZ4
set_option linter.unusedVariables false
set_option linter.unusedSimpArgs false
set_option maxRecDepth 20000
namespace Go.Zev.Dq
open Go Go.Zev Go.Proofs
variable {mm : FuncId → Option (List AV → Option AV)}
theorem tE_loop {n : Nat} {k : PK} {l : List Expr} {t : Tg} (hl : sizeL l ≤ 700) (hN : ∀ c ∈ l, EvN Tryd.prog (cfg m1) n 8 [c.av] (.i .i64 ((c.size : Nat) : Int)))
    (hk : ∀ h, k (.i .i64 ((1 + sizeL l : Nat) : Int)) h) :
    ∀ (m i : Nat) (h : Heap) (nx : Nat), HS h nx far [] → nx + 40 * l.length < 31000 + 40 * i → i ≤ l.length → l.length < m + i →
      f8_5 False (callF Tryd.prog False (cfg m1) n) n k m (AV.i .i64 ((1 + sizeL (l.take i) : Nat) : Int)) (slA 8 t (cellsL l)) (AV.i .i64 (l.length : Int)) (AV.i .i64 (i : Int)) h := by
  intro m
  induction m with
  | zero => intro i h nx hs b1 b2 b3; omega
  | succ m ih =>
    intro i h nx hs b1 b2 b3
    have hlen := sizeL_len l
    have hz0 := sizeL_take_le l i
    refine wp_lss ?_
    refine wp_if (fun hq => ?_) (fun hq => ?_)
    · skip
      have hq1 := hq
      have hq1' := of_decide_eq_true hq1
      obtain ⟨e, he, hm⟩ := get_some (l := l) (i := i) (by omega)
      have hz1 := sizeL_take he
      have hz2 := sizeL_take_le l (i + 1)
      have hz3 := sizeL_mem hm
      refine wp_ix (cellsL_get he) ?_
      refine wp_ldN_fp (e.chas) ?_
      refine wp_var (cs := e.cells) hs (by unfold cap; omega) rfl (e.clen) rfl (e.cones) fun h1 hs1 => ?_
      refine wp_ldN_p hs1 mem0 rfl (e.chas) ?_
      refine wp_call (hN _ hm) ?_
      refine wp_pk rfl ?_
      refine wp_add (c := ((1 + sizeL (l.take (i + 1)) : Nat) : Int)) (by omega) (by omega) (by omega) ?_
      refine wp_add (c := ((i + 1 : Nat) : Int)) (by omega) (by omega) (by omega) ?_
      exact ih (i + 1) _ _ hs1.nil (by omega) (by omega) (by omega)
    · skip
      have hq2 := hq
      have hq2' := of_decide_eq_false hq2
      obtain rfl : i = l.length := by omega
      rw [List.take_length]
      exact hk _
theorem tE_body {n : Nat} {e : Expr} (hb : e.size ≤ 700) (hn : 10 * e.size + 5 ≤ n) (hN : ∀ c ∈ e.l, EvN Tryd.prog (cfg m1) n 8 [c.av] (.i .i64 ((c.size : Nat) : Int))) : EvN Tryd.prog (cfg m1) (n + 1) 8 [e.av] (.i .i64 ((e.size : Nat) : Int)) := by
  have hsz := e.size_eq
  have hlen := sizeL_len e.l
  refine evN_intro f8_good rfl (ownF_of rfl (refs_cons (e.refs 8) refs_nil)) fun k hk => ?_
  show f8 False (callF Tryd.prog False (cfg m1) n) n k (e.av) Heap.empty
  unfold f8
  have hs := HS.empty
  refine wp_box (c := e.cells) hs (by decide) rfl rfl fun h1 hs1 => ?_
  unfold f8_1
  unfold f8_2
  refine wp_fa_p ?_
  refine wp_ld_p hs1 mem0 rfl (e.c5) ?_
  refine wp_len ?_
  rw [cellsL_len]
  unfold f8_4
  refine tE_loop (by omega) (fun c hc => ?_) (fun h => ?_) n 0 _ _ hs1.nil (by omega) (by omega) (by omega)
  · exact hN c hc
  · rw [← hsz]; exact hk _ _ rfl
theorem tE : ∀ (e : Expr) (n : Nat), 10 * e.size + 10 ≤ n → e.size ≤ 700 → EvN Tryd.prog (cfg m1) n 8 [e.av] (.i .i64 ((e.size : Nat) : Int)) := by
  refine Expr.ind fun e ih n hn hb => ?_
  obtain ⟨n, rfl⟩ : ∃ m, n = m + 1 := ⟨n - 1, by omega⟩
  have hsz := e.size_eq
  exact tE_body hb (by omega) fun c hc => ih c hc n (by have := sizeL_mem hc; omega) (by have := sizeL_mem hc; omega)
theorem tL_loop {n : Nat} {k : PK} {l : List Expr} {t : Tg} (hl : sizeL l ≤ 700) (hN : ∀ c ∈ l, EvN Tryd.prog (cfg m1) n 8 [c.av] (.i .i64 ((c.size : Nat) : Int)))
    (hk : ∀ h, k (.i .i64 ((sizeL l : Nat) : Int)) h) :
    ∀ (m i : Nat) (h : Heap) (nx : Nat), HS h nx far [] → nx + 40 * l.length < 31000 + 40 * i → i ≤ l.length → l.length < m + i →
      f27_5 False (callF Tryd.prog False (cfg m1) n) n k m (AV.i .i64 ((sizeL (l.take i) : Nat) : Int)) (slA 8 t (cellsL l)) (AV.i .i64 (l.length : Int)) (AV.i .i64 (i : Int)) h := by
  intro m
  induction m with
  | zero => intro i h nx hs b1 b2 b3; omega
  | succ m ih =>
    intro i h nx hs b1 b2 b3
    have hlen := sizeL_len l
    have hz0 := sizeL_take_le l i
    refine wp_lss ?_
    refine wp_if (fun hq => ?_) (fun hq => ?_)
    · skip
      have hq1 := hq
      have hq1' := of_decide_eq_true hq1
      obtain ⟨e, he, hm⟩ := get_some (l := l) (i := i) (by omega)
      have hz1 := sizeL_take he
      have hz2 := sizeL_take_le l (i + 1)
      have hz3 := sizeL_mem hm
      refine wp_ix (cellsL_get he) ?_
      refine wp_ldN_fp (e.chas) ?_
      refine wp_var (cs := e.cells) hs (by unfold cap; omega) rfl (e.clen) rfl (e.cones) fun h1 hs1 => ?_
      refine wp_ldN_p hs1 mem0 rfl (e.chas) ?_
      refine wp_call (hN _ hm) ?_
      refine wp_pk rfl ?_
      refine wp_add (c := ((sizeL (l.take (i + 1)) : Nat) : Int)) (by omega) (by omega) (by omega) ?_
      refine wp_add (c := ((i + 1 : Nat) : Int)) (by omega) (by omega) (by omega) ?_
      exact ih (i + 1) _ _ hs1.nil (by omega) (by omega) (by omega)
    · skip
      have hq2 := hq
      have hq2' := of_decide_eq_false hq2
      obtain rfl : i = l.length := by omega
      rw [List.take_length]
      exact hk _
theorem tL {n : Nat} {l : List Expr} {t : Tg} (hb : sizeL l ≤ 700) (hn : 10 * sizeL l + 12 ≤ n) : EvN Tryd.prog (cfg m1) (n + 1) 27 [slA 8 t (cellsL l)] (.i .i64 ((sizeL l : Nat) : Int)) := by
  have hlen := sizeL_len l
  refine evN_intro f27_good rfl (ownF_of rfl (refs_cons (refs_sl _) refs_nil)) fun k hk => ?_
  show f27 False (callF Tryd.prog False (cfg m1) n) n k (slA 8 t (cellsL l)) Heap.empty
  unfold f27
  have hs := HS.empty
  unfold f27_1
  unfold f27_2
  refine wp_len ?_
  rw [cellsL_len]
  unfold f27_4
  refine tL_loop (by omega) (fun c hc => ?_) (fun h => ?_) n 0 _ _ hs.nil (by omega) (by omega) (by omega)
  · exact tE c n (by have := sizeL_mem hc; omega) (by have := sizeL_mem hc; omega)
  · exact hk _ _ rfl
theorem rL_loop {n : Nat} {k : PK} {l : List Expr} {t : Tg} (hl : sizeL l ≤ 700) (hN : ∀ c ∈ l, EvN Tryd.prog (cfg m1) n 9 [c.av] (.i .i64 ((c.size : Nat) : Int)))
    (hk : ∀ h, k (.i .i64 ((sizeL l : Nat) : Int)) h) :
    ∀ (m i : Nat) (h : Heap) (nx : Nat), HS h nx far [] → nx + 40 * l.length < 31000 + 40 * i → i ≤ l.length → l.length < m + i →
      f26_5 False (callF Tryd.prog False (cfg m1) n) n k m (slA 8 t (cellsL l)) (AV.i .i64 ((sizeL (l.take i) : Nat) : Int)) (AV.i .i64 (i : Int)) h := by
  intro m
  induction m with
  | zero => intro i h nx hs b1 b2 b3; omega
  | succ m ih =>
    intro i h nx hs b1 b2 b3
    have hlen := sizeL_len l
    have hz0 := sizeL_take_le l i
    refine wp_len ?_
    rw [cellsL_len]
    refine wp_lss ?_
    refine wp_if (fun hq => ?_) (fun hq => ?_)
    · skip
      have hq1 := hq
      have hq1' := of_decide_eq_true hq1
      obtain ⟨e, he, hm⟩ := get_some (l := l) (i := i) (by omega)
      have hz1 := sizeL_take he
      have hz2 := sizeL_take_le l (i + 1)
      have hz3 := sizeL_mem hm
      refine wp_ix (cellsL_get he) ?_
      refine wp_ldN_fp (e.chas) ?_
      refine wp_call (hN _ hm) ?_
      refine wp_pk rfl ?_
      refine wp_add (c := ((sizeL (l.take (i + 1)) : Nat) : Int)) (by omega) (by omega) (by omega) ?_
      refine wp_add (c := ((i + 1 : Nat) : Int)) (by omega) (by omega) (by omega) ?_
      exact ih (i + 1) _ _ hs.nil (by omega) (by omega) (by omega)
    · skip
      have hq2 := hq
      have hq2' := of_decide_eq_false hq2
      obtain rfl : i = l.length := by omega
      rw [List.take_length]
      exact hk _
theorem rL_body {n : Nat} {l : List Expr} {t : Tg} (hb : sizeL l ≤ 700) (hn : 10 * sizeL l + 5 ≤ n) (hN : ∀ c ∈ l, EvN Tryd.prog (cfg m1) n 9 [c.av] (.i .i64 ((c.size : Nat) : Int))) : EvN Tryd.prog (cfg m1) (n + 1) 26 [slA 8 t (cellsL l)] (.i .i64 ((sizeL l : Nat) : Int)) := by
  have hlen := sizeL_len l
  refine evN_intro f26_good rfl (ownF_of rfl (refs_cons (refs_sl _) refs_nil)) fun k hk => ?_
  show f26 False (callF Tryd.prog False (cfg m1) n) n k (slA 8 t (cellsL l)) Heap.empty
  unfold f26
  have hs := HS.empty
  unfold f26_1
  unfold f26_2
  unfold f26_4
  refine rL_loop (by omega) (fun c hc => ?_) (fun h => ?_) n 0 _ _ hs.nil (by omega) (by omega) (by omega)
  · exact hN c hc
  · exact hk _ _ rfl
theorem rE_body {n : Nat} {e : Expr} (hb : e.size ≤ 700) (hL : EvN Tryd.prog (cfg m1) n 26 [slA 8 e.tl (cellsL e.l)] (.i .i64 ((sizeL e.l : Nat) : Int))) : EvN Tryd.prog (cfg m1) (n + 1) 9 [e.av] (.i .i64 ((e.size : Nat) : Int)) := by
  have hsz := e.size_eq
  refine evN_intro f9_good rfl (ownF_of rfl (refs_cons (e.refs 8) refs_nil)) fun k hk => ?_
  show f9 False (callF Tryd.prog False (cfg m1) n) n k (e.av) Heap.empty
  unfold f9
  have hs := HS.empty
  refine wp_box (c := e.cells) hs (by decide) rfl rfl fun h1 hs1 => ?_
  refine wp_fa_p ?_
  refine wp_ld_p hs1 mem0 rfl (e.c5) ?_
  refine wp_call (hL) ?_
  refine wp_pk rfl ?_
  refine wp_add (c := ((e.size : Nat) : Int)) (by omega) (by omega) (by omega) ?_
  exact hk _ _ rfl
theorem rE : ∀ (e : Expr) (n : Nat), 10 * e.size + 10 ≤ n → e.size ≤ 700 → EvN Tryd.prog (cfg m1) n 9 [e.av] (.i .i64 ((e.size : Nat) : Int)) := by
  refine Expr.ind fun e ih n hn hb => ?_
  obtain ⟨n, rfl⟩ : ∃ m, n = m + 2 := ⟨n - 2, by omega⟩
  have hsz := e.size_eq
  exact rE_body hb (rL_body (by omega) (by omega) fun c hc => ih c hc n (by have := sizeL_mem hc; omega) (by have := sizeL_mem hc; omega))
theorem rL {n : Nat} {l : List Expr} {t : Tg} (hb : sizeL l ≤ 700) (hn : 10 * sizeL l + 12 ≤ n) : EvN Tryd.prog (cfg m1) (n + 1) 26 [slA 8 t (cellsL l)] (.i .i64 ((sizeL l : Nat) : Int)) :=
  rL_body hb (by omega) fun c hc => rE c n (by have := sizeL_mem hc; omega) (by have := sizeL_mem hc; omega)
theorem tT_loop {n : Nat} {k : PK} {l : List Stmt} {t : Tg} (hl : sizeT l ≤ 700) (hE : ∀ e ∈ l, EvN Tryd.prog (cfg m1) n 27 [slA 8 e.te (cellsL e.e)] (.i .i64 ((sizeL e.e : Nat) : Int))) (hT : ∀ e ∈ l, ∀ (t : Tg) (x : List Stmt), (x = e.a ∨ x = e.b ∨ x = e.c) → EvN Tryd.prog (cfg m1) n 10 [slA 9 t (cellsT x)] (.i .i64 ((sizeT x : Nat) : Int)))
    (hk : ∀ h, k (.i .i64 ((sizeT l : Nat) : Int)) h) :
    ∀ (m i : Nat) (h : Heap) (nx : Nat), HS h nx far [] → nx + 40 * l.length < 31000 + 40 * i → i ≤ l.length → l.length < m + i →
      f10_5 False (callF Tryd.prog False (cfg m1) n) n k m (AV.i .i64 ((sizeT (l.take i) : Nat) : Int)) (slA 9 t (cellsT l)) (AV.i .i64 (l.length : Int)) (AV.i .i64 (i : Int)) h := by
  intro m
  induction m with
  | zero => intro i h nx hs b1 b2 b3; omega
  | succ m ih =>
    intro i h nx hs b1 b2 b3
    have hlen := sizeT_len l
    have hz0 := sizeT_take_le l i
    refine wp_lss ?_
    unfold f10_7
    refine wp_if (fun hq => ?_) (fun hq => ?_)
    · skip
      have hq1 := hq
      have hq1' := of_decide_eq_true hq1
      unfold f10_8
      obtain ⟨e, he, hm⟩ := get_some (l := l) (i := i) (by omega)
      have hz1 := sizeT_take he
      have hz2 := sizeT_take_le l (i + 1)
      have hz3 := sizeT_mem hm
      have hse := e.size_eq
      refine wp_ix (cellsT_get he) ?_
      refine wp_ldN_fp (e.chas) ?_
      refine wp_var (cs := e.cells) hs (by unfold cap; omega) rfl (e.clen) rfl (e.cones) fun h1 hs1 => ?_
      unfold f10_10
      refine wp_dreg hs1 (by unfold cap; omega) fun h2 hs2 => ?_
      refine wp_add (c := ((sizeT (l.take i) + 1 : Nat) : Int)) (by omega) (by omega) (by omega) ?_
      refine wp_fa_p ?_
      refine wp_root_pp ?_
      refine wp_ld_p (hs2.look 4) mem0 rfl (e.c4) ?_
      refine wp_callD (hE e hm) (refs_cons (refs_sl _) refs_nil) (hs2.look 0) fun h3 hs3 => ?_
      refine wp_pn rfl ?_
      unfold f10_11
      refine wp_add (c := ((sizeT (l.take i) + 1 + sizeL e.e : Nat) : Int)) (by omega) (by omega) (by omega) ?_
      refine wp_fa_p ?_
      refine wp_root_pp ?_
      refine wp_ld_p (hs3.look 64) mem0 rfl (e.c5) ?_
      refine wp_callD (hT e hm _ _ (by simp)) (refs_cons (refs_sl _) refs_nil) (hs3.look 0) fun h4 hs4 => ?_
      refine wp_pn rfl ?_
      unfold f10_12
      refine wp_add (c := ((sizeT (l.take i) + 1 + sizeL e.e + sizeT e.a : Nat) : Int)) (by omega) (by omega) (by omega) ?_
      refine wp_fa_p ?_
      refine wp_root_pp ?_
      refine wp_ld_p (hs4.look 1024) mem0 rfl (e.c6) ?_
      refine wp_callD (hT e hm _ _ (by simp)) (refs_cons (refs_sl _) refs_nil) (hs4.look 0) fun h5 hs5 => ?_
      refine wp_pn rfl ?_
      unfold f10_13
      refine wp_add (c := ((sizeT (l.take i) + 1 + sizeL e.e + sizeT e.a + sizeT e.b : Nat) : Int)) (by omega) (by omega) (by omega) ?_
      refine wp_fa_p ?_
      refine wp_root_pp ?_
      refine wp_ld_p (hs5.look 16384) mem0 rfl (e.c7) ?_
      refine wp_callD (hT e hm _ _ (by simp)) (refs_cons (refs_sl _) refs_nil) (hs5.look 0) fun h6 hs6 => ?_
      refine wp_pn rfl ?_
      unfold f10_14
      refine wp_add (c := ((sizeT (l.take (i + 1)) : Nat) : Int)) (by omega) (by omega) (by omega) ?_
      refine wp_hb ?_
      have hs6_ := hs6.shut
      refine wp_add (c := ((i + 1 : Nat) : Int)) (by omega) (by omega) (by omega) ?_
      exact ih (i + 1) _ _ hs6_.nil (by omega) (by omega) (by omega)
    · skip
      have hq2 := hq
      have hq2' := of_decide_eq_false hq2
      obtain rfl : i = l.length := by omega
      rw [List.take_length]
      exact hk _
theorem tT_body {n : Nat} {l : List Stmt} {t : Tg} (hb : sizeT l ≤ 700) (hn : 10 * sizeT l + 5 ≤ n) (hE : ∀ e ∈ l, EvN Tryd.prog (cfg m1) n 27 [slA 8 e.te (cellsL e.e)] (.i .i64 ((sizeL e.e : Nat) : Int))) (hT : ∀ e ∈ l, ∀ (t : Tg) (x : List Stmt), (x = e.a ∨ x = e.b ∨ x = e.c) → EvN Tryd.prog (cfg m1) n 10 [slA 9 t (cellsT x)] (.i .i64 ((sizeT x : Nat) : Int))) : EvN Tryd.prog (cfg m1) (n + 1) 10 [slA 9 t (cellsT l)] (.i .i64 ((sizeT l : Nat) : Int)) := by
  have hlen := sizeT_len l
  refine evN_intro f10_good rfl (ownF_of rfl (refs_cons (refs_sl _) refs_nil)) fun k hk => ?_
  show f10 False (callF Tryd.prog False (cfg m1) n) n k (slA 9 t (cellsT l)) Heap.empty
  unfold f10
  have hs := HS.empty
  unfold f10_1
  unfold f10_2
  refine wp_len ?_
  rw [cellsT_len]
  unfold f10_4
  exact tT_loop (by omega) hE hT (fun h => hk _ _ rfl) n 0 _ _ hs.nil (by omega) (by omega) (by omega)
theorem tT : ∀ (z n : Nat) (l : List Stmt) (t : Tg), sizeT l ≤ z → 10 * sizeT l + 20 ≤ n → sizeT l ≤ 700 → EvN Tryd.prog (cfg m1) n 10 [slA 9 t (cellsT l)] (.i .i64 ((sizeT l : Nat) : Int)) := by
  intro z
  induction z with
  | zero =>
    intro n l t hz hn hb
    obtain ⟨n, rfl⟩ : ∃ m, n = m + 1 := ⟨n - 1, by omega⟩
    have hlen := sizeT_len l
    refine tT_body hb (by omega) (fun e he => ?_) (fun e he => ?_) <;> (have := List.length_pos_of_mem he; omega)
  | succ z ih =>
    intro n l t hz hn hb
    obtain ⟨n, rfl⟩ : ∃ m, n = m + 2 := ⟨n - 2, by omega⟩
    refine tT_body hb (by omega) (fun e he => ?_) (fun e he t x hx => ?_)
    · have h1 := sizeT_mem he
      have h2 := e.size_eq
      exact tL (by omega) (by omega)
    · have h1 := sizeT_mem he
      have h2 := e.size_eq
      refine ih _ x t ?_ ?_ ?_ <;> (rcases hx with rfl | rfl | rfl <;> omega)
theorem rT_loop {n : Nat} {k : PK} {l : List Stmt} {t : Tg} (hl : sizeT l ≤ 700) (hE : ∀ e ∈ l, EvN Tryd.prog (cfg m1) n 26 [slA 8 e.te (cellsL e.e)] (.i .i64 ((sizeL e.e : Nat) : Int))) (hT : ∀ e ∈ l, ∀ (t : Tg) (x : List Stmt), (x = e.a ∨ x = e.b ∨ x = e.c) → EvN Tryd.prog (cfg m1) n 11 [slA 9 t (cellsT x)] (.i .i64 ((sizeT x : Nat) : Int)))
    (hk : ∀ h, k (.i .i64 ((sizeT l : Nat) : Int)) h) :
    ∀ (m i : Nat) (h : Heap) (nx : Nat), HS h nx far [] → nx + 40 * l.length < 31000 + 40 * i → i ≤ l.length → l.length < m + i →
      f11_5 False (callF Tryd.prog False (cfg m1) n) n k m (slA 9 t (cellsT l)) (AV.i .i64 ((sizeT (l.take i) : Nat) : Int)) (AV.i .i64 (i : Int)) h := by
  intro m
  induction m with
  | zero => intro i h nx hs b1 b2 b3; omega
  | succ m ih =>
    intro i h nx hs b1 b2 b3
    have hlen := sizeT_len l
    have hz0 := sizeT_take_le l i
    refine wp_len ?_
    rw [cellsT_len]
    refine wp_lss ?_
    refine wp_if (fun hq => ?_) (fun hq => ?_)
    · skip
      have hq1 := hq
      have hq1' := of_decide_eq_true hq1
      unfold f11_7
      refine wp_dreg hs (by unfold cap; omega) fun h1 hs1 => ?_
      refine wp_add (c := ((sizeT (l.take i) + 1 : Nat) : Int)) (by omega) (by omega) (by omega) ?_
      obtain ⟨e, he, hm⟩ := get_some (l := l) (i := i) (by omega)
      have hz1 := sizeT_take he
      have hz2 := sizeT_take_le l (i + 1)
      have hz3 := sizeT_mem hm
      have hse := e.size_eq
      refine wp_ix (cellsT_get he) ?_
      refine wp_fa_fp ?_
      refine wp_root_n rfl ?_
      refine wp_ld_fpo (e.c4) ?_
      refine wp_callD (hE e hm) (refs_cons (refs_sl _) refs_nil) (hs1.look 0) fun h2 hs2 => ?_
      refine wp_pn rfl ?_
      unfold f11_9
      refine wp_add (c := ((sizeT (l.take i) + 1 + sizeL e.e : Nat) : Int)) (by omega) (by omega) (by omega) ?_
      refine wp_ix (cellsT_get he) ?_
      refine wp_fa_fp ?_
      refine wp_root_n rfl ?_
      refine wp_ld_fpo (e.c5) ?_
      refine wp_callD (hT e hm _ _ (by simp)) (refs_cons (refs_sl _) refs_nil) (hs2.look 0) fun h3 hs3 => ?_
      refine wp_pn rfl ?_
      unfold f11_10
      refine wp_add (c := ((sizeT (l.take i) + 1 + sizeL e.e + sizeT e.a : Nat) : Int)) (by omega) (by omega) (by omega) ?_
      refine wp_ix (cellsT_get he) ?_
      refine wp_fa_fp ?_
      refine wp_root_n rfl ?_
      refine wp_ld_fpo (e.c6) ?_
      refine wp_callD (hT e hm _ _ (by simp)) (refs_cons (refs_sl _) refs_nil) (hs3.look 0) fun h4 hs4 => ?_
      refine wp_pn rfl ?_
      unfold f11_11
      refine wp_add (c := ((sizeT (l.take i) + 1 + sizeL e.e + sizeT e.a + sizeT e.b : Nat) : Int)) (by omega) (by omega) (by omega) ?_
      refine wp_ix (cellsT_get he) ?_
      refine wp_fa_fp ?_
      refine wp_root_n rfl ?_
      refine wp_ld_fpo (e.c7) ?_
      refine wp_callD (hT e hm _ _ (by simp)) (refs_cons (refs_sl _) refs_nil) (hs4.look 0) fun h5 hs5 => ?_
      refine wp_pn rfl ?_
      unfold f11_12
      refine wp_add (c := ((sizeT (l.take (i + 1)) : Nat) : Int)) (by omega) (by omega) (by omega) ?_
      refine wp_hb ?_
      have hs5_ := hs5.shut
      refine wp_add (c := ((i + 1 : Nat) : Int)) (by omega) (by omega) (by omega) ?_
      exact ih (i + 1) _ _ hs5_.nil (by omega) (by omega) (by omega)
    · skip
      have hq2 := hq
      have hq2' := of_decide_eq_false hq2
      obtain rfl : i = l.length := by omega
      rw [List.take_length]
      exact hk _
theorem rT_body {n : Nat} {l : List Stmt} {t : Tg} (hb : sizeT l ≤ 700) (hn : 10 * sizeT l + 5 ≤ n) (hE : ∀ e ∈ l, EvN Tryd.prog (cfg m1) n 26 [slA 8 e.te (cellsL e.e)] (.i .i64 ((sizeL e.e : Nat) : Int))) (hT : ∀ e ∈ l, ∀ (t : Tg) (x : List Stmt), (x = e.a ∨ x = e.b ∨ x = e.c) → EvN Tryd.prog (cfg m1) n 11 [slA 9 t (cellsT x)] (.i .i64 ((sizeT x : Nat) : Int))) : EvN Tryd.prog (cfg m1) (n + 1) 11 [slA 9 t (cellsT l)] (.i .i64 ((sizeT l : Nat) : Int)) := by
  have hlen := sizeT_len l
  refine evN_intro f11_good rfl (ownF_of rfl (refs_cons (refs_sl _) refs_nil)) fun k hk => ?_
  show f11 False (callF Tryd.prog False (cfg m1) n) n k (slA 9 t (cellsT l)) Heap.empty
  unfold f11
  have hs := HS.empty
  unfold f11_1
  unfold f11_2
  unfold f11_4
  exact rT_loop (by omega) hE hT (fun h => hk _ _ rfl) n 0 _ _ hs.nil (by omega) (by omega) (by omega)
theorem rT : ∀ (z n : Nat) (l : List Stmt) (t : Tg), sizeT l ≤ z → 10 * sizeT l + 20 ≤ n → sizeT l ≤ 700 → EvN Tryd.prog (cfg m1) n 11 [slA 9 t (cellsT l)] (.i .i64 ((sizeT l : Nat) : Int)) := by
  intro z
  induction z with
  | zero =>
    intro n l t hz hn hb
    obtain ⟨n, rfl⟩ : ∃ m, n = m + 1 := ⟨n - 1, by omega⟩
    have hlen := sizeT_len l
    refine rT_body hb (by omega) (fun e he => ?_) (fun e he => ?_) <;> (have := List.length_pos_of_mem he; omega)
  | succ z ih =>
    intro n l t hz hn hb
    obtain ⟨n, rfl⟩ : ∃ m, n = m + 2 := ⟨n - 2, by omega⟩
    refine rT_body hb (by omega) (fun e he => ?_) (fun e he t x hx => ?_)
    · have h1 := sizeT_mem he
      have h2 := e.size_eq
      exact rL (by omega) (by omega)
    · have h1 := sizeT_mem he
      have h2 := e.size_eq
      refine ih _ x t ?_ ?_ ?_ <;> (rcases hx with rfl | rfl | rfl <;> omega)
theorem eqP (k k' n n' : Int) (a a' b b' c c' : S) : eqA Tryd.prog 57 (.agg [.i .i64 k, .i .i32 n, a.av, b.av, c.av]) (.agg [.i .i64 k', .i .i32 n', a'.av, b'.av, c'.av]) = some (decide (k = k' ∧ n = n' ∧ a = a' ∧ b = b' ∧ c = c')) := by
  have h : eqA Tryd.prog 57 (.agg [.i .i64 k, .i .i32 n, a.av, b.av, c.av]) (.agg [.i .i64 k', .i .i32 n', a'.av, b'.av, c'.av]) = bi (ieq k k') (bi (ieq n n') (bi (bi (Nat.beq a.len a'.len) (Nat.beq a.val a'.val) false) (bi (bi (Nat.beq b.len b'.len) (Nat.beq b.val b'.val) false) (bi (bi (Nat.beq c.len c'.len) (Nat.beq c.val c'.val) false) (some true) (some false)) (some false)) (some false)) (some false)) (some false) := by kernel_rfl
  rw [h, ieq_d, ieq_d, seq_d, seq_d, seq_d, bi_dec (bi_dec (bi_dec (bi_dec (bi_dec rfl))))]
  simp only [Bool.decide_and, Bool.and_true]
theorem parts_ev {n : Nat} {e : Expr} : EvN Tryd.prog (cfg m1) (n + 1) 28 [e.av] (AV.agg [AV.i .i64 e.kind, AV.i .i32 e.num, e.text.av, e.name.av, e.type.av]) := by
  refine evN_intro f28_good rfl (ownF_of rfl (refs_cons (e.refs 8) refs_nil)) fun k hk => ?_
  show f28 False (callF Tryd.prog False (cfg m1) n) n k (e.av) Heap.empty
  unfold f28
  have hs := HS.empty
  refine wp_box (c := e.cells) hs (by decide) rfl rfl fun h1 hs1 => ?_
  refine wp_new hs1 (by decide) fun h2 hs2 => ?_
  refine wp_fa_p ?_
  refine wp_ld_p hs2 mem1 rfl (e.c0) ?_
  refine wp_fa_p ?_
  refine wp_ld_p hs2 mem1 rfl (e.c1) ?_
  refine wp_fa_p ?_
  refine wp_ld_p hs2 mem1 rfl (e.c2) ?_
  refine wp_fa_p ?_
  refine wp_ld_p hs2 mem1 rfl (e.c3) ?_
  refine wp_fa_p ?_
  refine wp_ld_p hs2 mem1 rfl (e.c4) ?_
  refine wp_lay rfl rfl rfl ?_
  refine wp_lay rfl rfl rfl ?_
  refine wp_lay rfl rfl rfl ?_
  refine wp_lay rfl rfl rfl ?_
  refine wp_lay rfl rfl rfl ?_
  refine wp_stN (cs := [AV.i .i64 e.kind, AV.i .i32 e.num, e.text.av, e.name.av, e.type.av]) hs2 mem0 rfl rfl rfl rfl rfl [(0, Blk.cells (llen e.cells) [e.cells])] (by intro p hp; simp only [List.mem_cons, List.not_mem_nil, or_false] at hp ⊢; rcases hp with rfl <;> simp) fun h3 hs3 => ?_
  refine wp_res1 (ldA_agg hs3 mem0 (by kernel_rfl) (by kernel_rfl) (by kernel_rfl) (by kernel_rfl)) ?_
  exact hk _ _ rfl
theorem eqE_loop {n : Nat} {k : PK} {l r : List Expr} {t t2 : Tg} (hl : sizeL l ≤ 700) (hlr : l.length = r.length) (hN : ∀ e ∈ l, ∀ f : Expr, EvN Tryd.prog (cfg m1) n 12 [e.av, f.av] (.b (e.same f)))
    (hk : ∀ h, k (.b (sameL l r)) h) :
    ∀ (m i : Nat) (h : Heap) (nx : Nat), HS h nx far [] → nx + 40 * l.length < 31000 + 40 * i → i ≤ l.length → l.length < m + i → (∀ (j : Nat) (e f : Expr), j < i → l[j]? = some e → r[j]? = some f → e.same f = true) →
      f29_5 False (callF Tryd.prog False (cfg m1) n) n k m (slA 8 t2 (cellsL r)) (AV.fn (.func 12) [] []) (slA 8 t (cellsL l)) (AV.i .i64 (l.length : Int)) (AV.i .i64 (i : Int)) h := by
  intro m
  induction m with
  | zero => intro i h nx hs b1 b2 b3; omega
  | succ m ih =>
    intro i h nx hs b1 b2 b3 b4
    have hlen := sizeL_len l
    refine wp_lss ?_
    refine wp_if (fun hq => ?_) (fun hq => ?_)
    · skip
      have hq1 := hq
      have hq1' := of_decide_eq_true hq1
      obtain ⟨e, he, hm⟩ := get_some (l := l) (i := i) (by omega)
      obtain ⟨f, hf, hm2⟩ := get_some (l := r) (i := i) (by omega)
      have hz3 := sizeL_mem hm
      refine wp_ix (cellsL_get he) ?_
      refine wp_ldN_fp (e.chas) ?_
      refine wp_var (cs := e.cells) hs (by unfold cap; omega) rfl (e.clen) rfl (e.cones) fun h1 hs1 => ?_
      refine wp_ix (cellsL_get hf) ?_
      refine wp_ldN_fp (f.chas) ?_
      refine wp_var (cs := f.cells) hs1 (by unfold cap; omega) rfl (f.clen) rfl (f.cones) fun h2 hs2 => ?_
      refine wp_ldN_p hs2 mem1 rfl (e.chas) ?_
      refine wp_ldN_p hs2 mem0 rfl (f.chas) ?_
      refine wp_cf (hN e hm f) ?_
      refine wp_pk rfl ?_
      refine wp_not ?_
      refine wp_if (fun hq => ?_) (fun hq => ?_)
      · skip
        have hq2 := hq
        have hfin : false = sameL l r := by rw [sameL_eq]; exact allS_false he hf (by simpa using hq2)
        rw [hfin]; exact hk _
      · skip
        have hq3 := hq
        refine wp_add (c := ((i + 1 : Nat) : Int)) (by omega) (by omega) (by omega) ?_
        refine ih (i + 1) _ _ hs2.nil (by omega) (by omega) (by omega) (fun j x y hj hx hy => ?_)
        by_cases hji : j = i
        · subst hji; rw [he] at hx; rw [hf] at hy; injection hx with hx; injection hy with hy; subst hx hy; simpa using hq3
        · exact b4 j x y (by omega) hx hy
    · skip
      have hq4 := hq
      have hq4' := of_decide_eq_false hq4
      have hfin : true = sameL l r := by rw [sameL_eq]; exact allS_true hlr fun j x y hj hx hy => b4 j x y (by omega) hx hy
      rw [hfin]; exact hk _
theorem eqE {n : Nat} {l r : List Expr} {t t2 : Tg} (hl : sizeL l ≤ 700) (hn : 10 * sizeL l + 5 ≤ n) (hN : ∀ e ∈ l, ∀ f : Expr, EvN Tryd.prog (cfg m1) n 12 [e.av, f.av] (.b (e.same f))) : EvN Tryd.prog (cfg m1) (n + 1) 29 [slA 8 t (cellsL l), slA 8 t2 (cellsL r), AV.fn (.func 12) [] []] (.b (sameL l r)) := by
  have hlen := sizeL_len l
  refine evN_intro f29_good rfl (ownF_of rfl (refs_cons (refs_sl _) (refs_cons (refs_sl _) (refs_cons rfl refs_nil)))) fun k hk => ?_
  show f29 False (callF Tryd.prog False (cfg m1) n) n k (slA 8 t (cellsL l)) (slA 8 t2 (cellsL r)) (AV.fn (.func 12) [] []) Heap.empty
  unfold f29
  have hs := HS.empty
  unfold f29_1
  refine wp_len ?_
  rw [cellsL_len]
  refine wp_len ?_
  rw [cellsL_len]
  refine wp_nei ?_
  refine wp_if (fun hq => ?_) (fun hq => ?_)
  · skip
    have hq1 := hq
    have hq1' := of_decide_eq_true hq1
    exact hk _ _ (congrArg (fun q => some (AV.b q)) (by rw [sameL_eq]; exact allS_len (by intro h; simp [h] at hq1)))
  · skip
    have hq2 := hq
    have hq2' := of_decide_eq_false hq2
    unfold f29_2
    refine wp_len ?_
    rw [cellsL_len]
    unfold f29_4
    exact eqE_loop (by omega) (by omega) hN (fun h => hk _ _ rfl) n 0 _ _ hs.nil (by omega) (by omega) (by omega) (fun j x y hj => by omega)
theorem sE_body {n : Nat} {e f : Expr} (hP : ∀ x : Expr, EvN Tryd.prog (cfg m1) n 28 [x.av] (AV.agg [AV.i .i64 x.kind, AV.i .i32 x.num, x.text.av, x.name.av, x.type.av])) (hL : EvN Tryd.prog (cfg m1) n 29 [slA 8 e.tl (cellsL e.l), slA 8 f.tl (cellsL f.l), AV.fn (.func 12) [] []] (.b (sameL e.l f.l))) : EvN Tryd.prog (cfg m1) (n + 1) 12 [e.av, f.av] (.b (e.same f)) := by
  refine evN_intro f12_good rfl (ownF_of rfl (refs_cons (e.refs 8) (refs_cons (f.refs 8) refs_nil))) fun k hk => ?_
  show f12 False (callF Tryd.prog False (cfg m1) n) n k (e.av) (f.av) Heap.empty
  unfold f12
  have hs := HS.empty
  refine wp_box (c := e.cells) hs (by decide) rfl rfl fun h1 hs1 => ?_
  refine wp_box (c := f.cells) hs1 (by decide) rfl rfl fun h2 hs2 => ?_
  unfold f12_1
  refine wp_dreg hs2 (by decide) fun h3 hs3 => ?_
  refine wp_ldN_p (hs3.look 0) mem1 rfl (e.chas) ?_
  refine wp_callD (hP e) (refs_cons (e.refs 8) refs_nil) (hs3.look 0) fun h4 hs4 => ?_
  refine wp_pn rfl ?_
  refine wp_ldN_p (hs4.look 0) mem0 rfl (f.chas) ?_
  refine wp_callD (hP f) (refs_cons (f.refs 8) refs_nil) (hs4.look 0) fun h5 hs5 => ?_
  refine wp_pn rfl ?_
  refine wp_eqAgg (eqP ..) ?_
  refine wp_bk_t (fun hq => ?_) (fun hq => ?_)
  · skip
    have hq1 := hq
    have hq1' := of_decide_eq_true hq1
    refine wp_fa_p ?_
    unfold f12_3
    have hs5' := hs5.look 0
    refine wp_root_pp ?_
    refine wp_bk_t (fun _ => ?_) (fun e => by rw [hq1] at e; cases e)
    refine wp_ld_p (hs5'.look 127) mem1 rfl (e.c5) ?_
    unfold f12_4
    have hs5'' := hs5'.look 0
    refine wp_bk_t (fun _ => ?_) (fun e => by rw [hq1] at e; cases e)
    refine wp_fa_p ?_
    unfold f12_5
    have hs5''' := hs5''.look 0
    refine wp_root_pp ?_
    refine wp_bk_t (fun _ => ?_) (fun e => by rw [hq1] at e; cases e)
    refine wp_ld_p (hs5'''.look 319) mem0 rfl (f.c5) ?_
    unfold f12_6
    have hs5'''' := hs5'''.look 0
    refine wp_bk_t (fun _ => ?_) (fun e => by rw [hq1] at e; cases e)
    refine wp_callD (hL) (refs_cons (refs_sl _) (refs_cons (refs_sl _) (refs_cons rfl refs_nil))) hs5'''' fun h6 hs6 => ?_
    refine wp_pn rfl ?_
    unfold f12_7
    refine wp_pick (fun _ => ?_) (fun e => by rw [hq1] at e; cases e)
    refine wp_hb ?_
    have hs6_ := hs6.shut
    exact hk _ _ (congrArg (fun q => some (AV.b q)) (by first | (rw [Expr.same_eq, hq1]; rfl) | (rw [Expr.same_eq]; simp [S.eq_iff, hq1'])))
  · skip
    have hq2 := hq
    have hq2' := of_decide_eq_false hq2
    unfold f12_3
    have hs5' := hs5.look 0
    refine wp_root_n rfl ?_
    refine wp_bk_t (fun e => by rw [hq2] at e; cases e) (fun _ => ?_)
    unfold f12_4
    have hs5'' := hs5'.look 0
    refine wp_bk_t (fun e => by rw [hq2] at e; cases e) (fun _ => ?_)
    unfold f12_5
    have hs5''' := hs5''.look 0
    refine wp_root_n rfl ?_
    refine wp_bk_t (fun e => by rw [hq2] at e; cases e) (fun _ => ?_)
    unfold f12_6
    have hs5'''' := hs5'''.look 0
    refine wp_bk_t (fun e => by rw [hq2] at e; cases e) (fun _ => ?_)
    unfold f12_7
    refine wp_pick (fun e => by rw [hq2] at e; cases e) (fun _ => ?_)
    refine wp_hb ?_
    have hs5''''_ := hs5''''.shut
    exact hk _ _ (congrArg (fun q => some (AV.b q)) (by first | (rw [Expr.same_eq, hq2]; rfl) | (rw [Expr.same_eq]; simp [S.eq_iff, hq2'])))
theorem sE : ∀ (e f : Expr) (n : Nat), 10 * e.size + 20 ≤ n → e.size ≤ 700 → EvN Tryd.prog (cfg m1) n 12 [e.av, f.av] (.b (e.same f)) := by
  refine Expr.ind fun e ih f n hn hb => ?_
  obtain ⟨n, rfl⟩ : ∃ m, n = m + 2 := ⟨n - 2, by omega⟩
  have hsz := e.size_eq
  exact sE_body (fun x => parts_ev) (eqE (by omega) (by omega) fun c hc f => ih c hc f n (by have := sizeL_mem hc; omega) (by have := sizeL_mem hc; omega))
theorem sL {l r : List Expr} {t t2 : Tg} {n : Nat} (hn : 10 * sizeL l + 25 ≤ n) (hb : sizeL l ≤ 700) : EvN Tryd.prog (cfg m1) (n + 1) 29 [slA 8 t (cellsL l), slA 8 t2 (cellsL r), AV.fn (.func 12) [] []] (.b (sameL l r)) :=
  eqE hb (by omega) fun c hc f => sE c f n (by have := sizeL_mem hc; omega) (by have := sizeL_mem hc; omega)
theorem rqE_loop {n : Nat} {k : PK} {l r : List Expr} {t t2 : Tg} (hl : sizeL l ≤ 700) (hlr : l.length = r.length) (hN : ∀ e ∈ l, ∀ f : Expr, EvN Tryd.prog (cfg m1) n 13 [e.av, f.av] (.b (e.same f)))
    (hk : ∀ h, k (.b (sameL l r)) h) :
    ∀ (m i : Nat) (h : Heap) (nx : Nat), HS h nx far [] → nx + 40 * l.length < 31000 + 40 * i → i ≤ l.length → l.length < m + i → (∀ (j : Nat) (e f : Expr), j < i → l[j]? = some e → r[j]? = some f → e.same f = true) →
      f30_5 False (callF Tryd.prog False (cfg m1) n) n k m (slA 8 t (cellsL l)) (slA 8 t2 (cellsL r)) (AV.i .i64 (i : Int)) h := by
  intro m
  induction m with
  | zero => intro i h nx hs b1 b2 b3; omega
  | succ m ih =>
    intro i h nx hs b1 b2 b3 b4
    have hlen := sizeL_len l
    refine wp_len ?_
    rw [cellsL_len]
    refine wp_lss ?_
    refine wp_if (fun hq => ?_) (fun hq => ?_)
    · skip
      have hq1 := hq
      have hq1' := of_decide_eq_true hq1
      refine wp_dreg hs (by unfold cap; omega) fun h1 hs1 => ?_
      obtain ⟨e, he, hm⟩ := get_some (l := l) (i := i) (by omega)
      obtain ⟨f, hf, hm2⟩ := get_some (l := r) (i := i) (by omega)
      have hz3 := sizeL_mem hm
      refine wp_ix (cellsL_get he) ?_
      refine wp_root_n rfl ?_
      refine wp_ldN_fp (e.chas) ?_
      refine wp_ix (cellsL_get hf) ?_
      refine wp_root_n rfl ?_
      refine wp_ldN_fp (f.chas) ?_
      refine wp_callD (hN e hm f) (refs_cons (e.refs 8) (refs_cons (f.refs 8) refs_nil)) (hs1.look 0) fun h2 hs2 => ?_
      refine wp_pn rfl ?_
      refine wp_not ?_
      refine wp_hb ?_
      have hs2_ := hs2.shut
      refine wp_if (fun hq => ?_) (fun hq => ?_)
      · skip
        have hq2 := hq
        have hfin : false = sameL l r := by rw [sameL_eq]; exact allS_false he hf (by simpa using hq2)
        rw [hfin]; exact hk _
      · skip
        have hq3 := hq
        refine wp_add (c := ((i + 1 : Nat) : Int)) (by omega) (by omega) (by omega) ?_
        refine ih (i + 1) _ _ hs2_.nil (by omega) (by omega) (by omega) (fun j x y hj hx hy => ?_)
        by_cases hji : j = i
        · subst hji; rw [he] at hx; rw [hf] at hy; injection hx with hx; injection hy with hy; subst hx hy; simpa using hq3
        · exact b4 j x y (by omega) hx hy
    · skip
      have hq4 := hq
      have hq4' := of_decide_eq_false hq4
      have hfin : true = sameL l r := by rw [sameL_eq]; exact allS_true hlr fun j x y hj hx hy => b4 j x y (by omega) hx hy
      rw [hfin]; exact hk _
theorem rqE {n : Nat} {l r : List Expr} {t t2 : Tg} (hl : sizeL l ≤ 700) (hn : 10 * sizeL l + 5 ≤ n) (hN : ∀ e ∈ l, ∀ f : Expr, EvN Tryd.prog (cfg m1) n 13 [e.av, f.av] (.b (e.same f))) : EvN Tryd.prog (cfg m1) (n + 1) 30 [slA 8 t (cellsL l), slA 8 t2 (cellsL r)] (.b (sameL l r)) := by
  have hlen := sizeL_len l
  refine evN_intro f30_good rfl (ownF_of rfl (refs_cons (refs_sl _) (refs_cons (refs_sl _) refs_nil))) fun k hk => ?_
  show f30 False (callF Tryd.prog False (cfg m1) n) n k (slA 8 t (cellsL l)) (slA 8 t2 (cellsL r)) Heap.empty
  unfold f30
  have hs := HS.empty
  unfold f30_1
  refine wp_len ?_
  rw [cellsL_len]
  refine wp_len ?_
  rw [cellsL_len]
  refine wp_nei ?_
  refine wp_if (fun hq => ?_) (fun hq => ?_)
  · skip
    have hq1 := hq
    have hq1' := of_decide_eq_true hq1
    exact hk _ _ (congrArg (fun q => some (AV.b q)) (by rw [sameL_eq]; exact allS_len (by intro h; simp [h] at hq1)))
  · skip
    have hq2 := hq
    have hq2' := of_decide_eq_false hq2
    unfold f30_2
    unfold f30_4
    exact rqE_loop (by omega) (by omega) hN (fun h => hk _ _ rfl) n 0 _ _ hs.nil (by omega) (by omega) (by omega) (fun j x y hj => by omega)
theorem rsE_body {n : Nat} {e f : Expr} (hL : EvN Tryd.prog (cfg m1) n 30 [slA 8 e.tl (cellsL e.l), slA 8 f.tl (cellsL f.l)] (.b (sameL e.l f.l))) : EvN Tryd.prog (cfg m1) (n + 1) 13 [e.av, f.av] (.b (e.same f)) := by
  refine evN_intro f13_good rfl (ownF_of rfl (refs_cons (e.refs 8) (refs_cons (f.refs 8) refs_nil))) fun k hk => ?_
  show f13 False (callF Tryd.prog False (cfg m1) n) n k (e.av) (f.av) Heap.empty
  unfold f13
  have hs := HS.empty
  refine wp_box (c := e.cells) hs (by decide) rfl rfl fun h1 hs1 => ?_
  refine wp_box (c := f.cells) hs1 (by decide) rfl rfl fun h2 hs2 => ?_
  unfold f13_1
  refine wp_fa_p ?_
  refine wp_ld_p hs2 mem1 rfl (e.c0) ?_
  refine wp_fa_p ?_
  refine wp_ld_p hs2 mem0 rfl (f.c0) ?_
  refine wp_eqi ?_
  refine wp_bk_t (fun hq => ?_) (fun hq => ?_)
  · skip
    have hq1 := hq
    have hq1' := of_decide_eq_true hq1
    refine wp_fa_p ?_
    refine wp_ld_p hs2 mem1 rfl (e.c1) ?_
    refine wp_fa_p ?_
    refine wp_ld_p hs2 mem0 rfl (f.c1) ?_
    refine wp_eqi32 ?_
    unfold f13_3
    refine wp_pick (fun _ => ?_) (fun e => by rw [hq1] at e; cases e)
    refine wp_bk_t (fun hq => ?_) (fun hq => ?_)
    · skip
      have hq2 := hq
      have hq2' := of_decide_eq_true hq2
      refine wp_fa_p ?_
      refine wp_ld_p hs2 mem1 rfl (e.c2) ?_
      refine wp_fa_p ?_
      refine wp_ld_p hs2 mem0 rfl (f.c2) ?_
      refine wp_eqs ?_
      unfold f13_4
      refine wp_pick (fun _ => ?_) (fun e => by rw [hq2] at e; cases e)
      refine wp_bk_t (fun hq => ?_) (fun hq => ?_)
      · skip
        have hq3 := hq
        have hq3' := of_decide_eq_true hq3
        refine wp_fa_p ?_
        refine wp_ld_p hs2 mem1 rfl (e.c3) ?_
        refine wp_fa_p ?_
        refine wp_ld_p hs2 mem0 rfl (f.c3) ?_
        refine wp_eqs ?_
        unfold f13_5
        refine wp_pick (fun _ => ?_) (fun e => by rw [hq3] at e; cases e)
        refine wp_bk_t (fun hq => ?_) (fun hq => ?_)
        · skip
          have hq4 := hq
          have hq4' := of_decide_eq_true hq4
          refine wp_fa_p ?_
          refine wp_ld_p hs2 mem1 rfl (e.c4) ?_
          refine wp_fa_p ?_
          refine wp_ld_p hs2 mem0 rfl (f.c4) ?_
          refine wp_eqs ?_
          unfold f13_6
          refine wp_pick (fun _ => ?_) (fun e => by rw [hq4] at e; cases e)
          refine wp_bk_t (fun hq => ?_) (fun hq => ?_)
          · skip
            have hq5 := hq
            have hq5' := of_decide_eq_true hq5
            refine wp_fa_p ?_
            refine wp_ld_p hs2 mem1 rfl (e.c5) ?_
            refine wp_fa_p ?_
            refine wp_ld_p hs2 mem0 rfl (f.c5) ?_
            refine wp_call (hL) ?_
            refine wp_pk rfl ?_
            refine wp_pick (fun _ => ?_) (fun e => by rw [hq5] at e; cases e)
            exact hk _ _ (congrArg (fun q => some (AV.b q)) (by first | (rw [Expr.same_eq, hq5]; rfl) | (rw [Expr.same_eq]; simp [S.eq_iff, hq1', hq2', hq3', hq4', hq5'])))
          · skip
            have hq6 := hq
            have hq6' := of_decide_eq_false hq6
            refine wp_pick (fun e => by rw [hq6] at e; cases e) (fun _ => ?_)
            exact hk _ _ (congrArg (fun q => some (AV.b q)) (by first | (rw [Expr.same_eq, hq6]; rfl) | (rw [Expr.same_eq]; simp [S.eq_iff, hq1', hq2', hq3', hq4', hq6'])))
        · skip
          have hq7 := hq
          have hq7' := of_decide_eq_false hq7
          unfold f13_6
          refine wp_pick (fun e => by rw [hq7] at e; cases e) (fun _ => ?_)
          refine wp_bk_t (fun e => by cases e) (fun _ => ?_)
          refine wp_pick (fun e => by cases e) (fun _ => ?_)
          exact hk _ _ (congrArg (fun q => some (AV.b q)) (by first | (rw [Expr.same_eq, hq7]; rfl) | (rw [Expr.same_eq]; simp [S.eq_iff, hq1', hq2', hq3', hq7'])))
      · skip
        have hq8 := hq
        have hq8' := of_decide_eq_false hq8
        unfold f13_5
        refine wp_pick (fun e => by rw [hq8] at e; cases e) (fun _ => ?_)
        refine wp_bk_t (fun e => by cases e) (fun _ => ?_)
        unfold f13_6
        refine wp_pick (fun e => by cases e) (fun _ => ?_)
        refine wp_bk_t (fun e => by cases e) (fun _ => ?_)
        refine wp_pick (fun e => by cases e) (fun _ => ?_)
        exact hk _ _ (congrArg (fun q => some (AV.b q)) (by first | (rw [Expr.same_eq, hq8]; rfl) | (rw [Expr.same_eq]; simp [S.eq_iff, hq1', hq2', hq8'])))
    · skip
      have hq9 := hq
      have hq9' := of_decide_eq_false hq9
      unfold f13_4
      refine wp_pick (fun e => by rw [hq9] at e; cases e) (fun _ => ?_)
      refine wp_bk_t (fun e => by cases e) (fun _ => ?_)
      unfold f13_5
      refine wp_pick (fun e => by cases e) (fun _ => ?_)
      refine wp_bk_t (fun e => by cases e) (fun _ => ?_)
      unfold f13_6
      refine wp_pick (fun e => by cases e) (fun _ => ?_)
      refine wp_bk_t (fun e => by cases e) (fun _ => ?_)
      refine wp_pick (fun e => by cases e) (fun _ => ?_)
      exact hk _ _ (congrArg (fun q => some (AV.b q)) (by first | (rw [Expr.same_eq, hq9]; rfl) | (rw [Expr.same_eq]; simp [S.eq_iff, hq1', hq9'])))
  · skip
    have hq10 := hq
    have hq10' := of_decide_eq_false hq10
    unfold f13_3
    refine wp_pick (fun e => by rw [hq10] at e; cases e) (fun _ => ?_)
    refine wp_bk_t (fun e => by cases e) (fun _ => ?_)
    unfold f13_4
    refine wp_pick (fun e => by cases e) (fun _ => ?_)
    refine wp_bk_t (fun e => by cases e) (fun _ => ?_)
    unfold f13_5
    refine wp_pick (fun e => by cases e) (fun _ => ?_)
    refine wp_bk_t (fun e => by cases e) (fun _ => ?_)
    unfold f13_6
    refine wp_pick (fun e => by cases e) (fun _ => ?_)
    refine wp_bk_t (fun e => by cases e) (fun _ => ?_)
    refine wp_pick (fun e => by cases e) (fun _ => ?_)
    exact hk _ _ (congrArg (fun q => some (AV.b q)) (by first | (rw [Expr.same_eq, hq10]; rfl) | (rw [Expr.same_eq]; simp [S.eq_iff, hq10'])))
theorem rsE : ∀ (e f : Expr) (n : Nat), 10 * e.size + 20 ≤ n → e.size ≤ 700 → EvN Tryd.prog (cfg m1) n 13 [e.av, f.av] (.b (e.same f)) := by
  refine Expr.ind fun e ih f n hn hb => ?_
  obtain ⟨n, rfl⟩ : ∃ m, n = m + 2 := ⟨n - 2, by omega⟩
  have hsz := e.size_eq
  exact rsE_body (rqE (by omega) (by omega) fun c hc f => ih c hc f n (by have := sizeL_mem hc; omega) (by have := sizeL_mem hc; omega))
theorem rsL {l r : List Expr} {t t2 : Tg} {n : Nat} (hn : 10 * sizeL l + 25 ≤ n) (hb : sizeL l ≤ 700) : EvN Tryd.prog (cfg m1) (n + 1) 30 [slA 8 t (cellsL l), slA 8 t2 (cellsL r)] (.b (sameL l r)) :=
  rqE hb (by omega) fun c hc f => rsE c f n (by have := sizeL_mem hc; omega) (by have := sizeL_mem hc; omega)
theorem eqT_loop {n : Nat} {k : PK} {l r : List Stmt} {t t2 : Tg} (hl : sizeT l ≤ 700) (hlr : l.length = r.length) (hN : ∀ e ∈ l, ∀ f : Stmt, EvN Tryd.prog (cfg m1) n 32 [e.av, f.av] (.b (e.same f)))
    (hk : ∀ h, k (.b (sameT l r)) h) :
    ∀ (m i : Nat) (h : Heap) (nx : Nat), HS h nx far [] → nx + 40 * l.length < 31000 + 40 * i → i ≤ l.length → l.length < m + i → (∀ (j : Nat) (e f : Stmt), j < i → l[j]? = some e → r[j]? = some f → e.same f = true) →
      f31_5 False (callF Tryd.prog False (cfg m1) n) n k m (slA 9 t2 (cellsT r)) (AV.fn (.func 32) [] []) (slA 9 t (cellsT l)) (AV.i .i64 (l.length : Int)) (AV.i .i64 (i : Int)) h := by
  intro m
  induction m with
  | zero => intro i h nx hs b1 b2 b3; omega
  | succ m ih =>
    intro i h nx hs b1 b2 b3 b4
    have hlen := sizeT_len l
    refine wp_lss ?_
    refine wp_if (fun hq => ?_) (fun hq => ?_)
    · skip
      have hq1 := hq
      have hq1' := of_decide_eq_true hq1
      obtain ⟨e, he, hm⟩ := get_some (l := l) (i := i) (by omega)
      obtain ⟨f, hf, hm2⟩ := get_some (l := r) (i := i) (by omega)
      have hz3 := sizeT_mem hm
      refine wp_ix (cellsT_get he) ?_
      refine wp_ldN_fp (e.chas) ?_
      refine wp_var (cs := e.cells) hs (by unfold cap; omega) rfl (e.clen) rfl (e.cones) fun h1 hs1 => ?_
      refine wp_ix (cellsT_get hf) ?_
      refine wp_ldN_fp (f.chas) ?_
      refine wp_var (cs := f.cells) hs1 (by unfold cap; omega) rfl (f.clen) rfl (f.cones) fun h2 hs2 => ?_
      refine wp_ldN_p hs2 mem1 rfl (e.chas) ?_
      refine wp_ldN_p hs2 mem0 rfl (f.chas) ?_
      refine wp_cf (hN e hm f) ?_
      refine wp_pk rfl ?_
      refine wp_not ?_
      refine wp_if (fun hq => ?_) (fun hq => ?_)
      · skip
        have hq2 := hq
        have hfin : false = sameT l r := by rw [sameT_eq]; exact allS_false he hf (by simpa using hq2)
        rw [hfin]; exact hk _
      · skip
        have hq3 := hq
        refine wp_add (c := ((i + 1 : Nat) : Int)) (by omega) (by omega) (by omega) ?_
        refine ih (i + 1) _ _ hs2.nil (by omega) (by omega) (by omega) (fun j x y hj hx hy => ?_)
        by_cases hji : j = i
        · subst hji; rw [he] at hx; rw [hf] at hy; injection hx with hx; injection hy with hy; subst hx hy; simpa using hq3
        · exact b4 j x y (by omega) hx hy
    · skip
      have hq4 := hq
      have hq4' := of_decide_eq_false hq4
      have hfin : true = sameT l r := by rw [sameT_eq]; exact allS_true hlr fun j x y hj hx hy => b4 j x y (by omega) hx hy
      rw [hfin]; exact hk _
theorem eqT {n : Nat} {l r : List Stmt} {t t2 : Tg} (hl : sizeT l ≤ 700) (hn : 10 * sizeT l + 5 ≤ n) (hN : ∀ e ∈ l, ∀ f : Stmt, EvN Tryd.prog (cfg m1) n 32 [e.av, f.av] (.b (e.same f))) : EvN Tryd.prog (cfg m1) (n + 1) 31 [slA 9 t (cellsT l), slA 9 t2 (cellsT r), AV.fn (.func 32) [] []] (.b (sameT l r)) := by
  have hlen := sizeT_len l
  refine evN_intro f31_good rfl (ownF_of rfl (refs_cons (refs_sl _) (refs_cons (refs_sl _) (refs_cons rfl refs_nil)))) fun k hk => ?_
  show f31 False (callF Tryd.prog False (cfg m1) n) n k (slA 9 t (cellsT l)) (slA 9 t2 (cellsT r)) (AV.fn (.func 32) [] []) Heap.empty
  unfold f31
  have hs := HS.empty
  unfold f31_1
  refine wp_len ?_
  rw [cellsT_len]
  refine wp_len ?_
  rw [cellsT_len]
  refine wp_nei ?_
  refine wp_if (fun hq => ?_) (fun hq => ?_)
  · skip
    have hq1 := hq
    have hq1' := of_decide_eq_true hq1
    exact hk _ _ (congrArg (fun q => some (AV.b q)) (by rw [sameT_eq]; exact allS_len (by intro h; simp [h] at hq1)))
  · skip
    have hq2 := hq
    have hq2' := of_decide_eq_false hq2
    unfold f31_2
    refine wp_len ?_
    rw [cellsT_len]
    unfold f31_4
    exact eqT_loop (by omega) (by omega) hN (fun h => hk _ _ rfl) n 0 _ _ hs.nil (by omega) (by omega) (by omega) (fun j x y hj => by omega)
theorem sT_body {n : Nat} {l r : List Stmt} {t t2 : Tg} (hQ : EvN Tryd.prog (cfg m1) n 31 [slA 9 t (cellsT l), slA 9 t2 (cellsT r), AV.fn (.func 32) [] []] (.b (sameT l r))) : EvN Tryd.prog (cfg m1) (n + 1) 14 [slA 9 t (cellsT l), slA 9 t2 (cellsT r)] (.b (sameT l r)) := by
  refine evN_intro f14_good rfl (ownF_of rfl (refs_cons (refs_sl _) (refs_cons (refs_sl _) refs_nil))) fun k hk => ?_
  show f14 False (callF Tryd.prog False (cfg m1) n) n k (slA 9 t (cellsT l)) (slA 9 t2 (cellsT r)) Heap.empty
  unfold f14
  have hs := HS.empty
  refine wp_call (hQ) ?_
  refine wp_pk rfl ?_
  exact hk _ _ rfl
theorem ss_body {n : Nat} {e f : Stmt} (hE : EvN Tryd.prog (cfg m1) n 29 [slA 8 e.te (cellsL e.e), slA 8 f.te (cellsL f.e), AV.fn (.func 12) [] []] (.b (sameL e.e f.e))) (hT : ∀ (t t2 : Tg) (x y : List Stmt), (x = e.a ∨ x = e.b ∨ x = e.c) → EvN Tryd.prog (cfg m1) n 14 [slA 9 t (cellsT x), slA 9 t2 (cellsT y)] (.b (sameT x y))) : EvN Tryd.prog (cfg m1) (n + 1) 32 [e.av, f.av] (.b (e.same f)) := by
  refine evN_intro f32_good rfl (ownF_of rfl (refs_cons (e.refs 8) (refs_cons (f.refs 8) refs_nil))) fun k hk => ?_
  show f32 False (callF Tryd.prog False (cfg m1) n) n k (e.av) (f.av) Heap.empty
  unfold f32
  have hs := HS.empty
  refine wp_box (c := e.cells) hs (by decide) rfl rfl fun h1 hs1 => ?_
  refine wp_box (c := f.cells) hs1 (by decide) rfl rfl fun h2 hs2 => ?_
  unfold f32_1
  refine wp_fa_p ?_
  refine wp_ld_p hs2 mem1 rfl (e.c0) ?_
  refine wp_fa_p ?_
  refine wp_ld_p hs2 mem0 rfl (f.c0) ?_
  refine wp_eqi ?_
  refine wp_bk_t (fun hq => ?_) (fun hq => ?_)
  · skip
    have hq1 := hq
    have hq1' := of_decide_eq_true hq1
    refine wp_fa_p ?_
    refine wp_ld_p hs2 mem1 rfl (e.c1) ?_
    refine wp_fa_p ?_
    refine wp_ld_p hs2 mem0 rfl (f.c1) ?_
    refine wp_eqi32 ?_
    unfold f32_3
    refine wp_pick (fun _ => ?_) (fun e => by rw [hq1] at e; cases e)
    refine wp_bk_t (fun hq => ?_) (fun hq => ?_)
    · skip
      have hq2 := hq
      have hq2' := of_decide_eq_true hq2
      refine wp_fa_p ?_
      refine wp_ld_p hs2 mem1 rfl (e.c2) ?_
      refine wp_fa_p ?_
      refine wp_ld_p hs2 mem0 rfl (f.c2) ?_
      refine wp_eqs ?_
      unfold f32_4
      refine wp_pick (fun _ => ?_) (fun e => by rw [hq2] at e; cases e)
      refine wp_bk_t (fun hq => ?_) (fun hq => ?_)
      · skip
        have hq3 := hq
        have hq3' := of_decide_eq_true hq3
        refine wp_fa_p ?_
        refine wp_ld_p hs2 mem1 rfl (e.c3) ?_
        refine wp_fa_p ?_
        refine wp_ld_p hs2 mem0 rfl (f.c3) ?_
        refine wp_eqs ?_
        unfold f32_5
        refine wp_pick (fun _ => ?_) (fun e => by rw [hq3] at e; cases e)
        refine wp_bk_t (fun hq => ?_) (fun hq => ?_)
        · skip
          have hq4 := hq
          have hq4' := of_decide_eq_true hq4
          refine wp_fa_p ?_
          refine wp_ld_p hs2 mem1 rfl (e.c4) ?_
          refine wp_fa_p ?_
          refine wp_ld_p hs2 mem0 rfl (f.c4) ?_
          refine wp_call (hE) ?_
          refine wp_pk rfl ?_
          unfold f32_6
          refine wp_pick (fun _ => ?_) (fun e => by rw [hq4] at e; cases e)
          refine wp_bk_t (fun hq => ?_) (fun hq => ?_)
          · skip
            have hq5 := hq
            refine wp_fa_p ?_
            refine wp_ld_p hs2 mem1 rfl (e.c5) ?_
            refine wp_fa_p ?_
            refine wp_ld_p hs2 mem0 rfl (f.c5) ?_
            refine wp_call (hT _ _ _ _ (by simp)) ?_
            refine wp_pk rfl ?_
            unfold f32_7
            refine wp_pick (fun _ => ?_) (fun e => by rw [hq5] at e; cases e)
            refine wp_bk_t (fun hq => ?_) (fun hq => ?_)
            · skip
              have hq6 := hq
              refine wp_fa_p ?_
              refine wp_ld_p hs2 mem1 rfl (e.c6) ?_
              refine wp_fa_p ?_
              refine wp_ld_p hs2 mem0 rfl (f.c6) ?_
              refine wp_call (hT _ _ _ _ (by simp)) ?_
              refine wp_pk rfl ?_
              unfold f32_8
              refine wp_pick (fun _ => ?_) (fun e => by rw [hq6] at e; cases e)
              refine wp_bk_t (fun hq => ?_) (fun hq => ?_)
              · skip
                have hq7 := hq
                refine wp_fa_p ?_
                refine wp_ld_p hs2 mem1 rfl (e.c7) ?_
                refine wp_fa_p ?_
                refine wp_ld_p hs2 mem0 rfl (f.c7) ?_
                refine wp_call (hT _ _ _ _ (by simp)) ?_
                refine wp_pk rfl ?_
                refine wp_pick (fun _ => ?_) (fun e => by rw [hq7] at e; cases e)
                exact hk _ _ (congrArg (fun q => some (AV.b q)) (by first | (rw [Stmt.same_eq, hq7]; rfl) | (rw [Stmt.same_eq]; simp [S.eq_iff, hq1', hq2', hq3', hq4', hq5, hq6, hq7])))
              · skip
                have hq8 := hq
                refine wp_pick (fun e => by rw [hq8] at e; cases e) (fun _ => ?_)
                exact hk _ _ (congrArg (fun q => some (AV.b q)) (by first | (rw [Stmt.same_eq, hq8]; rfl) | (rw [Stmt.same_eq]; simp [S.eq_iff, hq1', hq2', hq3', hq4', hq5, hq6, hq8])))
            · skip
              have hq9 := hq
              unfold f32_8
              refine wp_pick (fun e => by rw [hq9] at e; cases e) (fun _ => ?_)
              refine wp_bk_t (fun e => by cases e) (fun _ => ?_)
              refine wp_pick (fun e => by cases e) (fun _ => ?_)
              exact hk _ _ (congrArg (fun q => some (AV.b q)) (by first | (rw [Stmt.same_eq, hq9]; rfl) | (rw [Stmt.same_eq]; simp [S.eq_iff, hq1', hq2', hq3', hq4', hq5, hq9])))
          · skip
            have hq10 := hq
            unfold f32_7
            refine wp_pick (fun e => by rw [hq10] at e; cases e) (fun _ => ?_)
            refine wp_bk_t (fun e => by cases e) (fun _ => ?_)
            unfold f32_8
            refine wp_pick (fun e => by cases e) (fun _ => ?_)
            refine wp_bk_t (fun e => by cases e) (fun _ => ?_)
            refine wp_pick (fun e => by cases e) (fun _ => ?_)
            exact hk _ _ (congrArg (fun q => some (AV.b q)) (by first | (rw [Stmt.same_eq, hq10]; rfl) | (rw [Stmt.same_eq]; simp [S.eq_iff, hq1', hq2', hq3', hq4', hq10])))
        · skip
          have hq11 := hq
          have hq11' := of_decide_eq_false hq11
          unfold f32_6
          refine wp_pick (fun e => by rw [hq11] at e; cases e) (fun _ => ?_)
          refine wp_bk_t (fun e => by cases e) (fun _ => ?_)
          unfold f32_7
          refine wp_pick (fun e => by cases e) (fun _ => ?_)
          refine wp_bk_t (fun e => by cases e) (fun _ => ?_)
          unfold f32_8
          refine wp_pick (fun e => by cases e) (fun _ => ?_)
          refine wp_bk_t (fun e => by cases e) (fun _ => ?_)
          refine wp_pick (fun e => by cases e) (fun _ => ?_)
          exact hk _ _ (congrArg (fun q => some (AV.b q)) (by first | (rw [Stmt.same_eq, hq11]; rfl) | (rw [Stmt.same_eq]; simp [S.eq_iff, hq1', hq2', hq3', hq11'])))
      · skip
        have hq12 := hq
        have hq12' := of_decide_eq_false hq12
        unfold f32_5
        refine wp_pick (fun e => by rw [hq12] at e; cases e) (fun _ => ?_)
        refine wp_bk_t (fun e => by cases e) (fun _ => ?_)
        unfold f32_6
        refine wp_pick (fun e => by cases e) (fun _ => ?_)
        refine wp_bk_t (fun e => by cases e) (fun _ => ?_)
        unfold f32_7
        refine wp_pick (fun e => by cases e) (fun _ => ?_)
        refine wp_bk_t (fun e => by cases e) (fun _ => ?_)
        unfold f32_8
        refine wp_pick (fun e => by cases e) (fun _ => ?_)
        refine wp_bk_t (fun e => by cases e) (fun _ => ?_)
        refine wp_pick (fun e => by cases e) (fun _ => ?_)
        exact hk _ _ (congrArg (fun q => some (AV.b q)) (by first | (rw [Stmt.same_eq, hq12]; rfl) | (rw [Stmt.same_eq]; simp [S.eq_iff, hq1', hq2', hq12'])))
    · skip
      have hq13 := hq
      have hq13' := of_decide_eq_false hq13
      unfold f32_4
      refine wp_pick (fun e => by rw [hq13] at e; cases e) (fun _ => ?_)
      refine wp_bk_t (fun e => by cases e) (fun _ => ?_)
      unfold f32_5
      refine wp_pick (fun e => by cases e) (fun _ => ?_)
      refine wp_bk_t (fun e => by cases e) (fun _ => ?_)
      unfold f32_6
      refine wp_pick (fun e => by cases e) (fun _ => ?_)
      refine wp_bk_t (fun e => by cases e) (fun _ => ?_)
      unfold f32_7
      refine wp_pick (fun e => by cases e) (fun _ => ?_)
      refine wp_bk_t (fun e => by cases e) (fun _ => ?_)
      unfold f32_8
      refine wp_pick (fun e => by cases e) (fun _ => ?_)
      refine wp_bk_t (fun e => by cases e) (fun _ => ?_)
      refine wp_pick (fun e => by cases e) (fun _ => ?_)
      exact hk _ _ (congrArg (fun q => some (AV.b q)) (by first | (rw [Stmt.same_eq, hq13]; rfl) | (rw [Stmt.same_eq]; simp [S.eq_iff, hq1', hq13'])))
  · skip
    have hq14 := hq
    have hq14' := of_decide_eq_false hq14
    unfold f32_3
    refine wp_pick (fun e => by rw [hq14] at e; cases e) (fun _ => ?_)
    refine wp_bk_t (fun e => by cases e) (fun _ => ?_)
    unfold f32_4
    refine wp_pick (fun e => by cases e) (fun _ => ?_)
    refine wp_bk_t (fun e => by cases e) (fun _ => ?_)
    unfold f32_5
    refine wp_pick (fun e => by cases e) (fun _ => ?_)
    refine wp_bk_t (fun e => by cases e) (fun _ => ?_)
    unfold f32_6
    refine wp_pick (fun e => by cases e) (fun _ => ?_)
    refine wp_bk_t (fun e => by cases e) (fun _ => ?_)
    unfold f32_7
    refine wp_pick (fun e => by cases e) (fun _ => ?_)
    refine wp_bk_t (fun e => by cases e) (fun _ => ?_)
    unfold f32_8
    refine wp_pick (fun e => by cases e) (fun _ => ?_)
    refine wp_bk_t (fun e => by cases e) (fun _ => ?_)
    refine wp_pick (fun e => by cases e) (fun _ => ?_)
    exact hk _ _ (congrArg (fun q => some (AV.b q)) (by first | (rw [Stmt.same_eq, hq14]; rfl) | (rw [Stmt.same_eq]; simp [S.eq_iff, hq14'])))
theorem sT : ∀ (z n : Nat) (l r : List Stmt) (t t2 : Tg), sizeT l ≤ z → 10 * sizeT l + 40 ≤ n → sizeT l ≤ 700 → EvN Tryd.prog (cfg m1) n 14 [slA 9 t (cellsT l), slA 9 t2 (cellsT r)] (.b (sameT l r)) := by
  intro z
  induction z with
  | zero =>
    intro n l r t t2 hz hn hb
    obtain ⟨n, rfl⟩ : ∃ m, n = m + 2 := ⟨n - 2, by omega⟩
    have hlen := sizeT_len l
    exact sT_body (eqT (by omega) (by omega) fun e he => by have := List.length_pos_of_mem he; omega)
  | succ z ih =>
    intro n l r t t2 hz hn hb
    obtain ⟨n, rfl⟩ : ∃ m, n = m + 4 := ⟨n - 4, by omega⟩
    refine sT_body (eqT (by omega) (by omega) fun e he f => ?_)
    have h1 := sizeT_mem he
    have h2 := e.size_eq
    refine ss_body (sL (by omega) (by omega)) fun t t2 x y hx => ih (n + 1) x y t t2 ?_ ?_ ?_ <;> (rcases hx with rfl | rfl | rfl <;> omega)
theorem rqT_loop {n : Nat} {k : PK} {l r : List Stmt} {t t2 : Tg} (hl : sizeT l ≤ 700) (hlr : l.length = r.length) (hE : ∀ e ∈ l, ∀ f : Stmt, EvN Tryd.prog (cfg m1) n 30 [slA 8 e.te (cellsL e.e), slA 8 f.te (cellsL f.e)] (.b (sameL e.e f.e))) (hT : ∀ e ∈ l, ∀ (t t2 : Tg) (x y : List Stmt), (x = e.a ∨ x = e.b ∨ x = e.c) → EvN Tryd.prog (cfg m1) n 15 [slA 9 t (cellsT x), slA 9 t2 (cellsT y)] (.b (sameT x y)))
    (hk : ∀ h, k (.b (sameT l r)) h) :
    ∀ (m i : Nat) (h : Heap) (nx : Nat), HS h nx far [] → nx + 40 * l.length < 31000 + 40 * i → i ≤ l.length → l.length < m + i → (∀ (j : Nat) (e f : Stmt), j < i → l[j]? = some e → r[j]? = some f → e.same f = true) →
      f15_5 False (callF Tryd.prog False (cfg m1) n) n k m (slA 9 t (cellsT l)) (slA 9 t2 (cellsT r)) (AV.i .i64 (i : Int)) h := by
  intro m
  induction m with
  | zero => intro i h nx hs b1 b2 b3; omega
  | succ m ih =>
    intro i h nx hs b1 b2 b3 b4
    have hlen := sizeT_len l
    refine wp_len ?_
    rw [cellsT_len]
    refine wp_lss ?_
    refine wp_if (fun hq => ?_) (fun hq => ?_)
    · skip
      have hq1 := hq
      have hq1' := of_decide_eq_true hq1
      unfold f15_7
      refine wp_dreg hs (by unfold cap; omega) fun h1 hs1 => ?_
      obtain ⟨e, he, hm⟩ := get_some (l := l) (i := i) (by omega)
      obtain ⟨f, hf, hm2⟩ := get_some (l := r) (i := i) (by omega)
      have hz3 := sizeT_mem hm
      refine wp_ix (cellsT_get he) ?_
      refine wp_root_n rfl ?_
      refine wp_ldN_fp (e.chas) ?_
      refine wp_ix (cellsT_get hf) ?_
      refine wp_root_n rfl ?_
      refine wp_ldN_fp (f.chas) ?_
      have hw_hs1 := hs1.win
      refine wp_newD hw_hs1 (by omega) (by unfold cap; omega) (by intro p hp; cases hp) fun h2 hw2 => ?_
      refine wp_newD hw2 (by omega) (by unfold cap; omega) (by intro p hp; simp only [List.mem_cons, List.not_mem_nil, or_false] at hp; rcases hp with rfl <;> simp) fun h3 hw3 => ?_
      refine wp_lb ?_
      refine wp_stDh (cs := e.cells) rfl hw3 mem1 (by decide) rfl (e.clen) rfl (e.cones) [((nx + 9), Blk.cells 9 [[AV.i .i64 0, AV.i .i32 0, AV.s 0 0, AV.s 0 0, AV.nsl, AV.nsl, AV.nsl, AV.nsl, AV.i .i64 0]])] (by intro p hp; simp only [List.mem_cons, List.not_mem_nil, or_false] at hp ⊢; rcases hp with rfl <;> simp) fun h4 hw4 => ?_
      refine wp_back rfl ?_
      refine wp_stD (cs := f.cells) hw4 mem1 (by decide) rfl (f.clen) rfl (f.cones) [((nx + 8), Blk.cells 9 [e.cells])] (by intro p hp; simp only [List.mem_cons, List.not_mem_nil, or_false] at hp ⊢; rcases hp with rfl <;> simp) fun h5 hw5 => ?_
      refine wp_hb ?_
      have hs5s := hw5.shut
      unfold f15_10
      refine wp_fa_p ?_
      refine wp_ld_p hs5s mem1 rfl (e.c0) ?_
      refine wp_fa_p ?_
      refine wp_ld_p hs5s mem0 rfl (f.c0) ?_
      refine wp_nei ?_
      refine wp_bk_f (fun hq => ?_) (fun hq => ?_)
      · skip
        have hq2 := hq
        have hq2' := of_decide_eq_false hq2
        refine wp_fa_p ?_
        refine wp_ld_p hs5s mem1 rfl (e.c1) ?_
        refine wp_fa_p ?_
        refine wp_ld_p hs5s mem0 rfl (f.c1) ?_
        refine wp_nei32 ?_
        unfold f15_13
        refine wp_pick (fun e => by rw [hq2] at e; cases e) (fun _ => ?_)
        refine wp_bk_f (fun hq => ?_) (fun hq => ?_)
        · skip
          have hq3 := hq
          have hq3' := of_decide_eq_false hq3
          refine wp_fa_p ?_
          refine wp_ld_p hs5s mem1 rfl (e.c2) ?_
          refine wp_fa_p ?_
          refine wp_ld_p hs5s mem0 rfl (f.c2) ?_
          refine wp_nes ?_
          unfold f15_14
          refine wp_pick (fun e => by rw [hq3] at e; cases e) (fun _ => ?_)
          refine wp_bk_f (fun hq => ?_) (fun hq => ?_)
          · skip
            have hq4 := hq
            have hq4' := of_decide_eq_false hq4
            refine wp_fa_p ?_
            refine wp_ld_p hs5s mem1 rfl (e.c3) ?_
            refine wp_fa_p ?_
            refine wp_ld_p hs5s mem0 rfl (f.c3) ?_
            refine wp_nes ?_
            unfold f15_15
            refine wp_pick (fun e => by rw [hq4] at e; cases e) (fun _ => ?_)
            refine wp_bk_f (fun hq => ?_) (fun hq => ?_)
            · skip
              have hq5 := hq
              have hq5' := of_decide_eq_false hq5
              refine wp_fa_p ?_
              refine wp_ld_p hs5s mem1 rfl (e.c4) ?_
              refine wp_fa_p ?_
              refine wp_ld_p hs5s mem0 rfl (f.c4) ?_
              refine wp_call (hE e hm f) ?_
              refine wp_pk rfl ?_
              refine wp_not ?_
              unfold f15_16
              refine wp_pick (fun e => by rw [hq5] at e; cases e) (fun _ => ?_)
              refine wp_bk_f (fun hq => ?_) (fun hq => ?_)
              · skip
                have hq6 := hq
                refine wp_fa_p ?_
                refine wp_ld_p hs5s mem1 rfl (e.c5) ?_
                refine wp_fa_p ?_
                refine wp_ld_p hs5s mem0 rfl (f.c5) ?_
                refine wp_call (hT e hm _ _ _ _ (by simp)) ?_
                refine wp_pk rfl ?_
                refine wp_not ?_
                unfold f15_17
                refine wp_pick (fun e => by rw [hq6] at e; cases e) (fun _ => ?_)
                refine wp_bk_f (fun hq => ?_) (fun hq => ?_)
                · skip
                  have hq7 := hq
                  refine wp_fa_p ?_
                  refine wp_ld_p hs5s mem1 rfl (e.c6) ?_
                  refine wp_fa_p ?_
                  refine wp_ld_p hs5s mem0 rfl (f.c6) ?_
                  refine wp_call (hT e hm _ _ _ _ (by simp)) ?_
                  refine wp_pk rfl ?_
                  refine wp_not ?_
                  unfold f15_18
                  refine wp_pick (fun e => by rw [hq7] at e; cases e) (fun _ => ?_)
                  refine wp_bk_f (fun hq => ?_) (fun hq => ?_)
                  · skip
                    have hq8 := hq
                    refine wp_fa_p ?_
                    refine wp_ld_p hs5s mem1 rfl (e.c7) ?_
                    refine wp_fa_p ?_
                    refine wp_ld_p hs5s mem0 rfl (f.c7) ?_
                    refine wp_call (hT e hm _ _ _ _ (by simp)) ?_
                    refine wp_pk rfl ?_
                    refine wp_not ?_
                    refine wp_pick (fun e => by rw [hq8] at e; cases e) (fun _ => ?_)
                    unfold f15_11
                    refine wp_if (fun hq => ?_) (fun hq => ?_)
                    · skip
                      have hq9 := hq
                      have hsame : e.same f = false := by rw [Stmt.same_eq]; simp_all [S.eq_iff]
                      have hfin : false = sameT l r := by rw [sameT_eq]; exact allS_false he hf hsame
                      rw [hfin]; exact hk _
                    · skip
                      have hq10 := hq
                      unfold f15_8
                      refine wp_add (c := ((i + 1 : Nat) : Int)) (by omega) (by omega) (by omega) ?_
                      have hsame : e.same f = true := by rw [Stmt.same_eq]; simp_all [S.eq_iff]
                      refine ih (i + 1) _ _ hs5s.nil (by omega) (by omega) (by omega) (fun j x y hj hx hy => ?_)
                      by_cases hji : j = i
                      · subst hji; rw [he] at hx; rw [hf] at hy; injection hx with hx; injection hy with hy; subst hx hy; exact hsame
                      · exact b4 j x y (by omega) hx hy
                  · skip
                    have hq11 := hq
                    refine wp_pick (fun _ => ?_) (fun e => by rw [hq11] at e; cases e)
                    unfold f15_11
                    refine wp_if (fun _ => ?_) (fun e => by cases e)
                    have hsame : e.same f = false := by rw [Stmt.same_eq]; simp_all [S.eq_iff]
                    have hfin : false = sameT l r := by rw [sameT_eq]; exact allS_false he hf hsame
                    rw [hfin]; exact hk _
                · skip
                  have hq12 := hq
                  unfold f15_18
                  refine wp_pick (fun _ => ?_) (fun e => by rw [hq12] at e; cases e)
                  refine wp_bk_f (fun e => by cases e) (fun _ => ?_)
                  refine wp_pick (fun _ => ?_) (fun e => by cases e)
                  unfold f15_11
                  refine wp_if (fun _ => ?_) (fun e => by cases e)
                  have hsame : e.same f = false := by rw [Stmt.same_eq]; simp_all [S.eq_iff]
                  have hfin : false = sameT l r := by rw [sameT_eq]; exact allS_false he hf hsame
                  rw [hfin]; exact hk _
              · skip
                have hq13 := hq
                unfold f15_17
                refine wp_pick (fun _ => ?_) (fun e => by rw [hq13] at e; cases e)
                refine wp_bk_f (fun e => by cases e) (fun _ => ?_)
                unfold f15_18
                refine wp_pick (fun _ => ?_) (fun e => by cases e)
                refine wp_bk_f (fun e => by cases e) (fun _ => ?_)
                refine wp_pick (fun _ => ?_) (fun e => by cases e)
                unfold f15_11
                refine wp_if (fun _ => ?_) (fun e => by cases e)
                have hsame : e.same f = false := by rw [Stmt.same_eq]; simp_all [S.eq_iff]
                have hfin : false = sameT l r := by rw [sameT_eq]; exact allS_false he hf hsame
                rw [hfin]; exact hk _
            · skip
              have hq14 := hq
              have hq14' := of_decide_eq_true hq14
              unfold f15_16
              refine wp_pick (fun _ => ?_) (fun e => by rw [hq14] at e; cases e)
              refine wp_bk_f (fun e => by cases e) (fun _ => ?_)
              unfold f15_17
              refine wp_pick (fun _ => ?_) (fun e => by cases e)
              refine wp_bk_f (fun e => by cases e) (fun _ => ?_)
              unfold f15_18
              refine wp_pick (fun _ => ?_) (fun e => by cases e)
              refine wp_bk_f (fun e => by cases e) (fun _ => ?_)
              refine wp_pick (fun _ => ?_) (fun e => by cases e)
              unfold f15_11
              refine wp_if (fun _ => ?_) (fun e => by cases e)
              have hsame : e.same f = false := by rw [Stmt.same_eq]; simp_all [S.eq_iff]
              have hfin : false = sameT l r := by rw [sameT_eq]; exact allS_false he hf hsame
              rw [hfin]; exact hk _
          · skip
            have hq15 := hq
            have hq15' := of_decide_eq_true hq15
            unfold f15_15
            refine wp_pick (fun _ => ?_) (fun e => by rw [hq15] at e; cases e)
            refine wp_bk_f (fun e => by cases e) (fun _ => ?_)
            unfold f15_16
            refine wp_pick (fun _ => ?_) (fun e => by cases e)
            refine wp_bk_f (fun e => by cases e) (fun _ => ?_)
            unfold f15_17
            refine wp_pick (fun _ => ?_) (fun e => by cases e)
            refine wp_bk_f (fun e => by cases e) (fun _ => ?_)
            unfold f15_18
            refine wp_pick (fun _ => ?_) (fun e => by cases e)
            refine wp_bk_f (fun e => by cases e) (fun _ => ?_)
            refine wp_pick (fun _ => ?_) (fun e => by cases e)
            unfold f15_11
            refine wp_if (fun _ => ?_) (fun e => by cases e)
            have hsame : e.same f = false := by rw [Stmt.same_eq]; simp_all [S.eq_iff]
            have hfin : false = sameT l r := by rw [sameT_eq]; exact allS_false he hf hsame
            rw [hfin]; exact hk _
        · skip
          have hq16 := hq
          have hq16' := of_decide_eq_true hq16
          unfold f15_14
          refine wp_pick (fun _ => ?_) (fun e => by rw [hq16] at e; cases e)
          refine wp_bk_f (fun e => by cases e) (fun _ => ?_)
          unfold f15_15
          refine wp_pick (fun _ => ?_) (fun e => by cases e)
          refine wp_bk_f (fun e => by cases e) (fun _ => ?_)
          unfold f15_16
          refine wp_pick (fun _ => ?_) (fun e => by cases e)
          refine wp_bk_f (fun e => by cases e) (fun _ => ?_)
          unfold f15_17
          refine wp_pick (fun _ => ?_) (fun e => by cases e)
          refine wp_bk_f (fun e => by cases e) (fun _ => ?_)
          unfold f15_18
          refine wp_pick (fun _ => ?_) (fun e => by cases e)
          refine wp_bk_f (fun e => by cases e) (fun _ => ?_)
          refine wp_pick (fun _ => ?_) (fun e => by cases e)
          unfold f15_11
          refine wp_if (fun _ => ?_) (fun e => by cases e)
          have hsame : e.same f = false := by rw [Stmt.same_eq]; simp_all [S.eq_iff]
          have hfin : false = sameT l r := by rw [sameT_eq]; exact allS_false he hf hsame
          rw [hfin]; exact hk _
      · skip
        have hq17 := hq
        have hq17' := of_decide_eq_true hq17
        unfold f15_13
        refine wp_pick (fun _ => ?_) (fun e => by rw [hq17] at e; cases e)
        refine wp_bk_f (fun e => by cases e) (fun _ => ?_)
        unfold f15_14
        refine wp_pick (fun _ => ?_) (fun e => by cases e)
        refine wp_bk_f (fun e => by cases e) (fun _ => ?_)
        unfold f15_15
        refine wp_pick (fun _ => ?_) (fun e => by cases e)
        refine wp_bk_f (fun e => by cases e) (fun _ => ?_)
        unfold f15_16
        refine wp_pick (fun _ => ?_) (fun e => by cases e)
        refine wp_bk_f (fun e => by cases e) (fun _ => ?_)
        unfold f15_17
        refine wp_pick (fun _ => ?_) (fun e => by cases e)
        refine wp_bk_f (fun e => by cases e) (fun _ => ?_)
        unfold f15_18
        refine wp_pick (fun _ => ?_) (fun e => by cases e)
        refine wp_bk_f (fun e => by cases e) (fun _ => ?_)
        refine wp_pick (fun _ => ?_) (fun e => by cases e)
        unfold f15_11
        refine wp_if (fun _ => ?_) (fun e => by cases e)
        have hsame : e.same f = false := by rw [Stmt.same_eq]; simp_all [S.eq_iff]
        have hfin : false = sameT l r := by rw [sameT_eq]; exact allS_false he hf hsame
        rw [hfin]; exact hk _
    · skip
      have hq18 := hq
      have hq18' := of_decide_eq_false hq18
      have hfin : true = sameT l r := by rw [sameT_eq]; exact allS_true hlr fun j x y hj hx hy => b4 j x y (by omega) hx hy
      rw [hfin]; exact hk _
theorem rqT {n : Nat} {l r : List Stmt} {t t2 : Tg} (hl : sizeT l ≤ 700) (hn : 10 * sizeT l + 5 ≤ n) (hE : ∀ e ∈ l, ∀ f : Stmt, EvN Tryd.prog (cfg m1) n 30 [slA 8 e.te (cellsL e.e), slA 8 f.te (cellsL f.e)] (.b (sameL e.e f.e))) (hT : ∀ e ∈ l, ∀ (t t2 : Tg) (x y : List Stmt), (x = e.a ∨ x = e.b ∨ x = e.c) → EvN Tryd.prog (cfg m1) n 15 [slA 9 t (cellsT x), slA 9 t2 (cellsT y)] (.b (sameT x y))) : EvN Tryd.prog (cfg m1) (n + 1) 15 [slA 9 t (cellsT l), slA 9 t2 (cellsT r)] (.b (sameT l r)) := by
  have hlen := sizeT_len l
  refine evN_intro f15_good rfl (ownF_of rfl (refs_cons (refs_sl _) (refs_cons (refs_sl _) refs_nil))) fun k hk => ?_
  show f15 False (callF Tryd.prog False (cfg m1) n) n k (slA 9 t (cellsT l)) (slA 9 t2 (cellsT r)) Heap.empty
  unfold f15
  have hs := HS.empty
  unfold f15_1
  refine wp_len ?_
  rw [cellsT_len]
  refine wp_len ?_
  rw [cellsT_len]
  refine wp_nei ?_
  refine wp_if (fun hq => ?_) (fun hq => ?_)
  · skip
    have hq1 := hq
    have hq1' := of_decide_eq_true hq1
    exact hk _ _ (congrArg (fun q => some (AV.b q)) (by rw [sameT_eq]; exact allS_len (by intro h; simp [h] at hq1)))
  · skip
    have hq2 := hq
    have hq2' := of_decide_eq_false hq2
    unfold f15_2
    unfold f15_4
    exact rqT_loop (by omega) (by omega) hE hT (fun h => hk _ _ rfl) n 0 _ _ hs.nil (by omega) (by omega) (by omega) (fun j x y hj => by omega)
theorem rsT : ∀ (z n : Nat) (l r : List Stmt) (t t2 : Tg), sizeT l ≤ z → 10 * sizeT l + 40 ≤ n → sizeT l ≤ 700 → EvN Tryd.prog (cfg m1) n 15 [slA 9 t (cellsT l), slA 9 t2 (cellsT r)] (.b (sameT l r)) := by
  intro z
  induction z with
  | zero =>
    intro n l r t t2 hz hn hb
    obtain ⟨n, rfl⟩ : ∃ m, n = m + 1 := ⟨n - 1, by omega⟩
    have hlen := sizeT_len l
    refine rqT (by omega) (by omega) (fun e he => ?_) (fun e he => ?_) <;> (have := List.length_pos_of_mem he; omega)
  | succ z ih =>
    intro n l r t t2 hz hn hb
    obtain ⟨n, rfl⟩ : ∃ m, n = m + 2 := ⟨n - 2, by omega⟩
    refine rqT (by omega) (by omega) (fun e he f => ?_) (fun e he t t2 x y hx => ?_)
    · have h1 := sizeT_mem he
      have h2 := e.size_eq
      exact rsL (by omega) (by omega)
    · have h1 := sizeT_mem he
      have h2 := e.size_eq
      refine ih (n + 1) x y t t2 ?_ ?_ ?_ <;> (rcases hx with rfl | rfl | rfl <;> omega)
def CntL (l : List Expr) (v : AV) : Prop := ∃ r : Nat, v = .i .i64 ((r : Nat) : Int) ∧ r ≤ 401 ∧ (r ≤ 400 → r = sizeL l)
def CntT (l : List Stmt) (v : AV) : Prop := ∃ r : Nat, v = .i .i64 ((r : Nat) : Int) ∧ r ≤ 401 ∧ (r ≤ 400 → r = sizeT l)
theorem cL_loop {n : Nat} {k : PK} {l : List Expr} {t : Tg} (d : Nat) (hd : d ≤ 61) (hN : ∀ c ∈ l, d ≤ 60 → EvS Tryd.prog (cfg m1) n 24 [slA 8 c.tl (cellsL c.l), AV.i .i64 ((d + 1 : Nat) : Int)] (CntL c.l))
    (hk : ∀ (r : Nat) h, r ≤ 401 → (r ≤ 400 → r = sizeL l) → k (.i .i64 ((r : Nat) : Int)) h) :
    ∀ (m i acc : Nat) (h : Heap) (nx : Nat), HS h nx far [] → nx + 40 * 401 < 31000 + 40 * i → i ≤ l.length → 403 ≤ m + i → i ≤ acc → (acc ≤ 400 → acc = sizeL (l.take i)) → acc ≤ 3000 → i ≤ 401 →
      f24_5 False (callF Tryd.prog False (cfg m1) n) n k m (slA 8 t (cellsL l)) (AV.i .i64 ((d : Nat) : Int)) (AV.i .i64 ((acc : Nat) : Int)) (AV.i .i64 (i : Int)) h := by
  intro m
  induction m with
  | zero =>
    intro i acc h nx hs b1 b2 b3 b4 b5 b6 b7
    omega
  | succ m ih =>
    intro i acc h nx hs b1 b2 b3 b4 b5 b6 b7
    refine wp_len ?_
    rw [cellsL_len]
    refine wp_lss ?_
    refine wp_bk_t (fun hq => ?_) (fun hq => ?_)
    · skip
      have hq1 := hq
      have hq1' := of_decide_eq_true hq1
      refine wp_lss ?_
      refine wp_pick (fun _ => ?_) (fun e => by rw [hq1] at e; cases e)
      refine wp_if (fun hq => ?_) (fun hq => ?_)
      · skip
        have hq2 := hq
        have hq2' := of_decide_eq_true hq2
        unfold f24_7
        refine wp_gtr ?_
        refine wp_bk_f (fun hq => ?_) (fun hq => ?_)
        · skip
          have hq3 := hq
          have hq3' := of_decide_eq_false hq3
          obtain ⟨e, he, hm⟩ := get_some (l := l) (i := i) (by omega)
          have hz1 := sizeL_take he
          have hsz := e.size_eq
          refine wp_ix (cellsL_get he) ?_
          refine wp_fa_fp ?_
          refine wp_ld_fpo (e.c2) ?_
          refine wp_lens ?_
          refine wp_gtr ?_
          unfold f24_14
          refine wp_pick (fun e => by rw [hq3] at e; cases e) (fun _ => ?_)
          refine wp_bk_f (fun hq => ?_) (fun hq => ?_)
          · skip
            have hq4 := hq
            have hq4' := of_decide_eq_false hq4
            refine wp_ix (cellsL_get he) ?_
            refine wp_fa_fp ?_
            refine wp_ld_fpo (e.c3) ?_
            refine wp_lens ?_
            refine wp_gtr ?_
            unfold f24_15
            refine wp_pick (fun e => by rw [hq4] at e; cases e) (fun _ => ?_)
            refine wp_bk_f (fun hq => ?_) (fun hq => ?_)
            · skip
              have hq5 := hq
              have hq5' := of_decide_eq_false hq5
              refine wp_ix (cellsL_get he) ?_
              refine wp_fa_fp ?_
              refine wp_ld_fpo (e.c4) ?_
              refine wp_lens ?_
              refine wp_gtr ?_
              refine wp_pick (fun e => by rw [hq5] at e; cases e) (fun _ => ?_)
              unfold f24_12
              refine wp_if (fun hq => ?_) (fun hq => ?_)
              · skip
                have hq6 := hq
                have hq6' := of_decide_eq_true hq6
                exact hk 401 _ (by omega) (by omega)
              · skip
                have hq7 := hq
                have hq7' := of_decide_eq_false hq7
                unfold f24_10
                refine wp_add (c := ((acc + 1 : Nat) : Int)) (by omega) (by omega) (by omega) ?_
                refine wp_ix (cellsL_get he) ?_
                refine wp_fa_fp ?_
                refine wp_ld_fpo (e.c5) ?_
                refine wp_add (c := ((d + 1 : Nat) : Int)) (by omega) (by omega) (by omega) ?_
                refine wp_callS (hN e hm (by omega)) fun v8 hv8 => ?_
                obtain ⟨r1, rfl, hr1a, hr1b⟩ := hv8
                refine wp_pk rfl ?_
                refine wp_add (c := ((acc + 1 + r1 : Nat) : Int)) (by omega) (by omega) (by omega) ?_
                unfold f24_8
                refine wp_add (c := ((i + 1 : Nat) : Int)) (by omega) (by omega) (by omega) ?_
                exact ih (i + 1) (acc + 1 + r1) _ _ hs.nil (by omega) (by omega) (by omega) (by omega) (by omega) (by omega) (by omega)
            · skip
              have hq9 := hq
              have hq9' := of_decide_eq_true hq9
              refine wp_pick (fun _ => ?_) (fun e => by rw [hq9] at e; cases e)
              unfold f24_12
              refine wp_if (fun _ => ?_) (fun e => by cases e)
              exact hk 401 _ (by omega) (by omega)
          · skip
            have hq10 := hq
            have hq10' := of_decide_eq_true hq10
            unfold f24_15
            refine wp_pick (fun _ => ?_) (fun e => by rw [hq10] at e; cases e)
            refine wp_bk_f (fun e => by cases e) (fun _ => ?_)
            refine wp_pick (fun _ => ?_) (fun e => by cases e)
            unfold f24_12
            refine wp_if (fun _ => ?_) (fun e => by cases e)
            exact hk 401 _ (by omega) (by omega)
        · skip
          have hq11 := hq
          have hq11' := of_decide_eq_true hq11
          unfold f24_14
          refine wp_pick (fun _ => ?_) (fun e => by rw [hq11] at e; cases e)
          refine wp_bk_f (fun e => by cases e) (fun _ => ?_)
          unfold f24_15
          refine wp_pick (fun _ => ?_) (fun e => by cases e)
          refine wp_bk_f (fun e => by cases e) (fun _ => ?_)
          refine wp_pick (fun _ => ?_) (fun e => by cases e)
          unfold f24_12
          refine wp_if (fun _ => ?_) (fun e => by cases e)
          exact hk 401 _ (by omega) (by omega)
      · skip
        have hq12 := hq
        have hq12' := of_decide_eq_false hq12
        refine wp_min ?_
        have hmin : min ((acc : Nat) : Int) 401 = ((min acc 401 : Nat) : Int) := by omega
        rw [hmin]
        refine hk (min acc 401) _ (by omega) (fun hr => ?_)
        have hfull : l.length ≤ i := by omega
        have htk : l.take i = l := List.take_of_length_le hfull
        rw [htk] at b5
        omega
    · skip
      have hq13 := hq
      have hq13' := of_decide_eq_false hq13
      refine wp_pick (fun e => by rw [hq13] at e; cases e) (fun _ => ?_)
      refine wp_if (fun e => by cases e) (fun _ => ?_)
      refine wp_min ?_
      have hmin : min ((acc : Nat) : Int) 401 = ((min acc 401 : Nat) : Int) := by omega
      rw [hmin]
      refine hk (min acc 401) _ (by omega) (fun hr => ?_)
      have hfull : l.length ≤ i := by omega
      have htk : l.take i = l := List.take_of_length_le hfull
      rw [htk] at b5
      omega
theorem cL_body {n : Nat} {l : List Expr} {t : Tg} (d : Nat) (hd : d ≤ 61) (hn : 403 ≤ n) (hN : ∀ c ∈ l, d ≤ 60 → EvS Tryd.prog (cfg m1) n 24 [slA 8 c.tl (cellsL c.l), AV.i .i64 ((d + 1 : Nat) : Int)] (CntL c.l)) : EvS Tryd.prog (cfg m1) (n + 1) 24 [slA 8 t (cellsL l), AV.i .i64 (((d : Nat) : Int))] (CntL l) := by
  refine evS_intro f24_good rfl (ownF_of rfl (refs_cons (refs_sl _) (refs_cons rfl refs_nil))) fun k hk => ?_
  show f24 False (callF Tryd.prog False (cfg m1) n) n k (slA 8 t (cellsL l)) (AV.i .i64 (((d : Nat) : Int))) Heap.empty
  unfold f24
  have hs := HS.empty
  unfold f24_1
  unfold f24_2
  unfold f24_4
  exact cL_loop d hd hN (fun r h h1 h2 => hk _ _ h ⟨r, rfl, h1, h2⟩ rfl) n 0 0 _ _ hs.nil (by omega) (by omega) (by omega) (by omega) (by simp) (by omega) (by omega)
theorem cL : ∀ (u d n : Nat) (l : List Expr) (t : Tg), d + u = 61 → 405 + u ≤ n → EvS Tryd.prog (cfg m1) n 24 [slA 8 t (cellsL l), AV.i .i64 ((d : Nat) : Int)] (CntL l) := by
  intro u
  induction u with
  | zero =>
    intro d n l t hd hn
    obtain ⟨n, rfl⟩ : ∃ m, n = m + 1 := ⟨n - 1, by omega⟩
    exact cL_body d (by omega) (by omega) fun c hc h => by omega
  | succ u ih =>
    intro d n l t hd hn
    obtain ⟨n, rfl⟩ : ∃ m, n = m + 1 := ⟨n - 1, by omega⟩
    exact cL_body d (by omega) (by omega) fun c hc h => ih (d + 1) n c.l c.tl (by omega) (by omega)
theorem cT_loop {n : Nat} {k : PK} {l : List Stmt} {t : Tg} (d : Nat) (hd : d ≤ 61) (hE : ∀ e ∈ l, EvS Tryd.prog (cfg m1) n 24 [slA 8 e.te (cellsL e.e), AV.i .i64 0] (CntL e.e)) (hN : ∀ e ∈ l, d ≤ 60 → ∀ (t : Tg) (x : List Stmt), (x = e.a ∨ x = e.b ∨ x = e.c) → EvS Tryd.prog (cfg m1) n 25 [slA 9 t (cellsT x), AV.i .i64 ((d + 1 : Nat) : Int)] (CntT x))
    (hk : ∀ (r : Nat) h, r ≤ 401 → (r ≤ 400 → r = sizeT l) → k (.i .i64 ((r : Nat) : Int)) h) :
    ∀ (m i acc : Nat) (h : Heap) (nx : Nat), HS h nx far [] → nx + 40 * 401 < 31000 + 40 * i → i ≤ l.length → 403 ≤ m + i → i ≤ acc → (acc ≤ 400 → acc = sizeT (l.take i)) → acc ≤ 3000 → i ≤ 401 →
      f25_5 False (callF Tryd.prog False (cfg m1) n) n k m (slA 9 t (cellsT l)) (AV.i .i64 ((d : Nat) : Int)) (AV.i .i64 ((acc : Nat) : Int)) (AV.i .i64 (i : Int)) h := by
  intro m
  induction m with
  | zero =>
    intro i acc h nx hs b1 b2 b3 b4 b5 b6 b7
    omega
  | succ m ih =>
    intro i acc h nx hs b1 b2 b3 b4 b5 b6 b7
    refine wp_len ?_
    rw [cellsT_len]
    refine wp_lss ?_
    refine wp_bk_t (fun hq => ?_) (fun hq => ?_)
    · skip
      have hq1 := hq
      have hq1' := of_decide_eq_true hq1
      refine wp_lss ?_
      refine wp_pick (fun _ => ?_) (fun e => by rw [hq1] at e; cases e)
      refine wp_if (fun hq => ?_) (fun hq => ?_)
      · skip
        have hq2 := hq
        have hq2' := of_decide_eq_true hq2
        unfold f25_7
        refine wp_gtr ?_
        refine wp_bk_f (fun hq => ?_) (fun hq => ?_)
        · skip
          have hq3 := hq
          have hq3' := of_decide_eq_false hq3
          obtain ⟨e, he, hm⟩ := get_some (l := l) (i := i) (by omega)
          have hz1 := sizeT_take he
          have hsz := e.size_eq
          refine wp_ix (cellsT_get he) ?_
          refine wp_fa_fp ?_
          refine wp_ld_fpo (e.c3) ?_
          refine wp_lens ?_
          refine wp_gtr ?_
          unfold f25_18
          refine wp_pick (fun e => by rw [hq3] at e; cases e) (fun _ => ?_)
          refine wp_bk_f (fun hq => ?_) (fun hq => ?_)
          · skip
            have hq4 := hq
            have hq4' := of_decide_eq_false hq4
            refine wp_ix (cellsT_get he) ?_
            refine wp_fa_fp ?_
            refine wp_ld_fpo (e.c2) ?_
            refine wp_lens ?_
            refine wp_gtr ?_
            refine wp_pick (fun e => by rw [hq4] at e; cases e) (fun _ => ?_)
            unfold f25_16
            refine wp_if (fun hq => ?_) (fun hq => ?_)
            · skip
              have hq5 := hq
              have hq5' := of_decide_eq_true hq5
              exact hk 401 _ (by omega) (by omega)
            · skip
              have hq6 := hq
              have hq6' := of_decide_eq_false hq6
              unfold f25_10
              refine wp_dreg hs (by unfold cap; omega) fun h1 hs1 => ?_
              refine wp_add (c := ((acc + 1 : Nat) : Int)) (by omega) (by omega) (by omega) ?_
              refine wp_ix (cellsT_get he) ?_
              refine wp_fa_fp ?_
              refine wp_root_n rfl ?_
              refine wp_ld_fpo (e.c4) ?_
              refine wp_callDS (hE e hm) (refs_cons (refs_sl _) (refs_cons rfl refs_nil)) (hs1.look 0) fun v7 h2 hv7 hs2 => ?_
              obtain ⟨r2, rfl, hr2a, hr2b⟩ := hv7
              refine wp_pn rfl ?_
              unfold f25_11
              refine wp_add (c := ((acc + 1 + r2 : Nat) : Int)) (by omega) (by omega) (by omega) ?_
              refine wp_ix (cellsT_get he) ?_
              refine wp_fa_fp ?_
              refine wp_root_n rfl ?_
              refine wp_ld_fpo (e.c5) ?_
              refine wp_add (c := ((d + 1 : Nat) : Int)) (by omega) (by omega) (by omega) ?_
              refine wp_callDS (hN e hm (by omega) _ _ (by simp)) (refs_cons (refs_sl _) (refs_cons rfl refs_nil)) (hs2.look 0) fun v8 h3 hv8 hs3 => ?_
              obtain ⟨r3, rfl, hr3a, hr3b⟩ := hv8
              refine wp_pn rfl ?_
              unfold f25_12
              refine wp_add (c := ((acc + 1 + r2 + r3 : Nat) : Int)) (by omega) (by omega) (by omega) ?_
              refine wp_ix (cellsT_get he) ?_
              refine wp_fa_fp ?_
              refine wp_root_n rfl ?_
              refine wp_ld_fpo (e.c6) ?_
              refine wp_add (c := ((d + 1 : Nat) : Int)) (by omega) (by omega) (by omega) ?_
              refine wp_callDS (hN e hm (by omega) _ _ (by simp)) (refs_cons (refs_sl _) (refs_cons rfl refs_nil)) (hs3.look 0) fun v9 h4 hv9 hs4 => ?_
              obtain ⟨r4, rfl, hr4a, hr4b⟩ := hv9
              refine wp_pn rfl ?_
              unfold f25_13
              refine wp_add (c := ((acc + 1 + r2 + r3 + r4 : Nat) : Int)) (by omega) (by omega) (by omega) ?_
              refine wp_ix (cellsT_get he) ?_
              refine wp_fa_fp ?_
              refine wp_root_n rfl ?_
              refine wp_ld_fpo (e.c7) ?_
              refine wp_add (c := ((d + 1 : Nat) : Int)) (by omega) (by omega) (by omega) ?_
              refine wp_callDS (hN e hm (by omega) _ _ (by simp)) (refs_cons (refs_sl _) (refs_cons rfl refs_nil)) (hs4.look 0) fun v10 h5 hv10 hs5 => ?_
              obtain ⟨r5, rfl, hr5a, hr5b⟩ := hv10
              refine wp_pn rfl ?_
              unfold f25_14
              refine wp_add (c := ((acc + 1 + r2 + r3 + r4 + r5 : Nat) : Int)) (by omega) (by omega) (by omega) ?_
              refine wp_hb ?_
              have hs5_ := hs5.shut
              unfold f25_8
              refine wp_add (c := ((i + 1 : Nat) : Int)) (by omega) (by omega) (by omega) ?_
              exact ih (i + 1) (acc + 1 + r2 + r3 + r4 + r5) _ _ hs5_.nil (by omega) (by omega) (by omega) (by omega) (by omega) (by omega) (by omega)
          · skip
            have hq11 := hq
            have hq11' := of_decide_eq_true hq11
            refine wp_pick (fun _ => ?_) (fun e => by rw [hq11] at e; cases e)
            unfold f25_16
            refine wp_if (fun _ => ?_) (fun e => by cases e)
            exact hk 401 _ (by omega) (by omega)
        · skip
          have hq12 := hq
          have hq12' := of_decide_eq_true hq12
          unfold f25_18
          refine wp_pick (fun _ => ?_) (fun e => by rw [hq12] at e; cases e)
          refine wp_bk_f (fun e => by cases e) (fun _ => ?_)
          refine wp_pick (fun _ => ?_) (fun e => by cases e)
          unfold f25_16
          refine wp_if (fun _ => ?_) (fun e => by cases e)
          exact hk 401 _ (by omega) (by omega)
      · skip
        have hq13 := hq
        have hq13' := of_decide_eq_false hq13
        refine wp_min ?_
        have hmin : min ((acc : Nat) : Int) 401 = ((min acc 401 : Nat) : Int) := by omega
        rw [hmin]
        refine hk (min acc 401) _ (by omega) (fun hr => ?_)
        have hfull : l.length ≤ i := by omega
        have htk : l.take i = l := List.take_of_length_le hfull
        rw [htk] at b5
        omega
    · skip
      have hq14 := hq
      have hq14' := of_decide_eq_false hq14
      refine wp_pick (fun e => by rw [hq14] at e; cases e) (fun _ => ?_)
      refine wp_if (fun e => by cases e) (fun _ => ?_)
      refine wp_min ?_
      have hmin : min ((acc : Nat) : Int) 401 = ((min acc 401 : Nat) : Int) := by omega
      rw [hmin]
      refine hk (min acc 401) _ (by omega) (fun hr => ?_)
      have hfull : l.length ≤ i := by omega
      have htk : l.take i = l := List.take_of_length_le hfull
      rw [htk] at b5
      omega
theorem cT_body {n : Nat} {l : List Stmt} {t : Tg} (d : Nat) (hd : d ≤ 61) (hn : 403 ≤ n) (hE : ∀ e ∈ l, EvS Tryd.prog (cfg m1) n 24 [slA 8 e.te (cellsL e.e), AV.i .i64 0] (CntL e.e)) (hN : ∀ e ∈ l, d ≤ 60 → ∀ (t : Tg) (x : List Stmt), (x = e.a ∨ x = e.b ∨ x = e.c) → EvS Tryd.prog (cfg m1) n 25 [slA 9 t (cellsT x), AV.i .i64 ((d + 1 : Nat) : Int)] (CntT x)) : EvS Tryd.prog (cfg m1) (n + 1) 25 [slA 9 t (cellsT l), AV.i .i64 (((d : Nat) : Int))] (CntT l) := by
  refine evS_intro f25_good rfl (ownF_of rfl (refs_cons (refs_sl _) (refs_cons rfl refs_nil))) fun k hk => ?_
  show f25 False (callF Tryd.prog False (cfg m1) n) n k (slA 9 t (cellsT l)) (AV.i .i64 (((d : Nat) : Int))) Heap.empty
  unfold f25
  have hs := HS.empty
  unfold f25_1
  unfold f25_2
  unfold f25_4
  exact cT_loop d hd hE hN (fun r h h1 h2 => hk _ _ h ⟨r, rfl, h1, h2⟩ rfl) n 0 0 _ _ hs.nil (by omega) (by omega) (by omega) (by omega) (by simp) (by omega) (by omega)
theorem cT : ∀ (u d n : Nat) (l : List Stmt) (t : Tg), d + u = 61 → 500 + u ≤ n → EvS Tryd.prog (cfg m1) n 25 [slA 9 t (cellsT l), AV.i .i64 ((d : Nat) : Int)] (CntT l) := by
  intro u
  induction u with
  | zero =>
    intro d n l t hd hn
    obtain ⟨n, rfl⟩ : ∃ m, n = m + 1 := ⟨n - 1, by omega⟩
    exact cT_body d (by omega) (by omega) (fun e he => cL 61 0 n e.e e.te (by omega) (by omega)) fun c hc h => by omega
  | succ u ih =>
    intro d n l t hd hn
    obtain ⟨n, rfl⟩ : ∃ m, n = m + 1 := ⟨n - 1, by omega⟩
    exact cT_body d (by omega) (by omega) (fun e he => cL 61 0 n e.e e.te (by omega) (by omega)) fun c hc h t x hx => ih (d + 1) n x t (by omega) (by omega)
theorem fewE {n : Nat} {e : Expr} (hn : 500 ≤ n) : EvS Tryd.prog (cfg m1) (n + 1 + 1 + 1 + 1) 5 [e.av] (fun v => ∃ q, v = .b q ∧ (q = true → e.size ≤ 400)) := by
  refine evS_intro f5_good rfl (ownF_of rfl (refs_cons (e.refs 8) refs_nil)) fun k hk => ?_
  show f5 False (callF Tryd.prog False (cfg m1) (n + 1 + 1 + 1)) (n + 1 + 1 + 1) k e.av Heap.empty
  unfold f5
  have hs := HS.empty
  have hsz := e.size_eq
  refine wp_box (c := e.cells) hs (by decide) rfl rfl fun h1 hs1 => ?_
  refine wp_ldN_p hs1 mem0 rfl (e.chas) ?_
  refine wp_fil (cs := e.cells) rfl rfl (e.chas) rfl ?_
  refine wp_newE hs1 (by decide) fun h2 hs2 => ?_
  refine callIn f24_good rfl rfl ?_
  show f24 False _ _ _ (AV.sl 1 8 0 1 1 true) (AV.i .i64 0) _
  unfold f24
  unfold f24_1
  unfold f24_2
  unfold f24_4
  unfold f24_5
  show lenF False _ _
  refine wp_len_bl ?_
  refine wp_lss ?_
  refine wp_bk_t (fun _ => ?_) (fun e => absurd e (by decide))
  refine wp_lss ?_
  refine wp_pick (fun _ => ?_) (fun e => absurd e (by decide))
  refine wp_if (fun _ => ?_) (fun e => absurd e (by decide))
  unfold f24_7
  refine wp_gtr ?_
  refine wp_bk_f (fun _ => ?_) (fun e => absurd e (by decide))
  refine wp_ix_bl (i := 0) (by decide) ?_
  refine wp_fa_p ?_
  refine wp_ld_p hs2 mem0 rfl (e.c2) ?_
  refine wp_lens ?_
  refine wp_gtr ?_
  unfold f24_14
  refine wp_pick (fun e => absurd e (by decide)) (fun _ => ?_)
  refine wp_bk_f (fun hq => ?_) (fun hq => ?_)
  · skip
    have hq1 := hq
    have hq1' := of_decide_eq_false hq1
    refine wp_ix_bl (i := 0) (by decide) ?_
    refine wp_fa_p ?_
    refine wp_ld_p hs2 mem0 rfl (e.c3) ?_
    refine wp_lens ?_
    refine wp_gtr ?_
    unfold f24_15
    refine wp_pick (fun e => by rw [hq1] at e; cases e) (fun _ => ?_)
    refine wp_bk_f (fun hq => ?_) (fun hq => ?_)
    · skip
      have hq2 := hq
      have hq2' := of_decide_eq_false hq2
      refine wp_ix_bl (i := 0) (by decide) ?_
      refine wp_fa_p ?_
      refine wp_ld_p hs2 mem0 rfl (e.c4) ?_
      refine wp_lens ?_
      refine wp_gtr ?_
      refine wp_pick (fun e => by rw [hq2] at e; cases e) (fun _ => ?_)
      unfold f24_12
      refine wp_if (fun hq => ?_) (fun hq => ?_)
      · skip
        have hq3 := hq
        have hq3' := of_decide_eq_true hq3
        refine wp_pk rfl ?_
        refine wp_leq ?_
        exact hk _ _ _ ⟨_, rfl, fun hq => by have hq' := of_decide_eq_true hq; omega⟩ rfl
      · skip
        have hq4 := hq
        have hq4' := of_decide_eq_false hq4
        unfold f24_10
        refine wp_add (c := 1) (by omega) (by omega) (by omega) ?_
        refine wp_ix_bl (i := 0) (by decide) ?_
        refine wp_fa_p ?_
        refine wp_ld_p hs2 mem0 rfl (e.c5) ?_
        refine wp_add (c := 1) (by omega) (by omega) (by omega) ?_
        refine wp_callS (cL 60 1 (n + 1 + 1) e.l e.tl (by omega) (by omega)) fun v5 hv5 => ?_
        obtain ⟨r, rfl, hr1, hr2⟩ := hv5
        refine wp_pk rfl ?_
        refine wp_add (c := ((1 + r : Nat) : Int)) (by omega) (by omega) (by omega) ?_
        unfold f24_8
        refine wp_add (c := 1) (by omega) (by omega) (by omega) ?_
        show lenF False _ _
        refine wp_len_bl ?_
        refine wp_lss ?_
        refine wp_bk_t (fun e => absurd e (by decide)) (fun _ => ?_)
        refine wp_pick (fun e => absurd e (by decide)) (fun _ => ?_)
        refine wp_if (fun e => by cases e) (fun _ => ?_)
        refine wp_min ?_
        refine wp_pk rfl ?_
        refine wp_leq ?_
        exact hk _ _ _ ⟨_, rfl, fun hq => by have hq' := of_decide_eq_true hq; omega⟩ rfl
    · skip
      have hq6 := hq
      have hq6' := of_decide_eq_true hq6
      refine wp_pick (fun _ => ?_) (fun e => by rw [hq6] at e; cases e)
      unfold f24_12
      refine wp_if (fun _ => ?_) (fun e => by cases e)
      refine wp_pk rfl ?_
      refine wp_leq ?_
      exact hk _ _ _ ⟨_, rfl, fun hq => by have hq' := of_decide_eq_true hq; omega⟩ rfl
  · skip
    have hq7 := hq
    have hq7' := of_decide_eq_true hq7
    unfold f24_15
    refine wp_pick (fun _ => ?_) (fun e => by rw [hq7] at e; cases e)
    refine wp_bk_f (fun e => by cases e) (fun _ => ?_)
    refine wp_pick (fun _ => ?_) (fun e => by cases e)
    unfold f24_12
    refine wp_if (fun _ => ?_) (fun e => by cases e)
    refine wp_pk rfl ?_
    refine wp_leq ?_
    exact hk _ _ _ ⟨_, rfl, fun hq => by have hq' := of_decide_eq_true hq; omega⟩ rfl
theorem fewT {n : Nat} {l : List Stmt} {t : Tg} (hn : 600 ≤ n) : EvS Tryd.prog (cfg m1) (n + 1) 6 [slA 9 t (cellsT l)] (fun v => ∃ q, v = .b q ∧ (q = true → sizeT l ≤ 400)) := by
  refine evS_intro f6_good rfl (ownF_of rfl (refs_cons (refs_sl _) refs_nil)) fun k hk => ?_
  show f6 False (callF Tryd.prog False (cfg m1) n) n k (slA 9 t (cellsT l)) Heap.empty
  unfold f6
  have hs := HS.empty
  refine wp_callS (cT 61 0 n l t (by omega) (by omega)) fun v1 hv1 => ?_
  obtain ⟨r, rfl, hr1, hr2⟩ := hv1
  refine wp_pk rfl ?_
  refine wp_leq ?_
  exact hk _ _ _ ⟨_, rfl, fun hq => by have hq' := of_decide_eq_true hq; omega⟩ rfl
theorem told_ev (n : Nat) : EvN Tryd.prog (cfg m1) (n + 1) 7 [] (.b true) := fun h k hk => callF_memo (cfg := cfg m1) (g := fun l => List.rec (some (.b true)) (fun _ _ _ => none) l) rfl [] rfl n h k hk
theorem law {n : Nat} (hn : 20000 ≤ n) (a b : Expr) (l m : List Stmt) (t t2 : Tg) : EvN Tryd.prog (cfg m1) (n + 1 + 1 + 1 + 1 + 1) 3 [a.av, b.av, slA 9 t (cellsT l), slA 9 t2 (cellsT m)] (.b true) := by
  refine evN_intro f3_good rfl (ownF_of rfl (refs_cons (a.refs 8) (refs_cons (b.refs 8) (refs_cons (refs_sl _) (refs_cons (refs_sl _) refs_nil))))) fun k hk => ?_
  show f3 False (callF Tryd.prog False (cfg m1) (n + 1 + 1 + 1 + 1)) (n + 1 + 1 + 1 + 1) k (a.av) (b.av) (slA 9 t (cellsT l)) (slA 9 t2 (cellsT m)) Heap.empty
  unfold f3
  have hs := HS.empty
  refine wp_box (c := a.cells) hs (by decide) rfl rfl fun h1 hs1 => ?_
  refine wp_box (c := b.cells) hs1 (by decide) rfl rfl fun h2 hs2 => ?_
  unfold f3_1
  refine wp_ldN_p hs2 mem1 rfl (a.chas) ?_
  refine wp_callS (fewE (n := n) (by omega)) fun v1 hv1 => ?_
  obtain ⟨q_a, rfl, hr_a⟩ := hv1
  refine wp_pk rfl ?_
  refine wp_not ?_
  refine wp_bk_f (fun hq => ?_) (fun hq => ?_)
  · skip
    have hq2 := hq
    refine wp_ldN_p hs2 mem0 rfl (b.chas) ?_
    refine wp_callS (fewE (n := n) (by omega)) fun v3 hv3 => ?_
    obtain ⟨q_b, rfl, hr_b⟩ := hv3
    refine wp_pk rfl ?_
    refine wp_not ?_
    unfold f3_32
    refine wp_pick (fun e => by rw [hq2] at e; cases e) (fun _ => ?_)
    refine wp_bk_f (fun hq => ?_) (fun hq => ?_)
    · skip
      have hq4 := hq
      refine wp_callS (fewT (n := n + 3) (by omega)) fun v5 hv5 => ?_
      obtain ⟨q_l, rfl, hr_l⟩ := hv5
      refine wp_pk rfl ?_
      refine wp_not ?_
      unfold f3_33
      refine wp_pick (fun e => by rw [hq4] at e; cases e) (fun _ => ?_)
      refine wp_bk_f (fun hq => ?_) (fun hq => ?_)
      · skip
        have hq6 := hq
        refine wp_callS (fewT (n := n + 3) (by omega)) fun v7 hv7 => ?_
        obtain ⟨q_m, rfl, hr_m⟩ := hv7
        refine wp_pk rfl ?_
        refine wp_not ?_
        refine wp_pick (fun e => by rw [hq6] at e; cases e) (fun _ => ?_)
        unfold f3_30
        refine wp_if (fun hq => ?_) (fun hq => ?_)
        · skip
          have hq8 := hq
          refine wp_call (told_ev _) ?_
          refine wp_pk rfl ?_
          exact hk _ _ rfl
        · skip
          have hq9 := hq
          unfold f3_2
          refine wp_dreg hs2 (by decide) fun h3 hs3 => ?_
          refine wp_callD (told_ev _) refs_nil hs3 fun h4 hs4 => ?_
          refine wp_pn rfl ?_
          unfold f3_4
          refine wp_bk_t (fun _ => ?_) (fun e => by cases e)
          refine wp_ldN_p (hs4.look 3) mem1 rfl (a.chas) ?_
          unfold f3_5
          have hs4' := hs4.look 0
          refine wp_bk_t (fun _ => ?_) (fun e => by cases e)
          refine wp_callD (tE a _ (by have := hr_a (by simpa using hq2); omega) (by have := hr_a (by simpa using hq2); omega)) (refs_cons (a.refs 8) refs_nil) hs4' fun h5 hs5 => ?_
          refine wp_pn rfl ?_
          unfold f3_6
          refine wp_bk_t (fun _ => ?_) (fun e => by cases e)
          refine wp_ldN_p (hs5.look 3) mem1 rfl (a.chas) ?_
          unfold f3_7
          have hs5' := hs5.look 0
          refine wp_bk_t (fun _ => ?_) (fun e => by cases e)
          refine wp_callD (rE a _ (by have := hr_a (by simpa using hq2); omega) (by have := hr_a (by simpa using hq2); omega)) (refs_cons (a.refs 8) refs_nil) hs5' fun h6 hs6 => ?_
          refine wp_pn rfl ?_
          unfold f3_8
          refine wp_bk_t (fun _ => ?_) (fun e => by cases e)
          refine wp_eqi_rfl ?_
          unfold f3_9
          have hs6' := hs6.look 0
          refine wp_pick (fun _ => ?_) (fun e => by cases e)
          refine wp_bk_t (fun _ => ?_) (fun e => by cases e)
          unfold f3_10
          have hs6'' := hs6'.look 0
          refine wp_bk_t (fun _ => ?_) (fun e => by cases e)
          refine wp_callD (tT 400 _ l _ (by have := hr_l (by simpa using hq6); omega) (by have := hr_l (by simpa using hq6); omega) (by have := hr_l (by simpa using hq6); omega)) (refs_cons (refs_sl _) refs_nil) hs6'' fun h7 hs7 => ?_
          refine wp_pn rfl ?_
          unfold f3_11
          refine wp_bk_t (fun _ => ?_) (fun e => by cases e)
          unfold f3_12
          have hs7' := hs7.look 0
          refine wp_bk_t (fun _ => ?_) (fun e => by cases e)
          refine wp_callD (rT 400 _ l _ (by have := hr_l (by simpa using hq6); omega) (by have := hr_l (by simpa using hq6); omega) (by have := hr_l (by simpa using hq6); omega)) (refs_cons (refs_sl _) refs_nil) hs7' fun h8 hs8 => ?_
          refine wp_pn rfl ?_
          unfold f3_13
          refine wp_bk_t (fun _ => ?_) (fun e => by cases e)
          refine wp_eqi_rfl ?_
          unfold f3_14
          have hs8' := hs8.look 0
          refine wp_pick (fun _ => ?_) (fun e => by cases e)
          refine wp_bk_t (fun _ => ?_) (fun e => by cases e)
          refine wp_ldN_p (hs8'.look 65535) mem1 rfl (a.chas) ?_
          unfold f3_15
          have hs8'' := hs8'.look 0
          refine wp_bk_t (fun _ => ?_) (fun e => by cases e)
          refine wp_ldN_p (hs8''.look 65535) mem0 rfl (b.chas) ?_
          unfold f3_16
          have hs8''' := hs8''.look 0
          refine wp_bk_t (fun _ => ?_) (fun e => by cases e)
          refine wp_callD (sE a b _ (by have := hr_a (by simpa using hq2); omega) (by have := hr_a (by simpa using hq2); omega)) (refs_cons (a.refs 8) (refs_cons (b.refs 8) refs_nil)) hs8''' fun h9 hs9 => ?_
          refine wp_pn rfl ?_
          unfold f3_17
          refine wp_bk_t (fun _ => ?_) (fun e => by cases e)
          refine wp_ldN_p (hs9.look 65535) mem1 rfl (a.chas) ?_
          unfold f3_18
          have hs9' := hs9.look 0
          refine wp_bk_t (fun _ => ?_) (fun e => by cases e)
          refine wp_ldN_p (hs9'.look 65535) mem0 rfl (b.chas) ?_
          unfold f3_19
          have hs9'' := hs9'.look 0
          refine wp_bk_t (fun _ => ?_) (fun e => by cases e)
          refine wp_callD (rsE a b _ (by have := hr_a (by simpa using hq2); omega) (by have := hr_a (by simpa using hq2); omega)) (refs_cons (a.refs 8) (refs_cons (b.refs 8) refs_nil)) hs9'' fun h10 hs10 => ?_
          refine wp_pn rfl ?_
          unfold f3_20
          refine wp_bk_t (fun _ => ?_) (fun e => by cases e)
          refine wp_eqb_rfl (by kernel_rfl) ?_
          unfold f3_21
          have hs10' := hs10.look 0
          refine wp_pick (fun _ => ?_) (fun e => by cases e)
          refine wp_bk_t (fun _ => ?_) (fun e => by cases e)
          unfold f3_22
          have hs10'' := hs10'.look 0
          refine wp_bk_t (fun _ => ?_) (fun e => by cases e)
          unfold f3_23
          have hs10''' := hs10''.look 0
          refine wp_bk_t (fun _ => ?_) (fun e => by cases e)
          refine wp_callD (sT 400 _ l m _ _ (by have := hr_l (by simpa using hq6); omega) (by have := hr_l (by simpa using hq6); omega) (by have := hr_l (by simpa using hq6); omega)) (refs_cons (refs_sl _) (refs_cons (refs_sl _) refs_nil)) hs10''' fun h11 hs11 => ?_
          refine wp_pn rfl ?_
          unfold f3_24
          refine wp_bk_t (fun _ => ?_) (fun e => by cases e)
          unfold f3_25
          have hs11' := hs11.look 0
          refine wp_bk_t (fun _ => ?_) (fun e => by cases e)
          unfold f3_26
          have hs11'' := hs11'.look 0
          refine wp_bk_t (fun _ => ?_) (fun e => by cases e)
          refine wp_callD (rsT 400 _ l m _ _ (by have := hr_l (by simpa using hq6); omega) (by have := hr_l (by simpa using hq6); omega) (by have := hr_l (by simpa using hq6); omega)) (refs_cons (refs_sl _) (refs_cons (refs_sl _) refs_nil)) hs11'' fun h12 hs12 => ?_
          refine wp_pn rfl ?_
          unfold f3_27
          refine wp_bk_t (fun _ => ?_) (fun e => by cases e)
          refine wp_eqb_rfl (by kernel_rfl) ?_
          unfold f3_28
          have hs12' := hs12.look 0
          refine wp_pick (fun _ => ?_) (fun e => by cases e)
          refine wp_hb ?_
          have hs12'_ := hs12'.shut
          exact hk _ _ rfl
      · skip
        have hq10 := hq
        refine wp_pick (fun _ => ?_) (fun e => by rw [hq10] at e; cases e)
        unfold f3_30
        refine wp_if (fun _ => ?_) (fun e => by cases e)
        refine wp_call (told_ev _) ?_
        refine wp_pk rfl ?_
        exact hk _ _ rfl
    · skip
      have hq11 := hq
      unfold f3_33
      refine wp_pick (fun _ => ?_) (fun e => by rw [hq11] at e; cases e)
      refine wp_bk_f (fun e => by cases e) (fun _ => ?_)
      refine wp_pick (fun _ => ?_) (fun e => by cases e)
      unfold f3_30
      refine wp_if (fun _ => ?_) (fun e => by cases e)
      refine wp_call (told_ev _) ?_
      refine wp_pk rfl ?_
      exact hk _ _ rfl
  · skip
    have hq12 := hq
    unfold f3_32
    refine wp_pick (fun _ => ?_) (fun e => by rw [hq12] at e; cases e)
    refine wp_bk_f (fun e => by cases e) (fun _ => ?_)
    unfold f3_33
    refine wp_pick (fun _ => ?_) (fun e => by cases e)
    refine wp_bk_f (fun e => by cases e) (fun _ => ?_)
    refine wp_pick (fun _ => ?_) (fun e => by cases e)
    unfold f3_30
    refine wp_if (fun _ => ?_) (fun e => by cases e)
    refine wp_call (told_ev _) ?_
    refine wp_pk rfl ?_
    exact hk _ _ rfl
end Go.Zev.Dq
