/-
  Operation by operation: slices that are made, appends.
-/
import Derived.Deep.AppendSrc
import Derived.Great.BuildSlice
import Derived.Carry
import Derived.MapKept
import Derived.Test.YtkejeeabmknjiabDoorZ0

set_option linter.unusedSimpArgs false
set_option linter.unusedVariables false
namespace Go.Zev
open Go

section
variable {P : Program} {G : Bad} {h h' h1 h2 : Heap} {w w' w1 w2 : World} {φ φ' φ1 φ2 : Phi} {id : Nat} {o : Oper} {e : Operand → Value} {ρ : Operand → AV} {bad : Bad}

/-! ### One turn behind another -/
theorem Turn.trans (a : Turn G h w φ id h1 w1 φ1) (b : Turn G h1 w1 φ1 id h2 w2 φ2) : Turn G h w φ id h2 w2 φ2 :=
  ⟨b.rel, a.le.trans b.le, fun k hk hl => (b.keep k hk (Nat.lt_of_lt_of_le hl a.next)).trans (a.keep k hk hl), a.ext.trans b.ext a.own,
    fun k hk ho => a.own k hk (b.own k (Nat.lt_of_lt_of_le hk a.ext.size) ho), Nat.le_trans a.next b.next,
    b.win.1.trans a.win.1, b.win.2.1.trans a.win.2.1, b.win.2.2.trans a.win.2.2⟩
theorem Turn.goes (t : Turn G h w φ id h' w' φ') : Goes w (BadOf G h φ) w' (BadOf G h' φ') := t.ext.goes (fun k hk => .inr hk) (fun k hk hb => hb.imp (fun x => x) (t.own k hk))
theorem Turn.v (t : Turn G h w φ id h' w' φ') {x : AV} {v : Value} (hv : V w φ G h x v) : V w' φ' G h' x v := VRep.mono t.goes t.le _ _ hv
theorem Turn.vs (t : Turn G h w φ id h' w' φ') {x : List AV} {v : List Value} (hv : VReps w φ (BadOf G h φ) x v) : VReps w' φ' (BadOf G h' φ') x v := VReps.mono t.goes t.le _ _ hv
theorem Own.of_raw (hraw : ∀ k, h'.raw k = h.raw k) : Own h' φ = Own h φ := by
  funext k; unfold Own; simp only [hraw]
theorem HRel.of_raw (hr : HRel G h w φ) (hraw : ∀ k, h'.raw k = h.raw k) (hn : h'.next = h.next) : HRel G h' w φ := by
  have hb : BadOf G h' φ = BadOf G h φ := by unfold BadOf; rw [Own.of_raw hraw]
  refine ⟨fun b cb sz n h1 h2 => ?_, fun b h1 => hr.has b (by rw [← hraw]; exact h1), fun b h1 => by rw [hn]; exact hr.lt b h1, hr.gOld, fun b b' cb sz n sz' n' h1 h2 => hr.inj b b' cb sz n sz' n' (by rw [← hraw]; exact h1) (by rw [← hraw]; exact h2)⟩
  rw [hb, hraw]
  exact hr.blk b cb sz n (by rw [← hraw]; exact h1) h2
theorem Turn.of_raw (t : Turn G h w φ id h1 w' φ') (hraw : ∀ k, h2.raw k = h1.raw k) (hn : h2.next = h1.next) (hw : h2.lim = h1.lim ∧ h2.top = h1.top ∧ h2.mask = h1.mask) : Turn G h w φ id h2 w' φ' :=
  ⟨t.rel.of_raw hraw hn, t.le, t.keep, t.ext, by rw [Own.of_raw hraw]; exact t.own, by rw [hn]; exact t.next, hw.1.trans t.win.1, hw.2.1.trans t.win.2.1, hw.2.2.trans t.win.2.2⟩
/-- The same blocks, fewer that the heap owns; the world the same but for what is drawn. -/
theorem turn_less (hr : HRel G h w φ) (hw : w'.heap = w.heap) (ho : w'.os = w.os) (ht : w'.tape = w.tape) (hu : w'.output = w.output)
    (hraw : ∀ k, h'.raw k ≠ .none → h'.raw k = h.raw k) (hn : h'.next = h.next) (hwin : h'.lim = h.lim ∧ h'.top = h.top ∧ h'.mask = h.mask) : Turn G h w φ id h' w' φ := by
  have hown : ∀ k, Own h' φ k → Own h φ k := by
    rintro k ⟨b, sz, n, h1, h2⟩
    exact ⟨b, sz, n, by rw [← hraw b h1]; exact h1, h2⟩
  have hext : Ext (Own h φ) w w' := ⟨ho, ht, hu, by rw [hw]; exact Nat.le_refl _, fun k _ _ => by rw [hw], fun a => by unfold World.frozen?; rw [hw]⟩
  have hgo : Goes w (BadOf G h φ) w' (BadOf G h' φ) := hext.goes (fun k hk => .inr hk) (fun k _ hb => hb.imp (fun x => x) (hown k))
  refine ⟨⟨fun b cb sz n h1 h2 => ?_, fun b h1 => hr.has b (by rw [← hraw b h1]; exact h1), fun b h1 => by rw [hn]; exact hr.lt b h1, fun k hk => by rw [hw]; exact hr.gOld k hk, fun b b' cb sz n sz' n' h1 h2 => hr.inj b b' cb sz n sz' n' (by rw [← hraw b h1]; exact h1) (by rw [← hraw b' h2]; exact h2)⟩,
    PhiLe.refl _, fun _ _ _ => rfl, hext, fun k _ => hown k, by rw [hn]; exact Nat.le_refl _, hwin⟩
  obtain ⟨h3, h4, h5⟩ := hr.blk b cb sz n (by rw [← hraw b h1]; exact h1) h2
  rw [hraw b h1]
  exact ⟨h3, by rw [hw]; exact h4, h5.mono hgo (PhiLe.refl _) (by rw [hw])⟩
theorem turn_drew (hr : HRel G h w φ) : Turn G h w φ id h w.drew φ := turn_less hr rfl rfl rfl rfl (fun _ _ => rfl) rfl ⟨rfl, rfl, rfl⟩
theorem turn_kill (hr : HRel G h w φ) (b : Nat) : Turn G h w φ id (h.set b .none) w φ :=
  turn_less hr rfl rfl rfl rfl (fun k hk => by rw [Heap.raw_set] at hk ⊢; split at hk; exact absurd rfl hk; rename_i e; rw [if_neg e]) (Heap.next_set _ _ _) (Heap.win_set _ _ _)
/-- A block gets another number. -/
theorem turn_rename (hr : HRel G h w φ) (hid : φ id = none) (hle : id ≤ h.next) {b : Nat} {X : Blk} {y : Nat × Nat × Nat} (hraw : h.raw b = X) (hX : X ≠ .none) (hφ : φ b = some y) :
    Turn G h w φ id ((h.set b .none).new id X) w (φ.set id y) := by
  have hne : id ≠ b := by intro e; subst e; rw [hid] at hφ; cases hφ
  have hcap : b < cap := Heap.raw_cap (by rw [hraw]; exact hX)
  have hr1 : ∀ k, ((h.set b .none).new id X).raw k = if k = id ∧ id < cap then X else if k = b then .none else h.raw k := by
    intro k
    have e1 : (if k = b ∧ b < cap then Blk.none else h.raw k) = if k = b then .none else h.raw k := by
      by_cases e : k = b
      · rw [if_pos ⟨e, hcap⟩, if_pos e]
      · rw [if_neg (fun x => e x.1), if_neg e]
    rw [Heap.raw_new, Heap.raw_set, e1]
  have hp : PhiLe φ (φ.set id y) := Phi.set_le hid
  -- each block of the new heap is one of the old
  have src : ∀ k cb sz n, ((h.set b .none).new id X).raw k ≠ .none → (φ.set id y) k = some (cb, sz, n) → ∃ k', h.raw k' ≠ .none ∧ φ k' = some (cb, sz, n) ∧ ((h.set b .none).new id X).raw k = h.raw k' ∧ (k = id ∧ k' = b ∨ k ≠ id ∧ k' = k ∧ k ≠ b) := by
    intro k cb sz n h1 h2
    unfold Phi.set at h2
    rw [hr1] at h1 ⊢
    by_cases e : k = id
    · rw [if_pos e] at h2
      by_cases hc : id < cap
      · rw [if_pos ⟨e, hc⟩] at h1 ⊢
        exact ⟨b, by rw [hraw]; exact hX, hφ.trans h2, hraw.symm, .inl ⟨e, rfl⟩⟩
      · rw [if_neg (fun x => hc x.2), if_neg (by rw [e]; exact hne)] at h1
        exact absurd (Heap.raw_cap h1) (by rw [e]; exact hc)
    · rw [if_neg e] at h2
      rw [if_neg (fun x => e x.1)] at h1 ⊢
      by_cases e2 : k = b
      · rw [if_pos e2] at h1; exact absurd rfl h1
      · rw [if_neg e2] at h1 ⊢
        exact ⟨k, h1, h2, rfl, .inr ⟨e, rfl, e2⟩⟩
  have hown : ∀ k, Own ((h.set b .none).new id X) (φ.set id y) k → Own h φ k := by
    rintro k ⟨q, sz, n, h1, h2⟩
    obtain ⟨q', h3, h4, _⟩ := src q k sz n h1 h2
    exact ⟨q', sz, n, h3, h4⟩
  have hgo : Goes w (BadOf G h φ) w (BadOf G ((h.set b .none).new id X) (φ.set id y)) := (Ext.refl (Own h φ) w).goes (fun k hk => .inr hk) (fun k _ hb => hb.imp (fun x => x) (hown k))
  have hnx : ((h.set b .none).new id X).next = if id = h.next then id + 1 else h.next := by rw [Heap.next_new, Heap.next_set]
  refine ⟨⟨?_, ?_, ?_, hr.gOld, ?_⟩, hp, fun k hk _ => by unfold Phi.set; rw [if_neg hk], Ext.refl _ _, fun k _ => hown k, by rw [hnx]; split <;> omega, ?_⟩
  · intro k cb sz n h1 h2
    obtain ⟨k', h3, h4, h5, _⟩ := src k cb sz n h1 h2
    obtain ⟨h6, h7, h8⟩ := hr.blk k' cb sz n h3 h4
    rw [h5]
    exact ⟨h6, h7, h8.mono hgo hp rfl⟩
  · intro k h1
    rw [hr1] at h1
    unfold Phi.set
    by_cases e : k = id
    · rw [if_pos e]; simp
    · rw [if_neg e]
      rw [if_neg (fun x => e x.1)] at h1
      by_cases e2 : k = b
      · rw [if_pos e2] at h1; exact absurd rfl h1
      · rw [if_neg e2] at h1; exact hr.has k h1
  · intro k h1
    unfold Phi.set at h1
    rw [hnx]
    by_cases e : k = id
    · subst e; split <;> omega
    · rw [if_neg e] at h1
      have := hr.lt k h1
      split <;> omega
  · intro k k' cb sz n sz' n' h1 h2 h3 h4
    obtain ⟨q, a1, a2, _, a3⟩ := src k cb sz n h1 h3
    obtain ⟨q', b1, b2, _, b3⟩ := src k' cb sz' n' h2 h4
    have := hr.inj q q' cb sz n sz' n' a1 b1 a2 b2
    rcases a3 with ⟨rfl, rfl⟩ | ⟨_, rfl, a4⟩ <;> rcases b3 with ⟨rfl, rfl⟩ | ⟨_, rfl, b4⟩ <;> first | rfl | exact this | exact absurd this a4 | exact absurd this.symm b4
  · have h1 := Heap.win_new (h.set b .none) id X
    have h2 := Heap.win_set h b .none
    exact ⟨h1.1.trans h2.1, h1.2.1.trans h2.2.1, h1.2.2.trans h2.2.2⟩

/-! ### Cells in a row, as elements -/
/-- These cells, one behind the other, are these elements. -/
structure VEl (w : World) (φ : Phi) (bad : Bad) (sz : Nat) (el : List (List AV)) (cs : List Value) : Prop where
  len : cs.length = el.length * sz
  at' : ∀ (i : Nat) (q : List AV), el[i]? = some q → q.length = sz ∧ ∀ (j : Nat) (y : AV), q[j]? = some y → ∃ u, cs[i * sz + j]? = some u ∧ VRep w φ bad y u
theorem VEl.nil (sz : Nat) : VEl w φ bad sz [] [] := ⟨by simp, fun i q hq => by simp at hq⟩
theorem VEl.append {sz : Nat} {el el' : List (List AV)} {cs cs' : List Value} (a : VEl w φ bad sz el cs) (b : VEl w φ bad sz el' cs') : VEl w φ bad sz (el ++ el') (cs ++ cs') := by
  refine ⟨by rw [List.length_append, List.length_append, a.len, b.len, Nat.add_mul], fun i q hq => ?_⟩
  rw [List.getElem?_append] at hq
  by_cases hi : i < el.length
  · rw [if_pos hi] at hq
    obtain ⟨h1, h2⟩ := a.at' i q hq
    refine ⟨h1, fun j y hy => ?_⟩
    obtain ⟨u, h3, h4⟩ := h2 j y hy
    refine ⟨u, ?_, h4⟩
    rw [List.getElem?_append, if_pos (List.getElem?_eq_some_iff.1 h3).1]; exact h3
  · rw [if_neg hi] at hq
    obtain ⟨h1, h2⟩ := b.at' _ q hq
    refine ⟨h1, fun j y hy => ?_⟩
    obtain ⟨u, h3, h4⟩ := h2 j y hy
    refine ⟨u, ?_, h4⟩
    have hle : el.length * sz ≤ i * sz := Nat.mul_le_mul_right _ (by omega)
    rw [List.getElem?_append, if_neg (by rw [a.len]; omega), a.len, ← h3]
    congr 1
    rw [Nat.sub_mul]; omega
theorem VEl.mono {sz : Nat} {el : List (List AV)} {cs : List Value} {bad' : Bad} (g : Goes w bad w' bad') (hp : PhiLe φ φ') (a : VEl w φ bad sz el cs) : VEl w' φ' bad' sz el cs :=
  ⟨a.len, fun i q hq => ⟨(a.at' i q hq).1, fun j y hy => by obtain ⟨u, h1, h2⟩ := (a.at' i q hq).2 j y hy; exact ⟨u, h1, VRep.mono g hp _ _ h2⟩⟩⟩
theorem VEl.at_lt {sz : Nat} {el : List (List AV)} {cs : List Value} (hs : 0 < sz) (a : VEl w φ bad sz el cs) {k : Nat} (hk : k < cs.length) : ∃ i q y, el[i]? = some q ∧ q[k - i * sz]? = some y ∧ VRep w φ bad y cs[k] := by
  have hk' : k < el.length * sz := by rw [← a.len]; exact hk
  have hi : k / sz < el.length := (Nat.div_lt_iff_lt_mul hs).2 hk'
  have hm : k / sz * sz + k % sz = k := by rw [Nat.mul_comm]; exact Nat.div_add_mod k sz
  have hq := a.at' (k / sz) _ (List.getElem?_eq_getElem hi)
  have hj : k % sz < (el[k / sz]'hi).length := by rw [hq.1]; exact Nat.mod_lt _ hs
  obtain ⟨u, h1, h2⟩ := hq.2 (k % sz) _ (List.getElem?_eq_getElem hj)
  refine ⟨k / sz, _, (el[k / sz]'hi)[k % sz]'hj, List.getElem?_eq_getElem hi, ?_, ?_⟩
  · rw [show k - k / sz * sz = k % sz by omega]; exact List.getElem?_eq_getElem hj
  · rw [hm, List.getElem?_eq_getElem hk] at h1
    injection h1 with h1
    rw [h1]; exact h2
theorem VEl.ones {sz : Nat} {el : List (List AV)} {cs : List Value} (hs : 0 < sz) (a : VEl w φ bad sz el cs) (h1 : onesAll el = true) : ∀ v ∈ cs, v.oneCell' = true := by
  intro v hv
  obtain ⟨k, hk, rfl⟩ := List.getElem_of_mem hv
  obtain ⟨i, q, y, h2, h3, h4⟩ := a.at_lt hs hk
  unfold onesAll at h1
  rw [lall_eq, List.all_eq_true] at h1
  have h5 := h1 q (List.mem_of_getElem? h2)
  unfold AV.ones at h5
  rw [lall_eq, List.all_eq_true] at h5
  exact one_of (h5 y (List.mem_of_getElem? h3)) h4
/-- Cells that can be read, one by one. -/
theorem VEl.collect {sz : Nat} {el : List (List AV)} (hs : 0 < sz) (f : Nat → Option Value)
    (hf : ∀ (i : Nat) (q : List AV), el[i]? = some q → q.length = sz ∧ ∀ (j : Nat) (y : AV), q[j]? = some y → ∃ u, f (i * sz + j) = some u ∧ VRep w φ bad y u) :
    ∃ cs, VEl w φ bad sz el cs ∧ ∀ (j : Nat) (v : Value), cs[j]? = some v → f j = some v := by
  have hget : ∀ k, k < el.length * sz → ∃ u, f k = some u := by
    intro k hk'
    have hi : k / sz < el.length := (Nat.div_lt_iff_lt_mul hs).2 hk'
    have hm : k / sz * sz + k % sz = k := by rw [Nat.mul_comm]; exact Nat.div_add_mod k sz
    have hq := hf (k / sz) _ (List.getElem?_eq_getElem hi)
    have hj : k % sz < (el[k / sz]'hi).length := by rw [hq.1]; exact Nat.mod_lt _ hs
    obtain ⟨u, h1, h2⟩ := hq.2 (k % sz) _ (List.getElem?_eq_getElem hj)
    rw [hm] at h1
    exact ⟨u, h1⟩
  have hcs : ∀ k, k < el.length * sz → ((List.range (el.length * sz)).map fun j => (f j).getD undef)[k]? = f k := by
    intro k hk
    obtain ⟨u, hu⟩ := hget k hk
    rw [List.getElem?_map, List.getElem?_range hk, hu]
    simp [hu]
  refine ⟨(List.range (el.length * sz)).map fun j => (f j).getD undef, ⟨by simp, fun i q hq => ⟨(hf i q hq).1, fun j y hy => ?_⟩⟩, fun j v hj => ?_⟩
  · obtain ⟨u, h1, h2⟩ := (hf i q hq).2 j y hy
    refine ⟨u, ?_, h2⟩
    rw [hcs, h1]
    refine place_lt ?_ (List.getElem?_eq_some_iff.1 hq).1
    rw [← (hf i q hq).1]; exact (List.getElem?_eq_some_iff.1 hy).1
  · have hjl : j < el.length * sz := by have := (List.getElem?_eq_some_iff.1 hj).1; simpa using this
    rw [hcs j hjl] at hj
    exact hj
/-- A slice's elements. -/
theorem elems_v (hr : HRel G h w φ) {sz : Nat} (hs : 0 < sz) {x : AV} {u : Value} (hx : V w φ G h x u) {k : List (List AV) → Prop} (hk : elemsA False h sz x k) :
    ∃ el base c cs, k el ∧ u = .slice base el.length c ∧ el.length ≤ c ∧ VEl w φ (BadOf G h φ) sz el cs ∧ (cs ≠ [] → base ≠ none) ∧ ∀ a, base = some a → ∀ (j : Nat) (v : Value), cs[j]? = some v → w.cell? (a.add j) = some v := by
  unfold V at hx
  cases x with
  | nsl =>
    rw [VRep] at hx
    exact ⟨[], none, 0, [], hk, hx, Nat.le_refl _, VEl.nil sz, fun e => absurd rfl e, fun a e => by cases e⟩
  | es =>
    rw [VRep] at hx
    obtain ⟨a, rfl⟩ := hx
    exact ⟨[], a, 0, [], hk, rfl, Nat.le_refl _, VEl.nil sz, fun e => absurd rfl e, fun a e j v hj => by simp at hj⟩
  | fs s full el =>
    obtain ⟨h1, hk2⟩ := bi_prop hk
    have h1 := beq_iff.1 h1
    clear hk
    subst h1
    rw [VRep, FRep] at hx
    obtain ⟨a, n, rfl, h2, _, h3⟩ := hx
    by_cases he : el = []
    · subst he
      exact ⟨[], a, n, [], hk2, rfl, h2, VEl.nil s, fun e => absurd rfl e, fun a e j v hj => by simp at hj⟩
    · obtain ⟨b, off, rfl, h4⟩ := h3 he
      obtain ⟨cs, h5, h6⟩ := VEl.collect (w := w) (φ := φ) (bad := BadOf G h φ) (el := el) hs (fun k => w.cell? ⟨b, off + k, none⟩) (fun i q hq => by
        obtain ⟨h7, h8⟩ := FEls.at s b el off h4 i q hq
        refine ⟨h7, fun j y hy => ?_⟩
        obtain ⟨u, h9, _, h10⟩ := FCells.at b q _ h8 j y hy
        exact ⟨u, by rw [← Nat.add_assoc]; exact h9, FRep.toV _ _ _ h10⟩)
      refine ⟨el, _, n, cs, hk2, rfl, h2, h5, fun _ e => (by cases e), fun a e j v hj => ?_⟩
      injection e with e; subst e
      rw [Addr.add_lit]
      exact h6 j v hj
  | sl b s st len cp full =>
    obtain ⟨h1, hk2⟩ := bi_prop hk
    have h1 := beq_iff.1 h1
    clear hk
    subst h1
    cases hg : h.get b with
    | cells s' el =>
      rw [hg] at hk2
      obtain ⟨h2, hk2⟩ := bi_prop (c := lhas (ltake (ldrop el st) len) len) hk2
      have h2 := lhas_iff.1 h2
      rw [VRep] at hx
      obtain ⟨cb, n, a, m, hφ, rfl, _, h3, _, h4⟩ := hx
      rw [ltake_eq, ldrop_eq] at h2 hk2
      by_cases he : len = 0
      · subst he
        refine ⟨[], a, m, [], hk2, rfl, by simp, VEl.nil s, fun e => absurd rfl e, fun a e j v hj => by simp at hj⟩
      · obtain ⟨rfl, h5⟩ := h4 (.inl (by omega))
        have hraw := Heap.get_raw hg (by intro e; cases e)
        have hne : h.raw b ≠ .none := by rw [hraw]; intro e; cases e
        obtain ⟨_, _, hbr⟩ := hr.blk b cb s n hne hφ
        rw [hraw] at hbr
        obtain ⟨rfl, c, ty, hw, hcs, hel0, hel⟩ := hbr
        obtain ⟨cs, h7, h8⟩ := VEl.collect (w := w) (φ := φ) (bad := BadOf G h φ) (el := (el.drop st).take len) hs (fun k => w.cell? ⟨cb, st * s' + k, none⟩) (fun i q hq => by
          rw [List.getElem?_take] at hq
          split at hq
          · rw [List.getElem?_drop] at hq
            obtain ⟨h9, h10⟩ := hel _ q hq
            refine ⟨h9, fun j y hy => ?_⟩
            obtain ⟨u, h11, h12⟩ := h10 j y hy
            refine ⟨u, ?_, h12⟩
            unfold World.cell?
            rw [hw]
            rw [Nat.add_mul, Nat.add_assoc] at h11
            simpa using h11
          · cases hq)
        refine ⟨_, _, m, cs, hk2, by rw [h2], by rw [h2]; exact h3, h7, fun _ e => (by cases e), fun a e j v hj => ?_⟩
        injection e with e; subst e
        rw [Addr.add_lit]
        exact h8 j v hj
    | none => rw [hg] at hk2; exact hk2.elim
    | iter _ _ _ => rw [hg] at hk2; exact hk2.elim
    | map _ => rw [hg] at hk2; exact hk2.elim
  | _ => exact hk.elim
/-- What an append's second argument yields. -/
theorem src_of {sz : Nat} (hs : 0 < sz) {uy ey : TypeId} (hu : P.underlying uy = some (.slice ey)) {el : List (List AV)} {base : Option Addr} {c : Nat} {cs : List Value} (hv : VEl w φ bad sz el cs) (h1 : onesAll el = true)
    (hb : cs ≠ [] → base ≠ none) (hc : ∀ a, base = some a → ∀ (j : Nat) (v : Value), cs[j]? = some v → w.cell? (a.add j) = some v) : Src P sz uy (.slice base el.length c) el.length cs w := by
  cases base with
  | some a => exact Src.ofSlice w hu a _ c cs hv.len (hc a rfl) (hv.ones hs h1)
  | none =>
    have hcs : cs = [] := by cases cs; rfl; exact absurd rfl (hb (by simp))
    subst hcs
    have hel : el = [] := by
      have := hv.len
      cases el with
      | nil => rfl
      | cons q el => simp [Nat.succ_mul] at this; omega
    subst hel
    exact Src.ofNil w hu c
theorem olds_of {sz : Nat} {el : List (List AV)} {base : Option Addr} {c : Nat} {cs : List Value} (hs : 0 < sz) (hv : VEl w φ bad sz el cs)
    (hb : cs ≠ [] → base ≠ none) (hc : ∀ a, base = some a → ∀ (j : Nat) (v : Value), cs[j]? = some v → w.cell? (a.add j) = some v) :
    (Builtin.firstCells sz el.length (.slice base el.length c)).run P w.drew = .ok cs.toArray w.drew := by
  cases base with
  | some a => exact run_firstCells_some w.drew sz el.length a _ c cs hv.len (by simpa using hc a rfl)
  | none =>
    have hcs : cs = [] := by cases cs; rfl; exact absurd rfl (hb (by simp))
    subst hcs
    exact run_firstCells_none w.drew sz el.length el.length c
end
end Go.Zev
/-
  Operation by operation: appends, slices that are made.
-/
set_option linter.unusedSimpArgs false
set_option linter.unusedVariables false
namespace Go.Zev
open Go

section
variable {P : Program} {G : Bad} {h h' h1 h2 : Heap} {w w' w1 w2 : World} {φ φ' φ1 φ2 : Phi} {id : Nat} {o : Oper} {e : Operand → Value} {ρ : Operand → AV} {bad : Bad}

/-- A slice type, its element's type. -/
structure SlTy (P : Program) (ty : TypeId) (q : TypeId × Nat × List AV) : Prop where
  und : P.underlying ty = some (.slice q.1)
  pos : 0 < q.2.1
  ones : AV.ones q.2.2 = true
  len : q.2.2.length = q.2.1
  info : ∃ i v, P.info? q.1 = some i ∧ i.zero = some v ∧ i.size = q.2.1 ∧ i.bytes = bytesOf P q.1 ∧ q.2.2 = (AV.of v).cells
theorem slOf_some {ty : TypeId} {q : TypeId × Nat × List AV} (hq : slOf P ty = some q) : SlTy P ty q := by
  obtain ⟨t, ht, hq⟩ := ob_prop hq
  obtain ⟨zc, hz, hq⟩ := ob_prop hq
  injection hq with hq
  subst hq
  unfold zcells at hz
  cases hzo : zeroOf P t with
  | none => rw [hzo] at hz; cases hz
  | some z =>
    rw [hzo] at hz
    obtain ⟨h1, hz⟩ := bi_some (c := lhas z.cells (szOf P t) && Nat.blt 0 (szOf P t) && AV.ones z.cells) hz
    rw [Bool.and_eq_true, Bool.and_eq_true] at h1
    obtain ⟨i, v, hi, hv, rfl⟩ := zero_of hzo
    subst hz
    exact ⟨elemT_of ht, blt_iff.1 h1.1.2, h1.2, lhas_iff.1 h1.1.1, i, v, hi, hv, by unfold szOf infoOf; rw [hi], by unfold bytesOf infoOf; rw [hi], rfl⟩

theorem run_append_none {t tx ty e : TypeId} {i : TypeInfo} (ht : P.underlying t = some (.slice e)) (hi : P.info? e = some i) {base : Option Addr} {l c : Nat} {x : Value} (hs : Src P i.size tx x 0 [] w) (hl : l ≤ c) :
    (Builtin.append_ #[t, tx] ty #[.slice base l c, x]).run P w = .ok (.slice base l c) w := by
  rcases hs.kind with ⟨e', hk⟩ | hk <;>
    (cases base <;> simp [Builtin.append_, run_underlying ht, run_underlying hk, sizeOf, typeInfo, hi, hs.len, hl, hs.cells, storeCells])
theorem run_append_here {t tx ty e : TypeId} {i : TypeInfo} (ht : P.underlying t = some (.slice e)) (hi : P.info? e = some i) {g sLen sCap n : Nat} {cur : Array Value} {et : TypeId} {x : Value} {news : List Value}
    (hg : w.heap[g]? = some (.cells cur et (0, 0))) (hs : Src P i.size tx x n news w) (hroom : sLen + n ≤ sCap) (hfit : sLen * i.size + news.length ≤ cur.size) :
    (Builtin.append_ #[t, tx] ty #[.slice (some ⟨g, 0, none⟩) sLen sCap, x]).run P w =
      .ok (.slice (some ⟨g, 0, none⟩) (sLen + n) sCap) (w.setRow g (cur.toList.take (sLen * i.size) ++ news ++ cur.toList.drop (sLen * i.size + news.length)).toArray) := by
  have hst := run_storeCells_at P g (sLen * i.size) et news 0 cur w hg (by simpa using hfit) hs.one
  simp only [Nat.add_zero] at hst
  rcases hs.kind with ⟨e', hk⟩ | hk <;> simp [Builtin.append_, run_underlying ht, run_underlying hk, sizeOf, typeInfo, hi, hs.len, hroom, hs.cells, Addr.add_lit, hst]

theorem fits {len n sCap by' : Nat} (h1 : len ≤ most) (h2 : n ≤ most) (h3 : by' ≤ 2 ^ 20) (h4 : sCap < len + n) :
    ((len + n : Nat) : Int) ≤ 9223372036854775807 ∧ Builtin.nextslicecap (len + n) sCap * by' ≤ 281474976710656 := by
  have hm : most = 33554432 := rfl
  have h5 : (len + n) * by' ≤ 67108864 * 1048576 := Nat.mul_le_mul (by omega) (by omega)
  exact ⟨by omega, growslice_fits h4 (by omega)⟩

/-- A new row: what was there, what comes behind, zeros. -/
theorem append_grow (hr : HRel G h w φ) (hid : φ id = none) (hle : id ≤ h.next) {ty uy ot : TypeId} {q : TypeId × Nat × List AV} (hq : SlTy P ty q) (hby : bytesOf P q.1 ≤ 2 ^ 20) {el src : List (List AV)} {base : Option Addr} {sCap : Nat}
    {olds news : List Value} {x : Value} (h1 : VEl w φ (BadOf G h φ) q.2.1 el olds) (h2 : VEl w φ (BadOf G h φ) q.2.1 src news)
    (hold : (Builtin.firstCells q.2.1 el.length (.slice base el.length sCap)).run P w.drew = .ok olds.toArray w.drew) (hs : Src P q.2.1 uy x src.length news w)
    (hg : sCap < el.length + src.length) (hl1 : el.length ≤ most) (hl2 : src.length ≤ most) :
    ∃ v w' φ', (Builtin.append_ #[ty, uy] ot #[.slice base el.length sCap, x]).run P w = .ok v w' ∧ V w' φ' G (h.new id (.cells q.2.1 (el ++ src))) (appN id q.2.1 (el.length + src.length)) v ∧
      Turn G h w φ id (h.new id (.cells q.2.1 (el ++ src))) w' φ' := by
  obtain ⟨i, z, hi, hz, hsz, hb, hzc⟩ := hq.info
  obtain ⟨f1, f2⟩ := fits hl1 hl2 hby hg
  rw [← hsz] at hold hs
  have hrun := run_append_grow_src (P := P) w ty uy ot q.1 i z hq.und hi hz base el.length sCap olds hold x src.length news hs hg f1 (by rw [hb]; exact f2)
  have hge := grownCap_ge w (el.length + src.length) sCap q.1
  have hboth := h1.append h2
  have hsize : ((olds ++ news).toArray ++ Builtin.zeroCells z.cells (grownCap w (el.length + src.length) sCap q.1 - (el.length + src.length))).size = grownCap w (el.length + src.length) sCap q.1 * q.2.1 := by
    have hzs : z.cells.size = q.2.1 := by
      have := (of_cells (w := w) (φ := φ) (G := G) (h := h) z).length
      rw [← hzc, hq.len] at this
      simpa using this.symm
    rw [Array.size_append, size_zeroCells, hzs]
    have := hboth.len
    simp only [List.length_append] at this
    simp only [List.size_toArray, List.length_append, this, ← Nat.add_mul]
    congr 1; omega
  have t1 := turn_drew (id := id) hr
  have t2 := turn_new t1.rel hid hle (sz := q.2.1) (el := el ++ src) (c := (olds ++ news).toArray ++ Builtin.zeroCells z.cells (grownCap w (el.length + src.length) sCap q.1 - (el.length + src.length))) (ty := q.1)
    (by rw [hsize, List.length_append]; exact Nat.mul_le_mul_right _ hge) (fun k r hk => by
      have := (hboth.mono t1.goes t1.le).at' k r hk
      refine ⟨this.1, fun j y hy => ?_⟩
      obtain ⟨u, h3, h4⟩ := this.2 j y hy
      refine ⟨u, ?_, h4⟩
      have hlt := (List.getElem?_eq_some_iff.1 h3).1
      rw [Array.getElem?_append, if_pos (by simpa using hlt), List.getElem?_toArray]
      exact h3)
  refine ⟨_, _, _, hrun, ?_, t1.trans t2⟩
  unfold V appN
  rw [VRep]
  refine ⟨w.heap.size, _, _, grownCap w (el.length + src.length) sCap q.1, by unfold Phi.set; rw [if_pos rfl]; rfl, rfl, hge, hge, (fun e => by cases e), fun _ => ⟨by simp, ?_⟩⟩
  rw [hsize]; simp
/-- In its place. -/
theorem append_here (hr : HRel G h w φ) (hid : φ id = none) (hle : id ≤ h.next) {ty uy ot : TypeId} {q : TypeId × Nat × List AV} (hq : SlTy P ty q) {b cb n sCap : Nat} {el src : List (List AV)}
    {news : List Value} {x : Value} (hraw : h.raw b = .cells q.2.1 el) (hφ : φ b = some (cb, q.2.1, n)) (h2 : VEl w φ (BadOf G h φ) q.2.1 src news) (hs : Src P q.2.1 uy x src.length news w)
    (hroom : el.length + src.length ≤ sCap) (hcap : sCap * q.2.1 ≤ n) :
    ∃ v w' φ', (Builtin.append_ #[ty, uy] ot #[.slice (some ⟨cb, 0, none⟩) el.length sCap, x]).run P w = .ok v w' ∧ V w' φ' G ((h.set b .none).new id (.cells q.2.1 (el ++ src))) (appN id q.2.1 (el.length + src.length)) v ∧
      Turn G h w φ id ((h.set b .none).new id (.cells q.2.1 (el ++ src))) w' φ' := by
  obtain ⟨i, z, hi, hz, hsz, hb, hzc⟩ := hq.info
  have hne : h.raw b ≠ .none := by rw [hraw]; intro e; cases e
  obtain ⟨_, _, hbr⟩ := hr.blk b cb q.2.1 n hne hφ
  rw [hraw] at hbr
  obtain ⟨_, c, et, hw, hcs, hel0, hel⟩ := hbr
  have hfit : el.length * q.2.1 + news.length ≤ c.size := by
    rw [h2.len, ← Nat.add_mul, hcs]
    exact Nat.le_trans (Nat.mul_le_mul_right _ hroom) hcap
  have hrun := run_append_here (P := P) (w := w) (ty := ot) hq.und hi hw (by rw [hsz]; exact hs) hroom (by rw [hsz]; exact hfit)
  rw [hsz] at hrun
  have t1 := turn_set (id := id) (el' := el ++ src) (c' := (c.toList.take (el.length * q.2.1) ++ news ++ c.toList.drop (el.length * q.2.1 + news.length)).toArray) hr hraw hφ hw (by rw [size_splice _ _ _ hfit, hcs])
    (by rw [List.length_append]; exact Nat.le_trans (Nat.mul_le_mul_right _ hroom) hcap) (fun k r hk => by
      rw [List.getElem?_append] at hk
      by_cases hkl : k < el.length
      · rw [if_pos hkl] at hk
        obtain ⟨h3, h4⟩ := hel k r hk
        refine ⟨h3, fun j y hy => ?_⟩
        obtain ⟨u, h5, h6⟩ := h4 j y hy
        refine ⟨u, ?_, h6⟩
        have hj : j < q.2.1 := by rw [← h3]; exact (List.getElem?_eq_some_iff.1 hy).1
        have := place_lt (sz := q.2.1) hj hkl
        rw [get_splice _ _ _ _ hfit, if_neg (by omega)]
        exact h5
      · rw [if_neg hkl] at hk
        obtain ⟨h3, h4⟩ := h2.at' _ r hk
        refine ⟨h3, fun j y hy => ?_⟩
        obtain ⟨u, h5, h6⟩ := h4 j y hy
        refine ⟨u, ?_, h6⟩
        have hle2 : el.length * q.2.1 ≤ k * q.2.1 := Nat.mul_le_mul_right _ (by omega)
        have hlt := (List.getElem?_eq_some_iff.1 h5).1
        rw [Nat.sub_mul] at hlt h5
        rw [get_splice _ _ _ _ hfit, if_pos (by omega), ← h5]
        congr 1; omega)
  have hraw1 : (h.set b (.cells q.2.1 (el ++ src))).raw b = .cells q.2.1 (el ++ src) := by rw [Heap.raw_set, if_pos ⟨rfl, Heap.raw_cap hne⟩]
  have t2 := turn_rename t1.rel hid (by rw [Heap.next_set]; exact hle) hraw1 (fun e => by cases e) hφ
  have t3 := (t1.trans t2).of_raw (h2 := (h.set b .none).new id (.cells q.2.1 (el ++ src))) (by
      intro k
      simp only [Heap.raw_new, Heap.raw_set]
      by_cases e : k = b ∧ b < cap
      · simp [e]
      · simp [e]) (by simp only [Heap.next_new, Heap.next_set]) (by
      have a1 := Heap.win_new (h.set b .none) id (.cells q.2.1 (el ++ src))
      have a2 := Heap.win_new ((h.set b (.cells q.2.1 (el ++ src))).set b .none) id (.cells q.2.1 (el ++ src))
      have b1 := Heap.win_set h b .none
      have b2 := Heap.win_set (h.set b (.cells q.2.1 (el ++ src))) b .none
      have b3 := Heap.win_set h b (.cells q.2.1 (el ++ src))
      simp only [a1, a2, b1, b2, b3, and_self])
  refine ⟨_, _, _, hrun, ?_, t3⟩
  unfold V appN
  rw [VRep]
  exact ⟨cb, n, _, sCap, by unfold Phi.set; rw [if_pos rfl], rfl, hroom, hroom, (fun e => by cases e), fun _ => ⟨by simp, by omega⟩⟩

theorem ifSl_v {x : AV} {u : Value} (hs : isSl x = true) (hx : V w φ G h x u) : ∃ base l c, u = .slice base l c ∧ l ≤ c := by
  unfold V at hx
  cases x <;> first | (cases hs; done) | skip
  · rw [VRep] at hx; exact ⟨none, 0, 0, hx, Nat.le_refl _⟩
  · rw [VRep] at hx; obtain ⟨a, rfl⟩ := hx; exact ⟨a, 0, 0, rfl, Nat.le_refl _⟩
  · rw [VRep] at hx; obtain ⟨cb, n, a, m, _, rfl, _, h3, _⟩ := hx; exact ⟨a, _, m, rfl, h3⟩
  · rw [VRep, FRep] at hx; obtain ⟨a, n, rfl, h3, _⟩ := hx; exact ⟨a, _, n, rfl, h3⟩
/-- The post of an operation that may make a block. -/
def Makes (P : Program) (G : Bad) (h : Heap) (w : World) (φ : Phi) (id : Nat) (s : Sem Value) (av : AV) (h' : Heap) : Prop :=
  ∃ v w' φ', s.run P w = .ok v w' ∧ V w' φ' G h' av v ∧ Turn G h w φ id h' w' φ'
theorem append_v (hr : HRel G h w φ) (hid : φ id = none) (hle : id ≤ h.next) {ty uy ot : TypeId} {x y : AV} {u v : Value} (hx : V w φ G h x u) (hy : V w φ G h y v) {k : AV → Heap → Prop} (hk : appendA P False h id ty uy x y k) :
    ∃ av h', k av h' ∧ Makes P G h w φ id (Builtin.append_ #[ty, uy] ot #[u, v]) av h' := by
  obtain ⟨q, hq, hk⟩ := on_prop hk
  obtain ⟨hb, hk⟩ := bi_prop (c := isSlT P uy && Nat.ble (bytesOf P q.1) (2 ^ 20)) hk
  rw [Bool.and_eq_true] at hb
  obtain ⟨ey, huy⟩ := isSlT_of hb.1
  have hby := ble_iff.1 hb.2
  have hq := slOf_some hq
  obtain ⟨src, sb, sc, news, hk, rfl, _, hv2, hb2, hc2⟩ := elems_v hr hq.pos hy hk
  obtain ⟨i, z, hi, hz, hsz, hbb, hzc⟩ := hq.info
  cases src with
  | nil =>
    obtain ⟨h1, hk⟩ := bi_prop (c := isSl x) hk
    obtain ⟨base, l, c, rfl, hlc⟩ := ifSl_v h1 hx
    have hs : Src P i.size uy (.slice sb 0 sc) 0 [] w := by
      have := src_of (P := P) (w := w) (c := sc) hq.pos huy hv2 rfl hb2 hc2
      rw [hsz]
      have hn : news = [] := by have := hv2.len; simpa using this
      rw [hn] at this
      exact this
    exact ⟨x, h, hk, _, w, φ, run_append_none hq.und hi hs hlc, hx, Turn.refl id hr⟩
  | cons s0 srest =>
    obtain ⟨h1, hk⟩ := bi_prop (c := onesAll (s0 :: srest) && Nat.ble (llen (s0 :: srest)) most) hk
    rw [Bool.and_eq_true] at h1
    have hl2 := ble_iff.1 h1.2
    rw [llen_eq] at hl2 hk
    generalize hsrc : s0 :: srest = src at *
    have hpos : 0 < src.length := by rw [← hsrc]; simp
    have hs := src_of (P := P) (w := w) (c := sc) hq.pos huy hv2 h1.1 hb2 hc2
    have nilcase : ∀ a : Option Addr, u = .slice a 0 0 → k (appN id q.2.1 src.length) (h.new id (.cells q.2.1 src)) →
        ∃ av h', k av h' ∧ Makes P G h w φ id (Builtin.append_ #[ty, uy] ot #[u, .slice sb src.length sc]) av h' := by
      intro a hu hk
      subst hu
      have hold : (Builtin.firstCells q.2.1 ([] : List (List AV)).length (.slice a ([] : List (List AV)).length 0)).run P w.drew = Result.ok (([] : List Value).toArray) w.drew :=
        olds_of (w := w) hq.pos (VEl.nil (w := w) (φ := φ) (bad := BadOf G h φ) q.2.1) (fun e => absurd rfl e) (fun a e j v hj => by simp at hj)
      have := append_grow (ot := ot) hr hid hle hq hby (VEl.nil q.2.1) hv2 hold hs (by simpa using hpos) (Nat.zero_le _) hl2
      simp only [List.nil_append, List.length_nil, Nat.zero_add] at this
      exact ⟨_, _, hk, this⟩
    unfold V at hx
    cases x with
    | nsl => rw [VRep] at hx; exact nilcase none hx hk
    | es => rw [VRep] at hx; obtain ⟨a, rfl⟩ := hx; exact nilcase a rfl hk
    | fs s full el =>
      cases full with
      | false => exact hk.elim
      | true =>
        obtain ⟨h3, hk2⟩ := bi_prop (c := Nat.beq s q.2.1 && onesAll el && Nat.ble (llen el) most) hk
        rw [Bool.and_eq_true, Bool.and_eq_true] at h3
        have h4 := beq_iff.1 h3.1.1
        subst h4
        have hl1 := ble_iff.1 h3.2
        rw [llen_eq] at hl1
        have hx2 : VRep w φ (BadOf G h φ) (.fs q.2.1 true el) u := hx
        obtain ⟨el', base, c, olds, rfl, rfl, hlc, hv1, hb1, hc1⟩ := elems_v (k := fun l => l = el) hr hq.pos hx (by show bi (Nat.beq q.2.1 q.2.1) (el = el) False; rw [beq_iff.2 rfl])
        have hc : c = el'.length := by
          rw [VRep, FRep] at hx2
          obtain ⟨a, n, e, _, e2, _⟩ := hx2
          injection e with e3 e4 e5
          rw [e5]; exact e2 rfl
        rw [llen_eq, lapp_eq] at hk2
        exact ⟨_, _, hk2, append_grow (ot := ot) hr hid hle hq hby hv1 hv2 (olds_of hq.pos hv1 hb1 hc1) hs (by omega) hl1 hl2⟩
    | sl b s st len cp full =>
      obtain ⟨h3, hk2⟩ := bi_prop (c := Nat.beq s q.2.1 && Nat.ble len most) hk
      rw [Bool.and_eq_true] at h3
      have h4 := beq_iff.1 h3.1
      have hl1 := ble_iff.1 h3.2
      clear hk
      subst h4
      cases hg : h.get b with
      | cells s' el =>
        rw [hg] at hk2
        have hx2 : VRep w φ (BadOf G h φ) (.sl b q.2.1 st len cp full) u := hx
        cases full with
        | true =>
          obtain ⟨h5, hk3⟩ := bi_prop (c := lhas (ltake (ldrop el st) len) len) hk2
          obtain ⟨el', base, c, olds, e1, rfl, hlc, hv1, hb1, hc1⟩ := elems_v (k := fun l => l = ltake (ldrop el st) len) hr hq.pos hx (by
            dsimp only [elemsA]
            rw [hg, beq_iff.2 rfl]
            show bi (lhas (ltake (ldrop el st) len) len) _ False
            rw [h5])
          have h6 := lhas_iff.1 h5
          rw [← e1] at h6 hk3
          subst h6
          have hc : c = el'.length := by
            rw [VRep] at hx2
            obtain ⟨cb, n, a, m, _, e, _, _, e2, _⟩ := hx2
            injection e with e3 e4 e5
            rw [e5]; exact e2 rfl
          rw [lapp_eq] at hk3
          exact ⟨_, _, hk3, append_grow (ot := ot) hr hid hle hq hby hv1 hv2 (olds_of hq.pos hv1 hb1 hc1) hs (by omega) hl1 hl2⟩
        | false =>
          obtain ⟨h5, hk3⟩ := bi_prop (c := Nat.beq st 0 && lhas el len) hk2
          rw [Bool.and_eq_true] at h5
          have h6 := beq_iff.1 h5.1
          have h7 := lhas_iff.1 h5.2
          subst h6 h7
          obtain ⟨el', base, c, olds, e1, rfl, hlc, hv1, hb1, hc1⟩ := elems_v (k := fun l => l = el) hr hq.pos hx (by
            dsimp only [elemsA]
            rw [hg, beq_iff.2 rfl]
            show bi (lhas (ltake (ldrop el 0) el.length) el.length) _ False
            rw [ldrop_eq, ltake_eq, List.drop_zero, List.take_length, lhas_iff.2 rfl])
          subst e1
          rw [lapp_eq] at hk3
          rw [VRep] at hx2
          obtain ⟨cb, n, a, m, hφ, e, _, _, _, e2⟩ := hx2
          injection e with e3 e4 e5
          subst e3 e5
          obtain ⟨rfl, hcap⟩ := e2 (.inr rfl)
          simp only [Nat.zero_mul, Nat.zero_add] at hcap hc1 hb1
          have hraw := Heap.get_raw hg (by intro e; cases e)
          have hss : s' = q.2.1 := by
            have hne : h.raw b ≠ .none := by rw [hraw]; intro e; cases e
            obtain ⟨_, _, hbr⟩ := hr.blk b cb q.2.1 n hne hφ
            rw [hraw] at hbr
            exact hbr.1
          subst hss
          by_cases hroom : el'.length + src.length ≤ c
          · refine ⟨_, _, hk3, ?_⟩
            have := append_here (P := P) (ot := ot) hr hid hle hq hraw hφ hv2 hs hroom hcap
            unfold Makes
            simpa using this
          · obtain ⟨v', w', φ', r1, r2, r3⟩ := append_grow (ot := ot) (turn_kill (id := id) hr b).rel hid (by rw [Heap.next_set]; exact hle) hq hby (hv1.mono (turn_kill (id := id) hr b).goes (PhiLe.refl _)) (hv2.mono (turn_kill (id := id) hr b).goes (PhiLe.refl _))
              (olds_of (c := c) hq.pos hv1 hb1 (by simpa using hc1)) hs (by omega) hl1 hl2
            refine ⟨_, _, hk3, v', w', φ', ?_, r2, (turn_kill hr b).trans r3⟩
            simpa using r1
      | none => rw [hg] at hk2; exact hk2.elim
      | iter _ _ _ => rw [hg] at hk2; exact hk2.elim
      | map _ => rw [hg] at hk2; exact hk2.elim
    | _ => exact hk.elim

/-! ### Slices that are made -/
theorem zero_el {q : TypeId × Nat × List AV} {ty : TypeId} (hq : SlTy P ty q) {z : Value} {i : TypeInfo} (hi : P.info? q.1 = some i) (hz : i.zero = some z) (m k : Nat) (hkm : k ≤ m) :
    ∀ (a : Nat) (r : List AV), (lrep q.2.2 k)[a]? = some r → r.length = q.2.1 ∧ ∀ (j : Nat) (y : AV), r[j]? = some y → ∃ u, (madeCells z.cells (m * q.2.1))[a * q.2.1 + j]? = some u ∧ V w φ G h y u := by
  intro a r hr
  obtain ⟨i', z', hi', hz', _, _, hzc⟩ := hq.info
  rw [hi] at hi'; injection hi' with hi'; subst hi'
  rw [hz] at hz'; injection hz' with hz'; subst hz'
  rw [lrep_eq] at hr
  have ha : a < k := by have := (List.getElem?_eq_some_iff.1 hr).1; simpa using this
  rw [List.getElem?_replicate, if_pos ha] at hr
  injection hr with hr
  subst hr
  refine ⟨hq.len, fun j y hy => ?_⟩
  have hj : j < q.2.1 := by rw [← hq.len]; exact (List.getElem?_eq_some_iff.1 hy).1
  rw [hzc] at hy
  obtain ⟨u, h1, h2⟩ := (of_cells (w := w) (φ := φ) (G := G) (h := h) z).at j y hy
  refine ⟨u, ?_, h2⟩
  have hzs : z.cells.size = q.2.1 := by
    have := (of_cells (w := w) (φ := φ) (G := G) (h := h) z).length
    rw [← hzc, hq.len] at this
    simpa using this.symm
  have hlt := place_lt (sz := q.2.1) (i := a) (j := j) (m := m) hj (by omega)
  unfold madeCells
  rw [Array.getElem?_map, Array.getElem?_range, if_pos hlt, Option.map_some, hzs, Nat.mul_comm a, Nat.mul_add_mod, Nat.mod_eq_of_lt hj]
  congr 1
  rw [Array.getElem?_toList] at h1
  rw [getElem!_def, h1]
theorem makeSlice_v (hr : HRel G h w φ) (hid : φ id = none) (hle : id ≤ h.next) {ty : TypeId} {l c : AV} {u v : Value} (hl : V w φ G h l u) (hc : V w φ G h c v) {k : AV → Heap → Prop} (hk : makeSliceA P False h id ty l c k) :
    ∃ av h', k av h' ∧ Makes P G h w φ id (Instr.makeSlice ty u v) av h' := by
  obtain ⟨q, hq, hk⟩ := on_prop hk
  obtain ⟨n, hn, hk⟩ := on_prop hk
  obtain ⟨m, hm, hk⟩ := on_prop hk
  obtain ⟨h1, hk9⟩ := bi_prop (c := Nat.ble n m && Nat.ble m most && Nat.ble (bytesOf P q.1) (2 ^ 20)) hk
  rw [Bool.and_eq_true, Bool.and_eq_true] at h1
  have h2 := ble_iff.1 h1.1.1
  have h3 := ble_iff.1 h1.1.2
  have h4 := ble_iff.1 h1.2
  have hq := slOf_some hq
  obtain ⟨i, z, hi, hz, hsz, hb, hzc⟩ := hq.info
  obtain ⟨jl, rfl⟩ := natOf_some hn
  obtain ⟨jc, rfl⟩ := natOf_some hm
  have hl := V_i.1 hl
  have hc := V_i.1 hc
  subst hl hc
  have hmm : most = 33554432 := rfl
  have hbm : i.bytes * m ≤ 1048576 * 33554432 := Nat.mul_le_mul (by omega) (by omega)
  have hrun := run_make (P := P) w ty q.1 i z hq.und hi hz jl jc (.ofNat n) (.ofNat m) (by simp) (by simpa using h2) (by
    have : ((i.bytes * m : Nat) : Int) ≤ 281474976710656 := by omega
    rwa [Int.natCast_mul] at this) (by simp; omega)
  simp only [Int.ofNat_eq_natCast, Int.toNat_natCast, hsz] at hrun
  refine ⟨_, _, hk9, _, _, _, hrun, ?_, turn_new hr hid hle (ty := q.1) (by rw [size_madeCells, lrep_eq, List.length_replicate]; exact Nat.mul_le_mul_right _ h2) (zero_el hq hi hz m n h2)⟩
  unfold V
  rw [VRep]
  exact ⟨w.heap.size, _, _, m, by unfold Phi.set; rw [if_pos rfl], rfl, h2, h2, fun e => (beq_iff.1 e).symm, fun _ => ⟨by simp, by rw [size_madeCells]; simp⟩⟩
theorem fillE_v (ho : ∀ x, V w φ G h (ρ x) (e x)) (sz len : Nat) {k : List (List AV) → Prop} :
    ∀ (ps : List (Nat × Operand)) (el : List (List AV)) (cs : Array Value), VEl w φ (BadOf G h φ) sz el cs.toList → el.length = len → fillE False sz len ρ k ps el →
      ∃ el' cs', k el' ∧ VEl w φ (BadOf G h φ) sz el' cs'.toList ∧ el'.length = len ∧ Instr.fill (fun i => some (i * sz, sz)) cs (ps.map fun p => (p.1, e p.2)) = some cs'
  | [], el, cs, hv, hl, hk => ⟨el, cs, hk, hv, hl, rfl⟩
  | p :: ps, el, cs, hv, hl, hk => by
    have hk' : on False (ucells (ρ p.2)) fun c => bi (lhas c sz && Nat.blt p.1 len) (fillE False sz len ρ k ps (lset el c p.1)) False := hk
    obtain ⟨c, h2, hk'⟩ := on_prop hk'
    obtain ⟨h3, hk'⟩ := bi_prop hk'
    rw [Bool.and_eq_true] at h3
    obtain ⟨h4, _⟩ := ucells_v (ho p.2) h2
    have h5 := lhas_iff.1 h3.1
    have h6 := blt_iff.1 h3.2
    have hsz : (e p.2).cells.size = sz := by rw [← h5, h4.length]; simp
    have hlen := hv.len
    have hfit : p.1 * sz + sz ≤ cs.size := by
      have : (p.1 + 1) * sz ≤ el.length * sz := Nat.mul_le_mul_right _ (by omega)
      rw [Nat.succ_mul] at this
      rw [← hlen] at this
      simpa using this
    have hfit' : p.1 * sz + (e p.2).cells.toList.length ≤ cs.size := by simpa [hsz] using hfit
    rw [List.map_cons, fill_step _ cs p.1 (e p.2) _ (p.1 * sz) sz rfl hsz hfit]
    refine fillE_v ho sz len ps _ _ ⟨?_, fun a r har => ?_⟩ (by rw [lset_eq, List.length_set]; exact hl) hk'
    · rw [lset_eq, List.length_set, ← hlen]
      have := size_splice cs (e p.2).cells.toList (p.1 * sz) hfit'
      simp only [Array.length_toList] at this ⊢
      rw [hsz] at this
      exact this
    · rw [lset_eq, List.getElem?_set] at har
      have hg : ∀ k, (cs.toList.take (p.1 * sz) ++ (e p.2).cells.toList ++ cs.toList.drop (p.1 * sz + sz))[k]? = if p.1 * sz ≤ k ∧ k < p.1 * sz + sz then (e p.2).cells.toList[k - p.1 * sz]? else cs[k]? := by
        intro k
        have := get_splice cs (e p.2).cells.toList (p.1 * sz) k hfit'
        rw [List.getElem?_toArray] at this
        simp only [Array.length_toList, hsz] at this
        exact this
      by_cases hia : p.1 = a
      · subst hia
        rw [if_pos rfl, if_pos (by omega)] at har
        injection har with har
        subst har
        refine ⟨h5, fun j y hy => ?_⟩
        obtain ⟨u, h7, h8⟩ := h4.at j y hy
        have hj : j < sz := by rw [← h5]; exact (List.getElem?_eq_some_iff.1 hy).1
        refine ⟨u, ?_, h8⟩
        rw [hg, if_pos (by omega), ← h7]
        congr 1; omega
      · rw [if_neg hia] at har
        obtain ⟨h7, h8⟩ := hv.at' a r har
        refine ⟨h7, fun j y hy => ?_⟩
        obtain ⟨u, h9, h10⟩ := h8 j y hy
        have hj : j < sz := by rw [← h7]; exact (List.getElem?_eq_some_iff.1 hy).1
        refine ⟨u, ?_, h10⟩
        rw [hg, if_neg, ← h9]
        · simp
        · intro hc
          exact hia (place_inj (i := p.1) (j := a * sz + j - p.1 * sz) (i' := a) (j' := j) (sz := sz) (by omega) hj (by omega)).1
theorem buildSlice_v (hr : HRel G h w φ) (ho : ∀ x, V w φ G h (ρ x) (e x)) (hid : φ id = none) (hle : id ≤ h.next) {ty : TypeId} {len : Nat} {ps : Array (Nat × Operand)} {k : AV → Heap → Prop} (hk : buildSliceA P False h id ty len ρ ps.toList k) :
    ∃ av h', k av h' ∧ Makes P G h w φ id (Instr.buildSlice ty len (ps.map fun (i, x) => (i, e x))) av h' := by
  obtain ⟨q, hq, hk⟩ := on_prop hk
  obtain ⟨h1, hk⟩ := bi_prop hk
  have h1 := ble_iff.1 h1
  have hq := slOf_some hq
  obtain ⟨i, z, hi, hz, hsz, hb, hzc⟩ := hq.info
  have hz0 := zero_el (w := w) (φ := φ) (G := G) (h := h) hq hi hz len len (Nat.le_refl _)
  obtain ⟨el, cs, hk, hv, hl, hf⟩ := fillE_v ho q.2.1 len ps.toList (lrep q.2.2 len) (madeCells z.cells (len * q.2.1)) ⟨by rw [lrep_eq]; simp [size_madeCells], fun a r hr => ⟨(hz0 a r hr).1, fun j y hy => by
    obtain ⟨u, h3, h4⟩ := (hz0 a r hr).2 j y hy
    exact ⟨u, by simpa using h3, h4⟩⟩⟩ (by rw [lrep_eq]; simp) hk
  have hcs : cs.size = len * q.2.1 := by have := hv.len; rw [hl] at this; simpa using this
  have hrun : (Instr.buildSlice ty len (ps.map fun (i, x) => (i, e x))).run P w = .ok (.slice (some ⟨w.heap.size, 0, none⟩) len len) (w.alloc (.cells cs q.1)) := by
    by_cases hpos : len * q.2.1 = 0
    · have hmz : madeCells z.cells (len * q.2.1) = #[] := by rw [hpos]; unfold madeCells; simp
      rw [hmz] at hf
      have hf' : Instr.fill (fun i => some (i * q.2.1, q.2.1)) #[] (ps.map fun (i, x) => (i, e x)).toList = some cs := by rw [Array.toList_map]; exact hf
      simp [Instr.buildSlice, run_underlying hq.und, sizeOf, typeInfo, zeroValue, hi, hz, hsz, hpos, newRow] at hf' ⊢
      have h0 : Array.map (fun x : Nat => (default : Value)) (Array.range 0) = #[] := by simp
      rw [h0, hf']
      simp
    · refine run_buildSlice (P := P) w ty q.1 len _ cs i z hq.und hi hz (by rw [hsz]; omega) (by rw [hsz]; exact hpos) ?_
      rw [Array.toList_map, hsz]
      exact hf
  refine ⟨_, _, hk, _, _, _, hrun, ?_, turn_new hr hid hle (ty := q.1) (by rw [hl, hcs]; exact Nat.le_refl _) (fun a r hr => ⟨(hv.at' a r hr).1, fun j y hy => by
    obtain ⟨u, h3, h4⟩ := (hv.at' a r hr).2 j y hy
    exact ⟨u, by simpa using h3, h4⟩⟩)⟩
  unfold V
  rw [VRep]
  exact ⟨w.heap.size, _, _, len, by unfold Phi.set; rw [if_pos rfl], rfl, Nat.le_refl _, Nat.le_refl _, fun _ => rfl, fun _ => ⟨by simp, by rw [hcs]; simp⟩⟩
end
end Go.Zev

/-
  Maps with integer keys; strings byte by byte: what the operations do.
-/
set_option linter.unusedSimpArgs false
set_option linter.unusedVariables false
namespace Go.Zev
open Go

section
variable {P : Program} {G : Bad} {h h' : Heap} {w w' : World} {φ φ' : Phi} {id : Nat} {o : Oper} {bad : Bad} {e : Operand → Value} {ρ : Operand → AV}
theorem ext_allocO (O : Bad) (w : World) {ob : Obj} (hf : ∀ a : Addr, a.block = w.heap.size → (w.alloc ob).frozen? a = w.frozen? a) : Ext O w (w.alloc ob) :=
  ⟨rfl, rfl, rfl, by simp, fun k hk _ => heap_alloc_old w _ k hk, fun a => by
    by_cases hlt : a.block < w.heap.size
    · unfold World.frozen?
      rw [heap_alloc_old w _ _ hlt]
    · by_cases he : a.block = w.heap.size
      · exact hf a he
      · unfold World.frozen?
        have h1 : w.heap[a.block]? = none := Array.getElem?_eq_none (by omega)
        have h2 : (w.alloc ob).heap[a.block]? = none := Array.getElem?_eq_none (by simp; omega)
        rw [h1, h2]⟩
theorem frozen_map (w : World) (es : Array MapEntry) (c : Nat) (a : Addr) (he : a.block = w.heap.size) : (w.alloc (.map es c)).frozen? a = w.frozen? a := by
  unfold World.frozen?
  have h1 : w.heap[a.block]? = none := Array.getElem?_eq_none (by omega)
  rw [h1, he, heap_alloc_new]
theorem does_makeMap (hr : HRel G h w φ) (hid : φ id = none) (hle : id ≤ h.next) {t : TypeId} (hop : o.op = .makeMap t none) {k : AV → Heap → Prop} (hk : k (.mp id) (h.new id (.map []))) : ∃ av h', k av h' ∧ Does P G h w φ id o e av h' := by
  refine ⟨_, _, hk, .map (some w.heap.size), w.alloc (.map #[] 0), φ.set id (w.heap.size, 0, 0), .inl ?_, ?_, turn_newO hr hid hle (ext_allocO _ w (frozen_map w #[] 0)) fun w' φ' bad' _ _ hw => ⟨#[], 0, hw, rfl, fun i q hq => by simp at hq⟩⟩
  · simp only [execOp, hop]
    rfl
  · rw [VRep]
    exact ⟨w.heap.size, 0, 0, by unfold Phi.set; rw [if_pos rfl], rfl⟩
/-- A block that is no row of cells is written. -/
abbrev World.put (w : World) (cb : Nat) (ob : Obj) : World := { w with heap := w.heap.setIfInBounds cb ob }
theorem put_at {w : World} {cb : Nat} {ob : Obj} (hlt : cb < w.heap.size) : (World.put w cb ob).heap[cb]? = some ob := by
  simp [World.put, Array.getElem?_setIfInBounds, hlt]
theorem put_other {w : World} {cb k : Nat} {ob : Obj} (hk : k ≠ cb) : (World.put w cb ob).heap[k]? = w.heap[k]? := by
  show (w.heap.setIfInBounds cb ob)[k]? = w.heap[k]?
  rw [Array.getElem?_setIfInBounds, if_neg (fun e => hk e.symm)]
theorem turn_setO (hr : HRel G h w φ) {b cb sz n : Nat} {X X' : Blk} {ob : Obj} (hraw : h.raw b = X) (hX : X ≠ .none) (hφ : φ b = some (cb, sz, n))
    (hf : ∀ a : Addr, a.block = cb → (World.put w cb ob).frozen? a = w.frozen? a)
    (hb : ∀ w' φ' bad', Goes w (BadOf G h φ) w' bad' → PhiLe φ φ' → w'.heap[cb]? = some ob → BRep w' φ' bad' cb sz n X') :
    Turn G h w φ id (h.set b X') (World.put w cb ob) φ := by
  have hne : h.raw b ≠ .none := by rw [hraw]; exact hX
  have hcap := Heap.raw_cap hne
  have hraw' : ∀ k, (h.set b X').raw k = if k = b then X' else h.raw k := by
    intro k
    rw [Heap.raw_set]
    by_cases e : k = b
    · rw [if_pos ⟨e, hcap⟩, if_pos e]
    · rw [if_neg (fun x => e x.1), if_neg e]
  have hn' : ∀ k, (h.set b X').raw k ≠ .none → h.raw k ≠ .none := by
    intro k hk
    rw [hraw'] at hk
    by_cases e : k = b
    · rw [e]; exact hne
    · rw [if_neg e] at hk; exact hk
  have hO : Own h φ cb := ⟨b, sz, n, hne, hφ⟩
  have hown : ∀ k, Own (h.set b X') φ k → Own h φ k := by
    rintro k ⟨b', s', n', h1, h2⟩
    exact ⟨b', s', n', hn' _ h1, h2⟩
  have hlt : cb < w.heap.size := (hr.blk b cb sz n hne hφ).2.1
  have hext : Ext (Own h φ) w (World.put w cb ob) := ⟨rfl, rfl, rfl, by simp [World.put], fun k hk hno => put_other fun e => hno (e ▸ hO), fun a => by
    by_cases he : a.block = cb
    · exact hf a he
    · unfold World.frozen?
      rw [put_other he]⟩
  have hgo : Goes w (BadOf G h φ) (World.put w cb ob) (BadOf G (h.set b X') φ) := hext.goes (fun k hk => .inr hk) (fun k _ hb => hb.imp (fun x => x) (hown k))
  have hsz : (World.put w cb ob).heap.size = w.heap.size := by simp [World.put]
  refine ⟨⟨?_, fun b' hb' => hr.has b' (hn' _ hb'), fun b' hb' => by rw [Heap.next_set]; exact hr.lt b' hb', fun k hk => by rw [hsz]; exact hr.gOld k hk, ?_⟩, PhiLe.refl _, fun _ _ _ => rfl, hext, fun k _ => hown k, by rw [Heap.next_set]; exact Nat.le_refl _, Heap.win_set _ _ _⟩
  · intro b' cb' s' n' hb' hφ'
    obtain ⟨h1, h2, h3⟩ := hr.blk b' cb' s' n' (hn' _ hb') hφ'
    refine ⟨h1, by rw [hsz]; exact h2, ?_⟩
    rw [hraw']
    by_cases e : b' = b
    · subst e
      rw [if_pos rfl]
      rw [hφ] at hφ'
      injection hφ' with e1; injection e1 with e1 e2; injection e2 with e2 e3
      subst e1 e2 e3
      exact hb _ _ _ hgo (PhiLe.refl _) (put_at hlt)
    · rw [if_neg e]
      refine h3.mono hgo (PhiLe.refl _) (put_other fun e2 => e ?_)
      subst e2
      exact hr.inj b' b cb' s' n' sz n (hn' _ hb') hne hφ' hφ
  · intro b1 b2 cb' s n s' n' h1 h2 h3 h4
    exact hr.inj b1 b2 cb' s n s' n' (hn' _ h1) (hn' _ h2) h3 h4
theorem findNow_none (j : IntKind) (n : Int) : ∀ (es : List (AV × AV)) (ents : List MapEntry) (i : Nat), ents.length = es.length → (∀ (i : Nat) (q : AV × AV), es[i]? = some q → ∃ e, ents[i]? = some e ∧ VRep w φ bad q.1 e.key) → lall (keyNe j n) es = true → Instr.findNow (.int j) (.int j n) ents i = some none
  | [], ents, i, hl, _, _ => by
    cases ents with
    | nil => rfl
    | cons => simp at hl
  | q :: es, [], i, hl, _, _ => by simp at hl
  | q :: es, en :: ents, i, hl, hr, hk => by
    have hk' : bi (keyNe j n q) (lall (keyNe j n) es) false = true := hk
    cases hq : keyNe j n q with
    | false => rw [hq] at hk'; cases hk'
    | true =>
      rw [hq] at hk'
      obtain ⟨e0, h1, h2⟩ := hr 0 q rfl
      simp at h1; subst h1
      have ih := findNow_none j n es ents (i + 1) (by simpa using hl) (fun m q' hq' => hr (m + 1) q' (by simpa using hq')) hk'
      unfold keyNe at hq
      split at hq
      · rename_i l m hqm
        rw [Bool.and_eq_true] at hq
        have e1 := ikEq_iff.1 hq.1
        subst e1
        rw [hqm, VRep] at h2
        unfold Instr.findNow
        rw [h2]
        have hne : (n == m) = false := by
          have := hq.2
          rw [ieq_eq] at this
          simpa using this
        simp only [Instr.sameNow, if_true, hne]
        exact ih
      · cases hq
theorem mapOfT_some {t : TypeId} {q : IntKind × TypeId} (h : mapOfT P t = some q) : ∃ kt, P.underlying t = some (.map kt q.2) ∧ P.underlying kt = some (.int q.1) := by
  unfold mapOfT at h
  split at h
  · rename_i kt et h1
    split at h
    · rename_i j h2
      injection h with h
      subst h
      exact ⟨kt, by simpa [undOf] using h1, by simpa [undOf] using h2⟩
    · cases h
  · cases h
theorem does_insert (hr : HRel G h w φ) (ho : ∀ x, V w φ G h (ρ x) (e x)) {t : TypeId} {m key x : Operand} (hop : o.op = .insert t m key x) {k : AV → Heap → Prop} {call : Call' Prop}
    (hk : evInsert P t m key x False call ρ h id k) : ∃ av h', k av h' ∧ Does P G h w φ id o e av h' := by
  obtain ⟨q, hq, hk⟩ := on_prop (k := fun q : IntKind × TypeId => insertN False h q.1 (ρ m) (ρ key) (ρ x) (k .un)) hk
  obtain ⟨kt, ht, hkt⟩ := mapOfT_some hq
  have hm := ho m
  have hkey := ho key
  have hx := ho x
  unfold insertN at hk
  split at hk
  · rename_i b hb
    split at hk
    · rename_i es hg
      split at hk
      · rename_i l n hkv
        obtain ⟨h1, hk⟩ := bi_prop hk
        rw [Bool.and_eq_true] at h1
        have e1 := ikEq_iff.1 h1.1
        unfold V at hm hkey hx
        rw [hb, VRep] at hm
        obtain ⟨cb, sz, nn, hφ, hme⟩ := hm
        rw [hkv, VRep] at hkey
        have hraw := Heap.get_raw hg (by intro e; cases e)
        have hne : h.raw b ≠ .none := by rw [hraw]; intro e; cases e
        obtain ⟨_, hlt, hbr⟩ := hr.blk b cb sz nn hne hφ
        rw [hraw] at hbr
        obtain ⟨ents, clock, hw, hsz, hent⟩ := hbr
        have hfn := findNow_none (w := w) (φ := φ) (bad := BadOf G h φ) q.1 n es ents.toList 0 (by simpa using hsz) (fun i q hq => by
          obtain ⟨e, q1, q2, _⟩ := hent i q hq
          exact ⟨e, by simpa using q1, q2⟩) h1.2
        refine ⟨_, _, hk, undef, World.put w cb (.map (ents.push { key := .int l n, val := e x, born := clock }) (clock + 1)), φ, .inr ⟨?_, rfl⟩, by rw [VRep]; trivial, turn_setO hr hraw (by intro e; cases e) hφ ?_ ?_⟩
        · subst e1
          simp [execOp, hop, hme, hkey, Instr.mapUpdate, run_underlying ht, MapKept.run_getObj_map hw, MapKept.run_checkKey hkt (show MapKept.IsKey (.int q.1) (.int q.1 n) from rfl), MapKept.run_findKey hkt hfn, MapKept.run_setObj_map _ hw, Result.andThen]
        · intro a ha
          unfold World.frozen?
          rw [ha, hw, put_at hlt]
        · intro w' φ' bad' g hp hw'
          refine ⟨_, _, hw', by rw [lapp_eq]; simp [hsz], fun i q' hq' => ?_⟩
          rw [lapp_eq, List.getElem?_append] at hq'
          by_cases hi : i < es.length
          · rw [if_pos hi] at hq'
            obtain ⟨e', q1, q2, q3⟩ := hent i q' hq'
            have hi2 : i < ents.size := by omega
            refine ⟨e', by rw [Array.getElem?_push, if_neg (by omega)]; exact q1, VRep.mono g hp _ _ q2, VRep.mono g hp _ _ q3⟩
          · rw [if_neg hi] at hq'
            have hi0 : i - es.length = 0 := by
              have := (List.getElem?_eq_some_iff.1 hq').1
              simp at this; omega
            rw [hi0] at hq'
            injection hq' with hq'
            subst hq'
            have hie : i = ents.size := by omega
            exact ⟨_, by rw [Array.getElem?_push, if_pos hie], by show VRep _ _ _ (.i l n) _; rw [VRep], VRep.mono g hp _ _ hx⟩
      · exact hk.elim
    · exact hk.elim
  · exact hk.elim
theorem findNow_get (j : IntKind) (n : Int) : ∀ (es : List (AV × AV)) (ents : List MapEntry) (i : Nat) (r : Option AV), ents.length = es.length → (∀ (i : Nat) (q : AV × AV), es[i]? = some q → ∃ e, ents[i]? = some e ∧ VRep w φ bad q.1 e.key ∧ VRep w φ bad q.2 e.val) → keyGet j n es = some r →
    (r = none → Instr.findNow (.int j) (.int j n) ents i = some none) ∧ ∀ v, r = some v → ∃ i' u, Instr.findNow (.int j) (.int j n) ents i = some (some (i', u)) ∧ VRep w φ bad v u
  | [], ents, i, r, hl, _, hk => by
    cases ents with
    | nil =>
      have hk : some (none : Option AV) = some r := hk
      injection hk with hk
      subst hk
      exact ⟨fun _ => rfl, fun v hv => by cases hv⟩
    | cons => simp at hl
  | q :: es, [], i, r, hl, _, _ => by simp at hl
  | q :: es, en :: ents, i, r, hl, hr, hk => by
    have hk' : (match q.1 with | .i l m => bi (ikEq j l) (bi (ieq n m) (some (some q.2)) (keyGet j n es)) none | _ => none) = some r := hk
    obtain ⟨e0, h1, h2, h3⟩ := hr 0 q rfl
    simp at h1; subst h1
    split at hk'
    · rename_i l m hqm
      obtain ⟨e1, hk2⟩ := bi_none hk'
      clear hk' hk
      have e1 := ikEq_iff.1 e1
      subst e1
      rw [hqm, VRep] at h2
      cases hq : ieq n m with
      | true =>
        rw [hq, bi_true] at hk2
        injection hk2 with hk2
        subst hk2
        refine ⟨fun e => (by cases e), fun v hv => ?_⟩
        injection hv with hv
        subst hv
        refine ⟨i, en.val, ?_, h3⟩
        unfold Instr.findNow
        rw [h2]
        have hne : (n == m) = true := by rw [ieq_eq] at hq; exact hq
        simp only [Instr.sameNow, if_true, hne]
      | false =>
        rw [hq, bi_false] at hk2
        have ih := findNow_get j n es ents (i + 1) r (by simpa using hl) (fun m q' hq' => hr (m + 1) q' (by simpa using hq')) hk2
        have hne : (n == m) = false := by rw [ieq_eq] at hq; exact hq
        have hst : Instr.findNow (.int j) (.int j n) (en :: ents) i = Instr.findNow (.int j) (.int j n) ents (i + 1) := by
          conv => lhs; unfold Instr.findNow
          rw [h2]
          simp only [Instr.sameNow, if_true, hne]
        rw [hst]
        exact ih
    · cases hk'
theorem does_lookup (hr : HRel G h w φ) (ho : ∀ x, V w φ G h (ρ x) (e x)) {t : TypeId} {m key : Operand} {ok : Bool} (hop : o.op = .lookup t m key ok) {k : AV → Heap → Prop} {call : Call' Prop}
    (hk : evLookup P t m key ok False call ρ h id k) : ∃ av h', k av h' ∧ Does P G h w φ id o e av h' := by
  obtain ⟨q, hq, hk⟩ := on_prop (k := fun q : IntKind × TypeId => lookupN False h q.1 (zeroOf P q.2) (ρ m) (ρ key) ok fun v => k v h) hk
  obtain ⟨kt, ht, hkt⟩ := mapOfT_some hq
  have hm := ho m
  have hkey := ho key
  unfold lookupN at hk
  split at hk
  · rename_i b hb
    split at hk
    · rename_i es hg
      split at hk
      · rename_i l n hkv
        obtain ⟨h1, hk⟩ := bi_prop hk
        have e1 := ikEq_iff.1 h1
        obtain ⟨r, hr1, hk⟩ := on_prop hk
        unfold V at hm hkey
        rw [hb, VRep] at hm
        obtain ⟨cb, sz, nn, hφ, hme⟩ := hm
        rw [hkv, VRep] at hkey
        have hraw := Heap.get_raw hg (by intro e; cases e)
        have hne : h.raw b ≠ .none := by rw [hraw]; intro e; cases e
        obtain ⟨_, hlt, hbr⟩ := hr.blk b cb sz nn hne hφ
        rw [hraw] at hbr
        obtain ⟨ents, clock, hw, hsz, hent⟩ := hbr
        obtain ⟨f1, f2⟩ := findNow_get (w := w) (φ := φ) (bad := BadOf G h φ) q.1 n es ents.toList 0 r (by simpa using hsz) (fun i q hq => by
          obtain ⟨e, q1, q2⟩ := hent i q hq
          exact ⟨e, by simpa using q1, q2⟩) hr1
        have tup : ∀ (v : AV) (u : Value) (c : Bool), V w φ G h v u → V w φ G h (okTup ok v c) (if ok then .tuple #[u, .bool c] else u) := fun v u c hv => by
          cases ok
          · exact hv
          · exact V_tup2 hv (V_b.2 rfl)
        subst e1
        cases r with
        | none =>
          obtain ⟨z, hz, hk⟩ := on_prop hk
          obtain ⟨i, v, hi, hv, rfl⟩ := zero_of hz
          refine ⟨_, _, hk, Does.quiet hr (v := if ok then .tuple #[v, .bool false] else v) ?_ (tup _ _ _ (of_rep v))⟩
          simp [execOp, hop, hme, hkey, Instr.lookup, run_underlying ht, MapKept.run_getObj_map hw, MapKept.run_checkKey hkt (show MapKept.IsKey (.int q.1) (.int q.1 n) from rfl), MapKept.run_findKey hkt (f1 rfl), run_zero hi hv, Result.andThen]
          try rfl
        | some v =>
          obtain ⟨i', u, hf, hv⟩ := f2 v rfl
          refine ⟨_, _, hk, Does.quiet hr (v := if ok then .tuple #[u, .bool true] else u) ?_ (tup _ _ _ hv)⟩
          simp [execOp, hop, hme, hkey, Instr.lookup, run_underlying ht, MapKept.run_getObj_map hw, MapKept.run_checkKey hkt (show MapKept.IsKey (.int q.1) (.int q.1 n) from rfl), MapKept.run_findKey hkt hf, Result.andThen]
          try rfl
      · exact hk.elim
    · exact hk.elim
  · exact hk.elim
theorem frozen_iter (w : World) (s : ByteArray) (c : Nat) (a : Addr) (he : a.block = w.heap.size) : (w.alloc (.stringIter s c)).frozen? a = w.frozen? a := by
  unfold World.frozen?
  have h1 : w.heap[a.block]? = none := Array.getElem?_eq_none (by omega)
  rw [h1, he, heap_alloc_new]
theorem does_range (hr : HRel G h w φ) (ho : ∀ x, V w φ G h (ρ x) (e x)) (hid : φ id = none) (hle : id ≤ h.next) {t : TypeId} {x : Operand} (hop : o.op = .range t x) {k : AV → Heap → Prop} {call : Call' Prop}
    (hk : evRange P t x False call ρ h id k) : ∃ av h', k av h' ∧ Does P G h w φ id o e av h' := by
  obtain ⟨h1, hk⟩ := bi_prop (c := isStr P t) hk
  have hx := ho x
  split at hk
  · rename_i len val hxv
    unfold V at hx
    rw [hxv, VRep] at hx
    obtain ⟨q, hq, hl, hc⟩ := hx
    have ht : P.underlying t = some .string := by
      unfold isStr undOf at h1
      split at h1
      · assumption
      · cases h1
    refine ⟨_, _, hk, .pointer (some ⟨w.heap.size, 0, none⟩), w.alloc (.stringIter q 0), φ.set id (w.heap.size, 0, 0), .inl ?_, ?_, turn_newO hr hid hle (ext_allocO _ w (frozen_iter w q 0)) fun w' φ' bad' _ _ hw => ⟨q, hw, hl, hc⟩⟩
    · simp [execOp, hop, hq, Instr.range, run_underlying ht, Result.andThen, newObj, Sem.run]
      try rfl
    · rw [VRep]
      exact ⟨w.heap.size, 0, 0, by unfold Phi.set; rw [if_pos rfl], rfl⟩
  · exact hk.elim
theorem does_next (hr : HRel G h w φ) (ho : ∀ x, V w φ G h (ρ x) (e x)) {x : Operand} {s : Bool} (hop : o.op = .next x s) {k : AV → Heap → Prop} {call : Call' Prop}
    (hk : evNext x s False call ρ h id k) : ∃ av h', k av h' ∧ Does P G h w φ id o e av h' := by
  obtain ⟨hs, hk2⟩ := bi_prop (c := s) (p := nextN False h (ρ x) k) hk
  clear hk
  subst hs
  have hx := ho x
  unfold nextN at hk2
  split at hk2
  · rename_i b hb
    split at hk2
    · rename_i len val pos hg
      unfold V at hx
      rw [hb, VRep] at hx
      obtain ⟨cb, sz, nn, hφ, hxe⟩ := hx
      have hraw := Heap.get_raw hg (by intro e; cases e)
      have hne : h.raw b ≠ .none := by rw [hraw]; intro e; cases e
      obtain ⟨_, hlt, hbr⟩ := hr.blk b cb sz nn hne hφ
      rw [hraw] at hbr
      obtain ⟨q, hw, hl, hc⟩ := hbr
      have hget : (getObj cb).run P w = .ok (.stringIter q pos) w := by simp [getObj, Sem.run, hw]
      cases hlp : Nat.blt pos len with
      | false =>
        rw [hlp] at hk2
        have hnp : ¬ pos < q.size := fun hh => by rw [blt_iff.2 (by omega)] at hlp; cases hlp
        refine ⟨_, _, hk2, Does.quiet hr (v := .tuple #[.bool false]) ?_ ?_⟩
        · simp [execOp, hop, hxe, Instr.next, hget, hnp, Result.andThen]
        · show VRep _ _ _ (.tup [.b false]) _
          rw [VRep]
          exact ⟨_, rfl, by rw [VReps]; exact ⟨_, _, rfl, V_b.2 rfl, by rw [VReps]⟩⟩
      | true =>
        rw [hlp] at hk2
        obtain ⟨h8, hk2⟩ := bi_prop hk2
        have h8 := blt_iff.1 h8
        have hp : pos < q.size := by have := blt_iff.1 hlp; omega
        have hb0 : (q.get! pos).toNat = sIdx val pos := by
          have h1 : pos < q.data.toList.length := by simpa using hp
          rw [← hc, ← code_at _ pos h1]
          congr 1
          have h2 : pos < q.data.size := hp
          simp [ByteArray.get!]
          exact getElem!_pos q.data pos h2
        have hdec : Utf8.decode q pos = (sIdx val pos, 1) := by
          unfold Utf8.decode
          dsimp only
          simp only [Nat.add_zero, hb0]
          exact if_pos (by omega)
        have hset : (setObj cb (.stringIter q (pos + 1))).run P w = .ok () (World.put w cb (.stringIter q (pos + 1))) := by simp [setObj, Sem.run, hw]
        refine ⟨_, _, hk2, .tuple #[.bool true, goInt pos, .int .i32 (sIdx val pos)], World.put w cb (.stringIter q (pos + 1)), φ, .inl ?_, ?_, turn_setO hr hraw (by intro e; cases e) hφ ?_ ?_⟩
        · simp [execOp, hop, hxe, Instr.next, hget, hp, hdec, hset, Result.andThen]
        · rw [VRep]
          refine ⟨_, rfl, ?_⟩
          rw [VReps]; refine ⟨_, _, rfl, V_b.2 rfl, ?_⟩
          rw [VReps]; refine ⟨_, _, rfl, by rw [VRep]; rfl, ?_⟩
          rw [VReps]; refine ⟨_, _, rfl, by rw [VRep]; rfl, ?_⟩
          rw [VReps]
        · intro a ha
          unfold World.frozen?
          rw [ha, hw, put_at hlt]
        · intro w' φ' bad' g hp' hw'
          exact ⟨q, hw', hl, hc⟩
    · exact hk2.elim
  · exact hk2.elim
end
end Go.Zev

/-
  The table of the operations: what each does.
-/
set_option linter.unusedSimpArgs false
set_option linter.unusedVariables false
namespace Go.Zev
open Go

section
variable {P : Program} {G : Bad} {h : Heap} {w : World} {φ : Phi} {id : Nat} {o : Oper} {e : Operand → Value} {ρ : Operand → AV}

theorem Makes.does {s : Sem Value} {av : AV} {h' : Heap} (hm : Makes P G h w φ id s av h') (hop : execOp e o = (do pure (.value (← s)))) : Does P G h w φ id o e av h' := by
  obtain ⟨v, w', φ', h1, h2, h3⟩ := hm
  refine ⟨v, w', φ', .inl ?_, h2, h3⟩
  rw [hop, Sem.run_bind, h1, Result.andThen_ok]
  rfl
theorem V.list (ho : ∀ x, V w φ G h (ρ x) (e x)) : ∀ (l : List Operand), VReps w φ (BadOf G h φ) (lmap ρ l) (l.map e)
  | [] => by rw [VReps.eq_def]; rfl
  | x :: l => by
    show VReps _ _ _ (ρ x :: lmap ρ l) _
    rw [VReps]
    exact ⟨e x, l.map e, rfl, ho x, V.list ho l⟩
theorem iface_v {t : TypeId} {x : AV} {u : Value} {k : AV → Prop} (hx : V w φ G h x u) (hk : bi (isConc P t) (k (.ifc t x)) False) : ∃ av, k av ∧ Yields P w φ G h (Instr.makeInterface t u) av := by
  obtain ⟨h1, hk⟩ := bi_prop hk
  obtain ⟨d, hd, hn⟩ := conc_of h1
  refine ⟨_, hk, .iface t u, ?_, by unfold V; rw [VRep]; exact ⟨u, rfl, hx⟩⟩
  unfold Instr.makeInterface
  rw [Sem.run_bind, run_underlying hd w, Result.andThen_ok]
  cases d <;> first | rfl | exact absurd rfl (hn _)
theorem func_v (ho : ∀ x, V w φ G h (ρ x) (e x)) (f : Fn) (a c : Array Operand) : Yields P w φ G h (Instr.makeFunc f (a.map e) (c.map e)) (.fn f (lmap ρ a.toList) (lmap ρ c.toList)) := by
  refine ⟨_, rfl, ?_⟩
  unfold V; rw [VRep]
  exact ⟨_, _, rfl, by rw [Array.toList_map]; exact V.list ho _, by rw [Array.toList_map]; exact V.list ho _⟩
theorem minmax_v {big : Bool} {x y : AV} {u v : Value} {k : AV → Prop} {ts : Array TypeId} {t : TypeId} (hx : V w φ G h x u) (hy : V w φ G h y v) (hk : minmax False big x y k) :
    ∃ av, k av ∧ Yields P w φ G h (bif big then Builtin.max_ ts t #[u, v] else Builtin.min_ ts t #[u, v]) av := by
  cases x <;> first | exact hk.elim | skip
  cases y <;> first | exact hk.elim | skip
  rename_i j a l b
  obtain ⟨h1, hk2⟩ := bi_prop (c := ikEq j l) hk
  clear hk
  have h1 := ikEq_iff.1 h1
  subst h1
  have hx := V_i.1 hx
  have hy := V_i.1 hy
  subst hx hy
  refine ⟨_, hk2, .int j (bi (ilt a b) (bi big b a) (bi big a b)), ?_, by unfold V; rw [VRep]⟩
  cases big
  · show Sem.run P ([Value.int j b].foldlM Builtin.min2 (.int j a)) w = _
    simp only [List.foldlM_cons, List.foldlM_nil, Builtin.min2, ilt_eq, bind_pure]
    show Sem.run P (pure _) w = _
    rw [Sem.run_pure]
    congr 2
    by_cases hlt : a < b
    · simp [hlt]; omega
    · simp [hlt]; omega
  · show Sem.run P ([Value.int j b].foldlM Builtin.max2 (.int j a)) w = _
    simp only [List.foldlM_cons, List.foldlM_nil, Builtin.max2, ilt_eq, bind_pure]
    show Sem.run P (pure _) w = _
    rw [Sem.run_pure]
    congr 2
    by_cases hlt : a < b
    · simp [hlt]
    · simp [hlt]

/-- An operation that calls a function value. -/
def IsCall (o : Oper) (ρ : Operand → AV) (h : Heap) (call : Call' Prop) (k : AV → Heap → Prop) : Prop :=
  ∃ c f, o.op = .call c ∧ c.callee = .value f ∧ callFn False (ρ f) (lmap ρ c.args.toList) call h k
theorem table_v (hr : HRel G h w φ) (ho : ∀ x, V w φ G h (ρ x) (e x)) (hid : φ id = none) (hle : id ≤ h.next) {k : AV → Heap → Prop} {call : Call' Prop} (hk : table P o.op False call ρ h id k) :
    (∃ av h', k av h' ∧ Does P G h w φ id o e av h') ∨ IsCall o ρ h call k := by
  have quiet : ∀ {s : Sem Value}, (∃ av, k av h ∧ Yields P w φ G h s av) → execOp e o = (do pure (.value (← s))) → (∃ av h', k av h' ∧ Does P G h w φ id o e av h') ∨ IsCall o ρ h call k :=
    fun hq he => by obtain ⟨av, h1, h2⟩ := hq; exact .inl ⟨av, h, h1, h2.does hr he⟩
  have makes : ∀ {s : Sem Value}, (∃ av h', k av h' ∧ Makes P G h w φ id s av h') → execOp e o = (do pure (.value (← s))) → (∃ av h', k av h' ∧ Does P G h w φ id o e av h') ∨ IsCall o ρ h call k :=
    fun hq he => by obtain ⟨av, h', h1, h2⟩ := hq; exact .inl ⟨av, h', h1, h2.does he⟩
  cases hop : o.op with
  | move x => rw [hop] at hk; exact .inl ⟨_, h, hk, does_move hr ho (.inl hop)⟩
  | makeMap t r =>
    rw [hop] at hk
    cases r with
    | none => exact .inl (does_makeMap hr hid hle hop hk)
    | some _ => exact hk.elim
  | insert t m key x => rw [hop] at hk; exact .inl (does_insert (call := call) hr ho hop hk)
  | lookup t m key ok => rw [hop] at hk; exact .inl (does_lookup (call := call) hr ho hop hk)
  | range t x => rw [hop] at hk; exact .inl (does_range (call := call) hr ho hid hle hop hk)
  | next x s => rw [hop] at hk; exact .inl (does_next (call := call) hr ho hop hk)
  | assign x => rw [hop] at hk; exact .inl ⟨_, h, hk, does_move hr ho (.inr hop)⟩
  | pick c a b => rw [hop] at hk; obtain ⟨av, h1, h2⟩ := does_pick (id := id) (call := call) hr ho hop hk; exact .inl ⟨av, h, h1, h2⟩
  | alloc t => rw [hop] at hk; exact .inl (does_alloc (call := call) (ρ := ρ) hr hid hle hop hk)
  | box t x => rw [hop] at hk; exact .inl (does_box (call := call) hr ho hid hle hop hk)
  | build t ps => rw [hop] at hk; exact quiet (build_v (k := fun v => k v h) ho hk) (by simp only [execOp, hop])
  | buildSlice t n ps => rw [hop] at hk; exact makes (buildSlice_v hr ho hid hle hk) (by simp only [execOp, hop])
  | load t x => rw [hop] at hk; exact quiet (load_v (k := fun v => k v h) hr (ho x) hk) (by simp only [execOp, hop])
  | store t x y => rw [hop] at hk; exact .inl (does_store (call := call) hr ho hop hk)
  | nilCheck x => rw [hop] at hk; obtain ⟨av, h1, h2⟩ := does_nilCheck (id := id) (call := call) hr ho hop hk; exact .inl ⟨av, h, h1, h2⟩
  | binOp op t x y t' => rw [hop] at hk; exact quiet (binA_v (a := x) (b := y) (k := fun v => k v h) (ho x) (ho y) hk) (by simp only [execOp, hop])
  | unOp op t x => rw [hop] at hk; exact quiet (unA_v (k := fun v => k v h) (ho x) hk) (by simp only [execOp, hop])
  | convert s d x => rw [hop] at hk; exact quiet (convA_v (k := fun v => k v h) (ho x) hk) (by simp only [execOp, hop])
  | makeInterface t x => rw [hop] at hk; exact quiet (iface_v (k := fun v => k v h) (ho x) hk) (by simp only [execOp, hop])
  | makeFunc f a c => rw [hop] at hk; exact quiet ⟨_, hk, func_v ho f a c⟩ (by simp only [execOp, hop])
  | makeSlice t l c => rw [hop] at hk; exact makes (makeSlice_v hr hid hle (ho l) (ho c) hk) (by simp only [execOp, hop])
  | slice t x lo hi mx => rw [hop] at hk; exact quiet (slice_v (k := fun v => k v h) ho (ho x) hk) (by simp only [execOp, hop])
  | fieldAddr t x j => rw [hop] at hk; exact quiet (fieldAddr_v (k := fun v => k v h) (ho x) hk) (by simp only [execOp, hop])
  | field t x j => rw [hop] at hk; exact quiet (field_v (k := fun v => k v h) (ho x) hk) (by simp only [execOp, hop])
  | indexAddr t x i => rw [hop] at hk; exact quiet (indexAddr_v (k := fun v => k v h) (ho x) (ho i) hk) (by simp only [execOp, hop])
  | index t x i => rw [hop] at hk; exact quiet (index_v (k := fun v => k v h) (ho x) (ho i) hk) (by simp only [execOp, hop])
  | typeAssert x s t ok => rw [hop] at hk; exact quiet (assertA_v (s := s) (k := fun v => k v h) (ho x) hk) (by simp only [execOp, hop])
  | extract x i => rw [hop] at hk; exact quiet (extract_v (k := fun v => k v h) (ho x) hk) (by simp only [execOp, hop])
  | call c =>
    rw [hop] at hk
    have hk1 : evCall P c False call ρ h id k := hk
    unfold evCall at hk1
    cases hc : c.callee with
    | value f => rw [hc] at hk1; exact .inr ⟨c, f, hop, hc, hk1⟩
    | invoke r n => rw [hc] at hk1; exact hk1.elim
    | builtin b =>
      rw [hc] at hk1
      have hex : ∃ cs, execOp e o = invoke (.builtin b c.argTypes o.type cs) (c.args.map e) := by
        simp only [execOp, hop, resolve, hc, pure_bind]
        exact ⟨_, rfl⟩
      obtain ⟨cs, hex⟩ := hex
      cases b <;> first | exact hk1.elim | skip
      · -- append
        have hk2 : evAppend P c.args.toList c.argTypes.toList False call ρ h id k := hk1
        unfold evAppend at hk2
        split at hk2
        · rename_i x y hxy
          split at hk2
          · rename_i t u htu
            have e1 : c.args = #[x, y] := by rw [← Array.toArray_toList (xs := c.args), hxy]
            have e2 : c.argTypes = #[t, u] := by rw [← Array.toArray_toList (xs := c.argTypes), htu]
            refine makes (append_v (ot := o.type) hr hid hle (ho x) (ho y) hk2) ?_
            rw [hex, e1, e2]
            simp only [invoke, builtin, List.map_toArray, List.map_cons, List.map_nil]
          · exact hk2.elim
        · exact hk2.elim
      · -- len
        have hk2 : evLen P c.args.toList c.argTypes.toList False call ρ h id k := hk1
        unfold evLen at hk2
        split at hk2
        · rename_i x hxy
          split at hk2
          · rename_i t htu
            have e1 : c.args = #[x] := by rw [← Array.toArray_toList (xs := c.args), hxy]
            have e2 : c.argTypes = #[t] := by rw [← Array.toArray_toList (xs := c.argTypes), htu]
            refine quiet (len_v (ty' := o.type) (k := fun v => k v h) (ho x) hk2) ?_
            rw [hex, e1, e2]
            simp only [invoke, builtin, List.map_toArray, List.map_cons, List.map_nil]
          · exact hk2.elim
        · exact hk2.elim
      · -- max
        have hk2 : evMinMax true c.args.toList False call ρ h id k := hk1
        unfold evMinMax at hk2
        split at hk2
        · rename_i x y hxy
          have e1 : c.args = #[x, y] := by rw [← Array.toArray_toList (xs := c.args), hxy]
          refine quiet (minmax_v (P := P) (ts := c.argTypes) (t := o.type) (k := fun v => k v h) (ho x) (ho y) hk2) ?_
          rw [hex, e1]
          simp only [invoke, builtin, List.map_toArray, List.map_cons, List.map_nil, cond_true, cond_false]
        · exact hk2.elim
      · -- min
        have hk2 : evMinMax false c.args.toList False call ρ h id k := hk1
        unfold evMinMax at hk2
        split at hk2
        · rename_i x y hxy
          have e1 : c.args = #[x, y] := by rw [← Array.toArray_toList (xs := c.args), hxy]
          refine quiet (minmax_v (P := P) (ts := c.argTypes) (t := o.type) (k := fun v => k v h) (ho x) (ho y) hk2) ?_
          rw [hex, e1]
          simp only [invoke, builtin, List.map_toArray, List.map_cons, List.map_nil, cond_true, cond_false]
        · exact hk2.elim
  | _ => rw [hop] at hk; exact hk.elim
end
end Go.Zev

/-
  Bodies: regions whose order is the text's, and all code around them.
-/
set_option linter.unusedSimpArgs false
set_option linter.unusedVariables false
namespace Go.Zev
open Go

/-- What was there, and what is there later; numbers that were there are kept, but for those of I. -/
structure FarI (I : Bad) (G : Bad) (h : Heap) (w : World) (φ : Phi) (h' : Heap) (w' : World) (φ' : Phi) : Prop where
  rel : HRel G h' w' φ'
  le : PhiLe φ φ'
  ext : Ext (Own h φ) w w'
  own : ∀ k, k < w.heap.size → Own h' φ' k → Own h φ k
  next : h.next ≤ h'.next
  keep : ∀ b, b < h.next → ¬ I b → φ' b = φ b
def noBad : Bad := fun _ => False
abbrev Far := FarI noBad
section
variable {P : Program} {I J : Bad} {G : Bad} {h h' h1 h2 : Heap} {w w' w1 w2 : World} {φ φ' φ1 φ2 : Phi} {id nt nv : Nat} {t : Tm} {l : Loc} {a : Act} {x : AV}
theorem Far.refl (hr : HRel G h w φ) : FarI I G h w φ h w φ := ⟨hr, PhiLe.refl _, Ext.refl _ _, fun _ _ h => h, Nat.le_refl _, fun _ _ _ => rfl⟩
theorem FarI.trans (a : FarI I G h w φ h1 w1 φ1) (b : FarI I G h1 w1 φ1 h2 w2 φ2) : FarI I G h w φ h2 w2 φ2 :=
  ⟨b.rel, a.le.trans b.le, a.ext.trans b.ext a.own, fun k hk ho => a.own k hk (b.own k (Nat.lt_of_lt_of_le hk a.ext.size) ho), Nat.le_trans a.next b.next,
    fun k hk hi => (b.keep k (Nat.lt_of_lt_of_le hk a.next) hi).trans (a.keep k hk hi)⟩
theorem FarI.mono (a : FarI I G h w φ h1 w1 φ1) (hi : ∀ b, b < h.next → I b → J b) : FarI J G h w φ h1 w1 φ1 := ⟨a.rel, a.le, a.ext, a.own, a.next, fun b hb hj => a.keep b hb fun hi' => hj (hi b hb hi')⟩
theorem Turn.far (t : Turn G h w φ id h' w' φ') : FarI (· = id) G h w φ h' w' φ' := ⟨t.rel, t.le, t.ext, t.own, t.next, fun b hb hi => t.keep b hi hb⟩
theorem FarI.goes (t : FarI I G h w φ h' w' φ') : Goes w (BadOf G h φ) w' (BadOf G h' φ') := t.ext.goes (fun k hk => .inr hk) (fun k hk hb => hb.imp (fun x => x) (t.own k hk))
theorem FarI.v {v : Value} (t : FarI I G h w φ h' w' φ') (hv : V w φ G h x v) : V w' φ' G h' x v := VRep.mono t.goes t.le _ _ hv

/-- A state of a body that runs. -/
structure St (G : Bad) (nt nv : Nat) (t : Tm) (l : Loc) (h : Heap) (a : Act) (w : World) (φ : Phi) : Prop where
  rel : HRel G h w φ
  size : nt ≤ a.tmps.size
  slots : ∀ k, V w φ G h (slot nv t l k) (a.tmps.getD k undef)
  defers : a.defers = []
theorem St.opnd (s : St G nt nv t l h a w φ) (x : Operand) : V w φ G h (opnd nv t l x) (a.eval x) := by
  cases x with
  | tmp k => exact s.slots k
  | const v => exact of_rep v
  | global g => exact V.un _
  | func f =>
    show V w φ G h (.fn (.func f) [] []) (.func (.func f) #[] #[])
    unfold V; rw [VRep]
    exact ⟨#[], #[], rfl, by rw [VReps], by rw [VReps]⟩
theorem St.far (s : St G nt nv t l h a w φ) (f : FarI I G h w φ h' w' φ') : St G nt nv t l h' a w' φ' := ⟨f.rel, s.size, fun k => f.v (s.slots k), s.defers⟩
theorem St.loc (s : St G nt nv t l h a w φ) : St G nt nv t [] h a w φ := by
  refine ⟨s.rel, s.size, fun k => ?_, s.defers⟩
  have := s.slots k
  rw [slot_eq] at this ⊢
  split
  · rename_i hk; rw [if_pos hk] at this; exact this
  · exact V.un _
theorem getD_put (tmps : Array Value) (d : Nat) (v : Value) (k : Nat) (hd : d < tmps.size) : (tmps.setIfInBounds d v).getD k undef = if k = d then v else tmps.getD k undef := by
  simp only [Array.getD_eq_getD_getElem?, Array.getElem?_setIfInBounds]
  by_cases e : d = k
  · subst e; simp [hd]
  · rw [if_neg e, if_neg (fun x => e x.symm)]
/-- Something is laid into a slot. -/
theorem St.put {v : Value} (s : St G nt nv t l h a w φ) (hnv : nv ≤ 512) {d : Nat} (hd : d < nt) (hx : V w φ G h x v) :
    St G nt nv (bi (Nat.blt d nv) (Tm.set t d x) t) (bi (Nat.blt d nv) l (lput l d x)) h (a.put (some d) v) w φ := by
  have hsz := s.size
  refine ⟨s.rel, by simp only [Act.put, Array.size_setIfInBounds]; exact hsz, fun k => ?_, s.defers⟩
  have := s.slots k
  simp only [Act.put]
  rw [getD_put _ _ _ _ (by omega)]
  rw [slot_eq] at this ⊢
  rw [bi_eq, bi_eq]
  by_cases hdn : d < nv
  · rw [if_pos (blt_iff.2 hdn), if_pos (blt_iff.2 hdn)]
    by_cases hk : k < nv
    · rw [if_pos hk, Tm.get_set _ _ (by omega) (by omega)]
      rw [if_pos hk] at this
      split
      · exact hx
      · exact this
    · rw [if_neg hk, if_neg (by omega)]
      rw [if_neg hk] at this
      exact this
  · rw [if_neg (fun e => hdn (blt_iff.1 e)), if_neg (fun e => hdn (blt_iff.1 e))]
    by_cases hk : k < nv
    · rw [if_pos hk, if_neg (by omega)]
      rw [if_pos hk] at this
      exact this
    · rw [if_neg hk, lget_lput]
      rw [if_neg hk] at this
      by_cases e : d = k
      · rw [if_pos e, if_pos e.symm]; exact hx
      · rw [if_neg e, if_neg (fun x => e x.symm)]; exact this
/-- The slots that an operation, that code lays something into are the frame's own. -/
def dstOK (nt : Nat) (o : Oper) : Bool := match o.dst with | some d => Nat.blt d nt | none => true
theorem St.putK {v : Value} (s : St G nt nv t l h a w φ) (hnv : nv ≤ 512) {o : Oper} (ho : dstOK nt o = true) (hx : V w φ G h x v) {k : K Prop} (hk : putK nv k o.dst x t l h) :
    ∃ t' l', k t' l' h ∧ St G nt nv t' l' h (a.put o.dst v) w φ := by
  unfold dstOK at ho
  cases hd : o.dst with
  | none => rw [hd] at hk; exact ⟨t, l, hk, by exact s⟩
  | some d =>
    rw [hd] at hk ho
    have := s.put hnv (blt_iff.1 ho) hx
    refine ⟨_, _, ?_, this⟩
    have hk' : bi (Nat.blt d nv) (k (Tm.set t d x) l h) (k t (lput l d x) h) := hk
    cases hb : Nat.blt d nv with
    | true => rw [hb] at hk'; exact hk'
    | false => rw [hb] at hk'; exact hk'

/-! ### Calls -/
structure Enter (P : Program) (f : FuncId) : Prop where
  ok : ∃ fn c, P.funcs[f]? = some fn ∧ fn.body = some c ∧ (fn.name == "runtime.NumGoroutine") = false
theorem run_callFunc {f : FuncId} (he : Enter P f) (args : Array Value) (w : World) : (callFunc f args).run P w = .ok (.enter f args) w := by
  obtain ⟨fn, c, h1, h2, h3⟩ := he.ok
  have h4 : ¬ fn.name = "runtime.NumGoroutine" := by simpa using h3
  simp [callFunc, Sem.run_bind, program, Sem.run, h1, h2, h4, pure]
/-- The calls of the evaluator are the program's. -/
def SoundCall (P : Program) (call : Call' Prop) : Prop :=
  ∀ (G : Bad) (h : Heap) (w : World) (φ : Phi) (f : FuncId) (args : List AV) (vs : Array Value) (k : AV → Heap → Prop), HRel G h w φ → VReps w φ (BadOf G h φ) args vs.toList → call f args h k →
    Enter P f ∧ Calls P f vs w fun e w' => ∃ v av h' φ', e = .returned v ∧ k av h' ∧ V w' φ' G h' av v ∧ Far G h w φ h' w' φ'
theorem VReps.lapp {xs ys : List AV} {us vs : List Value} {bad : Bad} (h1 : VReps w φ bad xs us) (h2 : VReps w φ bad ys vs) : VReps w φ bad (lapp xs ys) (us ++ vs) := by
  rw [lapp_eq]; exact h1.append h2
theorem call_v {o : Oper} {e : Operand → Value} {ρ : Operand → AV} {call : Call' Prop} {k : AV → Heap → Prop} (hc : SoundCall P call) (hr : HRel G h w φ) (ho : ∀ x, V w φ G h (ρ x) (e x)) (hi : IsCall o ρ h call k) :
    ∃ f vs, (execOp e o).run P w = .ok (.enter f vs) w ∧ Calls P f vs w fun e w' => ∃ v av h' φ', e = .returned v ∧ k av h' ∧ V w' φ' G h' av v ∧ Far G h w φ h' w' φ' := by
  obtain ⟨c, f, hop, hcal, hk⟩ := hi
  unfold callFn at hk
  have hf := ho f
  split at hk
  · rename_i j first cap hfn
    rw [hfn] at hf
    unfold V at hf; rw [VRep] at hf
    obtain ⟨xs, ys, hfv, h1, h2⟩ := hf
    have hargs := V.list ho c.args.toList
    obtain ⟨h3, h4⟩ := hc G h w φ j _ (xs ++ (c.args.map e ++ ys)) k hr (by
      simp only [Array.toList_append, Array.toList_map]
      exact h1.lapp (hargs.lapp h2)) hk
    refine ⟨j, _, ?_, h4⟩
    simp only [execOp, hop, resolve, hcal, hfv, Deferred.ofValue, pure_bind, invoke]
    rw [run_callFunc h3, Array.append_assoc]
  · exact hk.elim

/-! ### One operation -/
theorem guard_v {ops : Array Oper} {o : Oper} (s : St G nt nv t l h a w φ) {yes skip : Prop} (hk : wantedK False ops nv t l o yes skip) :
    (Region.wanted o (yielded ops a.tmps) = true ∧ yes) ∨ (Region.wanted o (yielded ops a.tmps) = false ∧ skip) := by
  unfold Region.wanted
  unfold wantedK at hk
  cases hg : o.guard with
  | none => rw [hg] at hk; exact .inl ⟨rfl, hk⟩
  | some g =>
    obtain ⟨j, want⟩ := g
    rw [hg] at hk
    have hk1 : guardK False ops nv t l (j, want) yes skip := hk
    unfold guardK guardSlot at hk1
    show (yielded ops a.tmps j == some want) = true ∧ yes ∨ (yielded ops a.tmps j == some want) = false ∧ skip
    unfold yielded
    cases ho : ops[j]? with
    | none =>
      dsimp only at hk1
      rw [ho] at hk1
      exact .inr ⟨rfl, hk1⟩
    | some q =>
      dsimp only at hk1
      rw [ho] at hk1
      dsimp only at hk1
      rw [Option.bind_some]
      cases hd : q.dst with
      | none => rw [hd] at hk1; exact .inr ⟨rfl, hk1⟩
      | some d =>
        rw [hd] at hk1
        have hk2 : boolK False want (slot nv t l d) yes skip := hk1
        have hs := s.slots d
        rw [Option.bind_some]
        unfold boolK at hk2
        split at hk2
        · rename_i x hx
          rw [hx] at hs
          unfold V at hs; rw [VRep] at hs
          have hget : a.tmps[d]? = some (.bool x) := by
            rw [Array.getD_eq_getD_getElem?] at hs
            cases hq : a.tmps[d]? with
            | none => rw [hq] at hs; cases hs
            | some z => rw [hq] at hs; rw [Option.getD_some] at hs; rw [hs]
          rw [hget]
          cases want <;> cases x <;> first | exact .inl ⟨rfl, hk2⟩ | exact .inr ⟨rfl, hk2⟩
        · rename_i hx
          rw [hx] at hs
          unfold V at hs; rw [VRep] at hs
          obtain ⟨vs, hv, hvs⟩ := hs
          rw [VReps] at hvs
          have hvs' : vs = #[] := Array.toList_eq_nil_iff.1 hvs
          subst hvs'
          rw [Array.getD_eq_getD_getElem?] at hv
          cases hq : a.tmps[d]? with
          | none => exact .inr ⟨rfl, hk2⟩
          | some z => rw [hq, Option.getD_some] at hv; subst hv; exact .inr ⟨rfl, hk2⟩
        · exact hk2.elim
/-- One operation of a region, and what comes behind. -/
theorem opStep_v {call : Call' Prop} (hc : SoundCall P call) (hnv : nv ≤ 512) {ops : Array Oper} {o : Oper} (hdst : dstOK nt o = true) {k : K Prop} (s : St G nt nv t l h a w φ) (hid : φ id = none) (hle : id ≤ h.next)
    (hk : opStep P False call nv ops o k t l h id) {K : Act → World → Prop} {Q : Exit → Act → World → Prop}
    (hK : ∀ t' l' h' a' w' φ', St G nt nv t' l' h' a' w' φ' → FarI (· = id) G h w φ h' w' φ' → k t' l' h' → K a' w') :
    if Region.wanted o (yielded ops a.tmps) then o.wp P a w K Q else K (a.put o.dst undef) w := by
  rcases guard_v s hk with ⟨hw, hk⟩ | ⟨hw, hk⟩
  · rw [if_pos hw]
    rcases table_v s.rel s.opnd hid hle hk with ⟨av, h', hk, v, w', φ', hrun, hv, ht⟩ | hcall
    · have hfin : K (a.put o.dst v) w' := by
        obtain ⟨t', l', hk', s'⟩ := (s.far ht.far).putK hnv hdst hv hk
        exact hK _ _ _ _ _ _ s' ht.far hk'
      unfold Oper.wp
      rcases hrun with hrun | ⟨hrun, rfl⟩
      · rw [hrun]; exact hfin
      · rw [hrun]; exact hfin
    · obtain ⟨f, vs, hrun, hcs⟩ := call_v hc s.rel s.opnd hcall
      unfold Oper.wp
      rw [hrun, Oper.upon_enter]
      intro cs
      obtain ⟨e, w', fr, ⟨v, av, h', φ', rfl, hk, hv, hf⟩, h2⟩ := hcs cs
      refine ⟨_, w', fr, ?_, h2⟩
      obtain ⟨t', l', hk', s'⟩ := (s.far hf).putK hnv hdst hv hk
      exact hK _ _ _ _ _ _ s' (hf.mono fun _ _ e => e.elim) hk'
  · rw [if_neg (by rw [hw]; simp)]
    obtain ⟨t', l', hk', s'⟩ := s.putK hnv hdst (v := undef) (by unfold V; rw [VRep]; exact ⟨#[], rfl, by rw [VReps]⟩) hk
    exact hK _ _ _ _ _ _ s' (Far.refl s.rel) hk'
noncomputable def dstsOK (nt : Nat) (l : List Oper) : Bool := lall (dstOK nt) l
theorem runOps_v {call : Call' Prop} (hc : SoundCall P call) (hnv : nv ≤ 512) {ops : Array Oper} {k : K Prop} {Q : Exit → Act → World → Prop} :
    ∀ (os : List Oper) (i : Nat), ops.toList.drop i = os → (∀ o ∈ os, dstOK nt o = true) → ∀ (t : Tm) (l : Loc) (h : Heap) (a : Act) (w : World) (φ : Phi), St G nt nv t l h a w φ → runOps P False call nv ops k os t l h →
      (∀ t' l' h' a' w' φ', St G nt nv t' l' h' a' w' φ' → Far G h w φ h' w' φ' → k t' l' h' → Q .normal a' w') → wpOps P ops Q (List.range' i os.length) a w
  | [], i, _, _, t, l, h, a, w, φ, s, hk, hQ => by
    show Q .normal a w
    exact hQ _ _ _ _ _ _ s (Far.refl s.rel) hk
  | o :: os, i, hos, hd, t, l, h, a, w, φ, s, hk, hQ => by
    have hk' : opStep P False call nv ops o (runOps P False call nv ops k os) t l h h.next := hk
    have hget : ops[i]? = some o := by
      have : (ops.toList.drop i)[0]? = some o := by rw [hos]; rfl
      rw [List.getElem?_drop, Nat.add_zero] at this
      simpa using this
    have hrest : ops.toList.drop (i + 1) = os := by
      have : (ops.toList.drop i).drop 1 = os := by rw [hos]; rfl
      rwa [List.drop_drop] at this
    have hid : φ h.next = none := by
      cases hq : φ h.next with
      | none => rfl
      | some y => exact absurd (s.rel.lt _ (by rw [hq]; simp)) (by omega)
    have := opStep_v (Q := Q) (K := wpOps P ops Q (List.range' (i + 1) os.length)) hc hnv (hd o (List.mem_cons_self ..)) s hid (Nat.le_refl _) hk' (fun t' l' h' a' w' φ' s' hf' hk2 =>
      have hf : Far G h w φ h' w' φ' := hf'.mono fun b hb e => absurd e (Nat.ne_of_lt hb)
      runOps_v hc hnv os (i + 1) hrest (fun o' ho' => hd o' (List.mem_cons_of_mem _ ho')) t' l' h' a' w' φ' s' hk2 fun t2 l2 h2 a2 w2 φ2 s2 hf2 hk3 => hQ _ _ _ _ _ _ s2 (hf.trans hf2) hk3)
    rw [List.length_cons, List.range'_succ]
    show (match ops[i]? with | none => _ | some o => if Region.wanted o (yielded ops a.tmps) then o.wp P a w (wpOps P ops Q (List.range' (i + 1) os.length)) Q ∨ (o.asks P a w ∧ LetsOut Q) else wpOps P ops Q (List.range' (i + 1) os.length) (a.put o.dst undef) w)
    rw [hget]
    dsimp only
    by_cases hw : Region.wanted o (yielded ops a.tmps) = true
    · rw [if_pos hw] at this ⊢; exact .inl this
    · rw [if_neg hw] at this ⊢; exact this
theorem region_v {call : Call' Prop} (hc : SoundCall P call) (hnv : nv ≤ 512) {ops : Array Oper} {i : Nat} (hd : dstsOK nt ops.toList = true) {k : K Prop} {Q : Exit → Act → World → Prop} (s : St G nt nv t l h a w φ) (hk : regionC P False call nv ops k t l h)
    (hQ : ∀ t' l' h' a' w' φ', St G nt nv t' l' h' a' w' φ' → Far G h w φ h' w' φ' → k t' l' h' → Q .normal a' w') : (Code.region i ops false).wp P Q a w := by
  refine wp_region ?_
  unfold dstsOK at hd
  rw [lall_eq, List.all_eq_true] at hd
  have := runOps_v (Q := Q) hc hnv ops.toList 0 (by rw [List.drop_zero]) hd t [] h a w φ s.loc hk hQ
  rwa [Array.length_toList, ← List.range_eq_range'] at this
end
end Go.Zev

/-
  Bodies: code. Calls: a body in the caller's heap, a body in a heap of its own.
-/
set_option linter.unusedSimpArgs false
set_option linter.unusedVariables false
namespace Go.Zev
open Go

section
variable {P : Program} {G : Bad} {h h' h1 h2 : Heap} {w w' w1 w2 : World} {φ φ' φ1 φ2 : Phi} {id nt nv : Nat} {t : Tm} {l : Loc} {a : Act} {x : AV}

def Ex.out : Ex → Exit
  | .nx => .normal
  | .ex i => .exit i
  | .rt => .ret
/-- What comes behind some code. -/
def Post (Q : Exit → Act → World → Prop) (G : Bad) (nt nv : Nat) (h : Heap) (w : World) (φ : Phi) (k : Ex → K Prop) : Prop :=
  ∀ e t' l' h' a' w' φ', St G nt nv t' l' h' a' w' φ' → Far G h w φ h' w' φ' → k e t' l' h' → Q e.out a' w'
/-- Regions whose order is drawn are sound, too. -/
def Drawn (P : Program) (call : Call' Prop) : Prop :=
  ∀ (G : Bad) (nt nv id : Nat) (ops : Array Oper) (k : K Prop) (t : Tm) (l : Loc) (h : Heap) (a : Act) (w : World) (φ : Phi) (Q : Exit → Act → World → Prop), nv ≤ 512 → dstsOK nt ops.toList = true →
    St G nt nv t l h a w φ → regionD P False call nv ops k t l h →
    (∀ t' l' h' a' w' φ', St G nt nv t' l' h' a' w' φ' → Far G h w φ h' w' φ' → k t' l' h' → Q .normal a' w') → (Code.region id ops true).wp P Q a w

noncomputable def codeOK (nt : Nat) (c : Code) : Bool :=
  Code.rec (motive := fun _ => Bool) true (fun _ ops _ => dstsOK nt ops.toList) (fun _ _ a b => a && b) (fun _ _ _ a b => a && b) (fun _ _ a => a) (fun _ a => a) (fun _ _ _ _ _ _ => true) (fun _ => true)
    (fun _ _ => true) (fun _ => true) (fun _ => true) true (fun _ => true) c

theorem wp_loop_step {c : Code} {Q : Exit → Act → World → Prop} {L : Act → World → Prop} (hL : ∀ a w, L a w → ∀ (b : Frame) (k : List Item) (cs : List Frame), ∃ e a' w', Q e a' w' ∧ Arrives P (lone (b.at a (.code c :: .inLoop c :: k)) cs w) b k cs e a' w')
    (hc : c.wp P (Exit.then L Q) a w) (b : Frame) (k : List Item) (cs : List Frame) : ∃ e a' w', Q e a' w' ∧ Arrives P (lone (b.at a (.code c :: .inLoop c :: k)) cs w) b k cs e a' w' := by
  obtain ⟨e, a₁, w₁, hq, harr⟩ := hc b (.inLoop c :: k) cs
  cases e with
  | normal =>
    obtain ⟨e₂, a₂, w₂, hq₂, harr₂⟩ := hL _ _ hq b k cs
    exact ⟨e₂, a₂, w₂, hq₂, .of_steps (Steps.trans harr (.one step_inLoop)) harr₂⟩
  | exit id => exact ⟨_, a₁, w₁, hq, .pass (x := .inLoop c) rfl (fun _ _ => .inl (by simp)) harr⟩
  | goto l => exact ⟨_, a₁, w₁, hq, .pass (x := .inLoop c) rfl (fun _ _ => .inl (by simp)) harr⟩
  | ret => exact ⟨_, a₁, w₁, hq, .pass (x := .inLoop c) rfl (fun _ _ => .inl (by simp)) harr⟩
  | panic ch => exact ⟨_, a₁, w₁, hq, .pass (x := .inLoop c) rfl (fun _ _ => .inl (by simp)) harr⟩
  | outgrown => exact ⟨_, a₁, w₁, hq, .pass (x := .inLoop c) rfl (fun _ _ => .inl (by simp)) harr⟩

theorem code_v {call : Call' Prop} (hc : SoundCall P call) (hD : Drawn P call) (hnv : nv ≤ 512) (n : Nat) : ∀ (c : Code), codeOK nt c = true → ∀ (k : Ex → K Prop) (t : Tm) (l : Loc) (h : Heap) (a : Act) (w : World) (φ : Phi) (Q : Exit → Act → World → Prop),
    St G nt nv t l h a w φ → runC P False call nv n c k t l h → Post Q G nt nv h w φ k → c.wp P Q a w := by
  intro c
  induction c with
  | skip => intro _ k t l h a w φ Q s hk hQ; exact wp_skip (hQ .nx _ _ _ _ _ _ s (Far.refl s.rel) hk)
  | region i ops d =>
    intro ho k t l h a w φ Q s hk hQ
    cases d with
    | true => exact hD G nt nv i ops (k .nx) t l h a w φ Q hnv ho s hk fun t' l' h' a' w' φ' s' f hk' => hQ .nx _ _ _ _ _ _ s' f hk'
    | false => exact region_v hc hnv ho s hk fun t' l' h' a' w' φ' s' f hk' => hQ .nx _ _ _ _ _ _ s' f hk'
  | seq x y ihx ihy =>
    intro ho k t l h a w φ Q s hk hQ
    have ho' : (codeOK nt x && codeOK nt y) = true := ho
    rw [Bool.and_eq_true] at ho'
    refine wp_seq (ihx ho'.1 (nxK (runC P False call nv n y k) k) t l h a w φ _ s hk ?_)
    intro e t' l' h' a' w' φ' s' f hk'
    cases e with
    | nx => exact ihy ho'.2 k t' l' h' a' w' φ' Q s' hk' fun e2 t2 l2 h2 a2 w2 φ2 s2 f2 hk2 => hQ e2 _ _ _ _ _ _ s2 (f.trans f2) hk2
    | ex i => exact hQ (.ex i) _ _ _ _ _ _ s' f hk'
    | rt => exact hQ .rt _ _ _ _ _ _ s' f hk'
  | cond c x y ihx ihy =>
    intro ho k t l h a w φ Q s hk hQ
    have ho' : (codeOK nt x && codeOK nt y) = true := ho
    rw [Bool.and_eq_true] at ho'
    have hk1 : condC False nv c (runC P False call nv n x k) (runC P False call nv n y k) t l h := hk
    unfold condC at hk1
    have hs := s.opnd c
    split at hk1
    · rename_i q hq
      rw [hq] at hs
      unfold V at hs; rw [VRep] at hs
      refine wp_cond hs ?_
      cases q
      · exact ihy ho'.2 k t l h a w φ Q s hk1 hQ
      · exact ihx ho'.1 k t l h a w φ Q s hk1 hQ
    · exact hk1.elim
  | block i x ih =>
    intro ho k t l h a w φ Q s hk hQ
    refine wp_block (ih ho (blockK i k) t l h a w φ _ s hk ?_)
    intro e t' l' h' a' w' φ' s' f hk'
    cases e with
    | nx => exact hQ .nx _ _ _ _ _ _ s' f hk'
    | rt => exact hQ .rt _ _ _ _ _ _ s' f hk'
    | ex j =>
      have hk2 : bi (Nat.beq j i) (k .nx) (k (.ex j)) t' l' h' := hk'
      show (if j = i then Q .normal a' w' else Q (.exit j) a' w')
      by_cases e : j = i
      · rw [beq_iff.2 e] at hk2
        rw [if_pos e]
        exact hQ .nx _ _ _ _ _ _ s' f hk2
      · rw [if_neg e]
        have : Nat.beq j i = false := by cases hb : Nat.beq j i; rfl; exact absurd (beq_iff.1 hb) e
        rw [this] at hk2
        exact hQ (.ex j) _ _ _ _ _ _ s' f hk2
  | loop x ih =>
    intro ho k t l h a w φ Q s hk hQ
    have key : ∀ (m : Nat) (t : Tm) (l : Loc) (h : Heap) (a : Act) (w : World) (φ : Phi), St G nt nv t l h a w φ → loopC False (runC P False call nv n x) m k t l h → Post Q G nt nv h w φ k →
        ∀ (b : Frame) (kk : List Item) (cs : List Frame), ∃ e a' w', Q e a' w' ∧ Arrives P (lone (b.at a (.code x :: .inLoop x :: kk)) cs w) b kk cs e a' w' := by
      intro m
      induction m with
      | zero => intro t l h a w φ s hk hQ; exact hk.elim
      | succ m ihm =>
        intro t l h a w φ s hk hQ
        have hk1 : runC P False call nv n x (nxK (loopC False (runC P False call nv n x) m k) k) t l h := hk
        refine wp_loop_step (L := fun a' w' => ∃ t' l' h' φ', St G nt nv t' l' h' a' w' φ' ∧ Far G h w φ h' w' φ' ∧ loopC False (runC P False call nv n x) m k t' l' h') ?_ (ih ho _ t l h a w φ _ s hk1 ?_)
        · rintro a' w' ⟨t', l', h', φ', s', f, hk'⟩
          exact ihm t' l' h' a' w' φ' s' hk' fun e2 t2 l2 h2 a2 w2 φ2 s2 f2 hk2 => hQ e2 _ _ _ _ _ _ s2 (f.trans f2) hk2
        · intro e t' l' h' a' w' φ' s' f hk'
          cases e with
          | nx => exact ⟨t', l', h', φ', s', f, hk'⟩
          | ex i => exact hQ (.ex i) _ _ _ _ _ _ s' f hk'
          | rt => exact hQ .rt _ _ _ _ _ _ s' f hk'
    intro b kk cs
    obtain ⟨e, a', w', q, r⟩ := key n t l h a w φ s hk hQ b kk cs
    exact ⟨e, a', w', q, .of_steps (.one step_loop) r⟩
  | exit i => intro _ k t l h a w φ Q s hk hQ; exact wp_exit (hQ (.ex i) _ _ _ _ _ _ s (Far.refl s.rel) hk)
  | ret => intro _ k t l h a w φ Q s hk hQ; exact wp_ret (hQ .rt _ _ _ _ _ _ s (Far.refl s.rel) hk)
  | _ => intro _ k t l h a w φ Q s hk hQ; exact hk.elim
end
end Go.Zev

/-
  Calls: what is handed back, frozen values, the evaluator's calls are the program's.
-/
set_option linter.unusedSimpArgs false
set_option linter.unusedVariables false
namespace Go.Zev
open Go

section
variable {P : Program} {G : Bad} {h h' h1 h2 : Heap} {w w' w1 w2 : World} {φ φ' φ1 φ2 : Phi} {id nt nv : Nat} {t : Tm} {l : Loc} {a : Act} {bad : Bad}

/-! ### Values without blocks -/
theorem refs_list {n : Nat} (ih : ∀ x v, refs n x = false → VRep w φ bad x v → FRep w bad x v) : ∀ {xs : List AV} {vs : List Value}, lany (refs n) xs = false → VReps w φ bad xs vs → FReps w bad xs vs
  | [], vs, _, h => by rw [VReps] at h; subst h; rw [FReps]
  | x :: xs, vs, hr, h => by
    rw [VReps] at h
    obtain ⟨u, us, rfl, h1, h2⟩ := h
    rw [lany_eq, List.any_cons, Bool.or_eq_false_iff] at hr
    rw [FReps]
    exact ⟨u, us, rfl, ih x u hr.1 h1, refs_list ih (by rw [lany_eq]; exact hr.2) h2⟩
theorem refs_F : ∀ (n : Nat) (x : AV) (v : Value), refs n x = false → VRep w φ bad x v → FRep w bad x v
  | 0, x, v, hr, _ => by cases hr
  | n + 1, x, v, hr, hv => by
    have lst := fun (xs : List AV) (vs : List Value) (h1 : lany (refs n) xs = false) (h2 : VReps w φ bad xs vs) => refs_list (refs_F n) h1 h2
    cases x with
    | p b i o => cases hr
    | sl b s st l c f => cases hr
    | mp b => cases hr
    | it b => cases hr
    | fn f x y =>
      have hr' : (lany (refs n) x || lany (refs n) y) = false := hr
      rw [Bool.or_eq_false_iff] at hr'
      rw [VRep] at hv; rw [FRep]
      obtain ⟨xs, ys, e, h1, h2⟩ := hv
      exact ⟨xs, ys, e, lst _ _ hr'.1 h1, lst _ _ hr'.2 h2⟩
    | ifc t x =>
      rw [VRep] at hv; rw [FRep]
      obtain ⟨u, e, h1⟩ := hv
      exact ⟨u, e, refs_F n x u hr h1⟩
    | agg cs =>
      rw [VRep] at hv; rw [FRep]
      obtain ⟨vs, e, h1⟩ := hv
      exact ⟨vs, e, lst _ _ hr h1⟩
    | tup cs =>
      rw [VRep] at hv; rw [FRep]
      obtain ⟨vs, e, h1⟩ := hv
      exact ⟨vs, e, lst _ _ hr h1⟩
    | fp cs => rw [VRep] at hv; exact hv
    | fs s f el => rw [VRep] at hv; exact hv
    | _ => rw [VRep] at hv; rw [FRep]; exact hv

/-! ### Values whose blocks are laid into them -/
theorem bad_goes (w : World) (h : Heap) (φ : Phi) (G : Bad) : Goes w (BadOf G h φ) w G := fun b off u hc hb => ⟨hc, fun hg => hb (.inl hg)⟩
theorem frz_list {n : Nat} (ih : ∀ x y v, frz h n x = some y → V w φ G h x v → FRep w G y v) {xs ys : List AV} {vs : List Value} (hx : lmapO (frz h n) xs = some ys) (hv : VReps w φ (BadOf G h φ) xs vs) : FReps w G ys vs := by
  obtain ⟨h1, h2⟩ := lmapO_some hx
  refine FReps.of_at (by rw [← h1, hv.length]) fun i y hy => ?_
  have hi : i < xs.length := by rw [h1]; exact (List.getElem?_eq_some_iff.1 hy).1
  obtain ⟨y', h3, h4⟩ := h2 i _ (List.getElem?_eq_getElem hi)
  rw [hy] at h3; injection h3 with h3; subst h3
  obtain ⟨v, h5, h6⟩ := hv.at i _ (List.getElem?_eq_getElem hi)
  exact ⟨v, h5, ih _ _ _ h4 h6⟩
theorem frz_F (hr : HRel G h w φ) : ∀ (n : Nat) (x y : AV) (v : Value), frz h n x = some y → V w φ G h x v → FRep w G y v
  | 0, x, y, v, he, _ => by cases he
  | n + 1, x, y, v, he, hv => by
    have lst := fun {xs ys : List AV} {vs : List Value} (h1 : lmapO (frz h n) xs = some ys) (h2 : VReps w φ (BadOf G h φ) xs vs) => frz_list (frz_F hr n) h1 h2
    unfold V at hv
    cases x with
    | p b i o => cases he
    | mp b => cases he
    | it b => cases he
    | sl b sz st len c full =>
      have he1 : (match h.get b with
        | .cells _ el => (fun l => bi (lhas l len) (ob (lmapO (lmapO (frz h n)) l) fun l => some (AV.fs sz full l)) none) (ltake (ldrop el st) len)
        | _ => none) = some y := he
      cases hg : h.get b with
      | cells s el =>
        rw [hg] at he1
        obtain ⟨h1, he2⟩ := bi_none (c := lhas (ltake (ldrop el st) len) len) he1
        obtain ⟨el', h2, he3⟩ := ob_prop he2
        injection he3 with he3
        subst he3
        have h1 := lhas_iff.1 h1
        rw [ltake_eq, ldrop_eq] at h1 h2
        obtain ⟨h3, h4⟩ := lmapO_some h2
        rw [VRep] at hv
        obtain ⟨cb, m, a, cp, hφ, rfl, _, h5, h6, h7⟩ := hv
        have hraw := Heap.get_raw hg (by intro e; cases e)
        have hne : h.raw b ≠ .none := by rw [hraw]; intro e; cases e
        obtain ⟨hG, _, hbr⟩ := hr.blk b cb sz m hne hφ
        rw [hraw] at hbr
        obtain ⟨rfl, cs, ty, hw, hcs, hel0, hel⟩ := hbr
        have hlen : el'.length = len := by rw [← h3, h1]
        rw [FRep]
        refine ⟨a, cp, by rw [hlen], by rw [hlen]; exact h5, fun e => by rw [hlen]; exact h6 e, fun hne' => ?_⟩
        have hpos : 0 < len := by
          rw [← hlen]; exact List.length_pos_iff.2 hne'
        obtain ⟨rfl, _⟩ := h7 (.inl hpos)
        refine ⟨cb, st * s, rfl, FEls.of_at s cb el' (st * s) fun i e hi => ?_⟩
        have hil : i < ((el.drop st).take len).length := by rw [h3]; exact (List.getElem?_eq_some_iff.1 hi).1
        obtain ⟨e', h8, h9⟩ := h4 i _ (List.getElem?_eq_getElem hil)
        rw [hi] at h8; injection h8 with h8; subst h8
        have hq : el[st + i]? = some (((el.drop st).take len)[i]'hil) := by
          rw [← List.getElem?_eq_getElem hil, List.getElem?_take, if_pos (by omega), List.getElem?_drop]
        obtain ⟨h10, h11⟩ := hel _ _ hq
        obtain ⟨h12, h13⟩ := lmapO_some h9
        refine ⟨by rw [← h12, h10], FCells.of_at cb e _ fun j y hy => ?_⟩
        have hjl : j < (((el.drop st).take len)[i]'hil).length := by rw [h12]; exact (List.getElem?_eq_some_iff.1 hy).1
        obtain ⟨y', h14, h15⟩ := h13 j _ (List.getElem?_eq_getElem hjl)
        rw [hy] at h14; injection h14 with h14; subst h14
        obtain ⟨u, h16, h17⟩ := h11 j _ (List.getElem?_eq_getElem hjl)
        refine ⟨u, ?_, hG, frz_F hr n _ _ _ h15 h17⟩
        unfold World.cell?
        rw [hw]
        rw [Nat.add_mul] at h16
        simpa using h16
      | none => rw [hg] at he1; cases he1
      | iter _ _ _ => rw [hg] at he1; cases he1
      | map _ => rw [hg] at he1; cases he1
    | fn f x z =>
      have he1 : (ob (lmapO (frz h n) x) fun a => ob (lmapO (frz h n) z) fun c => some (AV.fn f a c)) = some y := he
      obtain ⟨x', h1, he1⟩ := ob_prop he1
      obtain ⟨z', h2, he1⟩ := ob_prop he1
      injection he1 with he1
      subst he1
      rw [VRep] at hv; rw [FRep]
      obtain ⟨xs, ys, e, h3, h4⟩ := hv
      exact ⟨xs, ys, e, lst h1 h3, lst h2 h4⟩
    | ifc t x =>
      have he1 : (ob (frz h n x) fun v => some (AV.ifc t v)) = some y := he
      obtain ⟨x', h1, he1⟩ := ob_prop he1
      injection he1 with he1
      subst he1
      rw [VRep] at hv; rw [FRep]
      obtain ⟨u, e, h2⟩ := hv
      exact ⟨u, e, frz_F hr n _ _ _ h1 h2⟩
    | agg cs =>
      have he1 : (ob (lmapO (frz h n) cs) fun v => some (AV.agg v)) = some y := he
      obtain ⟨x', h1, he1⟩ := ob_prop he1
      injection he1 with he1
      subst he1
      rw [VRep] at hv; rw [FRep]
      obtain ⟨vs, e, h2⟩ := hv
      exact ⟨vs, e, lst h1 h2⟩
    | tup cs =>
      have he1 : (ob (lmapO (frz h n) cs) fun v => some (AV.tup v)) = some y := he
      obtain ⟨x', h1, he1⟩ := ob_prop he1
      injection he1 with he1
      subst he1
      rw [VRep] at hv; rw [FRep]
      obtain ⟨vs, e, h2⟩ := hv
      exact ⟨vs, e, lst h1 h2⟩
    | fp cs => cases he; rw [VRep] at hv; exact FRep.mono (bad_goes w h φ G) _ _ hv
    | fs s f el => cases he; rw [VRep] at hv; exact FRep.mono (bad_goes w h φ G) _ _ hv
    | _ => cases he; rw [VRep] at hv; rw [FRep]; exact hv

/-! ### Results -/
theorem load1_some {x : AV} {y : AV} (hk : load1 none h x some = some y) : load1 False h x (· = y) := by
  unfold load1 at hk ⊢
  cases hr : rd h x 1 with
  | none => rw [hr] at hk; cases hk
  | some cs =>
    rw [hr] at hk
    have hk : on none (lnth cs 0) some = some y := hk
    show on False (lnth cs 0) (· = y)
    cases hl : lnth cs 0 with
    | none => rw [hl] at hk; cases hk
    | some c => rw [hl] at hk; injection hk
theorem loadN_some {x : AV} {y : AV} {n : Nat} (hk : loadN none h n x some = some y) : loadN False h n x (· = y) := by
  unfold loadN at hk ⊢
  cases hr : rd h x n with
  | none => rw [hr] at hk; cases hk
  | some cs => rw [hr] at hk; injection hk
theorem loadA_some {ty : TypeId} {x : AV} {y : AV} (hk : loadA P none h ty x some = some y) : loadA P False h ty x (· = y) := by
  unfold loadA at hk ⊢
  cases h1 : knownT P ty with
  | false => rw [h1] at hk; cases hk
  | true =>
    rw [h1] at hk
    cases h2 : isAggT P ty with
    | false => rw [h2] at hk; exact load1_some hk
    | true =>
      rw [h2] at hk
      have hk : bi (Nat.blt 0 (szOf P ty)) (loadN none h (szOf P ty) x some) none = some y := hk
      show bi (Nat.blt 0 (szOf P ty)) (loadN False h (szOf P ty) x (· = y)) False
      cases h3 : Nat.blt 0 (szOf P ty) with
      | false => rw [h3] at hk; cases hk
      | true => rw [h3] at hk; exact loadN_some hk
def resOK (nv : Nat) (r : ResultVar) : Bool := match r with | .tmp k => Nat.blt k nv | .cell a _ => Nat.blt a nv
theorem slot_lt {k : Nat} (hk : k < nv) : slot nv t l k = Tm.get t k := by rw [slot_eq, if_pos hk]
/-- One result as the model hands it back. -/
def resOf (tmps : Array Value) (r : ResultVar) : Sem Value := match r with | .tmp t => pure (tmps.getD t undef) | .cell q t => do loadVar t (← asAddr (tmps.getD q undef))
theorem results_eq (fn : Func) (tmps : Array Value) : results fn tmps = (do let vs ← fn.results.mapM (resOf tmps); pure (if h : vs.size = 1 then vs[0] else .tuple vs)) := rfl
theorem results_list (s : St G nt nv t l h a w φ) : ∀ (rs : List ResultVar) (avs : List AV), (∀ r ∈ rs, resOK nv r = true) → lmapO (result1 P t h) rs = some avs →
    ∃ vs, (rs.mapM (resOf a.tmps)).run P w = .ok vs w ∧ VReps w φ (BadOf G h φ) avs vs
  | [], avs, _, hl => by
    cases hl
    exact ⟨[], rfl, by rw [VReps]⟩
  | r :: rs, avs, hr, hl => by
    have hl' : (ob (result1 P t h r) fun y => ob (lmapO (result1 P t h) rs) fun r => some (y :: r)) = some avs := hl
    cases h1 : result1 P t h r with
    | none => rw [h1] at hl'; cases hl'
    | some y =>
      rw [h1] at hl'
      cases h2 : lmapO (result1 P t h) rs with
      | none => rw [h2] at hl'; cases hl'
      | some ys =>
        rw [h2] at hl'
        injection hl' with hl'
        subst hl'
        obtain ⟨vs, h3, h4⟩ := results_list s rs ys (fun r' hr' => hr r' (List.mem_cons_of_mem _ hr')) h2
        have hok := hr r (List.mem_cons_self ..)
        have one : ∃ v, (resOf a.tmps r).run P w = .ok v w ∧ V w φ G h y v := by
          cases r with
          | tmp k =>
            have hk := blt_iff.1 hok
            cases h1
            have := s.slots k
            rw [slot_lt hk] at this
            exact ⟨_, rfl, this⟩
          | cell q ty =>
            have hk := blt_iff.1 hok
            have hs := s.slots q
            rw [slot_lt hk] at hs
            obtain ⟨av, rfl, v, hrun, hv⟩ := load_v s.rel hs (loadA_some h1)
            refine ⟨v, ?_, hv⟩
            -- the same reading, by a sure address
            have hx : ∃ ad, a.tmps.getD q undef = .pointer (some ad) := by
              cases hz : a.tmps.getD q undef with
              | pointer ad =>
                cases ad with
                | some ad => exact ⟨ad, rfl⟩
                | none => rw [hz] at hrun; simp [Instr.loadAt, Instr.sureAddr, Sem.run_bind, stuck, Sem.run] at hrun
              | _ => rw [hz] at hrun; simp [Instr.loadAt, Instr.sureAddr, Sem.run_bind, stuck, Sem.run] at hrun
            obtain ⟨ad, hz⟩ := hx
            rw [hz] at hrun
            unfold resOf
            dsimp only
            rw [hz]
            simp only [Instr.loadAt, Instr.sureAddr, Sem.run_bind, Sem.run_pure, Result.andThen_ok, asAddr] at hrun ⊢
            exact hrun
        obtain ⟨v, h5, h6⟩ := one
        refine ⟨v :: vs, ?_, by rw [VReps]; exact ⟨v, vs, rfl, h6, h4⟩⟩
        rw [List.mapM_cons, Sem.run_bind, h5, Result.andThen_ok, Sem.run_bind, h3, Result.andThen_ok]
        rfl
theorem results_v (s : St G nt nv t l h a w φ) {fn : Func} {av : AV} (hr : lall (resOK nv) fn.results.toList = true) (hk : resultsA P t h fn.results.toList = some av) :
    ∃ v, (results fn a.tmps).run P w = .ok v w ∧ V w φ G h av v := by
  rw [lall_eq, List.all_eq_true] at hr
  unfold resultsA at hk
  obtain ⟨avs, h1, hk⟩ := ob_prop hk
  obtain ⟨vs, h2, h3⟩ := results_list s _ avs hr h1
  rw [results_eq, Sem.run_bind, Array.mapM_eq_mapM_toList, Sem.run_map, h2]
  simp only [Result.andThen_ok]
  have hlen := h3.length
  cases avs with
  | nil =>
    rw [VReps] at h3; subst h3
    cases hk
    exact ⟨_, rfl, by show VRep _ _ _ _ (.tuple #[]); rw [VRep]; exact ⟨#[], rfl, by rw [VReps]⟩⟩
  | cons y ys =>
    cases ys with
    | nil =>
      cases hk
      rw [VReps] at h3
      obtain ⟨u, us, rfl, h4, h5⟩ := h3
      rw [VReps] at h5; subst h5
      exact ⟨u, rfl, h4⟩
    | cons z zs =>
      cases hk
      have hne : ¬ vs.toArray.size = 1 := by
        rw [List.size_toArray, ← hlen]; simp
      refine ⟨.tuple vs.toArray, ?_, by show VRep _ _ _ _ _; rw [VRep]; exact ⟨_, rfl, by simpa using h3⟩⟩
      rw [dif_neg hne]
      rfl

/-! ### Calls -/
/-- An answer that is known is right, wherever it is asked for. -/
def Fact (P : Program) (f : FuncId) (args : List AV) (av : AV) : Prop :=
  ∀ (G : Bad) (h : Heap) (w : World) (φ : Phi) (vs : Array Value), HRel G h w φ → VReps w φ (BadOf G h φ) args vs.toList →
    Enter P f ∧ Calls P f vs w fun e w' => ∃ v φ', e = .returned v ∧ V w' φ' G h av v ∧ Far G h w φ h w' φ'
structure CfgOK (P : Program) (c : Cfg) : Prop where
  memo : ∀ f args av, memoOf c f args = some av → Fact P f args av
  nv : ∀ f, c.nv f ≤ 512
  code : ∀ f q, bodyOf P f = some q → codeOK q.nt q.code = true
  res : ∀ f q, bodyOf P f = some q → lall (resOK (c.nv f)) q.rs = true
  name : ∀ (f : FuncId) (fn : Func), P.funcs[f]? = some fn → (fn.name == "runtime.NumGoroutine") = false
theorem bodyOf_some {f : FuncId} {q : Body} (hq : bodyOf P f = some q) : ∃ fn, P.funcs[f]? = some fn ∧ fn.body = some q.code ∧ q.rs = fn.results.toList ∧ q.nt = fn.ntmps := by
  unfold bodyOf at hq
  cases hf : P.funcs[f]? with
  | none => rw [hf] at hq; cases hq
  | some fn =>
    rw [hf] at hq
    dsimp only at hq
    cases hb : fn.body with
    | none => rw [hb] at hq; cases hq
    | some c => rw [hb] at hq; injection hq with hq; subst hq; exact ⟨fn, rfl, hb, rfl, rfl⟩
theorem ofList_get : ∀ (args : List AV) (k : Nat) (t : Tm) (j : Nat), k + args.length ≤ 512 → j < 512 → Tm.get (Tm.ofList args k t) j = if k ≤ j ∧ j < k + args.length then (args[j - k]?).getD .un else Tm.get t j
  | [], k, t, j, _, _ => by rw [if_neg (by simp)]; rfl
  | x :: xs, k, t, j, h1, h2 => by
    rw [List.length_cons] at h1
    show Tm.get (Tm.ofList xs (k + 1) (Tm.set t k x)) j = _
    rw [ofList_get xs (k + 1) _ j (by omega) h2, List.length_cons]
    by_cases e : k = j
    · subst e
      rw [if_neg (by omega), if_pos (by omega), Tm.get_set _ _ (by omega) (by omega), if_pos rfl]
      simp
    · by_cases h3 : k + 1 ≤ j ∧ j < k + 1 + xs.length
      · rw [if_pos h3, if_pos (by omega), show j - k = (j - (k + 1)) + 1 by omega]
        simp
      · rw [if_neg h3, if_neg (by omega), Tm.get_set _ _ (by omega) (by omega), if_neg (fun x => e x.symm)]
/-- A body at its start. -/
theorem st_enter (hr : HRel G h w φ) {args : List AV} {vs : Array Value} (hv : VReps w φ (BadOf G h φ) args vs.toList) (hl : args.length ≤ 512) (hnv : nv ≤ 512) (nt : Nat) :
    St G nt nv (Tm.ofList args 0 Tm.nil) [] h { tmps := vs ++ Array.replicate (nt - vs.size) undef, defers := [] } w φ := by
  have hlen : args.length = vs.size := by rw [hv.length]; simp
  refine ⟨hr, by simp; omega, fun k => ?_, rfl⟩
  rw [slot_eq]
  split
  · rename_i hk
    rw [ofList_get _ _ _ _ (by omega) (by omega), Tm.get_nil]
    split
    · rename_i h1
      rw [Nat.sub_zero]
      obtain ⟨v, h2, h3⟩ := hv.at k _ (List.getElem?_eq_getElem (by omega))
      rw [List.getElem?_eq_getElem (by omega), Option.getD_some]
      have h4 : (vs ++ Array.replicate (nt - vs.size) undef).getD k undef = v := by
        rw [Array.getD_eq_getD_getElem?, Array.getElem?_append, if_pos (by omega)]
        rw [Array.getElem?_toList] at h2
        rw [h2]; rfl
      dsimp only
      rw [h4]
      exact h3
    · exact V.un _
  · exact V.un _
theorem ext_own {O : Bad} (he : Ext O w w') (hO : ∀ k, ¬ O k) (hr : HRel G h w φ) : Far G h w φ h w' φ := by
  have hext : Ext (Own h φ) w w' := ⟨he.os, he.tape, he.output, he.size, fun k hk _ => he.block k hk (hO k), he.frozen⟩
  have hgo : Goes w (BadOf G h φ) w' (BadOf G h φ) := he.goes (fun k hk => absurd hk (hO k)) (fun k _ hb => hb)
  refine ⟨⟨fun b cb sz n h1 h2 => ?_, hr.has, hr.lt, fun k hk => Nat.lt_of_lt_of_le (hr.gOld k hk) he.size, hr.inj⟩, PhiLe.refl _, hext, fun _ _ h => h, Nat.le_refl _, fun _ _ _ => rfl⟩
  obtain ⟨h3, h4, h5⟩ := hr.blk b cb sz n h1 h2
  exact ⟨h3, Nat.lt_of_lt_of_le h4 he.size, h5.mono hgo (PhiLe.refl _) (he.block cb h4 (hO cb))⟩
theorem callF_v {cfg : Cfg} (ok : CfgOK P cfg) (hD : ∀ n, SoundCall P (callF P False cfg n) → Drawn P (callF P False cfg n)) : ∀ n, SoundCall P (callF P False cfg n)
  | 0 => fun G h w φ f args vs k hr hv hk => hk.elim
  | n + 1 => by
    have ih := callF_v ok hD n
    have ihD := hD n ih
    intro G h w φ f args vs k hr hv hk
    have hk0 : Option.rec (motive := fun _ => Prop) (on False (bodyOf P f) fun q => callB P False cfg (fun nv => runC P False (callF P False cfg n) nv n) f q args h k) (fun v => k v h) (memoOf cfg f args) := hk
    cases hmemo : memoOf cfg f args with
    | some av =>
      rw [hmemo] at hk0
      obtain ⟨h1, h2⟩ := ok.memo f args av hmemo G h w φ vs hr hv
      exact ⟨h1, h2.mono fun e w' ⟨v, φ', e1, e2, e3⟩ => ⟨v, av, h, φ', e1, hk0, e2, e3⟩⟩
    | none =>
    rw [hmemo] at hk0
    have hk1 : on False (bodyOf P f) fun q => callB P False cfg (fun nv => runC P False (callF P False cfg n) nv n) f q args h k := hk0
    obtain ⟨q, hq, hk2⟩ := on_prop hk1
    obtain ⟨fn, hf, hb, hrs, hnt⟩ := bodyOf_some hq
    have hcode := ok.code f q hq
    have hres := ok.res f q hq
    rw [hrs] at hres
    refine ⟨⟨fn, q.code, hf, hb, ok.name f fn hf⟩, ?_⟩
    unfold callB at hk2
    obtain ⟨hl, hk3⟩ := bi_prop hk2
    have hl := ble_iff.1 hl
    rw [llen_eq] at hl
    refine calls_of_wp hf hb ?_
    rw [← hnt]
    cases ho : own cfg f args with
    | false =>
      rw [ho] at hk3
      have hk4 : runC P False (callF P False cfg n) (cfg.nv f) n q.code (endK False (inK P False q.rs k)) (Tm.ofList args 0 Tm.nil) [] h := hk3
      refine code_v ih ihD (ok.nv f) n q.code hcode _ _ _ _ _ _ _ _ (st_enter hr hv hl (ok.nv f) q.nt) hk4 ?_
      have fin : ∀ t' l' h' a' w' φ', St G q.nt (cfg.nv f) t' l' h' a' w' φ' → Far G h w φ h' w' φ' → inK P False q.rs k t' l' h' →
          a'.defers = [] ∧ ∃ v, (results fn a'.tmps).run P w' = .ok v w' ∧ ∃ v' av h' φ', Ending.returned v = .returned v' ∧ k av h' ∧ V w' φ' G h' av v' ∧ Far G h w φ h' w' φ' := by
        intro t' l' h' a' w' φ' s' far hk5
        obtain ⟨av, h1, h2⟩ := on_prop hk5
        rw [hrs] at h1
        obtain ⟨v, h3, h4⟩ := results_v s' hres h1
        exact ⟨s'.defers, v, h3, v, av, h', φ', rfl, h2, h4, far⟩
      intro e t' l' h' a' w' φ' s' far hk5
      cases e with
      | nx => exact fin t' l' h' a' w' φ' s' far hk5
      | rt => exact fin t' l' h' a' w' φ' s' far hk5
      | ex i => exact hk5.elim
    | true =>
      rw [ho] at hk3
      have hk4 : runC P False (callF P False cfg n) (cfg.nv f) n q.code (endK False (ownK P False q.rs h k)) (Tm.ofList args 0 Tm.nil) [] Heap.empty := hk3
      have hrefs : lany (refs 10) args = false := by
        unfold own at ho
        rw [Bool.and_eq_true] at ho
        simpa using ho.2
      -- all that was there is left alone
      have hr0 : HRel (BadOf G h φ) Heap.empty w (fun _ => none) := by
        refine ⟨fun b cb sz n h1 h2 => (by cases h2), fun b h1 => absurd (Heap.raw_empty b) h1, fun b h1 => absurd rfl h1, fun k hk => ?_, fun b b' cb sz n sz' n' h1 h2 h3 h4 => (by cases h3)⟩
        rcases hk with hk | hk
        · exact hr.gOld k hk
        · exact Own.lt hr hk
      have hno : ∀ k, ¬ Own Heap.empty (fun _ => none) k := by rintro k ⟨b, sz, n, h1, h2⟩; cases h2
      have hbad : BadOf (BadOf G h φ) Heap.empty (fun _ => none) = BadOf G h φ := by
        funext k
        exact propext ⟨fun e => e.resolve_right (hno k), .inl⟩
      have hv0 : VReps w (fun _ => none) (BadOf (BadOf G h φ) Heap.empty (fun _ => none)) args vs.toList := by
        rw [hbad]
        exact FReps.toV _ _ _ (refs_list (fun x v => refs_F 10 x v) hrefs hv)
      refine code_v ih ihD (ok.nv f) n q.code hcode _ _ _ _ _ _ _ _ (st_enter hr0 hv0 hl (ok.nv f) q.nt) hk4 ?_
      have fin : ∀ t' l' h' a' w' φ', St (BadOf G h φ) q.nt (cfg.nv f) t' l' h' a' w' φ' → Far (BadOf G h φ) Heap.empty w (fun _ => none) h' w' φ' → ownK P False q.rs h k t' l' h' →
          a'.defers = [] ∧ ∃ v, (results fn a'.tmps).run P w' = .ok v w' ∧ ∃ v' av h' φ', Ending.returned v = .returned v' ∧ k av h' ∧ V w' φ' G h' av v' ∧ Far G h w φ h' w' φ' := by
        intro t' l' h' a' w' φ' s' far hk5
        obtain ⟨av, h1, hk6⟩ := on_prop hk5
        obtain ⟨fv, h2, hk7⟩ := on_prop hk6
        rw [hrs] at h1
        obtain ⟨v, h3, h4⟩ := results_v s' hres h1
        have h5 := frz_F s'.rel 60 av fv v h2 h4
        exact ⟨s'.defers, v, h3, v, fv, h, φ, rfl, hk7, FRep.toV _ _ _ h5, ext_own far.ext hno hr⟩
      intro e t' l' h' a' w' φ' s' far hk5
      cases e with
      | nx => exact fin t' l' h' a' w' φ' s' far hk5
      | rt => exact fin t' l' h' a' w' φ' s' far hk5
      | ex i => exact hk5.elim
end
end Go.Zev

/-
  The evaluator is one function: what is done with an answer may be done behind it.
-/
set_option linter.unusedSimpArgs false
set_option linter.unusedVariables false
namespace Go.Zev
open Go
section
variable {α γ : Type} (g : γ → α) (n' : γ) (P : Program)
theorem on_hom {β : Type} (o : Option β) (k : β → γ) : on (g n') o (fun x => g (k x)) = g (on n' o k) := by cases o <;> rfl
theorem bi_hom (c : Bool) (x y : γ) : bi c (g x) (g y) = g (bi c x y) := by cases c <;> rfl
theorem load1_hom (h : Heap) (x : AV) (k : AV → γ) : load1 (g n') h x (fun v => g (k v)) = g (load1 n' h x k) := by
  unfold load1
  simp only [on_hom, bi_hom]
theorem loadN_hom (h : Heap) (n : Nat) (x : AV) (k : AV → γ) : loadN (g n') h n x (fun v => g (k v)) = g (loadN n' h n x k) := by
  unfold loadN
  simp only [on_hom, bi_hom, load1_hom]
theorem loadA_hom (h : Heap) (ty : TypeId) (x : AV) (k : AV → γ) : loadA P (g n') h ty x (fun v => g (k v)) = g (loadA P n' h ty x k) := by
  unfold loadA
  simp only [on_hom, bi_hom, load1_hom, loadN_hom]
theorem wrEl_hom (h : Heap) (b sz : Nat) (el : List (List AV)) (i off n : Nat) (cs : List AV) (k : Heap → γ) : wrEl (g n') h b sz el i off n cs (fun v => g (k v)) = g (wrEl n' h b sz el i off n cs k) := by
  unfold wrEl
  simp only [on_hom, bi_hom, load1_hom, loadN_hom, loadA_hom]
theorem wrt_hom (h : Heap) (x : AV) (n : Nat) (cs : List AV) (k : Heap → γ) : wrt (g n') h x n cs (fun v => g (k v)) = g (wrt n' h x n cs k) := by
  unfold wrt
  split
  · split <;> first | rfl | simp only [on_hom, bi_hom, load1_hom, loadN_hom, loadA_hom, wrEl_hom]
  · rfl
theorem storeN_hom (h : Heap) (n : Nat) (x : AV) (cs : List AV) (k : Heap → γ) : storeN (g n') h n x cs (fun v => g (k v)) = g (storeN n' h n x cs k) := by
  unfold storeN
  simp only [on_hom, bi_hom, load1_hom, loadN_hom, loadA_hom, wrEl_hom, wrt_hom]
theorem storeA_hom (h : Heap) (ty : TypeId) (x v : AV) (k : Heap → γ) : storeA P (g n') h ty x v (fun v => g (k v)) = g (storeA P n' h ty x v k) := by
  unfold storeA
  simp only [on_hom, bi_hom, load1_hom, loadN_hom, loadA_hom, wrEl_hom, wrt_hom, storeN_hom]
theorem fillA_hom (fs : List Field) (ρ : Operand → AV) (k : List AV → γ) : ∀ (ps : List (Nat × Operand)) (cells : List AV), fillA P (g n') fs ρ (fun v => g (k v)) ps cells = g (fillA P n' fs ρ k ps cells)
  | [], _ => rfl
  | p :: ps, cells => by
    show on (g n') (fieldsAt P fs p.1) (fun q => on (g n') (ucells (ρ p.2)) fun cs => on (g n') (lay cells q.1 q.2 cs) (fillA P (g n') fs ρ (fun v => g (k v)) ps)) =
      g (on n' (fieldsAt P fs p.1) fun q => on n' (ucells (ρ p.2)) fun cs => on n' (lay cells q.1 q.2 cs) (fillA P n' fs ρ k ps))
    have ih : fillA P (g n') fs ρ (fun v => g (k v)) ps = fun c => g (fillA P n' fs ρ k ps c) := funext (fillA_hom fs ρ k ps)
    rw [ih]
    simp only [on_hom]
theorem buildA_hom (ty : TypeId) (ρ : Operand → AV) (ps : List (Nat × Operand)) (k : AV → γ) : buildA P (g n') ty ρ ps (fun v => g (k v)) = g (buildA P n' ty ρ ps k) := by
  unfold buildA
  have : ∀ q : List Field × List AV, fillA P (g n') q.1 ρ (fun cs => g (k (.agg cs))) ps q.2 = g (fillA P n' q.1 ρ (fun cs => k (.agg cs)) ps q.2) := fun q => fillA_hom g n' P q.1 ρ (fun cs => k (.agg cs)) ps q.2
  simp only [this, on_hom]
theorem fillE_hom (sz len : Nat) (ρ : Operand → AV) (k : List (List AV) → γ) : ∀ (ps : List (Nat × Operand)) (el : List (List AV)), fillE (g n') sz len ρ (fun v => g (k v)) ps el = g (fillE n' sz len ρ k ps el)
  | [], _ => rfl
  | p :: ps, el => by
    show on (g n') (ucells (ρ p.2)) (fun cs => bi (lhas cs sz && Nat.blt p.1 len) (fillE (g n') sz len ρ (fun v => g (k v)) ps (lset el cs p.1)) (g n')) =
      g (on n' (ucells (ρ p.2)) fun cs => bi (lhas cs sz && Nat.blt p.1 len) (fillE n' sz len ρ k ps (lset el cs p.1)) n')
    have ih : ∀ el, fillE (g n') sz len ρ (fun v => g (k v)) ps el = g (fillE n' sz len ρ k ps el) := fillE_hom sz len ρ k ps
    simp only [ih, bi_hom, on_hom]
theorem buildSliceA_hom (h : Heap) (id : Nat) (ty : TypeId) (len : Nat) (ρ : Operand → AV) (ps : List (Nat × Operand)) (k : AV → Heap → γ) : buildSliceA P (g n') h id ty len ρ ps (fun v h => g (k v h)) = g (buildSliceA P n' h id ty len ρ ps k) := by
  unfold buildSliceA
  have : ∀ q : TypeId × Nat × List AV, fillE (g n') q.2.1 len ρ (fun el => g (k (.sl id q.2.1 0 len len true) (h.new id (.cells q.2.1 el)))) ps (lrep q.2.2 len) = g (fillE n' q.2.1 len ρ (fun el => k (.sl id q.2.1 0 len len true) (h.new id (.cells q.2.1 el))) ps (lrep q.2.2 len)) :=
    fun q => fillE_hom g n' q.2.1 len ρ (fun el => k (.sl id q.2.1 0 len len true) (h.new id (.cells q.2.1 el))) ps (lrep q.2.2 len)
  simp only [this, on_hom, bi_hom]
theorem fieldN_hom (off sz : Nat) (agg : Bool) (x : AV) (k : AV → γ) : fieldN (g n') off sz agg x (fun v => g (k v)) = g (fieldN n' off sz agg x k) := by
  unfold fieldN
  cases x <;> first | rfl | simp only [on_hom, bi_hom, load1_hom, loadN_hom, loadA_hom, wrEl_hom, wrt_hom, storeN_hom, storeA_hom, fillA_hom, buildA_hom, buildSliceA_hom]
theorem fieldA_hom (ty : TypeId) (x : AV) (j : Nat) (k : AV → γ) : fieldA P (g n') ty x j (fun v => g (k v)) = g (fieldA P n' ty x j k) := by
  unfold fieldA
  simp only [on_hom, bi_hom, load1_hom, loadN_hom, loadA_hom, wrEl_hom, wrt_hom, storeN_hom, storeA_hom, fillA_hom, buildA_hom, buildSliceA_hom, fieldN_hom]
theorem fieldAddrN_hom (o : Nat) (x : AV) (k : AV → γ) : fieldAddrN (g n') o x (fun v => g (k v)) = g (fieldAddrN n' o x k) := by
  unfold fieldAddrN
  cases x <;> first | rfl | simp only [on_hom, bi_hom, load1_hom, loadN_hom, loadA_hom, wrEl_hom, wrt_hom, storeN_hom, storeA_hom, fillA_hom, buildA_hom, buildSliceA_hom, fieldN_hom, fieldA_hom]
theorem fieldAddrA_hom (ty : TypeId) (x : AV) (j : Nat) (k : AV → γ) : fieldAddrA P (g n') ty x j (fun v => g (k v)) = g (fieldAddrA P n' ty x j k) := by
  unfold fieldAddrA
  simp only [on_hom, bi_hom, load1_hom, loadN_hom, loadA_hom, wrEl_hom, wrt_hom, storeN_hom, storeA_hom, fillA_hom, buildA_hom, buildSliceA_hom, fieldN_hom, fieldA_hom, fieldAddrN_hom]
theorem indexAddrN_hom (sz : Nat) (x : AV) (n : Nat) (k : AV → γ) : indexAddrN (g n') sz x n (fun v => g (k v)) = g (indexAddrN n' sz x n k) := by
  unfold indexAddrN
  cases x <;> first | rfl | simp only [on_hom, bi_hom, load1_hom, loadN_hom, loadA_hom, wrEl_hom, wrt_hom, storeN_hom, storeA_hom, fillA_hom, buildA_hom, buildSliceA_hom, fieldN_hom, fieldA_hom, fieldAddrN_hom, fieldAddrA_hom]
theorem indexAddrA_hom (ty : TypeId) (x ix : AV) (k : AV → γ) : indexAddrA P (g n') ty x ix (fun v => g (k v)) = g (indexAddrA P n' ty x ix k) := by
  unfold indexAddrA
  simp only [on_hom, bi_hom, load1_hom, loadN_hom, loadA_hom, wrEl_hom, wrt_hom, storeN_hom, storeA_hom, fillA_hom, buildA_hom, buildSliceA_hom, fieldN_hom, fieldA_hom, fieldAddrN_hom, fieldAddrA_hom, indexAddrN_hom]
theorem indexN_hom (x : AV) (n : Nat) (k : AV → γ) : indexN (g n') x n (fun v => g (k v)) = g (indexN n' x n k) := by
  unfold indexN
  cases x <;> first | rfl | simp only [on_hom, bi_hom, load1_hom, loadN_hom, loadA_hom, wrEl_hom, wrt_hom, storeN_hom, storeA_hom, fillA_hom, buildA_hom, buildSliceA_hom, fieldN_hom, fieldA_hom, fieldAddrN_hom, fieldAddrA_hom, indexAddrN_hom, indexAddrA_hom]
theorem indexA_hom (ty : TypeId) (x ix : AV) (k : AV → γ) : indexA P (g n') ty x ix (fun v => g (k v)) = g (indexA P n' ty x ix k) := by
  unfold indexA
  simp only [on_hom, bi_hom, load1_hom, loadN_hom, loadA_hom, wrEl_hom, wrt_hom, storeN_hom, storeA_hom, fillA_hom, buildA_hom, buildSliceA_hom, fieldN_hom, fieldA_hom, fieldAddrN_hom, fieldAddrA_hom, indexAddrN_hom, indexAddrA_hom, indexN_hom]
theorem bnd_hom (x : AV) (y : Nat) (k : Nat → γ) : bnd (g n') x y (fun v => g (k v)) = g (bnd n' x y k) := by
  unfold bnd
  simp only [on_hom, bi_hom, load1_hom, loadN_hom, loadA_hom, wrEl_hom, wrt_hom, storeN_hom, storeA_hom, fillA_hom, buildA_hom, buildSliceA_hom, fieldN_hom, fieldA_hom, fieldAddrN_hom, fieldAddrA_hom, indexAddrN_hom, indexAddrA_hom, indexN_hom, indexA_hom]
theorem bndO_hom (ρ : Operand → AV) (y d : Nat) (o : Option Operand) (k : Nat → γ) : bndO (g n') ρ y d o (fun v => g (k v)) = g (bndO n' ρ y d o k) := by
  cases o with
  | none => rfl
  | some x => exact bnd_hom g n' (ρ x) y k
theorem bnds_hom (ρ : Operand → AV) (len : Nat) (lo hi : Option Operand) (k : Nat → Nat → γ) : bnds (g n') ρ len lo hi (fun a b => g (k a b)) = g (bnds n' ρ len lo hi k) := by
  unfold bnds
  simp only [bndO_hom]
theorem slice2_hom (ty : TypeId) (ρ : Operand → AV) (x : AV) (lo hi : Option Operand) (k : AV → γ) : slice2 P (g n') ty ρ x lo hi (fun v => g (k v)) = g (slice2 P n' ty ρ x lo hi k) := by
  unfold slice2
  cases x <;> first | rfl | simp only [on_hom, bi_hom, load1_hom, loadN_hom, loadA_hom, wrEl_hom, wrt_hom, storeN_hom, storeA_hom, fillA_hom, buildA_hom, buildSliceA_hom, fieldN_hom, fieldA_hom, fieldAddrN_hom, fieldAddrA_hom, indexAddrN_hom, indexAddrA_hom, indexN_hom, indexA_hom, bnd_hom, bndO_hom, bnds_hom]
theorem slice3_hom (ty : TypeId) (ρ : Operand → AV) (x : AV) (hi mx : Operand) (k : AV → γ) : slice3 P (g n') ty ρ x hi mx (fun v => g (k v)) = g (slice3 P n' ty ρ x hi mx k) := by
  unfold slice3
  cases x <;> simp only [on_hom, bi_hom, load1_hom, loadN_hom, loadA_hom, wrEl_hom, wrt_hom, storeN_hom, storeA_hom, fillA_hom, buildA_hom, buildSliceA_hom, fieldN_hom, fieldA_hom, fieldAddrN_hom, fieldAddrA_hom, indexAddrN_hom, indexAddrA_hom, indexN_hom, indexA_hom, bnd_hom, bndO_hom, bnds_hom, slice2_hom]
theorem sliceA_hom (ty : TypeId) (ρ : Operand → AV) (x : AV) (lo hi mx : Option Operand) (k : AV → γ) : sliceA P (g n') ty ρ x lo hi mx (fun v => g (k v)) = g (sliceA P n' ty ρ x lo hi mx k) := by
  unfold sliceA
  cases mx <;> cases lo <;> cases hi <;> first | rfl | simp only [on_hom, bi_hom, load1_hom, loadN_hom, loadA_hom, wrEl_hom, wrt_hom, storeN_hom, storeA_hom, fillA_hom, buildA_hom, buildSliceA_hom, fieldN_hom, fieldA_hom, fieldAddrN_hom, fieldAddrA_hom, indexAddrN_hom, indexAddrA_hom, indexN_hom, indexA_hom, bnd_hom, bndO_hom, bnds_hom, slice2_hom, slice3_hom]
theorem lenN_hom (str sl : Bool) (x : AV) (k : AV → γ) : lenN (g n') str sl x (fun v => g (k v)) = g (lenN n' str sl x k) := by
  unfold lenN
  cases x <;> first | rfl | simp only [on_hom, bi_hom, load1_hom, loadN_hom, loadA_hom, wrEl_hom, wrt_hom, storeN_hom, storeA_hom, fillA_hom, buildA_hom, buildSliceA_hom, fieldN_hom, fieldA_hom, fieldAddrN_hom, fieldAddrA_hom, indexAddrN_hom, indexAddrA_hom, indexN_hom, indexA_hom, bnd_hom, bndO_hom, bnds_hom, slice2_hom, slice3_hom, sliceA_hom]
theorem elemsA_hom (h : Heap) (sz : Nat) (x : AV) (k : List (List AV) → γ) : elemsA (g n') h sz x (fun v => g (k v)) = g (elemsA n' h sz x k) := by
  unfold elemsA
  cases x <;> first | rfl | simp only [on_hom, bi_hom, load1_hom, loadN_hom, loadA_hom, wrEl_hom, wrt_hom, storeN_hom, storeA_hom, fillA_hom, buildA_hom, buildSliceA_hom, fieldN_hom, fieldA_hom, fieldAddrN_hom, fieldAddrA_hom, indexAddrN_hom, indexAddrA_hom, indexN_hom, indexA_hom, bnd_hom, bndO_hom, bnds_hom, slice2_hom, slice3_hom, sliceA_hom, lenN_hom] | skip
  split <;> simp only [on_hom, bi_hom, load1_hom, loadN_hom, loadA_hom, wrEl_hom, wrt_hom, storeN_hom, storeA_hom, fillA_hom, buildA_hom, buildSliceA_hom, fieldN_hom, fieldA_hom, fieldAddrN_hom, fieldAddrA_hom, indexAddrN_hom, indexAddrA_hom, indexN_hom, indexA_hom, bnd_hom, bndO_hom, bnds_hom, slice2_hom, slice3_hom, sliceA_hom, lenN_hom]
theorem appendSl_hom (h : Heap) (id sz b start len : Nat) (full : Bool) (src : List (List AV)) (n : Nat) (el : List (List AV)) (k : AV → Heap → γ) : appendSl (g n') h id sz b start len full src n el (fun v h => g (k v h)) = g (appendSl n' h id sz b start len full src n el k) := by
  unfold appendSl
  simp only [on_hom, bi_hom, load1_hom, loadN_hom, loadA_hom, wrEl_hom, wrt_hom, storeN_hom, storeA_hom, fillA_hom, buildA_hom, buildSliceA_hom, fieldN_hom, fieldA_hom, fieldAddrN_hom, fieldAddrA_hom, indexAddrN_hom, indexAddrA_hom, indexN_hom, indexA_hom, bnd_hom, bndO_hom, bnds_hom, slice2_hom, slice3_hom, sliceA_hom, lenN_hom, elemsA_hom]
theorem appendE_hom (h : Heap) (id sz : Nat) (x : AV) (src : List (List AV)) (n : Nat) (k : AV → Heap → γ) : appendE (g n') h id sz x src n (fun v h => g (k v h)) = g (appendE n' h id sz x src n k) := by
  unfold appendE
  split <;> first | rfl | simp only [on_hom, bi_hom, load1_hom, loadN_hom, loadA_hom, wrEl_hom, wrt_hom, storeN_hom, storeA_hom, fillA_hom, buildA_hom, buildSliceA_hom, fieldN_hom, fieldA_hom, fieldAddrN_hom, fieldAddrA_hom, indexAddrN_hom, indexAddrA_hom, indexN_hom, indexA_hom, bnd_hom, bndO_hom, bnds_hom, slice2_hom, slice3_hom, sliceA_hom, lenN_hom, elemsA_hom, appendSl_hom] | skip
  split <;> simp only [on_hom, bi_hom, load1_hom, loadN_hom, loadA_hom, wrEl_hom, wrt_hom, storeN_hom, storeA_hom, fillA_hom, buildA_hom, buildSliceA_hom, fieldN_hom, fieldA_hom, fieldAddrN_hom, fieldAddrA_hom, indexAddrN_hom, indexAddrA_hom, indexN_hom, indexA_hom, bnd_hom, bndO_hom, bnds_hom, slice2_hom, slice3_hom, sliceA_hom, lenN_hom, elemsA_hom, appendSl_hom]
theorem append2_hom (h : Heap) (id sz : Nat) (x : AV) (src : List (List AV)) (k : AV → Heap → γ) : append2 (g n') h id sz x src (fun v h => g (k v h)) = g (append2 n' h id sz x src k) := by
  unfold append2
  cases src <;> simp only [on_hom, bi_hom, load1_hom, loadN_hom, loadA_hom, wrEl_hom, wrt_hom, storeN_hom, storeA_hom, fillA_hom, buildA_hom, buildSliceA_hom, fieldN_hom, fieldA_hom, fieldAddrN_hom, fieldAddrA_hom, indexAddrN_hom, indexAddrA_hom, indexN_hom, indexA_hom, bnd_hom, bndO_hom, bnds_hom, slice2_hom, slice3_hom, sliceA_hom, lenN_hom, elemsA_hom, appendSl_hom, appendE_hom]
theorem appendA_hom (h : Heap) (id : Nat) (ty uy : TypeId) (x y : AV) (k : AV → Heap → γ) : appendA P (g n') h id ty uy x y (fun v h => g (k v h)) = g (appendA P n' h id ty uy x y k) := by
  unfold appendA
  have : ∀ q : TypeId × Nat × List AV, elemsA (g n') h q.2.1 y (fun src => g (append2 n' h id q.2.1 x src k)) = g (elemsA n' h q.2.1 y fun src => append2 n' h id q.2.1 x src k) := fun q => elemsA_hom g n' h q.2.1 y _
  simp only [append2_hom, this, on_hom, bi_hom]
theorem makeSliceA_hom (h : Heap) (id : Nat) (ty : TypeId) (l c : AV) (k : AV → Heap → γ) : makeSliceA P (g n') h id ty l c (fun v h => g (k v h)) = g (makeSliceA P n' h id ty l c k) := by
  unfold makeSliceA
  simp only [on_hom, bi_hom, load1_hom, loadN_hom, loadA_hom, wrEl_hom, wrt_hom, storeN_hom, storeA_hom, fillA_hom, buildA_hom, buildSliceA_hom, fieldN_hom, fieldA_hom, fieldAddrN_hom, fieldAddrA_hom, indexAddrN_hom, indexAddrA_hom, indexN_hom, indexA_hom, bnd_hom, bndO_hom, bnds_hom, slice2_hom, slice3_hom, sliceA_hom, lenN_hom, elemsA_hom, appendSl_hom, appendE_hom, append2_hom, appendA_hom]
theorem binI_hom (op : BinOp) (j : IntKind) (a b : Int) (k : AV → γ) : binI (g n') op j a b (fun v => g (k v)) = g (binI n' op j a b k) := by
  unfold binI
  cases op <;> first | rfl | simp only [on_hom, bi_hom, load1_hom, loadN_hom, loadA_hom, wrEl_hom, wrt_hom, storeN_hom, storeA_hom, fillA_hom, buildA_hom, buildSliceA_hom, fieldN_hom, fieldA_hom, fieldAddrN_hom, fieldAddrA_hom, indexAddrN_hom, indexAddrA_hom, indexN_hom, indexA_hom, bnd_hom, bndO_hom, bnds_hom, slice2_hom, slice3_hom, sliceA_hom, lenN_hom, elemsA_hom, appendSl_hom, appendE_hom, append2_hom, appendA_hom, makeSliceA_hom]
theorem binS_hom (op : BinOp) (l1 v1 l2 v2 : Nat) (k : AV → γ) : binS (g n') op l1 v1 l2 v2 (fun v => g (k v)) = g (binS n' op l1 v1 l2 v2 k) := by
  unfold binS
  cases op <;> first | rfl | simp only [on_hom, bi_hom, load1_hom, loadN_hom, loadA_hom, wrEl_hom, wrt_hom, storeN_hom, storeA_hom, fillA_hom, buildA_hom, buildSliceA_hom, fieldN_hom, fieldA_hom, fieldAddrN_hom, fieldAddrA_hom, indexAddrN_hom, indexAddrA_hom, indexN_hom, indexA_hom, bnd_hom, bndO_hom, bnds_hom, slice2_hom, slice3_hom, sliceA_hom, lenN_hom, elemsA_hom, appendSl_hom, appendE_hom, append2_hom, appendA_hom, makeSliceA_hom, binI_hom]
theorem binSh_hom (op : BinOp) (j : IntKind) (a b : Int) (k : AV → γ) : binSh (g n') op j a b (fun v => g (k v)) = g (binSh n' op j a b k) := by
  unfold binSh
  cases op <;> first | rfl | simp only [on_hom, bi_hom, load1_hom, loadN_hom, loadA_hom, wrEl_hom, wrt_hom, storeN_hom, storeA_hom, fillA_hom, buildA_hom, buildSliceA_hom, fieldN_hom, fieldA_hom, fieldAddrN_hom, fieldAddrA_hom, indexAddrN_hom, indexAddrA_hom, indexN_hom, indexA_hom, bnd_hom, bndO_hom, bnds_hom, slice2_hom, slice3_hom, sliceA_hom, lenN_hom, elemsA_hom, appendSl_hom, appendE_hom, append2_hom, appendA_hom, makeSliceA_hom, binI_hom, binS_hom]
theorem binE_hom (op : BinOp) (ty : TypeId) (x y : AV) (k : AV → γ) : binE P (g n') op ty x y (fun v => g (k v)) = g (binE P n' op ty x y k) := by
  unfold binE
  cases op <;> first | rfl | simp only [on_hom, bi_hom, load1_hom, loadN_hom, loadA_hom, wrEl_hom, wrt_hom, storeN_hom, storeA_hom, fillA_hom, buildA_hom, buildSliceA_hom, fieldN_hom, fieldA_hom, fieldAddrN_hom, fieldAddrA_hom, indexAddrN_hom, indexAddrA_hom, indexN_hom, indexA_hom, bnd_hom, bndO_hom, bnds_hom, slice2_hom, slice3_hom, sliceA_hom, lenN_hom, elemsA_hom, appendSl_hom, appendE_hom, append2_hom, appendA_hom, makeSliceA_hom, binI_hom, binS_hom, binSh_hom]
theorem binII_hom (op : BinOp) (j : IntKind) (a : Int) (y : AV) (k : AV → γ) : binII (g n') op j a y (fun v => g (k v)) = g (binII n' op j a y k) := by
  unfold binII
  cases y <;> first | rfl | simp only [on_hom, bi_hom, load1_hom, loadN_hom, loadA_hom, wrEl_hom, wrt_hom, storeN_hom, storeA_hom, fillA_hom, buildA_hom, buildSliceA_hom, fieldN_hom, fieldA_hom, fieldAddrN_hom, fieldAddrA_hom, indexAddrN_hom, indexAddrA_hom, indexN_hom, indexA_hom, bnd_hom, bndO_hom, bnds_hom, slice2_hom, slice3_hom, sliceA_hom, lenN_hom, elemsA_hom, appendSl_hom, appendE_hom, append2_hom, appendA_hom, makeSliceA_hom, binI_hom, binS_hom, binSh_hom, binE_hom]
theorem binSS_hom (op : BinOp) (l1 v1 : Nat) (y : AV) (k : AV → γ) : binSS (g n') op l1 v1 y (fun v => g (k v)) = g (binSS n' op l1 v1 y k) := by
  unfold binSS
  cases y <;> first | rfl | simp only [on_hom, bi_hom, load1_hom, loadN_hom, loadA_hom, wrEl_hom, wrt_hom, storeN_hom, storeA_hom, fillA_hom, buildA_hom, buildSliceA_hom, fieldN_hom, fieldA_hom, fieldAddrN_hom, fieldAddrA_hom, indexAddrN_hom, indexAddrA_hom, indexN_hom, indexA_hom, bnd_hom, bndO_hom, bnds_hom, slice2_hom, slice3_hom, sliceA_hom, lenN_hom, elemsA_hom, appendSl_hom, appendE_hom, append2_hom, appendA_hom, makeSliceA_hom, binI_hom, binS_hom, binSh_hom, binE_hom, binII_hom]
theorem xval_hom (z : Int) (r : XT) (k : AV → γ) : xval (g n') z r (fun v => g (k v)) = g (xval n' z r k) := by cases r <;> rfl
theorem binX_hom (op : BinOp) (j : IntKind) (z : Int) (t : XT) (y : AV) (k : AV → γ) : binX (g n') op j z t y (fun v => g (k v)) = g (binX n' op j z t y k) := by
  unfold binX
  cases y <;> first | rfl | simp only [on_hom, xval_hom]
theorem binA_hom (op : BinOp) (ty : TypeId) (x y : AV) (k : AV → γ) : binA P (g n') op ty x y (fun v => g (k v)) = g (binA P n' op ty x y k) := by
  unfold binA
  cases x <;> first | rfl | simp only [on_hom, bi_hom, load1_hom, loadN_hom, loadA_hom, wrEl_hom, wrt_hom, storeN_hom, storeA_hom, fillA_hom, buildA_hom, buildSliceA_hom, fieldN_hom, fieldA_hom, fieldAddrN_hom, fieldAddrA_hom, indexAddrN_hom, indexAddrA_hom, indexN_hom, indexA_hom, bnd_hom, bndO_hom, bnds_hom, slice2_hom, slice3_hom, sliceA_hom, lenN_hom, elemsA_hom, appendSl_hom, appendE_hom, append2_hom, appendA_hom, makeSliceA_hom, binI_hom, binS_hom, binSh_hom, binE_hom, binII_hom, binSS_hom, binX_hom]
theorem unA_hom (op : UnOp) (x : AV) (k : AV → γ) : unA (g n') op x (fun v => g (k v)) = g (unA n' op x k) := by
  unfold unA
  cases x <;> cases op <;> first | rfl | simp only [on_hom, bi_hom, load1_hom, loadN_hom, loadA_hom, wrEl_hom, wrt_hom, storeN_hom, storeA_hom, fillA_hom, buildA_hom, buildSliceA_hom, fieldN_hom, fieldA_hom, fieldAddrN_hom, fieldAddrA_hom, indexAddrN_hom, indexAddrA_hom, indexN_hom, indexA_hom, bnd_hom, bndO_hom, bnds_hom, slice2_hom, slice3_hom, sliceA_hom, lenN_hom, elemsA_hom, appendSl_hom, appendE_hom, append2_hom, appendA_hom, makeSliceA_hom, binI_hom, binS_hom, binSh_hom, binE_hom, binII_hom, binSS_hom, binA_hom]
theorem convA_hom (s d : TypeId) (x : AV) (k : AV → γ) : convA P (g n') s d x (fun v => g (k v)) = g (convA P n' s d x k) := by
  unfold convA
  cases x <;> first | rfl | simp only [on_hom, xval_hom, bi_hom, load1_hom, loadN_hom, loadA_hom, wrEl_hom, wrt_hom, storeN_hom, storeA_hom, fillA_hom, buildA_hom, buildSliceA_hom, fieldN_hom, fieldA_hom, fieldAddrN_hom, fieldAddrA_hom, indexAddrN_hom, indexAddrA_hom, indexN_hom, indexA_hom, bnd_hom, bndO_hom, bnds_hom, slice2_hom, slice3_hom, sliceA_hom, lenN_hom, elemsA_hom, appendSl_hom, appendE_hom, append2_hom, appendA_hom, makeSliceA_hom, binI_hom, binS_hom, binSh_hom, binE_hom, binII_hom, binSS_hom, binA_hom, unA_hom]
theorem assertNo_hom (ty : TypeId) (ok : Bool) (k : AV → γ) : assertNo P (g n') ty ok (fun v => g (k v)) = g (assertNo P n' ty ok k) := by
  unfold assertNo
  simp only [on_hom, bi_hom, load1_hom, loadN_hom, loadA_hom, wrEl_hom, wrt_hom, storeN_hom, storeA_hom, fillA_hom, buildA_hom, buildSliceA_hom, fieldN_hom, fieldA_hom, fieldAddrN_hom, fieldAddrA_hom, indexAddrN_hom, indexAddrA_hom, indexN_hom, indexA_hom, bnd_hom, bndO_hom, bnds_hom, slice2_hom, slice3_hom, sliceA_hom, lenN_hom, elemsA_hom, appendSl_hom, appendE_hom, append2_hom, appendA_hom, makeSliceA_hom, binI_hom, binS_hom, binSh_hom, binE_hom, binII_hom, binSS_hom, binA_hom, unA_hom, convA_hom]
theorem assertA_hom (x : AV) (ty : TypeId) (ok : Bool) (k : AV → γ) : assertA P (g n') x ty ok (fun v => g (k v)) = g (assertA P n' x ty ok k) := by
  unfold assertA
  cases x <;> simp only [on_hom, bi_hom, load1_hom, loadN_hom, loadA_hom, wrEl_hom, wrt_hom, storeN_hom, storeA_hom, fillA_hom, buildA_hom, buildSliceA_hom, fieldN_hom, fieldA_hom, fieldAddrN_hom, fieldAddrA_hom, indexAddrN_hom, indexAddrA_hom, indexN_hom, indexA_hom, bnd_hom, bndO_hom, bnds_hom, slice2_hom, slice3_hom, sliceA_hom, lenN_hom, elemsA_hom, appendSl_hom, appendE_hom, append2_hom, appendA_hom, makeSliceA_hom, binI_hom, binS_hom, binSh_hom, binE_hom, binII_hom, binSS_hom, binA_hom, unA_hom, convA_hom, assertNo_hom]
theorem extractN_hom (x : AV) (i : Nat) (k : AV → γ) : extractN (g n') x i (fun v => g (k v)) = g (extractN n' x i k) := by
  unfold extractN
  cases x <;> first | rfl | simp only [on_hom, bi_hom, load1_hom, loadN_hom, loadA_hom, wrEl_hom, wrt_hom, storeN_hom, storeA_hom, fillA_hom, buildA_hom, buildSliceA_hom, fieldN_hom, fieldA_hom, fieldAddrN_hom, fieldAddrA_hom, indexAddrN_hom, indexAddrA_hom, indexN_hom, indexA_hom, bnd_hom, bndO_hom, bnds_hom, slice2_hom, slice3_hom, sliceA_hom, lenN_hom, elemsA_hom, appendSl_hom, appendE_hom, append2_hom, appendA_hom, makeSliceA_hom, binI_hom, binS_hom, binSh_hom, binE_hom, binII_hom, binSS_hom, binA_hom, unA_hom, convA_hom, assertNo_hom, assertA_hom]
theorem minmax_hom (big : Bool) (x y : AV) (k : AV → γ) : minmax (g n') big x y (fun v => g (k v)) = g (minmax n' big x y k) := by
  unfold minmax
  cases x <;> cases y <;> first | rfl | simp only [on_hom, bi_hom, load1_hom, loadN_hom, loadA_hom, wrEl_hom, wrt_hom, storeN_hom, storeA_hom, fillA_hom, buildA_hom, buildSliceA_hom, fieldN_hom, fieldA_hom, fieldAddrN_hom, fieldAddrA_hom, indexAddrN_hom, indexAddrA_hom, indexN_hom, indexA_hom, bnd_hom, bndO_hom, bnds_hom, slice2_hom, slice3_hom, sliceA_hom, lenN_hom, elemsA_hom, appendSl_hom, appendE_hom, append2_hom, appendA_hom, makeSliceA_hom, binI_hom, binS_hom, binSh_hom, binE_hom, binII_hom, binSS_hom, binA_hom, unA_hom, convA_hom, assertNo_hom, assertA_hom, extractN_hom]
theorem boxN_hom (x : AV) (h : Heap) (id : Nat) (k : AV → Heap → γ) : boxN (g n') x h id (fun v h => g (k v h)) = g (boxN n' x h id k) := by
  unfold boxN
  simp only [on_hom, bi_hom, load1_hom, loadN_hom, loadA_hom, wrEl_hom, wrt_hom, storeN_hom, storeA_hom, fillA_hom, buildA_hom, buildSliceA_hom, fieldN_hom, fieldA_hom, fieldAddrN_hom, fieldAddrA_hom, indexAddrN_hom, indexAddrA_hom, indexN_hom, indexA_hom, bnd_hom, bndO_hom, bnds_hom, slice2_hom, slice3_hom, sliceA_hom, lenN_hom, elemsA_hom, appendSl_hom, appendE_hom, append2_hom, appendA_hom, makeSliceA_hom, binI_hom, binS_hom, binSh_hom, binE_hom, binII_hom, binSS_hom, binA_hom, unA_hom, convA_hom, assertNo_hom, assertA_hom, extractN_hom, minmax_hom]

theorem insertN_hom (h : Heap) (j : IntKind) (m key x : AV) (k : Heap → γ) : insertN (g n') h j m key x (fun v => g (k v)) = g (insertN n' h j m key x k) := by
  unfold insertN
  split
  · split
    · split
      · exact bi_hom g _ _ _
      · rfl
    · rfl
  · rfl
theorem lookupN_hom (h : Heap) (j : IntKind) (z : Option AV) (m key : AV) (ok : Bool) (k : AV → γ) : lookupN (g n') h j z m key ok (fun v => g (k v)) = g (lookupN n' h j z m key ok k) := by
  unfold lookupN
  split
  · split
    · split
      · rename_i es _ l n
        have : ∀ r : Option AV, Option.rec (motive := fun _ => α) (on (g n') z fun z => g (k (okTup ok z false))) (fun v => g (k (okTup ok v true))) r = g (Option.rec (motive := fun _ => γ) (on n' z fun z => k (okTup ok z false)) (fun v => k (okTup ok v true)) r) := by
          intro r
          cases r with
          | none => exact on_hom g n' z _
          | some v => rfl
        simp only [this, on_hom, bi_hom]
      · rfl
    · rfl
  · rfl
theorem nextN_hom (h : Heap) (x : AV) (k : AV → Heap → γ) : nextN (g n') h x (fun v h => g (k v h)) = g (nextN n' h x k) := by
  unfold nextN
  split
  · split
    · simp only [bi_hom]
    · rfl
  · rfl

/-! ### Operations -/
/-- These calls are those. -/
def CallHom (call : Call' α) (call' : Call' γ) : Prop := ∀ f args h (k : AV → Heap → γ), call f args h (fun v h => g (k v h)) = g (call' f args h k)
theorem callFn_hom {call : Call' α} {call' : Call' γ} (hc : CallHom g call call') (f : AV) (args : List AV) (h : Heap) (k : AV → Heap → γ) : callFn (g n') f args call h (fun v h => g (k v h)) = g (callFn n' f args call' h k) := by
  unfold callFn
  split
  · exact hc _ _ _ _
  · rfl
theorem table_hom {call : Call' α} {call' : Call' γ} (hc : CallHom g call call') (o : Op) (ρ : Operand → AV) (h : Heap) (id : Nat) (k : AV → Heap → γ) :
    table P o (g n') call ρ h id (fun v h => g (k v h)) = g (table P o n' call' ρ h id k) := by
  cases o with
  | move x => rfl
  | assign x => rfl
  | pick c a b => show evPick c a b (g n') call ρ h id (fun v h => g (k v h)) = g (evPick c a b n' call' ρ h id k); unfold evPick; split <;> rfl
  | alloc t => show on _ (zeroOf P t) _ = g (on _ (zeroOf P t) _); exact on_hom g n' _ _
  | box t x => exact boxN_hom g n' _ _ _ k
  | build t ps => exact buildA_hom g n' P _ _ _ fun v => k v h
  | buildSlice t n ps => exact buildSliceA_hom g n' P _ _ _ _ _ _ k
  | load t x => exact loadA_hom g n' P _ _ _ fun v => k v h
  | store t x y => exact storeA_hom g n' P _ _ _ _ (k .un)
  | nilCheck x => show evNilCheck x (g n') call ρ h id (fun v h => g (k v h)) = g (evNilCheck x n' call' ρ h id k); unfold evNilCheck; split <;> rfl
  | binOp op t x y t' => exact binA_hom g n' P _ _ _ _ fun v => k v h
  | unOp op t x => exact unA_hom g n' _ _ fun v => k v h
  | convert s d x => exact convA_hom g n' P _ _ _ fun v => k v h
  | makeInterface t x => exact bi_hom g _ _ _
  | makeFunc f a c => rfl
  | makeSlice t l c => exact makeSliceA_hom g n' P _ _ _ _ _ k
  | slice t x lo hi mx => exact sliceA_hom g n' P _ _ _ _ _ _ fun v => k v h
  | fieldAddr t x j => exact fieldAddrA_hom g n' P _ _ _ fun v => k v h
  | field t x j => exact fieldA_hom g n' P _ _ _ fun v => k v h
  | indexAddr t x i => exact indexAddrA_hom g n' P _ _ _ fun v => k v h
  | index t x i => exact indexA_hom g n' P _ _ _ fun v => k v h
  | typeAssert x s t ok => exact assertA_hom g n' P _ _ _ fun v => k v h
  | extract x i => exact extractN_hom g n' _ _ fun v => k v h
  | makeMap t r => cases r <;> rfl
  | insert t m key x =>
    show on (g n') (mapOfT P t) (fun q => insertN (g n') h q.1 (ρ m) (ρ key) (ρ x) fun v => g (k .un v)) = g (on n' (mapOfT P t) fun q => insertN n' h q.1 (ρ m) (ρ key) (ρ x) (k .un))
    have : ∀ q : IntKind × TypeId, insertN (g n') h q.1 (ρ m) (ρ key) (ρ x) (fun v => g (k .un v)) = g (insertN n' h q.1 (ρ m) (ρ key) (ρ x) (k .un)) := fun q => insertN_hom g n' h q.1 _ _ _ (k .un)
    simp only [this, on_hom]
  | lookup t m key ok =>
    show on (g n') (mapOfT P t) (fun q => lookupN (g n') h q.1 (zeroOf P q.2) (ρ m) (ρ key) ok fun v => g (k v h)) = g (on n' (mapOfT P t) fun q => lookupN n' h q.1 (zeroOf P q.2) (ρ m) (ρ key) ok fun v => k v h)
    have : ∀ q : IntKind × TypeId, lookupN (g n') h q.1 (zeroOf P q.2) (ρ m) (ρ key) ok (fun v => g (k v h)) = g (lookupN n' h q.1 (zeroOf P q.2) (ρ m) (ρ key) ok fun v => k v h) := fun q => lookupN_hom g n' h q.1 _ _ _ _ fun v => k v h
    simp only [this, on_hom]
  | range t x =>
    show bi (isStr P t) (match ρ x with | .s len val => g (k (.it id) (h.new id (.iter len val 0))) | _ => g n') (g n') = g (bi (isStr P t) (match ρ x with | .s len val => k (.it id) (h.new id (.iter len val 0)) | _ => n') n')
    rw [← bi_hom g]
    congr 1
    split <;> rfl
  | next x s =>
    show bi s (nextN (g n') h (ρ x) fun v h => g (k v h)) (g n') = g (bi s (nextN n' h (ρ x) k) n')
    rw [nextN_hom, bi_hom]
  | call c =>
    show evCall P c (g n') call ρ h id _ = g (evCall P c n' call' ρ h id k)
    unfold evCall
    cases c.callee with
    | value f => exact callFn_hom g n' hc _ _ _ k
    | invoke r n => rfl
    | builtin b =>
      cases b <;> first | rfl | skip
      · show evAppend P c.args.toList c.argTypes.toList (g n') call ρ h id (fun v h => g (k v h)) = g (evAppend P c.args.toList c.argTypes.toList n' call' ρ h id k)
        unfold evAppend
        split
        · split
          · exact appendA_hom g n' P _ _ _ _ _ _ k
          · rfl
        · rfl
      · show evLen P c.args.toList c.argTypes.toList (g n') call ρ h id (fun v h => g (k v h)) = g (evLen P c.args.toList c.argTypes.toList n' call' ρ h id k)
        unfold evLen
        split
        · split
          · exact lenN_hom g n' _ _ _ fun v => k v h
          · rfl
        · rfl
      · show evMinMax true c.args.toList (g n') call ρ h id (fun v h => g (k v h)) = g (evMinMax true c.args.toList n' call' ρ h id k)
        unfold evMinMax
        split
        · exact minmax_hom g n' _ _ _ fun v => k v h
        · rfl
      · show evMinMax false c.args.toList (g n') call ρ h id (fun v h => g (k v h)) = g (evMinMax false c.args.toList n' call' ρ h id k)
        unfold evMinMax
        split
        · exact minmax_hom g n' _ _ _ fun v => k v h
        · rfl
  | _ => rfl

/-! ### Regions -/
theorem boolK_hom (want : Bool) (v : AV) (yes skip : γ) : boolK (g n') want v (g yes) (g skip) = g (boolK n' want v yes skip) := by
  unfold boolK
  split <;> first | rfl | (cases want <;> simp only [bi_hom])
theorem wantedK_hom (ops : Array Oper) (nv : Nat) (t : Tm) (l : Loc) (o : Oper) (yes skip : γ) : wantedK (g n') ops nv t l o (g yes) (g skip) = g (wantedK n' ops nv t l o yes skip) := by
  unfold wantedK
  cases o.guard with
  | none => rfl
  | some q =>
    show guardK (g n') ops nv t l q (g yes) (g skip) = g (guardK n' ops nv t l q yes skip)
    unfold guardK
    cases guardSlot ops q.1 with
    | none => rfl
    | some d => exact boolK_hom g n' _ _ _ _
theorem putK_hom (nv : Nat) (k : K γ) (d : Option Nat) (v : AV) (t : Tm) (l : Loc) (h : Heap) : putK nv (fun t l h => g (k t l h)) d v t l h = g (putK nv k d v t l h) := by
  cases d with
  | none => rfl
  | some d => exact bi_hom g _ _ _
theorem opStep_hom {call : Call' α} {call' : Call' γ} (hc : CallHom g call call') (nv : Nat) (ops : Array Oper) (o : Oper) (k : K γ) (t : Tm) (l : Loc) (h : Heap) (id : Nat) :
    opStep P (g n') call nv ops o (fun t l h => g (k t l h)) t l h id = g (opStep P n' call' nv ops o k t l h id) := by
  unfold opStep
  have h1 : table P o.op (g n') call (opnd nv t l) h id (fun v h => putK nv (fun t l h => g (k t l h)) o.dst v t l h) = g (table P o.op n' call' (opnd nv t l) h id fun v h => putK nv k o.dst v t l h) := by
    simp only [putK_hom]
    exact table_hom g n' P hc _ _ _ _ fun v h => putK nv k o.dst v t l h
  rw [h1, putK_hom, wantedK_hom]
theorem runOps_hom {call : Call' α} {call' : Call' γ} (hc : CallHom g call call') (nv : Nat) (ops : Array Oper) (k : K γ) : ∀ (os : List Oper) (t : Tm) (l : Loc) (h : Heap),
    runOps P (g n') call nv ops (fun t l h => g (k t l h)) os t l h = g (runOps P n' call' nv ops k os t l h)
  | [], _, _, _ => rfl
  | o :: os, t, l, h => by
    have ih : runOps P (g n') call nv ops (fun t l h => g (k t l h)) os = fun t l h => g (runOps P n' call' nv ops k os t l h) := by
      funext t l h; exact runOps_hom hc nv ops k os t l h
    show opStep P (g n') call nv ops o (runOps P (g n') call nv ops (fun t l h => g (k t l h)) os) t l h h.next = g (opStep P n' call' nv ops o (runOps P n' call' nv ops k os) t l h h.next)
    rw [ih]
    exact opStep_hom g n' P hc nv ops o _ t l h h.next
theorem callD_hom {call : Call' α} {call' : Call' γ} (hc : CallHom g call call') (ids : List Nat) : CallHom g (callD (g n') call ids) (callD n' call' ids) := fun f args h k => by
  have h1 : ∀ (fa : List AV) (q : AV → Bool), call f fa (hide ids h.shut) (fun v h' => bi (Nat.ble h.next h'.next && q v) (g (k v ((back h ids h').win h.lim h.top 0))) (g n')) = g (call' f fa (hide ids h.shut) fun v h' => bi (Nat.ble h.next h'.next && q v) (k v ((back h ids h').win h.lim h.top 0)) n') := fun fa q => by
    simp only [bi_hom]
    exact hc f fa _ fun v h' => bi (Nat.ble h.next h'.next && q v) (k v ((back h ids h').win h.lim h.top 0)) n'
  have h2 : call f args (hide ids h.shut) (fun v h' => bi (Nat.ble h.next h'.next) (g (k v ((back h ids h').win h.lim h.top 0))) (g n')) = g (call' f args (hide ids h.shut) fun v h' => bi (Nat.ble h.next h'.next) (k v ((back h ids h').win h.lim h.top 0)) n') := by
    simp only [bi_hom]
    exact hc f args _ fun v h' => bi (Nat.ble h.next h'.next) (k v ((back h ids h').win h.lim h.top 0)) n'
  unfold callD
  rw [h2]
  simp only [h1]
  rw [on_hom g n', bi_hom g]
theorem stepI_hom {call : Call' α} {call' : Call' γ} (hc : CallHom g call call') (nv : Nat) (ops : Array Oper) (base j b : Nat) (o : Oper) (ids : List Nat) (k : K γ) (t : Tm) (l : Loc) (h : Heap) :
    stepI P (g n') call nv ops base j b o ids (fun t l h => g (k t l h)) t l h = g (stepI P n' call' nv ops base j b o ids k t l h) := by
  unfold stepI
  split
  · exact opStep_hom g n' P (callD_hom g n' hc _) nv ops o k t l h _
  · rw [← bi_hom g]
    congr 1
    exact opStep_hom g n' P hc nv ops o (fun t l h' => k t l ((back h ids h').look 0)) t l _ _
  · rw [← bi_hom g]
    congr 1
    exact opStep_hom g n' P hc nv ops o (fun t l h' => k t l ((back h ids h').look 0)) t l _ _
  · exact opStep_hom g n' P hc nv ops o (fun t l h' => k t l (h'.look 0)) t l _ _
theorem stepD_hom {call : Call' α} {call' : Call' γ} (hc : CallHom g call call') (nv : Nat) (ops : Array Oper) (bs : List Nat) (base j b : Nat) (o : Oper) (k : K γ) (t : Tm) (l : Loc) (h : Heap) :
    stepD P (g n') call nv ops bs base j b o (fun t l h => g (k t l h)) t l h = g (stepD P n' call' nv ops bs base j b o k t l h) := stepI_hom g n' P hc nv ops base j b o _ k t l h
theorem runD_hom {call : Call' α} {call' : Call' γ} (hc : CallHom g call call') (nv : Nat) (ops : Array Oper) (bs : List Nat) (base : Nat) (k : K γ) : ∀ (os : List Oper) (ls : List Nat) (j : Nat) (t : Tm) (l : Loc) (h : Heap),
    runD P (g n') call nv ops bs base (fun t l h => g (k t l h)) os ls j t l h = g (runD P n' call' nv ops bs base k os ls j t l h)
  | [], _, _, _, _, _ => rfl
  | o :: os, [], j, t, l, h => rfl
  | o :: os, b :: ls, j, t, l, h => by
    have ih : runD P (g n') call nv ops bs base (fun t l h => g (k t l h)) os ls (j + 1) = fun t l h => g (runD P n' call' nv ops bs base k os ls (j + 1) t l h) := by
      funext t l h; exact runD_hom hc nv ops bs base k os ls (j + 1) t l h
    show stepD P (g n') call nv ops bs base j b o (runD P (g n') call nv ops bs base (fun t l h => g (k t l h)) os ls (j + 1)) t l h = g (stepD P n' call' nv ops bs base j b o (runD P n' call' nv ops bs base k os ls (j + 1)) t l h)
    rw [ih]
    exact stepD_hom g n' P hc nv ops bs base j b o _ t l h
theorem regionD_hom {call : Call' α} {call' : Call' γ} (hc : CallHom g call call') (nv : Nat) (ops : Array Oper) (k : K γ) (t : Tm) (l : Loc) (h : Heap) :
    regionD P (g n') call nv ops (fun t l h => g (k t l h)) t l h = g (regionD P n' call' nv ops k t l h) := by
  unfold regionD
  rw [runD_hom g n' P hc, bi_hom]

/-! ### Code, calls -/
theorem nxK_hom (b : K γ) (k : Ex → K γ) : nxK (fun t l h => g (b t l h)) (fun e t l h => g (k e t l h)) = fun e t l h => g (nxK b k e t l h) := by
  funext e t l h
  cases e <;> rfl
theorem blockK_hom (id : Nat) (k : Ex → K γ) : blockK id (fun e t l h => g (k e t l h)) = fun e t l h => g (blockK id k e t l h) := by
  funext e t l h
  cases e with
  | ex j =>
    show bi (Nat.beq j id) (fun t l h => g (k .nx t l h)) (fun t l h => g (k (.ex j) t l h)) t l h = g (bi (Nat.beq j id) (k .nx) (k (.ex j)) t l h)
    cases Nat.beq j id <;> rfl
  | _ => rfl
theorem runC_hom {call : Call' α} {call' : Call' γ} (hc : CallHom g call call') (nv n : Nat) : ∀ (c : Code) (k : Ex → K γ) (t : Tm) (l : Loc) (h : Heap), runC P (g n') call nv n c (fun e t l h => g (k e t l h)) t l h = g (runC P n' call' nv n c k t l h) := by
  intro c
  induction c with
  | skip => intros; rfl
  | region i ops d =>
    intro k t l h
    cases d with
    | true => exact regionD_hom g n' P hc nv ops (k .nx) t l h
    | false => exact runOps_hom g n' P hc nv ops (k .nx) ops.toList t [] h
  | seq x y ihx ihy =>
    intro k t l h
    have e : runC P (g n') call nv n y (fun e t l h => g (k e t l h)) = fun t l h => g (runC P n' call' nv n y k t l h) := by funext t l h; exact ihy k t l h
    show runC P (g n') call nv n x (nxK (runC P (g n') call nv n y (fun e t l h => g (k e t l h))) (fun e t l h => g (k e t l h))) t l h = g (runC P n' call' nv n x (nxK (runC P n' call' nv n y k) k) t l h)
    rw [e, nxK_hom]
    exact ihx _ t l h
  | cond c x y ihx ihy =>
    intro k t l h
    show condC (g n') nv c (runC P (g n') call nv n x (fun e t l h => g (k e t l h))) (runC P (g n') call nv n y (fun e t l h => g (k e t l h))) t l h = g (condC n' nv c (runC P n' call' nv n x k) (runC P n' call' nv n y k) t l h)
    unfold condC
    split
    · rw [ihx, ihy, bi_hom]
    · rfl
  | block i x ih =>
    intro k t l h
    show runC P (g n') call nv n x (blockK i (fun e t l h => g (k e t l h))) t l h = g (runC P n' call' nv n x (blockK i k) t l h)
    rw [blockK_hom]
    exact ih _ t l h
  | loop x ih =>
    intro k t l h
    have key : ∀ m t l h, loopC (g n') (runC P (g n') call nv n x) m (fun e t l h => g (k e t l h)) t l h = g (loopC n' (runC P n' call' nv n x) m k t l h) := by
      intro m
      induction m with
      | zero => intros; rfl
      | succ m ihm =>
        intro t l h
        have e : loopC (g n') (runC P (g n') call nv n x) m (fun e t l h => g (k e t l h)) = fun t l h => g (loopC n' (runC P n' call' nv n x) m k t l h) := by funext t l h; exact ihm t l h
        show runC P (g n') call nv n x (nxK (loopC (g n') (runC P (g n') call nv n x) m (fun e t l h => g (k e t l h))) (fun e t l h => g (k e t l h))) t l h = g (runC P n' call' nv n x (nxK (loopC n' (runC P n' call' nv n x) m k) k) t l h)
        rw [e, nxK_hom]
        exact ih _ t l h
    exact key n t l h
  | exit i => intros; rfl
  | ret => intros; rfl
  | _ => intros; rfl
theorem callF_hom (cfg : Cfg) : ∀ n, CallHom g (callF P (g n') cfg n) (callF P n' cfg n)
  | 0 => fun _ _ _ _ => rfl
  | n + 1 => by
    intro f args h k
    have ih := callF_hom cfg n
    show Option.rec (motive := fun _ => α) (on (g n') (bodyOf P f) (fun q => callB P (g n') cfg (fun nv => runC P (g n') (callF P (g n') cfg n) nv n) f q args h (fun v h => g (k v h)))) (fun v => g (k v h)) (memoOf cfg f args) =
      g (Option.rec (motive := fun _ => γ) (on n' (bodyOf P f) fun q => callB P n' cfg (fun nv => runC P n' (callF P n' cfg n) nv n) f q args h k) (fun v => k v h) (memoOf cfg f args))
    cases memoOf cfg f args with
    | some v => rfl
    | none =>
    show on (g n') (bodyOf P f) (fun q => callB P (g n') cfg (fun nv => runC P (g n') (callF P (g n') cfg n) nv n) f q args h (fun v h => g (k v h))) =
      g (on n' (bodyOf P f) fun q => callB P n' cfg (fun nv => runC P n' (callF P n' cfg n) nv n) f q args h k)
    have hb : ∀ q, callB P (g n') cfg (fun nv => runC P (g n') (callF P (g n') cfg n) nv n) f q args h (fun v h => g (k v h)) = g (callB P n' cfg (fun nv => runC P n' (callF P n' cfg n) nv n) f q args h k) := by
      intro q
      unfold callB
      have e1 : endK (g n') (ownK P (g n') q.rs h (fun v h => g (k v h))) = fun e t l h' => g (endK n' (ownK P n' q.rs h k) e t l h') := by
        funext e t l h'
        cases e with
        | ex i => rfl
        | _ =>
          show on (g n') (resultsA P t h' q.rs) (fun v => on (g n') (frz h' 60 v) fun v => g (k v h)) = g (on n' (resultsA P t h' q.rs) fun v => on n' (frz h' 60 v) fun v => k v h)
          simp only [on_hom]
      have e2 : endK (g n') (inK P (g n') q.rs (fun v h => g (k v h))) = fun e t l h' => g (endK n' (inK P n' q.rs k) e t l h') := by
        funext e t l h'
        cases e with
        | ex i => rfl
        | _ =>
          show on (g n') (resultsA P t h' q.rs) (fun v => g (k v h')) = g (on n' (resultsA P t h' q.rs) fun v => k v h')
          simp only [on_hom]
      dsimp only
      rw [e1, e2, runC_hom g n' P ih, runC_hom g n' P ih, bi_hom, bi_hom]
    simp only [hb, on_hom]
end
end Go.Zev

/-
  Drawn regions: heaps are what they hold; what an operation that calls nothing does to a heap.
-/
set_option linter.unusedSimpArgs false
set_option linter.unusedVariables false
namespace Go.Zev
open Go

/-! ### Trees are what they hold -/
def undig : D8 → Nat
  | .a => 0 | .b => 1 | .c => 2 | .d => 3 | .e => 4 | .f => 5 | .g => 6 | .h => 7
theorem undig_lt (k : D8) : undig k < 8 := by cases k <;> decide
theorem dig_undig (k : D8) : dig (undig k) = k := by cases k <;> rfl
theorem B0.ext {t t' : B0} (h : ∀ k, B0.get k t = B0.get k t') : t = t' := by
  cases t; cases t'
  have := h .a; have := h .b; have := h .c; have := h .d; have := h .e; have := h .f; have := h .g; have := h .h
  simp only [B0.get] at *
  simp only [*]
theorem B1.ext {t t' : B1} (h : ∀ k, B1.get k t = B1.get k t') : t = t' := by
  cases t; cases t'
  have := h .a; have := h .b; have := h .c; have := h .d; have := h .e; have := h .f; have := h .g; have := h .h
  simp only [B1.get] at *
  simp only [*]
theorem B2.ext {t t' : B2} (h : ∀ k, B2.get k t = B2.get k t') : t = t' := by
  cases t; cases t'
  have := h .a; have := h .b; have := h .c; have := h .d; have := h .e; have := h .f; have := h .g; have := h .h
  simp only [B2.get] at *
  simp only [*]
theorem B3.ext {t t' : B3} (h : ∀ k, B3.get k t = B3.get k t') : t = t' := by
  cases t; cases t'
  have := h .a; have := h .b; have := h .c; have := h .d; have := h .e; have := h .f; have := h .g; have := h .h
  simp only [B3.get] at *
  simp only [*]
theorem B4.ext {t t' : B4} (h : ∀ k, B4.get k t = B4.get k t') : t = t' := by
  cases t; cases t'
  have := h .a; have := h .b; have := h .c; have := h .d; have := h .e; have := h .f; have := h .g; have := h .h
  simp only [B4.get] at *
  simp only [*]
theorem L0.ext {t t' : L0} (h : ∀ k, L0.get k t = L0.get k t') : t = t' := by
  cases t; cases t'
  have := h .a; have := h .b; have := h .c; have := h .d; have := h .e; have := h .f; have := h .g; have := h .h
  simp only [L0.get] at *
  simp only [*]
theorem L1.ext {t t' : L1} (h : ∀ k, L1.get k t = L1.get k t') : t = t' := by
  cases t; cases t'
  have := h .a; have := h .b; have := h .c; have := h .d; have := h .e; have := h .f; have := h .g; have := h .h
  simp only [L1.get] at *
  simp only [*]
theorem L2.ext {t t' : L2} (h : ∀ k, L2.get k t = L2.get k t') : t = t' := by
  cases t; cases t'
  have := h .a; have := h .b; have := h .c; have := h .d; have := h .e; have := h .f; have := h .g; have := h .h
  simp only [L2.get] at *
  simp only [*]
theorem digits5 (q0 q1 q2 q3 q4 : D8) : ∃ k, k < 32768 ∧ d0 k = q0 ∧ d1 k = q1 ∧ d2 k = q2 ∧ d3 k = q3 ∧ d4 k = q4 := by
  have ha := undig_lt q0; have hb := undig_lt q1; have hc := undig_lt q2; have hd := undig_lt q3; have he := undig_lt q4
  refine ⟨undig q0 + 8 * undig q1 + 64 * undig q2 + 512 * undig q3 + 4096 * undig q4, by omega, ?_, ?_, ?_, ?_, ?_⟩
  · show dig ((undig q0 + 8 * undig q1 + 64 * undig q2 + 512 * undig q3 + 4096 * undig q4) % 8) = _; rw [show (undig q0 + 8 * undig q1 + 64 * undig q2 + 512 * undig q3 + 4096 * undig q4) % 8 = undig q0 by omega, dig_undig]
  · show dig ((undig q0 + 8 * undig q1 + 64 * undig q2 + 512 * undig q3 + 4096 * undig q4) / 8 % 8) = _; rw [show (undig q0 + 8 * undig q1 + 64 * undig q2 + 512 * undig q3 + 4096 * undig q4) / 8 % 8 = undig q1 by omega, dig_undig]
  · show dig ((undig q0 + 8 * undig q1 + 64 * undig q2 + 512 * undig q3 + 4096 * undig q4) / 64 % 8) = _; rw [show (undig q0 + 8 * undig q1 + 64 * undig q2 + 512 * undig q3 + 4096 * undig q4) / 64 % 8 = undig q2 by omega, dig_undig]
  · show dig ((undig q0 + 8 * undig q1 + 64 * undig q2 + 512 * undig q3 + 4096 * undig q4) / 512 % 8) = _; rw [show (undig q0 + 8 * undig q1 + 64 * undig q2 + 512 * undig q3 + 4096 * undig q4) / 512 % 8 = undig q3 by omega, dig_undig]
  · show dig ((undig q0 + 8 * undig q1 + 64 * undig q2 + 512 * undig q3 + 4096 * undig q4) / 4096 % 8) = _; rw [show (undig q0 + 8 * undig q1 + 64 * undig q2 + 512 * undig q3 + 4096 * undig q4) / 4096 % 8 = undig q4 by omega, dig_undig]
theorem digits3 (q0 q1 q2 : D8) : ∃ k, k < 512 ∧ d0 k = q0 ∧ d1 k = q1 ∧ d2 k = q2 := by
  have ha := undig_lt q0; have hb := undig_lt q1; have hc := undig_lt q2
  refine ⟨undig q0 + 8 * undig q1 + 64 * undig q2, by omega, ?_, ?_, ?_⟩
  · show dig ((undig q0 + 8 * undig q1 + 64 * undig q2) % 8) = _; rw [show (undig q0 + 8 * undig q1 + 64 * undig q2) % 8 = undig q0 by omega, dig_undig]
  · show dig ((undig q0 + 8 * undig q1 + 64 * undig q2) / 8 % 8) = _; rw [show (undig q0 + 8 * undig q1 + 64 * undig q2) / 8 % 8 = undig q1 by omega, dig_undig]
  · show dig ((undig q0 + 8 * undig q1 + 64 * undig q2) / 64 % 8) = _; rw [show (undig q0 + 8 * undig q1 + 64 * undig q2) / 64 % 8 = undig q2 by omega, dig_undig]
theorem Hp.ext {t t' : Hp} (h : ∀ k, k < 32768 → Hp.get t k = Hp.get t' k) : t = t' := by
  refine B4.ext fun q4 => B3.ext fun q3 => B2.ext fun q2 => B1.ext fun q1 => B0.ext fun q0 => ?_
  obtain ⟨k, h0, rfl, rfl, rfl, rfl, rfl⟩ := digits5 q0 q1 q2 q3 q4
  exact h k h0
theorem Tm.ext {t t' : Tm} (h : ∀ k, k < 512 → Tm.get t k = Tm.get t' k) : t = t' := by
  refine L2.ext fun q2 => L1.ext fun q1 => L0.ext fun q0 => ?_
  obtain ⟨k, h0, rfl, rfl, rfl⟩ := digits3 q0 q1 q2
  exact h k h0
theorem Tm.set_comm (t : Tm) {d d' : Nat} (v v' : AV) (hd : d < 512) (hd' : d' < 512) (hne : d ≠ d') : Tm.set (Tm.set t d v) d' v' = Tm.set (Tm.set t d' v') d v := by
  refine Tm.ext fun k hk => ?_
  rw [Tm.get_set _ _ hk hd', Tm.get_set _ _ hk hd, Tm.get_set _ _ hk hd, Tm.get_set _ _ hk hd']
  by_cases e : k = d <;> by_cases e' : k = d' <;> simp [e, e'] <;> omega

/-! ### Heaps -/
theorem Heap.eq {h h' : Heap} (h1 : h.next = h'.next) (h2 : h.lim = h'.lim) (h3 : h.top = h'.top) (h4 : h.mask = h'.mask) (h5 : ∀ k, h.raw k = h'.raw k) : h = h' := by
  obtain ⟨n, l, p, m, t⟩ := h
  obtain ⟨n', l', p', m', t'⟩ := h'
  obtain rfl : n = n' := h1
  obtain rfl : l = l' := h2
  obtain rfl : p = p' := h3
  obtain rfl : m = m' := h4
  congr 1
  refine Hp.ext fun k hk => ?_
  have := h5 k
  unfold Heap.raw at this
  have hb : Nat.blt k cap = true := blt_iff.2 hk
  rw [hb] at this
  exact this
theorem Heap.raw_ge {h : Heap} {k : Nat} (hk : ¬ k < cap) : h.raw k = .none := by
  cases hr : h.raw k with
  | none => rfl
  | _ => exact absurd (Heap.raw_cap (by rw [hr]; intro e; cases e)) hk
@[simp] theorem Heap.raw_look (h : Heap) (m k : Nat) : (h.look m).raw k = h.raw k := by cases h; rfl
@[simp] theorem Heap.raw_shut (h : Heap) (k : Nat) : h.shut.raw k = h.raw k := by cases h; rfl
@[simp] theorem Heap.raw_win (h : Heap) (a b m k : Nat) : (h.win a b m).raw k = h.raw k := by cases h; rfl
@[simp] theorem Heap.raw_open (h : Heap) (n k : Nat) : (h.open n).raw k = h.raw k := by cases h; rfl
@[simp] theorem Heap.next_look (h : Heap) (m : Nat) : (h.look m).next = h.next := by cases h; rfl
@[simp] theorem Heap.next_shut (h : Heap) : h.shut.next = h.next := by cases h; rfl
@[simp] theorem Heap.next_win (h : Heap) (a b m : Nat) : (h.win a b m).next = h.next := by cases h; rfl
@[simp] theorem Heap.next_open (h : Heap) (n : Nat) : (h.open n).next = h.next + n := by cases h; rfl
@[simp] theorem Heap.lim_look (h : Heap) (m : Nat) : (h.look m).lim = h.lim := by cases h; rfl
@[simp] theorem Heap.top_look (h : Heap) (m : Nat) : (h.look m).top = h.top := by cases h; rfl
@[simp] theorem Heap.mask_look (h : Heap) (m : Nat) : (h.look m).mask = m := by cases h; rfl
@[simp] theorem Heap.lim_shut (h : Heap) : h.shut.lim = far := by cases h; rfl
@[simp] theorem Heap.top_shut (h : Heap) : h.shut.top = far := by cases h; rfl
@[simp] theorem Heap.mask_shut (h : Heap) : h.shut.mask = 0 := by cases h; rfl
@[simp] theorem Heap.lim_win (h : Heap) (a b m : Nat) : (h.win a b m).lim = a := by cases h; rfl
@[simp] theorem Heap.top_win (h : Heap) (a b m : Nat) : (h.win a b m).top = b := by cases h; rfl
@[simp] theorem Heap.mask_win (h : Heap) (a b m : Nat) : (h.win a b m).mask = m := by cases h; rfl
@[simp] theorem Heap.lim_open (h : Heap) (n : Nat) : (h.open n).lim = h.next := by cases h; rfl
@[simp] theorem Heap.top_open (h : Heap) (n : Nat) : (h.open n).top = h.next + n := by cases h; rfl
@[simp] theorem Heap.mask_open (h : Heap) (n : Nat) : (h.open n).mask = 0 := by cases h; rfl
theorem Heap.raw_set' (h : Heap) (k : Nat) (x : Blk) (j : Nat) (hx : x = .none ∨ k < cap) : (h.set k x).raw j = if j = k then x else h.raw j := by
  rw [Heap.raw_set]
  by_cases e : j = k
  · subst e
    rcases hx with rfl | hx
    · by_cases hc : j < cap
      · rw [if_pos ⟨rfl, hc⟩, if_pos rfl]
      · rw [if_neg (fun x => hc x.2), if_pos rfl, Heap.raw_ge hc]
    · rw [if_pos ⟨rfl, hx⟩, if_pos rfl]
  · rw [if_neg (fun x => e x.1), if_neg e]
theorem raw_hide0 : ∀ (ids : List Nat) (h : Heap) (k : Nat), (hide0 ids h).raw k = if k ∈ ids then .none else h.raw k
  | [], h, k => by simp [hide0]
  | b :: ids, h, k => by
    show (hide0 ids (h.set b .none)).raw k = _
    rw [raw_hide0 ids, Heap.raw_set' _ _ _ _ (.inl rfl)]
    by_cases e : k ∈ ids <;> by_cases e' : k = b <;> simp [e, e']
theorem raw_back0 (h0 : Heap) : ∀ (ids : List Nat) (h : Heap) (k : Nat), (back0 h0 ids h).raw k = if k ∈ ids then h0.raw k else h.raw k
  | [], h, k => by simp [back0]
  | b :: ids, h, k => by
    show (back0 h0 ids (h.set b (h0.raw b))).raw k = _
    have hx : h0.raw b = .none ∨ b < cap := by
      by_cases hb : b < cap
      · exact .inr hb
      · exact .inl (Heap.raw_ge hb)
    rw [raw_back0 h0 ids, Heap.raw_set' _ _ _ _ hx]
    by_cases e : k ∈ ids <;> by_cases e' : k = b <;> simp [e, e']
theorem win_hide0 : ∀ (ids : List Nat) (h : Heap), (hide0 ids h).next = h.next ∧ (hide0 ids h).lim = h.lim ∧ (hide0 ids h).top = h.top ∧ (hide0 ids h).mask = h.mask
  | [], h => ⟨rfl, rfl, rfl, rfl⟩
  | b :: ids, h => by
    have h1 := win_hide0 ids (h.set b .none)
    have h2 := Heap.win_set h b .none
    rw [Heap.next_set, h2.1, h2.2.1, h2.2.2] at h1
    exact h1
theorem win_back0 (h0 : Heap) : ∀ (ids : List Nat) (h : Heap), (back0 h0 ids h).next = h.next ∧ (back0 h0 ids h).lim = h.lim ∧ (back0 h0 ids h).top = h.top ∧ (back0 h0 ids h).mask = h.mask
  | [], h => ⟨rfl, rfl, rfl, rfl⟩
  | b :: ids, h => by
    have h1 := win_back0 h0 ids (h.set b (h0.raw b))
    have h2 := Heap.win_set h b (h0.raw b)
    rw [Heap.next_set, h2.1, h2.2.1, h2.2.2] at h1
    exact h1
/-- Out of sight: named, or all is. -/
abbrev Hid (ids : List Nat) (k : Nat) : Prop := k ∈ ids ∨ far ∈ ids
theorem far_mem {ids : List Nat} : lany (Nat.beq far) ids = true ↔ far ∈ ids := by
  rw [lany_eq, List.any_eq_true]
  constructor
  · rintro ⟨y, h1, h2⟩; rw [beq_iff.1 h2]; exact h1
  · intro h; exact ⟨far, h, beq_iff.2 rfl⟩
theorem raw_hide (ids : List Nat) (h : Heap) (k : Nat) : (hide ids h).raw k = if Hid ids k then .none else h.raw k := by
  unfold hide
  cases hf : lany (Nat.beq far) ids with
  | true =>
    rw [if_pos (.inr (far_mem.1 hf))]
    exact Heap.raw_empty k
  | false =>
    have hn : far ∉ ids := fun e => by rw [far_mem.2 e] at hf; cases hf
    show (hide0 ids h).raw k = _
    rw [raw_hide0]
    by_cases e : k ∈ ids
    · rw [if_pos e, if_pos (.inl e)]
    · rw [if_neg e, if_neg (fun x => x.elim e hn)]
theorem raw_back (h0 : Heap) (ids : List Nat) (h : Heap) (k : Nat) : (back h0 ids h).raw k = if Hid ids k then h0.raw k else h.raw k := by
  unfold back
  cases hf : lany (Nat.beq far) ids with
  | true =>
    rw [if_pos (.inr (far_mem.1 hf))]
    rfl
  | false =>
    have hn : far ∉ ids := fun e => by rw [far_mem.2 e] at hf; cases hf
    show (back0 h0 ids h).raw k = _
    rw [raw_back0]
    by_cases e : k ∈ ids
    · rw [if_pos e, if_pos (.inl e)]
    · rw [if_neg e, if_neg (fun x => x.elim e hn)]
theorem win_hide (ids : List Nat) (h : Heap) : (hide ids h).next = h.next ∧ (hide ids h).lim = h.lim ∧ (hide ids h).top = h.top ∧ (hide ids h).mask = h.mask := by
  unfold hide
  cases lany (Nat.beq far) ids
  · exact win_hide0 ids h
  · exact ⟨rfl, rfl, rfl, rfl⟩
theorem win_back (h0 : Heap) (ids : List Nat) (h : Heap) : (back h0 ids h).next = h.next ∧ (back h0 ids h).lim = h.lim ∧ (back h0 ids h).top = h.top ∧ (back h0 ids h).mask = h.mask := by
  unfold back
  cases lany (Nat.beq far) ids
  · exact win_back0 h0 ids h
  · exact ⟨rfl, rfl, rfl, rfl⟩
theorem see_eq (h : Heap) (k : Nat) : h.see k = true ↔ k < h.lim ∨ h.top ≤ k ∨ Nat.testBit h.mask (k - h.lim) = true := by
  unfold Heap.see
  by_cases h1 : k < h.lim
  · rw [blt_iff.2 h1]; simp [h1]
  · have e : Nat.blt k h.lim = false := by cases hb : Nat.blt k h.lim; rfl; exact absurd (blt_iff.1 hb) h1
    rw [e, bi_false]
    by_cases h2 : h.top ≤ k
    · rw [ble_iff.2 h2]; simp [h2]
    · have e2 : Nat.ble h.top k = false := by cases hb : Nat.ble h.top k; rfl; exact absurd (ble_iff.1 hb) h2
      rw [e2, bi_false]; simp [h1, h2]
theorem Heap.get_eq (h : Heap) (k : Nat) : h.get k = if h.see k = true then h.raw k else .none := by unfold Heap.get; rw [bi_eq]

/-! ### What an operation does to a heap -/
structure Eff where
  v : AV
  kill : Option (Nat × Blk)
  nw : Option Blk
noncomputable def killO (kill : Option (Nat × Blk)) (h : Heap) : Heap := match kill with | some q => h.set q.1 q.2 | none => h
/-- What a block holds behind it. -/
noncomputable def killR (kill : Option (Nat × Blk)) (k : Nat) (old : Blk) : Blk := match kill with | some q => if k = q.1 ∧ q.1 < cap then q.2 else old | none => old
theorem killR_ne {kill : Option (Nat × Blk)} {k : Nat} (old : Blk) (h : ∀ x, kill ≠ some (k, x)) : killR kill k old = old := by
  cases kill with
  | none => rfl
  | some q => exact if_neg fun e => h q.2 (by rw [e.1])
@[simp] theorem killR_none (k : Nat) (old : Blk) : killR none k old = old := rfl
noncomputable def newO (id : Nat) (nw : Option Blk) (h : Heap) : Heap := match nw with | some x => h.new id x | none => h
noncomputable def appE (e : Eff) (id : Nat) (h : Heap) : Heap := newO id e.nw (killO e.kill h)
theorem raw_kill (kill : Option (Nat × Blk)) (h : Heap) (k : Nat) : (killO kill h).raw k = killR kill k (h.raw k) := by
  cases kill with
  | none => rfl
  | some b => exact Heap.raw_set _ _ _ _
theorem raw_appE (e : Eff) (id : Nat) (h : Heap) (k : Nat) : (appE e id h).raw k = match e.nw with
    | some x => if k = id ∧ id < cap then x else killR e.kill k (h.raw k)
    | none => killR e.kill k (h.raw k) := by
  unfold appE newO
  cases e.nw with
  | none => exact raw_kill _ _ _
  | some x => dsimp only; rw [Heap.raw_new, raw_kill]
theorem win_kill (kill : Option (Nat × Blk)) (h : Heap) : (killO kill h).next = h.next ∧ (killO kill h).lim = h.lim ∧ (killO kill h).top = h.top ∧ (killO kill h).mask = h.mask := by
  cases kill with
  | none => exact ⟨rfl, rfl, rfl, rfl⟩
  | some b => exact ⟨Heap.next_set _ _ _, Heap.win_set _ _ _⟩
theorem win_appE (e : Eff) (id : Nat) (h : Heap) (hid : id < h.next) : (appE e id h).next = h.next ∧ (appE e id h).lim = h.lim ∧ (appE e id h).top = h.top ∧ (appE e id h).mask = h.mask := by
  unfold appE newO
  have hk := win_kill e.kill h
  cases e.nw with
  | none => exact hk
  | some x =>
    dsimp only
    have hw := Heap.win_new (killO e.kill h) id x
    rw [Heap.next_new, hk.1, if_neg (by omega), hw.1, hw.2.1, hw.2.2, hk.2.1, hk.2.2.1, hk.2.2.2]
    exact ⟨rfl, rfl, rfl, rfl⟩
end Go.Zev

/-
  Drawn regions: the effect of an operation that calls nothing.
-/
set_option linter.unusedSimpArgs false
set_option linter.unusedVariables false
namespace Go.Zev
open Go

section
variable (P : Program)
/-- Reading by a view of the blocks. -/
noncomputable def rdV (g : Nat → Blk) (x : AV) (n : Nat) : Option (List AV) :=
  match x with
  | .fp cs => sub cs 0 n
  | .p b i off => match g b with | .cells _ el => rdEl el i off n | _ => none
  | _ => none
noncomputable def loadV (g : Nat → Blk) (t : TypeId) (x : AV) : Option Eff :=
  bi (knownT P t) (bi (isAggT P t) (bi (Nat.blt 0 (szOf P t)) (on none (rdV g x (szOf P t)) fun cs => some ⟨.agg cs, none, none⟩) none) (on none (rdV g x 1) fun l => on none (lnth l 0) fun v => some ⟨v, none, none⟩)) none
noncomputable def elemsV (g : Nat → Blk) (sz : Nat) (x : AV) : Option (List (List AV)) :=
  match x with
  | .nsl | .es => some []
  | .fs s _ el => bi (Nat.beq s sz) (some el) none
  | .sl b s start len _ _ => bi (Nat.beq s sz) (match g b with
    | .cells _ el => (fun l => bi (lhas l len) (some l) none) (ltake (ldrop el start) len)
    | _ => none) none
  | _ => none
noncomputable def appSlV (id sz b start len : Nat) (full : Bool) (src : List (List AV)) (n : Nat) (el : List (List AV)) : Option Eff :=
  bi full ((fun l => bi (lhas l len) (some ⟨appN id sz (len + n), none, some (.cells sz (lapp l src))⟩) none) (ltake (ldrop el start) len))
    (bi (Nat.beq start 0 && lhas el len) (some ⟨appN id sz (len + n), some (b, .none), some (.cells sz (lapp el src))⟩) none)
noncomputable def appEV (g : Nat → Blk) (id sz : Nat) (x : AV) (src : List (List AV)) (n : Nat) : Option Eff :=
  match x with
  | .nsl | .es => some ⟨appN id sz n, none, some (.cells sz src)⟩
  | .fs s true el => bi (Nat.beq s sz && onesAll el && Nat.ble (llen el) most) (some ⟨appN id sz (llen el + n), none, some (.cells sz (lapp el src))⟩) none
  | .sl b s start len _ full => bi (Nat.beq s sz && Nat.ble len most) (match g b with | .cells _ el => appSlV id sz b start len full src n el | _ => none) none
  | _ => none
noncomputable def app2V (g : Nat → Blk) (id sz : Nat) (x : AV) (src : List (List AV)) : Option Eff :=
  match src with
  | [] => bi (isSl x) (some ⟨x, none, none⟩) none
  | _ => bi (onesAll src && Nat.ble (llen src) most) (appEV g id sz x src (llen src)) none
noncomputable def appendV (g : Nat → Blk) (id : Nat) (ty uy : TypeId) (x y : AV) : Option Eff :=
  on none (slOf P ty) fun q => bi (isSlT P uy && Nat.ble (bytesOf P q.1) (2 ^ 20)) (on none (elemsV g q.2.1 y) fun src => app2V g id q.2.1 x src) none
noncomputable def callV (g : Nat → Blk) (id : Nat) (ρ : Operand → AV) (args : List Operand) (ts : List TypeId) : Option Eff :=
  match args with | [x, y] => (match ts with | [ty, uy] => appendV P g id ty uy (ρ x) (ρ y) | _ => none) | _ => none
noncomputable def call0 : Call' (Option Eff) := fun _ _ _ _ => none
noncomputable def quietV (op : Op) (ρ : Operand → AV) : Option Eff := table P op none call0 ρ Heap.empty 0 fun v _ => some ⟨v, none, none⟩
noncomputable def wrtV (g : Nat → Blk) (x : AV) (n : Nat) (cs : List AV) : Option Eff :=
  match x with
  | .p b i off => match g b with | .cells sz el => on none (lnth el i) fun e => bi (Nat.ble (off + n) (llen e)) (some ⟨.un, some (b, .cells sz (lset el (newEl e cs off n) i)), none⟩) none | _ => none
  | _ => none
noncomputable def storeV (g : Nat → Blk) (t : TypeId) (x v : AV) : Option Eff := bi (knownT P t) (bi (lhas v.cells (szOf P t) && AV.ones v.cells) (wrtV g x (szOf P t) v.cells) none) none
/-- The effect of an operation that calls nothing. -/
noncomputable def effV (op : Op) (ρ : Operand → AV) (g : Nat → Blk) (id : Nat) : Option Eff :=
  match op with
  | .alloc t => on none (zeroOf P t) fun z => some ⟨.p id 0 0, none, some (.cells (llen z.cells) [z.cells])⟩
  | .box _ x => bi (isUn (ρ x)) none (some ⟨.p id 0 0, none, some (.cells (llen (ρ x).cells) [(ρ x).cells])⟩)
  | .buildSlice ty n ps => on none (slOf P ty) fun q => bi (Nat.ble (n * q.2.1) (2 ^ 24)) (fillE none q.2.1 n ρ (fun el => some ⟨.sl id q.2.1 0 n n true, none, some (.cells q.2.1 el)⟩) ps.toList (lrep q.2.2 n)) none
  | .makeSlice ty l c => on none (slOf P ty) fun q => on none (natOf (ρ l)) fun n => on none (natOf (ρ c)) fun m =>
      bi (Nat.ble n m && Nat.ble m most && Nat.ble (bytesOf P q.1) (2 ^ 20)) (some ⟨.sl id q.2.1 0 n n (Nat.beq n m), none, some (.cells q.2.1 (lrep q.2.2 n))⟩) none
  | .load t x => loadV P g t (ρ x)
  | .store t x y => storeV P g t (ρ x) (ρ y)
  | .call c => match c.callee with
    | .builtin .append => callV P g id ρ c.args.toList c.argTypes.toList
    | _ => quietV P (.call c) ρ
  | op => quietV P op ρ
end

section
variable {P : Program} {α : Type} (no : α)
theorem rdV_eq (h : Heap) (x : AV) (n : Nat) : rd h x n = rdV h.get x n := by
  unfold rd rdV
  cases x <;> rfl
theorem load_eff (h : Heap) (t : TypeId) (x : AV) (id : Nat) (k : AV → Heap → α) : loadA P no h t x (fun v => k v h) = on no (loadV P h.get t x) fun e => k e.v (appE e id h) := by
  unfold loadA loadV load1 loadN
  simp only [rdV_eq]
  cases knownT P t
  · rfl
  cases isAggT P t
  · show on no (rdV h.get x 1) _ = on no (on none (rdV h.get x 1) _) _
    cases rdV h.get x 1 with
    | none => rfl
    | some l => show on no (lnth l 0) _ = on no (on none (lnth l 0) _) _; cases lnth l 0 <;> rfl
  · show bi (Nat.blt 0 (szOf P t)) (on no (rdV h.get x (szOf P t)) _) no = on no (bi (Nat.blt 0 (szOf P t)) (on none (rdV h.get x (szOf P t)) _) none) _
    cases Nat.blt 0 (szOf P t)
    · rfl
    · show on no (rdV h.get x (szOf P t)) _ = on no (on none (rdV h.get x (szOf P t)) _) _
      cases rdV h.get x (szOf P t) <;> rfl
theorem store_eff (h : Heap) (t : TypeId) (x v : AV) (id : Nat) (k : AV → Heap → α) : storeA P no h t x v (k .un) = on no (storeV P h.get t x v) fun e => k e.v (appE e id h) := by
  unfold storeA storeV storeN wrt wrtV wrEl
  cases knownT P t
  · rfl
  cases (lhas v.cells (szOf P t) && AV.ones v.cells)
  · rfl
  rw [bi_true, bi_true, bi_true, bi_true]
  cases x <;> first | rfl | skip
  rename_i b i off
  dsimp only
  cases h.get b <;> first | rfl | skip
  rename_i sz el
  dsimp only
  cases lnth el i with
  | none => rfl
  | some e =>
    show bi (Nat.ble (off + szOf P t) (llen e)) _ no = on no (bi (Nat.ble (off + szOf P t) (llen e)) _ none) _
    cases Nat.ble (off + szOf P t) (llen e) <;> rfl
theorem elems_eff (h : Heap) (sz : Nat) (x : AV) (k : List (List AV) → α) : elemsA no h sz x k = on no (elemsV h.get sz x) k := by
  unfold elemsA elemsV
  cases x <;> first | rfl | skip
  · rename_i b s st len c f
    dsimp only
    cases Nat.beq s sz
    · rfl
    · rw [bi_true, bi_true]
      cases h.get b <;> first | rfl | skip
      rename_i s' el
      dsimp only
      cases lhas (ltake (ldrop el st) len) len <;> rfl
  · rename_i s f el
    dsimp only
    cases Nat.beq s sz <;> rfl
theorem appE_eff (h : Heap) (id sz : Nat) (x : AV) (src : List (List AV)) (n : Nat) (k : AV → Heap → α) : appendE no h id sz x src n k = on no (appEV h.get id sz x src n) fun e => k e.v (appE e id h) := by
  unfold appendE appEV
  cases x <;> first | rfl | skip
  · rename_i b s st len c f
    dsimp only
    cases (Nat.beq s sz && Nat.ble len most)
    · rfl
    · rw [bi_true, bi_true]
      cases h.get b <;> first | rfl | skip
      rename_i s' el
      dsimp only
      unfold appendSl appSlV
      cases f
      · show bi (Nat.beq st 0 && lhas el len) _ no = on no (bi (Nat.beq st 0 && lhas el len) _ none) _
        cases (Nat.beq st 0 && lhas el len) <;> rfl
      · show bi (lhas (ltake (ldrop el st) len) len) _ no = on no (bi (lhas (ltake (ldrop el st) len) len) _ none) _
        cases lhas (ltake (ldrop el st) len) len <;> rfl
  · rename_i s f el
    cases f
    · rfl
    · dsimp only
      cases (Nat.beq s sz && onesAll el && Nat.ble (llen el) most) <;> rfl
theorem append_eff (h : Heap) (id : Nat) (ty uy : TypeId) (x y : AV) (k : AV → Heap → α) : appendA P no h id ty uy x y k = on no (appendV P h.get id ty uy x y) fun e => k e.v (appE e id h) := by
  unfold appendA appendV
  cases slOf P ty with
  | none => rfl
  | some q =>
    show bi (isSlT P uy && Nat.ble (bytesOf P q.1) (2 ^ 20)) (elemsA no h q.2.1 y _) no = on no (bi (isSlT P uy && Nat.ble (bytesOf P q.1) (2 ^ 20)) (on none (elemsV h.get q.2.1 y) _) none) _
    cases (isSlT P uy && Nat.ble (bytesOf P q.1) (2 ^ 20))
    · rfl
    · rw [bi_true, bi_true, elems_eff]
      cases elemsV h.get q.2.1 y with
      | none => rfl
      | some src =>
        show append2 no h id q.2.1 x src k = on no (app2V h.get id q.2.1 x src) _
        unfold append2 app2V
        cases src with
        | nil => dsimp only; cases isSl x <;> rfl
        | cons s0 ss =>
          dsimp only
          cases (onesAll (s0 :: ss) && Nat.ble (llen (s0 :: ss)) most)
          · rfl
          · rw [bi_true, bi_true]; exact appE_eff no h id q.2.1 x _ _ k
/-- What is read is monotone in what is seen. -/
theorem rdV_mono {g g' : Nat → Blk} {x : AV} {n : Nat} {l : List AV} (hg : ∀ b, x.blk = some b → g b ≠ .none → g' b = g b) (he : rdV g x n = some l) : rdV g' x n = some l := by
  unfold rdV at he ⊢
  cases x <;> first | exact he | skip
  rename_i b i off
  dsimp only at he ⊢
  cases hb : g b with
  | none => rw [hb] at he; cases he
  | cells s el => rw [hg b rfl (by rw [hb]; intro e; cases e), hb]; rw [hb] at he; exact he
  | iter _ _ _ => rw [hb] at he; cases he
  | map _ => rw [hb] at he; cases he
theorem elemsV_mono {g g' : Nat → Blk} {x : AV} {sz : Nat} {l : List (List AV)} (hg : ∀ b, x.blk = some b → g b ≠ .none → g' b = g b) (he : elemsV g sz x = some l) : elemsV g' sz x = some l := by
  unfold elemsV at he ⊢
  cases x <;> first | exact he | skip
  rename_i b s st len c f
  dsimp only at he ⊢
  obtain ⟨h1, he⟩ := bi_none he
  rw [h1, bi_true]
  cases hb : g b with
  | none => rw [hb] at he; cases he
  | cells s' el => rw [hg b rfl (by rw [hb]; intro e; cases e), hb]; rw [hb] at he; exact he
  | iter _ _ _ => rw [hb] at he; cases he
  | map _ => rw [hb] at he; cases he
theorem appEV_mono {g g' : Nat → Blk} {x : AV} {id sz n : Nat} {src : List (List AV)} {e : Eff} (hg : ∀ b, x.blk = some b → g b ≠ .none → g' b = g b) (he : appEV g id sz x src n = some e) : appEV g' id sz x src n = some e := by
  unfold appEV at he ⊢
  cases x <;> first | exact he | skip
  case fs s f el => cases f <;> exact he
  rename_i b s st len c f
  dsimp only at he ⊢
  obtain ⟨h1, he⟩ := bi_none he
  rw [h1, bi_true]
  cases hb : g b with
  | none => rw [hb] at he; cases he
  | cells s' el => rw [hg b rfl (by rw [hb]; intro e; cases e), hb]; rw [hb] at he; exact he
  | iter _ _ _ => rw [hb] at he; cases he
  | map _ => rw [hb] at he; cases he
theorem storeV_mono {g g' : Nat → Blk} {t : TypeId} {x v : AV} {e : Eff} (hg : ∀ b, x.blk = some b → g b ≠ .none → g' b = g b) (he : storeV P g t x v = some e) : storeV P g' t x v = some e := by
  unfold storeV wrtV at he ⊢
  have q1 := bi_none he
  clear he
  obtain ⟨h1, he⟩ := q1
  rw [h1, bi_true]
  have q2 := bi_none he
  clear he
  obtain ⟨h2, he⟩ := q2
  rw [h2, bi_true]
  cases x <;> first | exact he | skip
  rename_i b i off
  dsimp only at he ⊢
  cases hb : g b with
  | none => rw [hb] at he; cases he
  | cells s el => rw [hg b rfl (by rw [hb]; intro e; cases e), hb]; rw [hb] at he; exact he
  | iter _ _ _ => rw [hb] at he; cases he
  | map _ => rw [hb] at he; cases he
/-- A store writes its place's block, which is seen, and makes none. -/
theorem storeV_kill {g : Nat → Blk} {t : TypeId} {x v : AV} {e : Eff} (he : storeV P g t x v = some e) : e.nw = none ∧ ∀ b c, e.kill = some (b, c) → x.blk = some b ∧ g b ≠ .none := by
  unfold storeV wrtV at he
  have q1 := bi_none he
  clear he
  obtain ⟨h1, he⟩ := q1
  have q2 := bi_none he
  clear he
  obtain ⟨h2, he⟩ := q2
  cases x <;> first | (cases he; done) | skip
  rename_i b i off
  dsimp only at he
  cases hb : g b with
  | none => rw [hb] at he; cases he
  | iter _ _ _ => rw [hb] at he; cases he
  | map _ => rw [hb] at he; cases he
  | cells s el =>
    rw [hb] at he
    have he : on none (lnth el i) _ = some e := he
    cases hl : lnth el i with
    | none => rw [hl] at he; cases he
    | some q =>
      rw [hl] at he
      obtain ⟨_, he⟩ := bi_some (c := Nat.ble (off + szOf P t) (llen q)) he
      subst he
      refine ⟨rfl, fun b' c hq => ?_⟩
      injection hq with hq
      injection hq with h3 h4
      subst h3
      exact ⟨rfl, by rw [hb]; intro e; cases e⟩
/-- An append kills no block but its first argument's, which is seen. -/
theorem appEV_kill {g : Nat → Blk} {x : AV} {id sz n : Nat} {src : List (List AV)} {e : Eff} (he : appEV g id sz x src n = some e) : ∀ b c, e.kill = some (b, c) → x.blk = some b ∧ g b ≠ .none ∧ c = .none := by
  intro b c hb
  unfold appEV at he
  cases x <;> first | (cases he; done) | skip
  · cases he; cases hb
  · cases he; cases hb
  · rename_i b' s st len c f
    obtain ⟨h1, he⟩ := bi_none (c := Nat.beq s sz && Nat.ble len most) he
    cases hg : g b' with
    | none => rw [hg] at he; cases he
    | iter _ _ _ => rw [hg] at he; cases he
    | map _ => rw [hg] at he; cases he
    | cells s' el =>
      rw [hg] at he
      have he : appSlV id sz b' st len f src n el = some e := he
      unfold appSlV at he
      cases f
      · obtain ⟨_, he⟩ := bi_some (c := Nat.beq st 0 && lhas el len) he
        subst he
        injection hb with hb
        injection hb with hb hc
        subst hb hc
        exact ⟨rfl, (by rw [hg]; intro e; cases e), rfl⟩
      · obtain ⟨_, he⟩ := bi_some (c := lhas (ltake (ldrop el st) len) len) he
        subst he; cases hb
  · rename_i s f el
    cases f
    · cases he
    · obtain ⟨_, he⟩ := bi_some (c := Nat.beq s sz && onesAll el && Nat.ble (llen el) most) he
      subst he; cases hb
end
end Go.Zev

/-
  Drawn regions: the table by its effects; what effects hang on.
-/
set_option linter.unusedSimpArgs false
set_option linter.unusedVariables false
namespace Go.Zev
open Go

section
variable {P : Program} {α : Type} (no : α)
theorem table_eff {op : Op} (hk : kindOf op < 4) (call : Call' α) (ρ : Operand → AV) (h : Heap) (id : Nat) (k : AV → Heap → α) :
    table P op no call ρ h id k = on no (effV P op ρ h.get id) fun e => k e.v (appE e id h) := by
  have quiet : ∀ {op : Op}, (∀ g : Option Eff → α, ∀ (k : AV → Option Eff), g none = no → table P op no call ρ h id (fun v _ => g (k v)) = g (table P op none call0 ρ Heap.empty 0 fun v _ => k v)) →
      (∀ k : AV → Heap → α, table P op no call ρ h id k = table P op no call ρ h id fun v _ => k v h) → table P op no call ρ h id k = on no (quietV P op ρ) fun e => k e.v (appE e id h) := by
    intro op h1 h2
    rw [h2]
    exact h1 (fun o => on no o fun e => k e.v (appE e id h)) (fun v => some ⟨v, none, none⟩) rfl
  cases op with
  | move x => rfl
  | assign x => rfl
  | pick c a b =>
    refine quiet (fun g k hg => ?_) (fun k => rfl)
    subst hg
    show evPick c a b (g none) call ρ h id (fun v _ => g (k v)) = g (evPick c a b none call0 ρ Heap.empty 0 fun v _ => k v)
    unfold evPick; split <;> rfl
  | alloc t =>
    show on no (zeroOf P t) _ = on no (on none (zeroOf P t) _) _
    cases zeroOf P t <;> rfl
  | box t x =>
    show bi (isUn (ρ x)) no _ = on no (bi (isUn (ρ x)) none _) _
    cases isUn (ρ x) <;> rfl
  | build t ps => exact quiet (fun g k hg => by subst hg; exact buildA_hom g none P _ _ _ k) (fun k => rfl)
  | buildSlice t n ps =>
    show on no (slOf P t) _ = on no (on none (slOf P t) _) _
    cases slOf P t with
    | none => rfl
    | some q =>
      show bi (Nat.ble (n * q.2.1) (2 ^ 24)) _ no = on no (bi (Nat.ble (n * q.2.1) (2 ^ 24)) _ none) _
      cases Nat.ble (n * q.2.1) (2 ^ 24)
      · rfl
      · exact fillE_hom (fun o => on no o fun e => k e.v (appE e id h)) none q.2.1 n ρ (fun el => some ⟨.sl id q.2.1 0 n n true, none, some (.cells q.2.1 el)⟩) ps.toList _
  | store t x y => exact store_eff no h t (ρ x) (ρ y) id k
  | load t x => exact load_eff no h t (ρ x) id k
  | nilCheck x =>
    refine quiet (fun g k hg => ?_) (fun k => ?_)
    · subst hg
      show evNilCheck x (g none) call ρ h id (fun v _ => g (k v)) = g (evNilCheck x none call0 ρ Heap.empty 0 fun v _ => k v)
      unfold evNilCheck; split <;> rfl
    · rfl
  | binOp op t x y t' => exact quiet (fun g k hg => by subst hg; exact binA_hom g none P _ _ _ _ k) (fun k => rfl)
  | unOp op t x => exact quiet (fun g k hg => by subst hg; exact unA_hom g none _ _ k) (fun k => rfl)
  | convert s d x => exact quiet (fun g k hg => by subst hg; exact convA_hom g none P _ _ _ k) (fun k => rfl)
  | makeInterface t x => exact quiet (fun g k hg => by subst hg; exact bi_hom g _ _ _) (fun k => rfl)
  | makeFunc f a c => rfl
  | makeSlice t l c =>
    show on no (slOf P t) _ = on no (on none (slOf P t) _) _
    cases slOf P t with
    | none => rfl
    | some q =>
      show on no (natOf (ρ l)) _ = on no (on none (natOf (ρ l)) _) _
      cases natOf (ρ l) with
      | none => rfl
      | some n =>
        show on no (natOf (ρ c)) _ = on no (on none (natOf (ρ c)) _) _
        cases natOf (ρ c) with
        | none => rfl
        | some m =>
          show bi (Nat.ble n m && Nat.ble m most && Nat.ble (bytesOf P q.1) (2 ^ 20)) _ no = on no (bi (Nat.ble n m && Nat.ble m most && Nat.ble (bytesOf P q.1) (2 ^ 20)) _ none) _
          cases (Nat.ble n m && Nat.ble m most && Nat.ble (bytesOf P q.1) (2 ^ 20)) <;> rfl
  | slice t x lo hi mx => exact quiet (fun g k hg => by subst hg; exact sliceA_hom g none P _ _ _ _ _ _ k) (fun k => rfl)
  | fieldAddr t x j => exact quiet (fun g k hg => by subst hg; exact fieldAddrA_hom g none P _ _ _ k) (fun k => rfl)
  | field t x j => exact quiet (fun g k hg => by subst hg; exact fieldA_hom g none P _ _ _ k) (fun k => rfl)
  | indexAddr t x i => exact quiet (fun g k hg => by subst hg; exact indexAddrA_hom g none P _ _ _ k) (fun k => rfl)
  | index t x i => exact quiet (fun g k hg => by subst hg; exact indexA_hom g none P _ _ _ k) (fun k => rfl)
  | typeAssert x s t ok => exact quiet (fun g k hg => by subst hg; exact assertA_hom g none P _ _ _ k) (fun k => rfl)
  | extract x i => exact quiet (fun g k hg => by subst hg; exact extractN_hom g none _ _ k) (fun k => rfl)
  | call c =>
    show evCall P c no call ρ h id k = on no (match c.callee with | .builtin .append => callV P h.get id ρ c.args.toList c.argTypes.toList | _ => quietV P (.call c) ρ) _
    have hkk : kindOf (.call c) = (match c.callee with
      | .value _ => 4
      | .builtin .append => match c.args.toList with | [.tmp _, .tmp _] => 3 | _ => 5
      | .builtin .len | .builtin .min | .builtin .max => 0
      | _ => 5) := rfl
    rw [hkk] at hk
    have hq : quietV P (.call c) ρ = evCall P c none call0 ρ Heap.empty 0 fun v _ => some ⟨v, none, none⟩ := rfl
    rw [hq]
    unfold evCall
    cases hc : c.callee with
    | value f => rw [hc] at hk; exact absurd (show (4 : Nat) < 4 from hk) (by decide)
    | invoke r n => rw [hc] at hk; exact absurd (show (5 : Nat) < 4 from hk) (by decide)
    | builtin b =>
      rw [hc] at hk
      cases b <;> first | (exact absurd (show (5 : Nat) < 4 from hk) (by decide)) | skip
      · show evAppend P c.args.toList c.argTypes.toList no call ρ h id k = on no (callV P h.get id ρ c.args.toList c.argTypes.toList) _
        unfold evAppend callV
        generalize c.args.toList = as
        generalize c.argTypes.toList = ts
        rcases as with _ | ⟨x, _ | ⟨y, _ | ⟨z, r⟩⟩⟩ <;> first | rfl | skip
        rcases ts with _ | ⟨t, _ | ⟨u, _ | ⟨v, r⟩⟩⟩ <;> first | rfl | skip
        exact append_eff no h id t u (ρ x) (ρ y) k
      · show evLen P c.args.toList c.argTypes.toList no call ρ h id k = on no (evLen P c.args.toList c.argTypes.toList none call0 ρ Heap.empty 0 fun v _ => some ⟨v, none, none⟩) _
        unfold evLen
        split
        · split
          · exact lenN_hom (fun o => on no o fun e => k e.v (appE e id h)) none _ _ _ fun v => some ⟨v, none, none⟩
          · rfl
        · rfl
      · show evMinMax true c.args.toList no call ρ h id k = on no (evMinMax true c.args.toList none call0 ρ Heap.empty 0 fun v _ => some ⟨v, none, none⟩) _
        unfold evMinMax
        split
        · exact minmax_hom (fun o => on no o fun e => k e.v (appE e id h)) none _ _ _ fun v => some ⟨v, none, none⟩
        · rfl
      · show evMinMax false c.args.toList no call ρ h id k = on no (evMinMax false c.args.toList none call0 ρ Heap.empty 0 fun v _ => some ⟨v, none, none⟩) _
        unfold evMinMax
        split
        · exact minmax_hom (fun o => on no o fun e => k e.v (appE e id h)) none _ _ _ fun v => some ⟨v, none, none⟩
        · rfl
  | _ => exact absurd (show (5 : Nat) < 4 from hk) (by decide)
end

section
variable {P : Program} {ρ ρ' : Operand → AV} {g g' : Nat → Blk} {id : Nat} {e : Eff}
theorem append_slots {c : Call} (hk : kindOf (.call c) = 3) : c.callee = .builtin .append ∧ ∃ a b, c.args.toList = [.tmp a, .tmp b] ∧ readSlots (.call c) = [a, b] := by
  have hkk : kindOf (.call c) = (match c.callee with
      | .value _ => 4
      | .builtin .append => match c.args.toList with | [.tmp _, .tmp _] => 3 | _ => 5
      | .builtin .len | .builtin .min | .builtin .max => 0
      | _ => 5) := rfl
  have hk0 := hk
  rw [hkk] at hk
  cases hc : c.callee with
  | value f => rw [hc] at hk; exact absurd (show (4 : Nat) = 3 from hk) (by decide)
  | invoke r n => rw [hc] at hk; exact absurd (show (5 : Nat) = 3 from hk) (by decide)
  | builtin b =>
    rw [hc] at hk
    cases b <;> first | (exact absurd (show (5 : Nat) = 3 from hk) (by decide)) | (exact absurd (show (0 : Nat) = 3 from hk) (by decide)) | skip
    refine ⟨rfl, ?_⟩
    have hk1 : (match c.args.toList with | [.tmp _, .tmp _] => 3 | _ => 5) = 3 := hk
    split at hk1
    · rename_i a b hab
      refine ⟨a, b, hab, ?_⟩
      show (match c.args.toList with | [.tmp a, .tmp b] => bi (Nat.beq (kindOf (.call c)) 3) [a, b] [] | _ => []) = [a, b]
      rw [hab]
      dsimp only
      rw [hk0]
      rfl
    · exact absurd hk1 (by decide)
/-- An effect is monotone in what is seen of the blocks at the slots' places. -/
theorem effV_mono {op : Op} (hk : kindOf op < 4) (hg : ∀ k ∈ readSlots op, ∀ b, (ρ (.tmp k)).blk = some b → g b ≠ .none → g' b = g b) (he : effV P op ρ g id = some e) : effV P op ρ g' id = some e := by
  cases op <;> first | exact he | skip
  · -- load
    rename_i t x
    cases x with
    | tmp k =>
      have hm := hg k (by simp [readSlots])
      have he : loadV P g t (ρ (.tmp k)) = some e := he
      show loadV P g' t (ρ (.tmp k)) = some e
      unfold loadV at he ⊢
      obtain ⟨h1, he⟩ := bi_none he
      rw [h1, bi_true]
      cases ha : isAggT P t
      · rw [ha, bi_false] at he
        rw [bi_false]
        cases hr : rdV g (ρ (.tmp k)) 1 with
        | none => rw [hr] at he; cases he
        | some l => rw [rdV_mono hm hr]; rw [hr] at he; exact he
      · rw [ha, bi_true] at he
        rw [bi_true]
        obtain ⟨h2, he⟩ := bi_none he
        rw [h2, bi_true]
        cases hr : rdV g (ρ (.tmp k)) (szOf P t) with
        | none => rw [hr] at he; cases he
        | some l => rw [rdV_mono hm hr]; rw [hr] at he; exact he
    | const v => exact absurd (show (5 : Nat) < 4 from hk) (by decide)
    | global v => exact absurd (show (5 : Nat) < 4 from hk) (by decide)
    | func v => exact absurd (show (5 : Nat) < 4 from hk) (by decide)
  · -- store
    rename_i t x y
    cases x with
    | tmp k => exact storeV_mono (hg k (by simp [readSlots])) he
    | const v => exact absurd (show (5 : Nat) < 4 from hk) (by decide)
    | global v => exact absurd (show (5 : Nat) < 4 from hk) (by decide)
    | func v => exact absurd (show (5 : Nat) < 4 from hk) (by decide)
  · rename_i c
    by_cases h3 : kindOf (.call c) = 3
    · obtain ⟨hc, a, b, hab, hs⟩ := append_slots h3
      rw [hs] at hg
      have heq : ∀ g, effV P (.call c) ρ g id = callV P g id ρ c.args.toList c.argTypes.toList := by
        intro g
        show (match c.callee with | .builtin .append => callV P g id ρ c.args.toList c.argTypes.toList | _ => quietV P (.call c) ρ) = _
        rw [hc]
      rw [heq] at he ⊢
      unfold callV at he ⊢
      rw [hab] at he ⊢
      dsimp only at he ⊢
      split at he
      · rename_i ty uy hty
        unfold appendV at he ⊢
        cases hq : slOf P ty with
        | none => rw [hq] at he; cases he
        | some q =>
          rw [hq] at he
          obtain ⟨h1, he⟩ := bi_none (c := isSlT P uy && Nat.ble (bytesOf P q.1) (2 ^ 20)) he
          show bi (isSlT P uy && Nat.ble (bytesOf P q.1) (2 ^ 20)) (on none (elemsV g' q.2.1 (ρ (.tmp b))) fun src => app2V g' id q.2.1 (ρ (.tmp a)) src) none = some e
          rw [h1, bi_true]
          cases hr : elemsV g q.2.1 (ρ (.tmp b)) with
          | none => rw [hr] at he; cases he
          | some src =>
            rw [elemsV_mono (hg b (by simp)) hr]
            rw [hr] at he
            have he : app2V g id q.2.1 (ρ (.tmp a)) src = some e := he
            show app2V g' id q.2.1 (ρ (.tmp a)) src = some e
            unfold app2V at he ⊢
            cases src with
            | nil => exact he
            | cons s ss =>
              dsimp only at he ⊢
              obtain ⟨h2, he⟩ := bi_none he
              rw [h2, bi_true]
              exact appEV_mono (hg a (by simp)) he
      · cases he
    · have heq : ∀ g, effV P (.call c) ρ g id = quietV P (.call c) ρ := by
        intro g
        show (match c.callee with | .builtin .append => callV P g id ρ c.args.toList c.argTypes.toList | _ => quietV P (.call c) ρ) = _
        have hkk : kindOf (.call c) = (match c.callee with
          | .value _ => 4
          | .builtin .append => match c.args.toList with | [.tmp _, .tmp _] => 3 | _ => 5
          | .builtin .len | .builtin .min | .builtin .max => 0
          | _ => 5) := rfl
        rw [hkk] at hk h3
        cases hc : c.callee with
        | value f => rfl
        | invoke r n => rfl
        | builtin b =>
          cases b <;> first | rfl | skip
          rw [hc] at hk h3
          exfalso
          have hk1 : (match c.args.toList with | [.tmp _, .tmp _] => 3 | _ => 5) < 4 := hk
          have h31 : ¬ (match c.args.toList with | [.tmp _, .tmp _] => 3 | _ => 5) = 3 := h3
          split at hk1
          · rename_i hab; rw [hab] at h31; exact h31 rfl
          · exact absurd hk1 (by decide)
      rw [heq] at he ⊢
      exact he
/-- What an effect may be. -/
theorem quietV_none {op : Op} {e : Eff} (he : quietV P op ρ = some e) : e.kill = none ∧ e.nw = none := by
  have hh := table_hom (Option.map fun v : AV => (⟨v, none, none⟩ : Eff)) none P (call := call0) (call' := fun _ _ _ _ => none) (fun _ _ _ _ => rfl) op ρ Heap.empty 0 (fun v _ => some v)
  have hh2 : quietV P op ρ = Option.map (fun v : AV => (⟨v, none, none⟩ : Eff)) (table P op none (fun _ _ _ _ => none) ρ Heap.empty 0 (fun v _ => some v)) := hh
  rw [hh2] at he
  cases ht : table P op none (fun _ _ _ _ => none) ρ Heap.empty 0 (fun v _ => some v) with
  | none => rw [ht] at he; cases he
  | some v => rw [ht] at he; injection he with he; subst he; exact ⟨rfl, rfl⟩
structure EffOK (op : Op) (ρ : Operand → AV) (g : Nat → Blk) (e : Eff) : Prop where
  kill : ∀ b c, e.kill = some (b, c) → ((kindOf op = 3 ∧ c = .none) ∨ (kindOf op = 2 ∧ writes op = true)) ∧ (∃ k ∈ readSlots op, (ρ (.tmp k)).blk = some b) ∧ g b ≠ .none
  nw : e.nw ≠ none → kindOf op = 1 ∨ kindOf op = 3
theorem effV_ok {op : Op} (hk : kindOf op < 4) (he : effV P op ρ g id = some e) : EffOK op ρ g e := by
  have quiet : e.kill = none ∧ e.nw = none → EffOK op ρ g e := fun h => ⟨fun b c hb => (by rw [h.1] at hb; cases hb), fun hn => absurd h.2 hn⟩
  have make : kindOf op = 1 → e.kill = none → EffOK op ρ g e := fun h1 h => ⟨fun b c hb => (by rw [h] at hb; cases hb), fun hn => .inl h1⟩
  cases op with
  | alloc t =>
    refine make rfl ?_
    have he : on none (zeroOf P t) _ = some e := he
    cases hz : zeroOf P t with
    | none => rw [hz] at he; cases he
    | some z => rw [hz] at he; injection he with he; subst he; rfl
  | box t x =>
    refine make rfl ?_
    have he : bi (isUn (ρ x)) none _ = some e := he
    cases hz : isUn (ρ x) with
    | true => rw [hz] at he; cases he
    | false => rw [hz] at he; injection he with he; subst he; rfl
  | buildSlice t n ps =>
    refine make rfl ?_
    have he : on none (slOf P t) _ = some e := he
    cases hz : slOf P t with
    | none => rw [hz] at he; cases he
    | some q =>
      rw [hz] at he
      obtain ⟨_, he⟩ := bi_none (c := Nat.ble (n * q.2.1) (2 ^ 24)) he
      have hh := fillE_hom (Option.map fun el : List (List AV) => (⟨.sl id q.2.1 0 n n true, none, some (.cells q.2.1 el)⟩ : Eff)) none q.2.1 n ρ some ps.toList (lrep q.2.2 n)
      have he2 : Option.map (fun el : List (List AV) => (⟨.sl id q.2.1 0 n n true, none, some (.cells q.2.1 el)⟩ : Eff)) (fillE none q.2.1 n ρ some ps.toList (lrep q.2.2 n)) = some e := hh.symm.trans he
      cases ht : fillE none q.2.1 n ρ some ps.toList (lrep q.2.2 n) with
      | none => rw [ht] at he2; cases he2
      | some el => rw [ht] at he2; injection he2 with he2; subst he2; rfl
  | makeSlice t l c =>
    refine make rfl ?_
    have he : on none (slOf P t) _ = some e := he
    cases hz : slOf P t with
    | none => rw [hz] at he; cases he
    | some q =>
      rw [hz] at he
      have he : on none (natOf (ρ l)) _ = some e := he
      cases hn : natOf (ρ l) with
      | none => rw [hn] at he; cases he
      | some n =>
        rw [hn] at he
        have he : on none (natOf (ρ c)) _ = some e := he
        cases hm : natOf (ρ c) with
        | none => rw [hm] at he; cases he
        | some m =>
          rw [hm] at he
          obtain ⟨_, he⟩ := bi_some (c := Nat.ble n m && Nat.ble m most && Nat.ble (bytesOf P q.1) (2 ^ 20)) he
          subst he; rfl
  | store t x y =>
    cases x with
    | tmp k =>
      obtain ⟨h1, h2⟩ := storeV_kill (show storeV P g t (ρ (.tmp k)) (ρ y) = some e from he)
      exact ⟨fun b c hb => ⟨.inr ⟨rfl, rfl⟩, ⟨k, by simp [readSlots], (h2 b c hb).1⟩, (h2 b c hb).2⟩, fun hn => absurd h1 hn⟩
    | const v => exact absurd (show (5 : Nat) < 4 from hk) (by decide)
    | global v => exact absurd (show (5 : Nat) < 4 from hk) (by decide)
    | func v => exact absurd (show (5 : Nat) < 4 from hk) (by decide)
  | load t x =>
    refine quiet ?_
    have he : loadV P g t (ρ x) = some e := he
    unfold loadV at he
    obtain ⟨h1, he⟩ := bi_none he
    cases ha : isAggT P t
    · rw [ha, bi_false] at he
      cases hr : rdV g (ρ x) 1 with
      | none => rw [hr] at he; cases he
      | some l =>
        rw [hr] at he
        have he : on none (lnth l 0) _ = some e := he
        cases hl : lnth l 0 with
        | none => rw [hl] at he; cases he
        | some v => rw [hl] at he; injection he with he; subst he; exact ⟨rfl, rfl⟩
    · rw [ha, bi_true] at he
      obtain ⟨h2, he⟩ := bi_none he
      cases hr : rdV g (ρ x) (szOf P t) with
      | none => rw [hr] at he; cases he
      | some l => rw [hr] at he; injection he with he; subst he; exact ⟨rfl, rfl⟩
  | call c =>
    have he : (match c.callee with | .builtin .append => callV P g id ρ c.args.toList c.argTypes.toList | _ => quietV P (.call c) ρ) = some e := he
    by_cases h3 : kindOf (.call c) = 3
    · obtain ⟨hc, a, b, hab, hs⟩ := append_slots h3
      rw [hc] at he
      have he : callV P g id ρ c.args.toList c.argTypes.toList = some e := he
      refine ⟨fun q c' hq => ?_, fun _ => .inr h3⟩
      unfold callV at he
      rw [hab] at he
      dsimp only at he
      split at he
      · rename_i ty uy hty
        unfold appendV at he
        cases hz : slOf P ty with
        | none => rw [hz] at he; cases he
        | some z =>
          rw [hz] at he
          obtain ⟨h1, he⟩ := bi_none (c := isSlT P uy && Nat.ble (bytesOf P z.1) (2 ^ 20)) he
          cases hr : elemsV g z.2.1 (ρ (.tmp b)) with
          | none => rw [hr] at he; cases he
          | some src =>
            rw [hr] at he
            have he : app2V g id z.2.1 (ρ (.tmp a)) src = some e := he
            unfold app2V at he
            cases src with
            | nil =>
              obtain ⟨_, he⟩ := bi_some (c := isSl (ρ (.tmp a))) he
              subst he; cases hq
            | cons s ss =>
              obtain ⟨_, he⟩ := bi_none (c := onesAll (s :: ss) && Nat.ble (llen (s :: ss)) most) he
              obtain ⟨h5, h6, h7⟩ := appEV_kill he q c' hq
              exact ⟨.inl ⟨h3, h7⟩, ⟨a, by rw [hs]; simp, h5⟩, h6⟩
      · cases he
    · refine quiet ?_
      have hkk : kindOf (.call c) = (match c.callee with
        | .value _ => 4
        | .builtin .append => match c.args.toList with | [.tmp _, .tmp _] => 3 | _ => 5
        | .builtin .len | .builtin .min | .builtin .max => 0
        | _ => 5) := rfl
      rw [hkk] at hk h3
      cases hc : c.callee with
      | value f => rw [hc] at he; exact quietV_none he
      | invoke r n => rw [hc] at he; exact quietV_none he
      | builtin b =>
        rw [hc] at he hk h3
        cases b <;> first | exact quietV_none he | skip
        exfalso
        have hk1 : (match c.args.toList with | [.tmp _, .tmp _] => 3 | _ => 5) < 4 := hk
        have h31 : ¬ (match c.args.toList with | [.tmp _, .tmp _] => 3 | _ => 5) = 3 := h3
        split at hk1
        · rename_i hab; rw [hab] at h31; exact h31 rfl
        · exact absurd hk1 (by decide)
  | _ => exact quiet (quietV_none he)
end
end Go.Zev

/-
  Drawn regions: an operation looks at its operands alone.
-/
set_option linter.unusedSimpArgs false
set_option linter.unusedVariables false
namespace Go.Zev
open Go

section
variable {P : Program} {α : Type} (no : α) {ρ ρ' : Operand → AV}
theorem lmap_congr : ∀ {l : List Operand}, (∀ x ∈ l, ρ x = ρ' x) → lmap ρ l = lmap ρ' l
  | [], _ => rfl
  | x :: l, h => by
    show ρ x :: lmap ρ l = ρ' x :: lmap ρ' l
    rw [h x (List.mem_cons_self ..), lmap_congr fun y hy => h y (List.mem_cons_of_mem _ hy)]
theorem fillA_congr (fs : List Field) (k : List AV → α) : ∀ {ps : List (Nat × Operand)}, (∀ p ∈ ps, ρ p.2 = ρ' p.2) → fillA P no fs ρ k ps = fillA P no fs ρ' k ps
  | [], _ => rfl
  | p :: ps, h => by
    have ih := fillA_congr fs k (ps := ps) fun q hq => h q (List.mem_cons_of_mem _ hq)
    funext cells
    show on no (fieldsAt P fs p.1) (fun q => on no (ucells (ρ p.2)) fun cs => on no (lay cells q.1 q.2 cs) (fillA P no fs ρ k ps)) = on no (fieldsAt P fs p.1) (fun q => on no (ucells (ρ' p.2)) fun cs => on no (lay cells q.1 q.2 cs) (fillA P no fs ρ' k ps))
    rw [ih, h p (List.mem_cons_self ..)]
theorem fillE_congr (sz len : Nat) (k : List (List AV) → α) : ∀ {ps : List (Nat × Operand)}, (∀ p ∈ ps, ρ p.2 = ρ' p.2) → fillE no sz len ρ k ps = fillE no sz len ρ' k ps
  | [], _ => rfl
  | p :: ps, h => by
    have ih := fillE_congr sz len k (ps := ps) fun q hq => h q (List.mem_cons_of_mem _ hq)
    funext el
    show on no (ucells (ρ p.2)) (fun cs => bi (lhas cs sz && Nat.blt p.1 len) (fillE no sz len ρ k ps (lset el cs p.1)) no) = on no (ucells (ρ' p.2)) (fun cs => bi (lhas cs sz && Nat.blt p.1 len) (fillE no sz len ρ' k ps (lset el cs p.1)) no)
    rw [ih, h p (List.mem_cons_self ..)]
theorem bndO_congr {y d : Nat} {q : Option Operand} {k : Nat → α} (h : ∀ x, q = some x → ρ x = ρ' x) : bndO no ρ y d q k = bndO no ρ' y d q k := by
  cases q with
  | none => rfl
  | some x => show bnd no (ρ x) y k = bnd no (ρ' x) y k; rw [h x rfl]
theorem bnds_congr {len : Nat} {lo hi : Option Operand} {k : Nat → Nat → α} (h1 : ∀ x, lo = some x → ρ x = ρ' x) (h2 : ∀ x, hi = some x → ρ x = ρ' x) : bnds no ρ len lo hi k = bnds no ρ' len lo hi k := by
  unfold bnds
  rw [bndO_congr no h2]
  congr 1
  funext h
  exact bndO_congr no h1
theorem slice_congr {ty : TypeId} {x : AV} {lo hi mx : Option Operand} {k : AV → α} (h1 : ∀ x, lo = some x → ρ x = ρ' x) (h2 : ∀ x, hi = some x → ρ x = ρ' x) (h3 : ∀ x, mx = some x → ρ x = ρ' x) :
    sliceA P no ty ρ x lo hi mx k = sliceA P no ty ρ' x lo hi mx k := by
  unfold sliceA
  cases mx with
  | none =>
    show slice2 P no ty ρ x lo hi k = slice2 P no ty ρ' x lo hi k
    unfold slice2
    cases x <;> simp only [bnds_congr no h1 h2]
  | some m =>
    cases lo with
    | some l => rfl
    | none =>
      cases hi with
      | none => rfl
      | some q =>
        show slice3 P no ty ρ x q m k = slice3 P no ty ρ' x q m k
        unfold slice3
        rw [h3 m rfl, h2 q rfl]
theorem table_congr {op : Op} (hρ : ∀ x ∈ op.operands.toList, ρ x = ρ' x) (call : Call' α) (h : Heap) (id : Nat) (k : AV → Heap → α) : table P op no call ρ h id k = table P op no call ρ' h id k := by
  cases op with
  | move x => show k (ρ x) h = k (ρ' x) h; rw [hρ x (by simp [Op.operands])]
  | assign x => show k (ρ x) h = k (ρ' x) h; rw [hρ x (by simp [Op.operands])]
  | pick c a b =>
    show evPick c a b no call ρ h id k = evPick c a b no call ρ' h id k
    unfold evPick
    rw [hρ c (by simp [Op.operands]), hρ a (by simp [Op.operands]), hρ b (by simp [Op.operands])]
  | alloc t => rfl
  | box t x => show boxN no (ρ x) h id k = boxN no (ρ' x) h id k; rw [hρ x (by simp [Op.operands])]
  | build t ps =>
    show buildA P no t ρ ps.toList (fun v => k v h) = buildA P no t ρ' ps.toList (fun v => k v h)
    unfold buildA
    congr 1
    funext q
    rw [fillA_congr no q.1 _ (fun p hp => hρ p.2 (by simp only [Op.operands]; exact List.mem_map.2 ⟨p, hp, rfl⟩))]
  | buildSlice t n ps =>
    show buildSliceA P no h id t n ρ ps.toList k = buildSliceA P no h id t n ρ' ps.toList k
    unfold buildSliceA
    congr 1
    funext q
    rw [fillE_congr no q.2.1 n _ (fun p hp => hρ p.2 (by simp only [Op.operands]; exact List.mem_map.2 ⟨p, hp, rfl⟩))]
  | load t x => show loadA P no h t (ρ x) _ = loadA P no h t (ρ' x) _; rw [hρ x (by simp [Op.operands])]
  | store t x y => show storeA P no h t (ρ x) (ρ y) _ = storeA P no h t (ρ' x) (ρ' y) _; rw [hρ x (by simp [Op.operands]), hρ y (by simp [Op.operands])]
  | nilCheck x => show evNilCheck x no call ρ h id k = evNilCheck x no call ρ' h id k; unfold evNilCheck; rw [hρ x (by simp [Op.operands])]
  | binOp op t x y t' => show binA P no op t (ρ x) (ρ y) _ = binA P no op t (ρ' x) (ρ' y) _; rw [hρ x (by simp [Op.operands]), hρ y (by simp [Op.operands])]
  | unOp op t x => show unA no op (ρ x) (fun v => k v h) = unA no op (ρ' x) (fun v => k v h); rw [hρ x (by simp [Op.operands])]
  | convert s d x => show convA P no s d (ρ x) (fun v => k v h) = convA P no s d (ρ' x) (fun v => k v h); rw [hρ x (by simp [Op.operands])]
  | makeInterface t x => show bi (isConc P t) (k (.ifc t (ρ x)) h) no = bi (isConc P t) (k (.ifc t (ρ' x)) h) no; rw [hρ x (by simp [Op.operands])]
  | makeFunc f a c =>
    show k (.fn f (lmap ρ a.toList) (lmap ρ c.toList)) h = k (.fn f (lmap ρ' a.toList) (lmap ρ' c.toList)) h
    rw [lmap_congr fun x hx => hρ x (by simp only [Op.operands, Array.toList_append]; exact List.mem_append_left _ hx), lmap_congr fun x hx => hρ x (by simp only [Op.operands, Array.toList_append]; exact List.mem_append_right _ hx)]
  | makeSlice t l c => show makeSliceA P no h id t (ρ l) (ρ c) k = makeSliceA P no h id t (ρ' l) (ρ' c) k; rw [hρ l (by simp [Op.operands]), hρ c (by simp [Op.operands])]
  | slice t x lo hi mx =>
    show sliceA P no t ρ (ρ x) lo hi mx _ = sliceA P no t ρ' (ρ' x) lo hi mx _
    rw [hρ x (by simp [Op.operands])]
    refine slice_congr no (fun y hy => hρ y ?_) (fun y hy => hρ y ?_) (fun y hy => hρ y ?_) <;> (subst hy; simp [Op.operands])
  | fieldAddr t x j => show fieldAddrA P no t (ρ x) j _ = fieldAddrA P no t (ρ' x) j _; rw [hρ x (by simp [Op.operands])]
  | field t x j => show fieldA P no t (ρ x) j _ = fieldA P no t (ρ' x) j _; rw [hρ x (by simp [Op.operands])]
  | indexAddr t x i => show indexAddrA P no t (ρ x) (ρ i) _ = indexAddrA P no t (ρ' x) (ρ' i) _; rw [hρ x (by simp [Op.operands]), hρ i (by simp [Op.operands])]
  | index t x i => show indexA P no t (ρ x) (ρ i) _ = indexA P no t (ρ' x) (ρ' i) _; rw [hρ x (by simp [Op.operands]), hρ i (by simp [Op.operands])]
  | typeAssert x s t ok => show assertA P no (ρ x) t ok _ = assertA P no (ρ' x) t ok _; rw [hρ x (by simp [Op.operands])]
  | extract x i => show extractN no (ρ x) i _ = extractN no (ρ' x) i _; rw [hρ x (by simp [Op.operands])]
  | makeMap t r => rfl
  | insert t m key x =>
    show on no (mapOfT P t) (fun q => insertN no h q.1 (ρ m) (ρ key) (ρ x) (k .un)) = on no (mapOfT P t) (fun q => insertN no h q.1 (ρ' m) (ρ' key) (ρ' x) (k .un))
    rw [hρ m (by simp [Op.operands]), hρ key (by simp [Op.operands]), hρ x (by simp [Op.operands])]
  | lookup t m key ok =>
    show on no (mapOfT P t) (fun q => lookupN no h q.1 (zeroOf P q.2) (ρ m) (ρ key) ok fun v => k v h) = on no (mapOfT P t) (fun q => lookupN no h q.1 (zeroOf P q.2) (ρ' m) (ρ' key) ok fun v => k v h)
    rw [hρ m (by simp [Op.operands]), hρ key (by simp [Op.operands])]
  | range t x =>
    show bi (isStr P t) (match ρ x with | .s len val => k (.it id) (h.new id (.iter len val 0)) | _ => no) no = bi (isStr P t) (match ρ' x with | .s len val => k (.it id) (h.new id (.iter len val 0)) | _ => no) no
    rw [hρ x (by simp [Op.operands])]
  | next x s =>
    show bi s (nextN no h (ρ x) k) no = bi s (nextN no h (ρ' x) k) no
    rw [hρ x (by simp [Op.operands])]
  | call c =>
    have ha : ∀ x ∈ c.args.toList, ρ x = ρ' x := fun x hx => hρ x (by simp only [Op.operands, Call.operands, Array.toList_append]; exact List.mem_append_right _ hx)
    show evCall P c no call ρ h id k = evCall P c no call ρ' h id k
    unfold evCall
    cases hc : c.callee with
    | value f =>
      show callFn no (ρ f) (lmap ρ c.args.toList) call h k = callFn no (ρ' f) (lmap ρ' c.args.toList) call h k
      rw [lmap_congr ha, hρ f (by simp only [Op.operands, Call.operands, hc, Array.toList_append]; simp)]
    | invoke r n => rfl
    | builtin b =>
      generalize hl : c.args.toList = l at ha
      cases b <;> first | rfl | skip
      · show evAppend P l _ no call ρ h id k = evAppend P l _ no call ρ' h id k
        unfold evAppend
        split
        · rename_i x y
          rw [ha x (by simp), ha y (by simp)]
        · rfl
      · show evLen P l _ no call ρ h id k = evLen P l _ no call ρ' h id k
        unfold evLen
        split
        · rename_i x
          rw [ha x (by simp)]
        · rfl
      · show evMinMax true l no call ρ h id k = evMinMax true l no call ρ' h id k
        unfold evMinMax
        split
        · rename_i x y
          rw [ha x (by simp), ha y (by simp)]
        · rfl
      · show evMinMax false l no call ρ h id k = evMinMax false l no call ρ' h id k
        unfold evMinMax
        split
        · rename_i x y
          rw [ha x (by simp), ha y (by simp)]
        · rfl
  | _ => rfl
theorem effV_congr {op : Op} {g : Nat → Blk} {id : Nat} (hρ : ∀ x ∈ op.operands.toList, ρ x = ρ' x) : effV P op ρ g id = effV P op ρ' g id := by
  have quiet : quietV P op ρ = quietV P op ρ' := table_congr none hρ _ _ _ _
  cases op with
  | box t x =>
    show bi (isUn (ρ x)) none (some (⟨_, _, some (.cells (llen (ρ x).cells) [(ρ x).cells])⟩ : Eff)) = bi (isUn (ρ' x)) none (some ⟨_, _, some (.cells (llen (ρ' x).cells) [(ρ' x).cells])⟩)
    rw [hρ x (by simp [Op.operands])]
  | buildSlice t n ps =>
    show on none (slOf P t) _ = on none (slOf P t) _
    congr 1
    funext q
    rw [fillE_congr none q.2.1 n _ (fun p hp => hρ p.2 (by simp only [Op.operands]; exact List.mem_map.2 ⟨p, hp, rfl⟩))]
  | makeSlice t l c =>
    show on none (slOf P t) (fun q => on none (natOf (ρ l)) fun n => on none (natOf (ρ c)) fun m => _) = on none (slOf P t) (fun q => on none (natOf (ρ' l)) fun n => on none (natOf (ρ' c)) fun m => _)
    rw [hρ l (by simp [Op.operands]), hρ c (by simp [Op.operands])]
  | load t x => show loadV P g t (ρ x) = loadV P g t (ρ' x); rw [hρ x (by simp [Op.operands])]
  | store t x y => show storeV P g t (ρ x) (ρ y) = storeV P g t (ρ' x) (ρ' y); rw [hρ x (by simp [Op.operands]), hρ y (by simp [Op.operands])]
  | call c =>
    have ha : ∀ x ∈ c.args.toList, ρ x = ρ' x := fun x hx => hρ x (by simp only [Op.operands, Call.operands, Array.toList_append]; exact List.mem_append_right _ hx)
    show (match c.callee with | .builtin .append => callV P g id ρ c.args.toList c.argTypes.toList | _ => quietV P (.call c) ρ) = (match c.callee with | .builtin .append => callV P g id ρ' c.args.toList c.argTypes.toList | _ => quietV P (.call c) ρ')
    rw [quiet]
    split
    · unfold callV
      generalize c.args.toList = l at ha
      split
      · rename_i x y
        rw [ha x (by simp), ha y (by simp)]
      · rfl
    · rfl
  | _ => first | exact quiet | rfl
end
end Go.Zev
